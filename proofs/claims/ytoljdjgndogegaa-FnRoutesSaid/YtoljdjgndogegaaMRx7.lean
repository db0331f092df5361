-- Written by a program of this session (wip/drv.py, wip/tight2.py). -- tight2
import Derived.Test.YtoljdjgndogegaaMRx0
import Derived.Test.YtoljdjgndogegaaMRx6
namespace Go.Proofs.Ytoljdjgndogegaa.MR
open Go.RowKit Go.Proofs.YtoljdjgndogegaaW.PrintWords Go.Proofs.YtoljdjgndogegaaW.PrintLast
set_option maxHeartbeats 8000000
set_option maxRecDepth 100000
attribute [local go_sem] max2_int min2_int max_two min_two   -- for this text's walks alone
set_option linter.unusedVariables false
set_option linter.unusedSimpArgs false

/-! ### spec_l15Leg: function 70 -/
mutual
def spec_l15Leg.l0 : Nat → List (S58) → List Int → Int → Int → Int → Int → Option (Int)
 | 0, _, _, _, _, _, _ => none
 | k + 1, x0, x1, x2, x3, x9, x10 => if x10 < (x0.length : Int) then (if 0 ≤ x10 then (if ((rd_T58 x0 x10).f0) = x2 then (if ((rd_T58 x0 x10).f1) = x3 then (spec_l15Leg.j1 k x0 x1 x2 x3 x9 x10 false) else (if ((rd_T58 x0 x10).f0) = x3 then (spec_l15Leg.j1 k x0 x1 x2 x3 x9 x10 (((rd_T58 x0 x10).f1) != x2)) else (spec_l15Leg.j1 k x0 x1 x2 x3 x9 x10 true))) else (if ((rd_T58 x0 x10).f0) = x3 then (spec_l15Leg.j1 k x0 x1 x2 x3 x9 x10 (((rd_T58 x0 x10).f1) != x2)) else (spec_l15Leg.j1 k x0 x1 x2 x3 x9 x10 true))) else (none)) else (some x9)
def spec_l15Leg.j1 : Nat → List (S58) → List Int → Int → Int → Int → Int → Bool → Option (Int)
 | 0, _, _, _, _, _, _, _ => none
 | k + 1, x0, x1, x2, x3, x9, x10, x50 => if x50 = true then (spec_l15Leg.l0 k x0 x1 x2 x3 x9 (wrap64 (x10 + 1))) else (if x9 < 0 then (spec_l15Leg.l0 k x0 x1 x2 x3 x10 (wrap64 (x10 + 1))) else (if 0 ≤ x10 then (if x10 < (x1.length : Int) then (if 0 ≤ x9 then (if x9 < (x1.length : Int) then (if (rd x1 x10) > (rd x1 x9) then (spec_l15Leg.l0 k x0 x1 x2 x3 x10 (wrap64 (x10 + 1))) else (if (rd x1 x10) = (rd x1 x9) then (if x10 < (x0.length : Int) then (if x9 < (x0.length : Int) then (if ((rd_T58 x0 x10).f2) < ((rd_T58 x0 x9).f2) then (spec_l15Leg.l0 k x0 x1 x2 x3 x10 (wrap64 (x10 + 1))) else (spec_l15Leg.l0 k x0 x1 x2 x3 x9 (wrap64 (x10 + 1)))) else (none)) else (none)) else (spec_l15Leg.l0 k x0 x1 x2 x3 x9 (wrap64 (x10 + 1))))) else (none)) else (none)) else (none)) else (none)))
end
def spec_l15Leg.f (k : Nat) (l0 : List (S58)) (l1 : List Int) (a2 : Int) (a3 : Int) : Option (Int) := spec_l15Leg.l0 k l0 l1 a2 a3 (-1) 0
theorem spec_l15Leg.mono_l : ∀ k, (∀ y0 y1 y2 y3 y4 y5, LeO (spec_l15Leg.l0 k y0 y1 y2 y3 y4 y5) (spec_l15Leg.l0 (k + 1) y0 y1 y2 y3 y4 y5)) ∧ (∀ y0 y1 y2 y3 y4 y5 y6, LeO (spec_l15Leg.j1 k y0 y1 y2 y3 y4 y5 y6) (spec_l15Leg.j1 (k + 1) y0 y1 y2 y3 y4 y5 y6))
 | 0 => ⟨fun _ _ _ _ _ _ r h => by simp [spec_l15Leg.l0] at h, fun _ _ _ _ _ _ _ r h => by simp [spec_l15Leg.j1] at h⟩
 | k + 1 => by
  obtain ⟨ih0, ih1⟩ := spec_l15Leg.mono_l k
  refine ⟨?_, ?_⟩
  ·intro y0 y1 y2 y3 y4 y5
   unfold spec_l15Leg.l0
   exact qmono
  ·intro y0 y1 y2 y3 y4 y5 y6
   unfold spec_l15Leg.j1
   exact qmono
theorem spec_l15Leg.mono : ∀ a0 a1 a2 a3 k, LeO (spec_l15Leg.f k a0 a1 a2 a3) (spec_l15Leg.f (k + 1) a0 a1 a2 a3) := by
 intro a0 a1 a2 a3 k; obtain ⟨ih0, ih1⟩ := spec_l15Leg.mono_l k
 unfold spec_l15Leg.f
 exact qmono
theorem spec_l15Leg.calls (k : Nat) (A0 : Option Addr) (c0 : Nat) (l0 : List (S58)) (A1 : Option Addr) (c1 : Nat) (l1 : List Int) (a2 : Int) (a3 : Int) (r : Int) (w : World) (hr0 : Kd.C k58 w A0 l0.length l0) (hc0 : l0.length ≤ c0) (hr1 : Kd.C (Kd.int .i64) w A1 l1.length l1) (hc1 : l1.length ≤ c1) (h : spec_l15Leg.f k l0 l1 a2 a3 = some r) :
  Calls Try.prog 70 #[.slice A0 l0.length c0, .slice A1 l1.length c1, .int .i64 a2, .int .i64 a3] w fun e w' => e = .returned (.int .i64 r) ∧ Drawn0 w w' := by
 have HR0 := Aside0.mk hr0; have HC0 := Aside0.mk hc0; clear hr0 hc0; have HR1 := Aside0.mk hr1; have HC1 := Aside0.mk hc1; clear hr1 hc1; have H : (spec_l15Leg.l0 k l0 l1 a2 a3 (-1) 0) = some r := h; clear h; have H' := Aside0.mk H; clear H
 go_enter Try.func70, Try.ntmps70
 go_wp2
 repeat (go_quiet (fail); try go_wp2)
 go_loopg [9, 10] k (fun kq v9 v10 w' => ∃ (x9_1 : Int) (x10_1 : Int), v9 = .int .i64 x9_1 ∧ v10 = .int .i64 x10_1 ∧ Aside0 (spec_l15Leg.l0 kq l0 l1 a2 a3 x9_1 x10_1 = some r) ∧ Aside0 (kq ≤ k) ∧ Drawn0 w w')
 case atStart => exact ⟨((-1)), (0), (qR12), (qR12), H', ⟨Nat.le_refl _⟩, (qR26)⟩
 case round =>
  clear H'; (try clear c1); (try clear p2); obtain ⟨x9_1, x10_1, rfl, rfl, HA, HK1, ⟨m1, rfl⟩⟩ := hrel
  cases gk with
  | zero => exact absurd HA.out (by simp [spec_l15Leg.l0])
  | succ k1 =>
   have H := HA.out; clear HA; simp only [spec_l15Leg.l0] at H
   by_cases c5 : x10_1 < (l0.length : Int)
   ·rw [if_pos c5] at H; have c5b0 : decide (x10_1 < (l0.length : Int)) = true := decide_eq_true c5; clear c5; have HC6 := Aside0.mk H; clear H
    go_upto_region 5 with (fail)
    repeat (go_quiet (fail); go_upto_region 5 with (fail))
    go_cut [50] (fun v50 wc => ∃ (kq : Nat) (x50_5 : Bool), v50 = .bool x50_5 ∧ Aside0 (spec_l15Leg.j1 kq l0 l1 a2 a3 x9_1 x10_1 x50_5 = some r) ∧ Aside0 (kq ≤ k1) ∧ Drawn0 w wc)
    case first =>
     have H := HC6.out; clear HC6
     by_cases c7 : 0 ≤ x10_1
     ·rw [if_pos c7] at H; have c7b0 : decide (0 ≤ x10_1) = true := decide_eq_true c7; clear c7
      (first | rw [c7b0] | (simp only [i64_w, i32_w]; rw [c7b0]) | skip)
      by_cases c8 : ((rd_T58 l0 x10_1).f0) = a2
      ·rw [if_pos c8] at H; have c8b0 : (((rd_T58 l0 x10_1).f0) == a2) = true := beq_iff_eq.mpr c8; have c8b1 : (((rd_T58 l0 x10_1).f0) != a2) = false := bne_eq_false_iff_eq.mpr c8; clear c8
       by_cases c9 : ((rd_T58 l0 x10_1).f1) = a3
       ·rw [if_pos c9] at H; have c9b0 : (((rd_T58 l0 x10_1).f1) == a3) = true := beq_iff_eq.mpr c9; have c9b1 : (((rd_T58 l0 x10_1).f1) != a3) = false := bne_eq_false_iff_eq.mpr c9; clear c9; have H' := Aside0.mk H; clear H; have p450 : 0 ≤ (x10_1 : Int) := of_decide_eq_true (qR8); have q450 : x10_1 < (l0.length : Int) := of_decide_eq_true (qR8); obtain ⟨ad450, e450, hx450_0, hx450_1, hx450_2, hx450_3, hx450_4⟩ := at_T58 HR0.out x10_1 p450 q450; cases e450; replace p450 := eq_true p450; replace q450 := eq_true q450; have p451 : 0 ≤ (x10_1 : Int) := of_decide_eq_true (qR8); have q451 : x10_1 < (l0.length : Int) := of_decide_eq_true (qR8); obtain ⟨ad451, e451, hx451_0, hx451_1, hx451_2, hx451_3, hx451_4⟩ := at_T58 HR0.out x10_1 p451 q451; obtain rfl : ad450 = ad451 := (by injection e451); replace p451 := eq_true p451; replace q451 := eq_true q451
        go_wp2
        repeat (go_quiet (fail); try go_wp2)
        go_meet
        case rel => exact ⟨_, (false), (qR12), H', ⟨by have := HK1.out; first | omega | exact Nat.le_refl _⟩, (qR26)⟩
       ·rw [if_neg c9] at H; have c9b0 : (((rd_T58 l0 x10_1).f1) == a3) = false := beq_eq_false_iff_ne.mpr c9; have c9b1 : (((rd_T58 l0 x10_1).f1) != a3) = true := bne_iff_ne.mpr c9
        by_cases c10 : ((rd_T58 l0 x10_1).f0) = a3
        ·rw [if_pos c10] at H; have c10b0 : (((rd_T58 l0 x10_1).f0) == a3) = true := beq_iff_eq.mpr c10; have c10b1 : (((rd_T58 l0 x10_1).f0) != a3) = false := bne_eq_false_iff_eq.mpr c10; clear c10; have H' := Aside0.mk H; clear H; have p450 : 0 ≤ (x10_1 : Int) := of_decide_eq_true (qR8); have q450 : x10_1 < (l0.length : Int) := of_decide_eq_true (qR8); obtain ⟨ad450, e450, hx450_0, hx450_1, hx450_2, hx450_3, hx450_4⟩ := at_T58 HR0.out x10_1 p450 q450; cases e450; replace p450 := eq_true p450; replace q450 := eq_true q450; have p451 : 0 ≤ (x10_1 : Int) := of_decide_eq_true (qR8); have q451 : x10_1 < (l0.length : Int) := of_decide_eq_true (qR8); obtain ⟨ad451, e451, hx451_0, hx451_1, hx451_2, hx451_3, hx451_4⟩ := at_T58 HR0.out x10_1 p451 q451; obtain rfl : ad450 = ad451 := (by injection e451); replace p451 := eq_true p451; replace q451 := eq_true q451; have p452 : 0 ≤ (x10_1 : Int) := of_decide_eq_true (qR8); have q452 : x10_1 < (l0.length : Int) := of_decide_eq_true (qR8); obtain ⟨ad452, e452, hx452_0, hx452_1, hx452_2, hx452_3, hx452_4⟩ := at_T58 HR0.out x10_1 p452 q452; obtain rfl : ad450 = ad452 := (by injection e452); replace p452 := eq_true p452; replace q452 := eq_true q452; have p453 : 0 ≤ (x10_1 : Int) := of_decide_eq_true (qR8); have q453 : x10_1 < (l0.length : Int) := of_decide_eq_true (qR8); obtain ⟨ad453, e453, hx453_0, hx453_1, hx453_2, hx453_3, hx453_4⟩ := at_T58 HR0.out x10_1 p453 q453; obtain rfl : ad450 = ad453 := (by injection e453); replace p453 := eq_true p453
         replace q453 := eq_true q453
         go_wp2
         repeat (go_quiet (fail); try go_wp2)
         go_meet
         case rel => exact ⟨_, ((((rd_T58 l0 x10_1).f1) != a2)), (qR12), H', ⟨by have := HK1.out; first | omega | exact Nat.le_refl _⟩, (qR26)⟩
        ·rw [if_neg c10] at H; have c10b0 : (((rd_T58 l0 x10_1).f0) == a3) = false := beq_eq_false_iff_ne.mpr c10; have c10b1 : (((rd_T58 l0 x10_1).f0) != a3) = true := bne_iff_ne.mpr c10; have H' := Aside0.mk H; clear H; have p450 : 0 ≤ (x10_1 : Int) := of_decide_eq_true (qR8); have q450 : x10_1 < (l0.length : Int) := of_decide_eq_true (qR8); obtain ⟨ad450, e450, hx450_0, hx450_1, hx450_2, hx450_3, hx450_4⟩ := at_T58 HR0.out x10_1 p450 q450; cases e450; replace p450 := eq_true p450; replace q450 := eq_true q450; have p451 : 0 ≤ (x10_1 : Int) := of_decide_eq_true (qR8); have q451 : x10_1 < (l0.length : Int) := of_decide_eq_true (qR8); obtain ⟨ad451, e451, hx451_0, hx451_1, hx451_2, hx451_3, hx451_4⟩ := at_T58 HR0.out x10_1 p451 q451; obtain rfl : ad450 = ad451 := (by injection e451); replace p451 := eq_true p451; replace q451 := eq_true q451; have p452 : 0 ≤ (x10_1 : Int) := of_decide_eq_true (qR8); have q452 : x10_1 < (l0.length : Int) := of_decide_eq_true (qR8); obtain ⟨ad452, e452, hx452_0, hx452_1, hx452_2, hx452_3, hx452_4⟩ := at_T58 HR0.out x10_1 p452 q452; obtain rfl : ad450 = ad452 := (by injection e452); replace p452 := eq_true p452; replace q452 := eq_true q452
         go_wp2
         repeat (go_quiet (fail); try go_wp2)
         go_meet
         case rel => exact ⟨_, (true), (qR12), H', ⟨by have := HK1.out; first | omega | exact Nat.le_refl _⟩, (qR26)⟩
      ·rw [if_neg c8] at H; have c8b0 : (((rd_T58 l0 x10_1).f0) == a2) = false := beq_eq_false_iff_ne.mpr c8; have c8b1 : (((rd_T58 l0 x10_1).f0) != a2) = true := bne_iff_ne.mpr c8
       by_cases c11 : ((rd_T58 l0 x10_1).f0) = a3
       ·rw [if_pos c11] at H; have c11b0 : (((rd_T58 l0 x10_1).f0) == a3) = true := beq_iff_eq.mpr c11; have c11b1 : (((rd_T58 l0 x10_1).f0) != a3) = false := bne_eq_false_iff_eq.mpr c11; clear c11; have H' := Aside0.mk H; clear H; have p450 : 0 ≤ (x10_1 : Int) := of_decide_eq_true (qR8); have q450 : x10_1 < (l0.length : Int) := of_decide_eq_true (qR8); obtain ⟨ad450, e450, hx450_0, hx450_1, hx450_2, hx450_3, hx450_4⟩ := at_T58 HR0.out x10_1 p450 q450; cases e450; replace p450 := eq_true p450; replace q450 := eq_true q450; have p454 : 0 ≤ (x10_1 : Int) := of_decide_eq_true (qR8); have q454 : x10_1 < (l0.length : Int) := of_decide_eq_true (qR8); obtain ⟨ad454, e454, hx454_0, hx454_1, hx454_2, hx454_3, hx454_4⟩ := at_T58 HR0.out x10_1 p454 q454; obtain rfl : ad450 = ad454 := (by injection e454); replace p454 := eq_true p454; replace q454 := eq_true q454; have p455 : 0 ≤ (x10_1 : Int) := of_decide_eq_true (qR8); have q455 : x10_1 < (l0.length : Int) := of_decide_eq_true (qR8); obtain ⟨ad455, e455, hx455_0, hx455_1, hx455_2, hx455_3, hx455_4⟩ := at_T58 HR0.out x10_1 p455 q455; obtain rfl : ad450 = ad455 := (by injection e455); replace p455 := eq_true p455; replace q455 := eq_true q455
        go_wp2
        repeat (go_quiet (fail); try go_wp2)
        go_meet
        case rel => exact ⟨_, ((((rd_T58 l0 x10_1).f1) != a2)), (qR12), H', ⟨by have := HK1.out; first | omega | exact Nat.le_refl _⟩, (qR26)⟩
       ·rw [if_neg c11] at H; have c11b0 : (((rd_T58 l0 x10_1).f0) == a3) = false := beq_eq_false_iff_ne.mpr c11; have c11b1 : (((rd_T58 l0 x10_1).f0) != a3) = true := bne_iff_ne.mpr c11; have H' := Aside0.mk H; clear H; have p450 : 0 ≤ (x10_1 : Int) := of_decide_eq_true (qR8); have q450 : x10_1 < (l0.length : Int) := of_decide_eq_true (qR8); obtain ⟨ad450, e450, hx450_0, hx450_1, hx450_2, hx450_3, hx450_4⟩ := at_T58 HR0.out x10_1 p450 q450; cases e450; replace p450 := eq_true p450; replace q450 := eq_true q450; have p454 : 0 ≤ (x10_1 : Int) := of_decide_eq_true (qR8); have q454 : x10_1 < (l0.length : Int) := of_decide_eq_true (qR8); obtain ⟨ad454, e454, hx454_0, hx454_1, hx454_2, hx454_3, hx454_4⟩ := at_T58 HR0.out x10_1 p454 q454; obtain rfl : ad450 = ad454 := (by injection e454); replace p454 := eq_true p454; replace q454 := eq_true q454
        go_wp2
        repeat (go_quiet (fail); try go_wp2)
        go_meet
        case rel => exact ⟨_, (true), (qR12), H', ⟨by have := HK1.out; first | omega | exact Nat.le_refl _⟩, (qR26)⟩
     ·rw [if_neg c7] at H
      exact absurd H (by simp)
    case rest =>
     clear HC6; (try clear c1); (try clear p2); (try clear p4); (try clear q4); (try clear hx4); (try clear c5); (try clear c5b0); (try clear c7); (try clear c7b0); (try clear c8); (try clear c8b0); (try clear c8b1); (try clear c9); (try clear c9b0); (try clear c9b1); (try clear c10); (try clear c10b0); (try clear c10b1); (try clear c11); (try clear c11b0); (try clear c11b1); (try clear hx450_0); (try clear hx450_1); (try clear hx450_2); (try clear hx450_3); (try clear hx450_4); (try clear hx451_0); (try clear hx451_1); (try clear hx451_2); (try clear hx451_3); (try clear hx451_4); (try clear hx452_0); (try clear hx452_1); (try clear hx452_2); (try clear hx452_3); (try clear hx452_4); (try clear hx453_0); (try clear hx453_1); (try clear hx453_2); (try clear hx453_3); (try clear hx453_4); (try clear hx454_0); (try clear hx454_1); (try clear hx454_2); (try clear hx454_3); (try clear hx454_4); (try clear hx455_0); (try clear hx455_1); (try clear hx455_2); (try clear hx455_3); (try clear hx455_4); (try clear p2); (try clear p450); (try clear p451); (try clear p452); (try clear p453); (try clear p454); (try clear p455); (try clear q450); (try clear q451); (try clear q452); (try clear q453); (try clear q454); (try clear q455); obtain ⟨kq, x50_5, rfl, HA, HJ5, ⟨mc5, rfl⟩⟩ := hcut
     cases kq with
     | zero => exact absurd HA.out (by simp [spec_l15Leg.j1])
     | succ kj5 =>
      have H := HA.out; clear HA; simp only [spec_l15Leg.j1] at H
      by_cases c12 : x50_5 = true
      ·subst c12; rw [if_pos rfl] at H; have H' := Aside0.mk H; clear H
       go_wp2
       repeat (go_quiet (fail); try go_wp2)
       go_roundg kj5
       case measure => have := HK1.out; have := HJ5.out; omega
       case rel => exact ⟨(x9_1), (wrap64 (x10_1 + 1)), (qR12), (qR12), H', ⟨by have := HK1.out; have := HJ5.out; omega⟩, (qR26)⟩
      ·replace c12 := Bool.eq_false_iff.mpr c12; subst c12; rw [if_neg (show ¬ (false = true) by decide)] at H
       by_cases c13 : x9_1 < 0
       ·rw [if_pos c13] at H; have c13b0 : decide (x9_1 < 0) = true := decide_eq_true c13; clear c13; have H' := Aside0.mk H; clear H
        go_wp2
        repeat (go_quiet (fail); try go_wp2)
        go_roundg kj5
        case measure => have := HK1.out; have := HJ5.out; omega
        case rel => exact ⟨(x10_1), (wrap64 (x10_1 + 1)), (qR12), (qR12), H', ⟨by have := HK1.out; have := HJ5.out; omega⟩, (qR26)⟩
       ·rw [if_neg c13] at H; have c13b0 : decide (x9_1 < 0) = false := decide_eq_false c13; clear c13
        by_cases c14 : 0 ≤ x10_1
        ·rw [if_pos c14] at H; have c14b0 : decide (0 ≤ x10_1) = true := decide_eq_true c14; clear c14
         by_cases c15 : x10_1 < (l1.length : Int)
         ·rw [if_pos c15] at H; have c15b0 : decide (x10_1 < (l1.length : Int)) = true := decide_eq_true c15; clear c15
          by_cases c16 : 0 ≤ x9_1
          ·rw [if_pos c16] at H; have c16b0 : decide (0 ≤ x9_1) = true := decide_eq_true c16; clear c16
           by_cases c17 : x9_1 < (l1.length : Int)
           ·rw [if_pos c17] at H; have c17b0 : decide (x9_1 < (l1.length : Int)) = true := decide_eq_true c17; clear c17
            by_cases c18 : (rd l1 x10_1) > (rd l1 x9_1)
            ·rw [if_pos c18] at H; have c18b0 : decide ((rd l1 x9_1) < (rd l1 x10_1)) = true := decide_eq_true c18; clear c18; have H' := Aside0.mk H; clear H; have p456 : 0 ≤ (x10_1 : Int) := of_decide_eq_true (qR8); have q456 : x10_1 < (l1.length : Int) := of_decide_eq_true (qR8); obtain ⟨ad456, e456, hx456_0⟩ := Kd.at_int HR1.out x10_1 p456 q456; cases e456; replace p456 := eq_true p456; replace q456 := eq_true q456; have p457 : 0 ≤ (x9_1 : Int) := of_decide_eq_true (qR8); have q457 : x9_1 < (l1.length : Int) := of_decide_eq_true (qR8); obtain ⟨ad457, e457, hx457_0⟩ := Kd.at_int HR1.out x9_1 p457 q457; obtain rfl : ad456 = ad457 := (by injection e457); replace p457 := eq_true p457; replace q457 := eq_true q457
             go_wp2
             repeat (go_quiet (fail); try go_wp2)
             go_roundg kj5
             case measure => have := HK1.out; have := HJ5.out; omega
             case rel => exact ⟨(x10_1), (wrap64 (x10_1 + 1)), (qR12), (qR12), H', ⟨by have := HK1.out; have := HJ5.out; omega⟩, (qR26)⟩
            ·rw [if_neg c18] at H; have c18b0 : decide ((rd l1 x9_1) < (rd l1 x10_1)) = false := decide_eq_false c18; clear c18
             by_cases c19 : (rd l1 x10_1) = (rd l1 x9_1)
             ·rw [if_pos c19] at H; have c19b0 : ((rd l1 x10_1) == (rd l1 x9_1)) = true := beq_iff_eq.mpr c19; have c19b1 : ((rd l1 x10_1) != (rd l1 x9_1)) = false := bne_eq_false_iff_eq.mpr c19; clear c19
              by_cases c20 : x10_1 < (l0.length : Int)
              ·rw [if_pos c20] at H; have c20b0 : decide (x10_1 < (l0.length : Int)) = true := decide_eq_true c20; clear c20
               by_cases c21 : x9_1 < (l0.length : Int)
               ·rw [if_pos c21] at H; have c21b0 : decide (x9_1 < (l0.length : Int)) = true := decide_eq_true c21; clear c21
                by_cases c22 : ((rd_T58 l0 x10_1).f2) < ((rd_T58 l0 x9_1).f2)
                ·rw [if_pos c22] at H; have c22b0 : decide (((rd_T58 l0 x10_1).f2) < ((rd_T58 l0 x9_1).f2)) = true := decide_eq_true c22; clear c22; have H' := Aside0.mk H; clear H; have p456 : 0 ≤ (x10_1 : Int) := of_decide_eq_true (qR8); have q456 : x10_1 < (l1.length : Int) := of_decide_eq_true (qR8); obtain ⟨ad456, e456, hx456_0⟩ := Kd.at_int HR1.out x10_1 p456 q456; cases e456; replace p456 := eq_true p456; replace q456 := eq_true q456; have p457 : 0 ≤ (x9_1 : Int) := of_decide_eq_true (qR8); have q457 : x9_1 < (l1.length : Int) := of_decide_eq_true (qR8); obtain ⟨ad457, e457, hx457_0⟩ := Kd.at_int HR1.out x9_1 p457 q457; obtain rfl : ad456 = ad457 := (by injection e457); replace p457 := eq_true p457; replace q457 := eq_true q457; have p458 : 0 ≤ (x10_1 : Int) := of_decide_eq_true (qR8); have q458 : x10_1 < (l1.length : Int) := of_decide_eq_true (qR8); obtain ⟨ad458, e458, hx458_0⟩ := Kd.at_int HR1.out x10_1 p458 q458; obtain rfl : ad456 = ad458 := (by injection e458); replace p458 := eq_true p458; replace q458 := eq_true q458; have p459 : 0 ≤ (x9_1 : Int) := of_decide_eq_true (qR8); have q459 : x9_1 < (l1.length : Int) := of_decide_eq_true (qR8); obtain ⟨ad459, e459, hx459_0⟩ := Kd.at_int HR1.out x9_1 p459 q459; obtain rfl : ad456 = ad459 := (by injection e459); replace p459 := eq_true p459; replace q459 := eq_true q459; have p460 : 0 ≤ (x10_1 : Int) := of_decide_eq_true (qR8); have q460 : x10_1 < (l0.length : Int) := of_decide_eq_true (qR8); obtain ⟨ad460, e460, hx460_0, hx460_1, hx460_2, hx460_3, hx460_4⟩ := at_T58 HR0.out x10_1 p460 q460
                 cases e460; replace p460 := eq_true p460; replace q460 := eq_true q460; have p461 : 0 ≤ (x9_1 : Int) := of_decide_eq_true (qR8); have q461 : x9_1 < (l0.length : Int) := of_decide_eq_true (qR8); obtain ⟨ad461, e461, hx461_0, hx461_1, hx461_2, hx461_3, hx461_4⟩ := at_T58 HR0.out x9_1 p461 q461; obtain rfl : ad460 = ad461 := (by injection e461); replace p461 := eq_true p461; replace q461 := eq_true q461
                 go_wp2
                 repeat (go_quiet (fail); try go_wp2)
                 go_roundg kj5
                 case measure => have := HK1.out; have := HJ5.out; omega
                 case rel => exact ⟨(x10_1), (wrap64 (x10_1 + 1)), (qR12), (qR12), H', ⟨by have := HK1.out; have := HJ5.out; omega⟩, (qR26)⟩
                ·rw [if_neg c22] at H; have c22b0 : decide (((rd_T58 l0 x10_1).f2) < ((rd_T58 l0 x9_1).f2)) = false := decide_eq_false c22; clear c22; have H' := Aside0.mk H; clear H; have p456 : 0 ≤ (x10_1 : Int) := of_decide_eq_true (qR8); have q456 : x10_1 < (l1.length : Int) := of_decide_eq_true (qR8); obtain ⟨ad456, e456, hx456_0⟩ := Kd.at_int HR1.out x10_1 p456 q456; cases e456; replace p456 := eq_true p456; replace q456 := eq_true q456; have p457 : 0 ≤ (x9_1 : Int) := of_decide_eq_true (qR8); have q457 : x9_1 < (l1.length : Int) := of_decide_eq_true (qR8); obtain ⟨ad457, e457, hx457_0⟩ := Kd.at_int HR1.out x9_1 p457 q457; obtain rfl : ad456 = ad457 := (by injection e457); replace p457 := eq_true p457; replace q457 := eq_true q457; have p458 : 0 ≤ (x10_1 : Int) := of_decide_eq_true (qR8); have q458 : x10_1 < (l1.length : Int) := of_decide_eq_true (qR8); obtain ⟨ad458, e458, hx458_0⟩ := Kd.at_int HR1.out x10_1 p458 q458; obtain rfl : ad456 = ad458 := (by injection e458); replace p458 := eq_true p458; replace q458 := eq_true q458; have p459 : 0 ≤ (x9_1 : Int) := of_decide_eq_true (qR8); have q459 : x9_1 < (l1.length : Int) := of_decide_eq_true (qR8); obtain ⟨ad459, e459, hx459_0⟩ := Kd.at_int HR1.out x9_1 p459 q459; obtain rfl : ad456 = ad459 := (by injection e459); replace p459 := eq_true p459; replace q459 := eq_true q459; have p460 : 0 ≤ (x10_1 : Int) := of_decide_eq_true (qR8); have q460 : x10_1 < (l0.length : Int) := of_decide_eq_true (qR8); obtain ⟨ad460, e460, hx460_0, hx460_1, hx460_2, hx460_3, hx460_4⟩ := at_T58 HR0.out x10_1 p460 q460
                 cases e460; replace p460 := eq_true p460; replace q460 := eq_true q460; have p461 : 0 ≤ (x9_1 : Int) := of_decide_eq_true (qR8); have q461 : x9_1 < (l0.length : Int) := of_decide_eq_true (qR8); obtain ⟨ad461, e461, hx461_0, hx461_1, hx461_2, hx461_3, hx461_4⟩ := at_T58 HR0.out x9_1 p461 q461; obtain rfl : ad460 = ad461 := (by injection e461); replace p461 := eq_true p461; replace q461 := eq_true q461
                 go_wp2
                 repeat (go_quiet (fail); try go_wp2)
                 go_roundg kj5
                 case measure => have := HK1.out; have := HJ5.out; omega
                 case rel => exact ⟨(x9_1), (wrap64 (x10_1 + 1)), (qR12), (qR12), H', ⟨by have := HK1.out; have := HJ5.out; omega⟩, (qR26)⟩
               ·rw [if_neg c21] at H
                exact absurd H (by simp)
              ·rw [if_neg c20] at H
               exact absurd H (by simp)
             ·rw [if_neg c19] at H; have c19b0 : ((rd l1 x10_1) == (rd l1 x9_1)) = false := beq_eq_false_iff_ne.mpr c19; have c19b1 : ((rd l1 x10_1) != (rd l1 x9_1)) = true := bne_iff_ne.mpr c19; have H' := Aside0.mk H; clear H; have p456 : 0 ≤ (x10_1 : Int) := of_decide_eq_true (qR8); have q456 : x10_1 < (l1.length : Int) := of_decide_eq_true (qR8); obtain ⟨ad456, e456, hx456_0⟩ := Kd.at_int HR1.out x10_1 p456 q456; cases e456; replace p456 := eq_true p456; replace q456 := eq_true q456; have p457 : 0 ≤ (x9_1 : Int) := of_decide_eq_true (qR8); have q457 : x9_1 < (l1.length : Int) := of_decide_eq_true (qR8); obtain ⟨ad457, e457, hx457_0⟩ := Kd.at_int HR1.out x9_1 p457 q457; obtain rfl : ad456 = ad457 := (by injection e457); replace p457 := eq_true p457; replace q457 := eq_true q457; have p458 : 0 ≤ (x10_1 : Int) := of_decide_eq_true (qR8); have q458 : x10_1 < (l1.length : Int) := of_decide_eq_true (qR8); obtain ⟨ad458, e458, hx458_0⟩ := Kd.at_int HR1.out x10_1 p458 q458; obtain rfl : ad456 = ad458 := (by injection e458); replace p458 := eq_true p458; replace q458 := eq_true q458; have p459 : 0 ≤ (x9_1 : Int) := of_decide_eq_true (qR8); have q459 : x9_1 < (l1.length : Int) := of_decide_eq_true (qR8); obtain ⟨ad459, e459, hx459_0⟩ := Kd.at_int HR1.out x9_1 p459 q459; obtain rfl : ad456 = ad459 := (by injection e459); replace p459 := eq_true p459; replace q459 := eq_true q459
              go_wp2
              repeat (go_quiet (fail); try go_wp2)
              go_roundg kj5
              case measure => have := HK1.out; have := HJ5.out; omega
              case rel => exact ⟨(x9_1), (wrap64 (x10_1 + 1)), (qR12), (qR12), H', ⟨by have := HK1.out; have := HJ5.out; omega⟩, (qR26)⟩
           ·rw [if_neg c17] at H
            exact absurd H (by simp)
          ·rw [if_neg c16] at H
           exact absurd H (by simp)
         ·rw [if_neg c15] at H
          exact absurd H (by simp)
        ·rw [if_neg c14] at H
         exact absurd H (by simp)
   ·rw [if_neg c5] at H; have c5b0 : decide (x10_1 < (l0.length : Int)) = false := decide_eq_false c5; clear c5; obtain rfl := Option.some.inj H
    go_wp2
    repeat (go_quiet (fail); try go_wp2)
    go_ret
    exact ⟨(qR12), (qR26)⟩

/-! ### spec_l1Least: function 77 -/
def spec_l1Least.f (a0 : Int) (a1 : Int) : Option (Int) := if a0 < a1 then (some a0) else (some a1)
theorem spec_l1Least.calls (a0 : Int) (a1 : Int) (r : Int) (w : World) (h : spec_l1Least.f a0 a1 = some r) :
  Calls Try.prog 77 #[.int .i64 a0, .int .i64 a1] w fun e w' => e = .returned (.int .i64 r) ∧ Drawn0 w w' := by
 have H : (if a0 < a1 then (some a0) else (some a1)) = some r := h; clear h
 by_cases c3 : a0 < a1
 ·rw [if_pos c3] at H; have c3b0 : decide (a0 < a1) = true := decide_eq_true c3; clear c3; obtain rfl := Option.some.inj H
  go_enter Try.func77, Try.ntmps77
  go_wp2
  go_ret
  exact ⟨(qR12), (qR26)⟩
 ·rw [if_neg c3] at H; have c3b0 : decide (a0 < a1) = false := decide_eq_false c3; clear c3; obtain rfl := Option.some.inj H
  go_enter Try.func77, Try.ntmps77
  go_wp2
  go_ret
  exact ⟨(qR12), (qR26)⟩

/-! ### spec_l15Size: function 52 -/
def spec_l15Size.l0 : Nat → List (S58) → List Int → List Int → Int → Int → Int → Option (Int × Int)
 | 0, _, _, _, _, _, _ => none
 | k + 1, x0, x1, x2, x8, x9, x10 => if x10 < (x2.length : Int) then (if 0 ≤ (wrap64 (x10 - 1)) then (if (wrap64 (x10 - 1)) < (x2.length : Int) then (if 0 ≤ x10 then ((spec_l15Leg.f k x0 x1 (rd x2 (wrap64 (x10 - 1))) (rd x2 x10)).bind fun t464 => (if 0 ≤ t464 then (if t464 < (x1.length : Int) then ((spec_l1Least.f x8 (rd x1 t464)).bind fun t466 => (if t464 < (x0.length : Int) then (spec_l15Size.l0 k x0 x1 x2 t466 (wrap64 (x9 + ((rd_T58 x0 t464).f2))) (wrap64 (x10 + 1))) else (none))) else (none)) else (none))) else (none)) else (none)) else (none)) else (some (x8, x9))
def spec_l15Size.f (k : Nat) (l0 : List (S58)) (l1 : List Int) (l2 : List Int) : Option (Int × Int) := spec_l15Size.l0 k l0 l1 l2 200 0 1
theorem spec_l15Size.mono_l : ∀ k, (∀ y0 y1 y2 y3 y4 y5, LeO (spec_l15Size.l0 k y0 y1 y2 y3 y4 y5) (spec_l15Size.l0 (k + 1) y0 y1 y2 y3 y4 y5))
 | 0 => fun _ _ _ _ _ _ r h => by simp [spec_l15Size.l0] at h
 | k + 1 => by
  have ih0 := spec_l15Size.mono_l k
  ·intro y0 y1 y2 y3 y4 y5
   unfold spec_l15Size.l0
   have m0 := @spec_l15Leg.mono
   exact qmono
theorem spec_l15Size.mono : ∀ a0 a1 a2 k, LeO (spec_l15Size.f k a0 a1 a2) (spec_l15Size.f (k + 1) a0 a1 a2) := by
 intro a0 a1 a2 k; have ih0 := spec_l15Size.mono_l k
 unfold spec_l15Size.f
 have m0 := @spec_l15Leg.mono
 exact qmono
theorem spec_l15Size.calls (k : Nat) (A0 : Option Addr) (c0 : Nat) (l0 : List (S58)) (A1 : Option Addr) (c1 : Nat) (l1 : List Int) (A2 : Option Addr) (c2 : Nat) (l2 : List Int) (r1 : Int) (r2 : Int) (w : World) (hr0 : Kd.C k58 w A0 l0.length l0) (hc0 : l0.length ≤ c0) (hr1 : Kd.C (Kd.int .i64) w A1 l1.length l1) (hc1 : l1.length ≤ c1) (hr2 : Kd.C (Kd.int .i64) w A2 l2.length l2) (hc2 : l2.length ≤ c2) (h : spec_l15Size.f k l0 l1 l2 = some (r1, r2)) :
  Calls Try.prog 52 #[.slice A0 l0.length c0, .slice A1 l1.length c1, .slice A2 l2.length c2] w fun e w' => e = .returned (.tuple #[.int .i64 r1, .int .i64 r2]) ∧ Drawn0 w w' := by
 have HR0 := Aside0.mk hr0; have HC0 := Aside0.mk hc0; clear hr0 hc0; have HR1 := Aside0.mk hr1; have HC1 := Aside0.mk hc1; clear hr1 hc1; have HR2 := Aside0.mk hr2; have HC2 := Aside0.mk hc2; clear hr2 hc2; have H : (spec_l15Size.l0 k l0 l1 l2 200 0 1) = some (r1, r2) := h; clear h; have H' := Aside0.mk H; clear H
 go_enter Try.func52, Try.ntmps52
 go_wp2
 repeat (go_quiet (fail); try go_wp2)
 go_loopg [8, 9, 10] k (fun kq v8 v9 v10 w' => ∃ (x8_1 : Int) (x9_1 : Int) (x10_1 : Int), v8 = .int .i64 x8_1 ∧ v9 = .int .i64 x9_1 ∧ v10 = .int .i64 x10_1 ∧ Aside0 (spec_l15Size.l0 kq l0 l1 l2 x8_1 x9_1 x10_1 = some (r1, r2)) ∧ Aside0 (kq ≤ k) ∧ Drawn0 w w')
 case atStart => exact ⟨(200), (0), (1), (qR12), (qR12), (qR12), H', ⟨Nat.le_refl _⟩, (qR26)⟩
 case round =>
  clear H'; (try clear c1); (try clear c2); (try clear p2); obtain ⟨x8_1, x9_1, x10_1, rfl, rfl, rfl, HA, HK1, ⟨m1, rfl⟩⟩ := hrel
  cases gk with
  | zero => exact absurd HA.out (by simp [spec_l15Size.l0])
  | succ k1 =>
   have H := HA.out; clear HA; simp only [spec_l15Size.l0] at H
   by_cases c4 : x10_1 < (l2.length : Int)
   ·rw [if_pos c4] at H; have c4b0 : decide (x10_1 < (l2.length : Int)) = true := decide_eq_true c4; clear c4; obtain ⟨ji5, hji5⟩ : ∃ j_ : Int, (wrap64 (x10_1 - 1)) = j_ := ⟨_, rfl⟩
    replace H : (if 0 ≤ (ji5) then (if (ji5) < (l2.length : Int) then (if 0 ≤ x10_1 then ((spec_l15Leg.f k1 l0 l1 (rd l2 (ji5)) (rd l2 x10_1)).bind fun t464 => (if 0 ≤ t464 then (if t464 < (l1.length : Int) then ((spec_l1Least.f x8_1 (rd l1 t464)).bind fun t466 => (if t464 < (l0.length : Int) then (spec_l15Size.l0 k1 l0 l1 l2 t466 (wrap64 (x9_1 + ((rd_T58 l0 t464).f2))) (wrap64 (x10_1 + 1))) else (none))) else (none)) else (none))) else (none)) else (none)) else (none)) = some (r1, r2) := by first | (rw [hji5] at H; exact H) | (simp only [hji5] at H ⊢; exact H)
    have hji5w : (IntKind.i64.wrap (x10_1 - 1)) = ji5 := (i64_w _).trans hji5
    by_cases c6 : 0 ≤ (ji5)
    ·rw [if_pos c6] at H; have c6b0 : decide (0 ≤ (ji5)) = true := decide_eq_true c6; clear c6
     by_cases c7 : (ji5) < (l2.length : Int)
     ·rw [if_pos c7] at H; have c7b0 : decide ((ji5) < (l2.length : Int)) = true := decide_eq_true c7; clear c7
      by_cases c8 : 0 ≤ x10_1
      ·rw [if_pos c8] at H; have c8b0 : decide (0 ≤ x10_1) = true := decide_eq_true c8; clear c8; replace H := bindA H; obtain ⟨t464, A9, H⟩ := H; (try dsimp only at H)
       by_cases c10 : 0 ≤ t464
       ·rw [if_pos c10] at H; have c10b0 : decide (0 ≤ t464) = true := decide_eq_true c10; clear c10
        by_cases c11 : t464 < (l1.length : Int)
        ·rw [if_pos c11] at H; have c11b0 : decide (t464 < (l1.length : Int)) = true := decide_eq_true c11; clear c11; replace H := bindA H; obtain ⟨t466, A12, H⟩ := H; (try dsimp only at H)
         by_cases c13 : t464 < (l0.length : Int)
         ·rw [if_pos c13] at H; have c13b0 : decide (t464 < (l0.length : Int)) = true := decide_eq_true c13; clear c13; have H' := Aside0.mk H; clear H; have p462 : 0 ≤ ((ji5) : Int) := of_decide_eq_true (qR8); have q462 : (ji5) < (l2.length : Int) := of_decide_eq_true (qR8); obtain ⟨ad462, e462, hx462_0⟩ := Kd.at_int HR2.out (ji5) p462 q462; cases e462; replace p462 := eq_true p462; replace q462 := eq_true q462; have p463 : 0 ≤ (x10_1 : Int) := of_decide_eq_true (qR8); have q463 : x10_1 < (l2.length : Int) := of_decide_eq_true (qR8); obtain ⟨ad463, e463, hx463_0⟩ := Kd.at_int HR2.out x10_1 p463 q463; obtain rfl : ad462 = ad463 := (by injection e463); replace p463 := eq_true p463; replace q463 := eq_true q463
          go_wp2_with (first | (go_at_call 70; (with_reducible refine (spec_l15Leg.calls k1 _ _ l0 _ _ l1 (rd l2 (ji5)) (rd l2 x10_1) t464 _ ?s1 ?s2 ?s3 ?s4 A9.out).mono ?_); (case s1 => exact (qR11 HR0.out)); (case s2 => exact HC0.out); (case s3 => exact (qR11 HR1.out)); (case s4 => exact HC1.out); rintro e w' ⟨rfl, ⟨nd, rfl⟩⟩; (try first | exact ⟨rfl, _, World.drewN_drewN _ _ _⟩ | exact ⟨rfl, _, Eq.trans (World.drewN_drewN _ _ _) (congrArg (World.drewN _) (Nat.add_assoc _ _ _))⟩); have p465 : 0 ≤ (t464 : Int) := of_decide_eq_true (qR8); have q465 : t464 < (l1.length : Int) := of_decide_eq_true (qR8); obtain ⟨ad465, e465, hx465_0⟩ := Kd.at_int HR1.out t464 p465 q465; cases e465; replace p465 := eq_true p465; replace q465 := eq_true q465) | (go_at_call 77; (with_reducible refine (spec_l1Least.calls x8_1 (rd l1 t464) t466 _ A12.out).mono ?_); rintro e w' ⟨rfl, ⟨nd, rfl⟩⟩; (try first | exact ⟨rfl, _, World.drewN_drewN _ _ _⟩ | exact ⟨rfl, _, Eq.trans (World.drewN_drewN _ _ _) (congrArg (World.drewN _) (Nat.add_assoc _ _ _))⟩); have p467 : 0 ≤ (t464 : Int) := of_decide_eq_true (qR8); have q467 : t464 < (l0.length : Int) := of_decide_eq_true (qR8); obtain ⟨ad467, e467, hx467_0, hx467_1, hx467_2, hx467_3, hx467_4⟩ := at_T58 HR0.out t464 p467 q467; cases e467; replace p467 := eq_true p467; replace q467 := eq_true q467))
          repeat (go_quiet (first | (go_at_call 70; (with_reducible refine (spec_l15Leg.calls k1 _ _ l0 _ _ l1 (rd l2 (ji5)) (rd l2 x10_1) t464 _ ?s1 ?s2 ?s3 ?s4 A9.out).mono ?_); (case s1 => exact (qR11 HR0.out)); (case s2 => exact HC0.out); (case s3 => exact (qR11 HR1.out)); (case s4 => exact HC1.out); rintro e w' ⟨rfl, ⟨nd, rfl⟩⟩; (try first | exact ⟨rfl, _, World.drewN_drewN _ _ _⟩ | exact ⟨rfl, _, Eq.trans (World.drewN_drewN _ _ _) (congrArg (World.drewN _) (Nat.add_assoc _ _ _))⟩); have p465 : 0 ≤ (t464 : Int) := of_decide_eq_true (qR8); have q465 : t464 < (l1.length : Int) := of_decide_eq_true (qR8); obtain ⟨ad465, e465, hx465_0⟩ := Kd.at_int HR1.out t464 p465 q465; cases e465; replace p465 := eq_true p465; replace q465 := eq_true q465) | (go_at_call 77; (with_reducible refine (spec_l1Least.calls x8_1 (rd l1 t464) t466 _ A12.out).mono ?_); rintro e w' ⟨rfl, ⟨nd, rfl⟩⟩; (try first | exact ⟨rfl, _, World.drewN_drewN _ _ _⟩ | exact ⟨rfl, _, Eq.trans (World.drewN_drewN _ _ _) (congrArg (World.drewN _) (Nat.add_assoc _ _ _))⟩); have p467 : 0 ≤ (t464 : Int) := of_decide_eq_true (qR8); have q467 : t464 < (l0.length : Int) := of_decide_eq_true (qR8); obtain ⟨ad467, e467, hx467_0, hx467_1, hx467_2, hx467_3, hx467_4⟩ := at_T58 HR0.out t464 p467 q467; cases e467; replace p467 := eq_true p467; replace q467 := eq_true q467)); try go_wp2_with (first | (go_at_call 70; (with_reducible refine (spec_l15Leg.calls k1 _ _ l0 _ _ l1 (rd l2 (ji5)) (rd l2 x10_1) t464 _ ?s1 ?s2 ?s3 ?s4 A9.out).mono ?_); (case s1 => exact (qR11 HR0.out)); (case s2 => exact HC0.out); (case s3 => exact (qR11 HR1.out)); (case s4 => exact HC1.out); rintro e w' ⟨rfl, ⟨nd, rfl⟩⟩; (try first | exact ⟨rfl, _, World.drewN_drewN _ _ _⟩ | exact ⟨rfl, _, Eq.trans (World.drewN_drewN _ _ _) (congrArg (World.drewN _) (Nat.add_assoc _ _ _))⟩); have p465 : 0 ≤ (t464 : Int) := of_decide_eq_true (qR8); have q465 : t464 < (l1.length : Int) := of_decide_eq_true (qR8); obtain ⟨ad465, e465, hx465_0⟩ := Kd.at_int HR1.out t464 p465 q465; cases e465; replace p465 := eq_true p465; replace q465 := eq_true q465) | (go_at_call 77; (with_reducible refine (spec_l1Least.calls x8_1 (rd l1 t464) t466 _ A12.out).mono ?_); rintro e w' ⟨rfl, ⟨nd, rfl⟩⟩; (try first | exact ⟨rfl, _, World.drewN_drewN _ _ _⟩ | exact ⟨rfl, _, Eq.trans (World.drewN_drewN _ _ _) (congrArg (World.drewN _) (Nat.add_assoc _ _ _))⟩); have p467 : 0 ≤ (t464 : Int) := of_decide_eq_true (qR8); have q467 : t464 < (l0.length : Int) := of_decide_eq_true (qR8); obtain ⟨ad467, e467, hx467_0, hx467_1, hx467_2, hx467_3, hx467_4⟩ := at_T58 HR0.out t464 p467 q467; cases e467; replace p467 := eq_true p467; replace q467 := eq_true q467)))
          go_roundg k1
          case measure => have := HK1.out; omega
          case rel => exact ⟨(t466), (wrap64 (x9_1 + ((rd_T58 l0 t464).f2))), (wrap64 (x10_1 + 1)), (qR12), (qR12), (qR12), H', ⟨by have := HK1.out; omega⟩, (qR26)⟩
         ·rw [if_neg c13] at H
          exact absurd H (by simp)
        ·rw [if_neg c11] at H
         exact absurd H (by simp)
       ·rw [if_neg c10] at H
        exact absurd H (by simp)
      ·rw [if_neg c8] at H
       exact absurd H (by simp)
     ·rw [if_neg c7] at H
      exact absurd H (by simp)
    ·rw [if_neg c6] at H
     exact absurd H (by simp)
   ·rw [if_neg c4] at H; have c4b0 : decide (x10_1 < (l2.length : Int)) = false := decide_eq_false c4; clear c4; simp only [Option.some.injEq, Prod.mk.injEq] at H; obtain ⟨rfl, rfl⟩ := H
    go_wp2
    repeat (go_quiet (fail); try go_wp2)
    go_ret2
    exact ⟨(qR12), (qR26)⟩

/-! ### spec_l1Has: function 71 -/
def spec_l1Has.l0 : Nat → List Int → Int → Int → Option (Bool)
 | 0, _, _, _ => none
 | k + 1, x0, x1, x5 => if x5 < (x0.length : Int) then (if 0 ≤ x5 then (if (rd x0 x5) = x1 then (some true) else (spec_l1Has.l0 k x0 x1 (wrap64 (x5 + 1)))) else (none)) else (some false)
def spec_l1Has.f (k : Nat) (l0 : List Int) (a1 : Int) : Option (Bool) := spec_l1Has.l0 k l0 a1 0
theorem spec_l1Has.mono_l : ∀ k, (∀ y0 y1 y2, LeO (spec_l1Has.l0 k y0 y1 y2) (spec_l1Has.l0 (k + 1) y0 y1 y2))
 | 0 => fun _ _ _ r h => by simp [spec_l1Has.l0] at h
 | k + 1 => by
  have ih0 := spec_l1Has.mono_l k
  ·intro y0 y1 y2
   unfold spec_l1Has.l0
   exact qmono
theorem spec_l1Has.mono : ∀ a0 a1 k, LeO (spec_l1Has.f k a0 a1) (spec_l1Has.f (k + 1) a0 a1) := by
 intro a0 a1 k; have ih0 := spec_l1Has.mono_l k
 unfold spec_l1Has.f
 exact qmono
theorem spec_l1Has.calls (k : Nat) (A0 : Option Addr) (c0 : Nat) (l0 : List Int) (a1 : Int) (r : Bool) (w : World) (hr0 : Kd.C (Kd.int .i64) w A0 l0.length l0) (hc0 : l0.length ≤ c0) (h : spec_l1Has.f k l0 a1 = some r) :
  Calls Try.prog 71 #[.slice A0 l0.length c0, .int .i64 a1] w fun e w' => e = .returned (.bool r) ∧ Drawn0 w w' := by
 have HR0 := Aside0.mk hr0; have HC0 := Aside0.mk hc0; clear hr0 hc0; have H : (spec_l1Has.l0 k l0 a1 0) = some r := h; clear h; have H' := Aside0.mk H; clear H
 go_enter Try.func71, Try.ntmps71
 go_wp2
 go_loopg [5] k (fun kq v5 w' => ∃ (x5_1 : Int), v5 = .int .i64 x5_1 ∧ Aside0 (spec_l1Has.l0 kq l0 a1 x5_1 = some r) ∧ Aside0 (kq ≤ k) ∧ Drawn0 w w')
 case atStart => exact ⟨(0), (qR12), H', ⟨Nat.le_refl _⟩, (qR26)⟩
 case round =>
  clear H'; (try clear p2); obtain ⟨x5_1, rfl, HA, HK1, ⟨m1, rfl⟩⟩ := hrel
  cases gk with
  | zero => exact absurd HA.out (by simp [spec_l1Has.l0])
  | succ k1 =>
   have H := HA.out; clear HA; simp only [spec_l1Has.l0] at H
   by_cases c3 : x5_1 < (l0.length : Int)
   ·rw [if_pos c3] at H; have c3b0 : decide (x5_1 < (l0.length : Int)) = true := decide_eq_true c3; clear c3
    by_cases c4 : 0 ≤ x5_1
    ·rw [if_pos c4] at H; have c4b0 : decide (0 ≤ x5_1) = true := decide_eq_true c4; clear c4
     by_cases c5 : (rd l0 x5_1) = a1
     ·rw [if_pos c5] at H; have c5b0 : ((rd l0 x5_1) == a1) = true := beq_iff_eq.mpr c5; have c5b1 : ((rd l0 x5_1) != a1) = false := bne_eq_false_iff_eq.mpr c5; clear c5; obtain rfl := Option.some.inj H; have p468 : 0 ≤ (x5_1 : Int) := of_decide_eq_true (qR8); have q468 : x5_1 < (l0.length : Int) := of_decide_eq_true (qR8); obtain ⟨ad468, e468, hx468_0⟩ := Kd.at_int HR0.out x5_1 p468 q468; cases e468; replace p468 := eq_true p468; replace q468 := eq_true q468
      go_wp2
      go_ret
      exact ⟨(qR12), (qR26)⟩
     ·rw [if_neg c5] at H; have c5b0 : ((rd l0 x5_1) == a1) = false := beq_eq_false_iff_ne.mpr c5; have c5b1 : ((rd l0 x5_1) != a1) = true := bne_iff_ne.mpr c5; have H' := Aside0.mk H; clear H; have p468 : 0 ≤ (x5_1 : Int) := of_decide_eq_true (qR8); have q468 : x5_1 < (l0.length : Int) := of_decide_eq_true (qR8); obtain ⟨ad468, e468, hx468_0⟩ := Kd.at_int HR0.out x5_1 p468 q468; cases e468; replace p468 := eq_true p468; replace q468 := eq_true q468
      go_wp2
      go_roundg k1
      case measure => have := HK1.out; omega
      case rel => exact ⟨(wrap64 (x5_1 + 1)), (qR12), H', ⟨by have := HK1.out; omega⟩, (qR26)⟩
    ·rw [if_neg c4] at H
     exact absurd H (by simp)
   ·rw [if_neg c3] at H; have c3b0 : decide (x5_1 < (l0.length : Int)) = false := decide_eq_false c3; clear c3; obtain rfl := Option.some.inj H
    go_wp2
    go_ret
    exact ⟨(qR12), (qR26)⟩

/-! ### spec_l1Own: function 72 -/
def spec_l1Own.f (l0 : List Int) : Option (List Int) := (some (([] : List Int) : List Int)).bind fun y469 => (if y469.length + l0.length < 17592186044416 then (some (y469 ++ l0)) else (none))
theorem spec_l1Own.calls (A0 : Option Addr) (c0 : Nat) (l0 : List Int) (r : List Int) (w : World) (hr0 : Kd.C (Kd.int .i64) w A0 l0.length l0) (hc0 : l0.length ≤ c0) (h : spec_l1Own.f l0 = some r) :
  Calls Try.prog 72 #[.slice A0 l0.length c0] w fun e w' => ∃ v0_ : Value, e = .returned (v0_) ∧ Kd.R (Kd.int .i64) 3 w' w.heap.size (fun _ => True) v0_ r ∧ Below w.heap.size w w' := by
 have HR0 := Aside0.mk hr0; have HC0 := Aside0.mk hc0; clear hr0 hc0; have HB := Aside0.mk (Below.refl w.heap.size w); have H : ((some (([] : List Int) : List Int)).bind fun y469 => (if y469.length + l0.length < 17592186044416 then (some (y469 ++ l0)) else (none))) = some r := h; clear h; obtain ⟨y469, hy469⟩ : ∃ y_ : List Int, y_ = (([] : List Int)) := ⟨_, rfl⟩; replace H : (if y469.length + l0.length < 17592186044416 then (some (y469 ++ l0)) else (none)) = some r := (qR6 hy469); have Ny469 := Aside0.mk hy469; clear hy469
 by_cases c2 : y469.length + l0.length < 17592186044416
 ·rw [if_pos c2] at H; have LMc2 := Aside0.mk c2; clear c2; obtain ⟨y472, hy472⟩ : ∃ y_ : List Int, y_ = (y469 ++ l0) := ⟨_, rfl⟩; replace H : (some y472) = some r := (qR6 hy472); have Ny472 := Aside0.mk hy472; clear hy472; obtain rfl := Option.some.inj H
  go_enter Try.func72, Try.ntmps72
  go_wp2_with (first | ((with_reducible refine gate_dst (N := 3) rfl ?_); refine Kd.R_lit (Kd.int .i64) _ 3 ?hg (N := 3) ?hd (xs := ([] : List Int)) (inner := []) (ok := fun _ => True) (okp := fun _ => True) ?hr ?hp (fun _ hk => hk) trivial (Below.refl _ _) (Nat.le_refl _) (by simp) ?_; (case hd => rfl); (case hg => rfl); (case hr => exact (qR25)); (case hp => exact (Reps.none _ _)); intro v470 w3 ho4 hb hg_ hnew_; clear hg_ hnew_; (first | rw [← Ny469.out] at ho4 | (simp only [Int.reduceToNat] at ho4; rw [← Ny469.out] at ho4)); have HO471 := Aside0.mk (qR70 ho4); replace HB := Aside0.mk (qR62); clear hb ho4) | ((with_reducible refine gate_builtin (b := .append) (xs := #[.tmp 3, .tmp 4]) rfl ?_); at_builtin; refine Kd.R_append_rows (Kd.int .i64) (w0 := w) w.heap.size rfl (.tmp 3) (.tmp 4) 25 3 (.int .i64 0) 8 rfl Try.underlying25 info3 rfl (by decide) (by omega) v470 y469 l0 _ _ _ (fun _ => True) (fun _ => False) rfl rfl ?aO ?aR (fun _ _ h => h) (fun _ h => h.elim) ?aF ?aB ?aS ?aL ?_; (case aR => exact (qR14 HR0.out)); (case aB => exact (qR0)); (case aF => exact (fun _ _ => trivial)); (case aO => exact (qR1 HO471.out)); (case aS => exact (qR84)); (case aL => have := LMc2.out; omega); intro v473 w5 ho hb hg hat; rw [← Ny472.out] at ho; replace HB := Aside0.mk (hb); have HO474 := Aside0.mk (ho); clear HO471; clear ho hb hg hat))
  go_ret
  exact ⟨_, (qR10), (qR1 HO474.out), (qR0)⟩
 ·rw [if_neg c2] at H
  exact absurd H (by simp)

/-! ### spec_l15Best: function 41 -/
mutual
def spec_l15Best.l0 : Nat → List (S58) → List Int → List Int → Int → Int → Int → List Int → Int → Int → Option (List Int × Int)
 | 0, _, _, _, _, _, _, _, _, _ => none
 | k + 1, x0, x1, x2, x3, x4, x12, x15, x16, x17 => if x17 < 8 then ((spec_l15Leg.f k x0 x1 x12 x17).bind fun t481 => (if t481 < 0 then (spec_l15Best.j1 k x0 x1 x2 x3 x4 x12 x15 x16 x17 true) else (if 0 ≤ t481 then (if t481 < (x1.length : Int) then (if (rd x1 t481) < x4 then (spec_l15Best.j1 k x0 x1 x2 x3 x4 x12 x15 x16 x17 true) else ((spec_l1Has.f k x2 x17).bind fun t483 => (spec_l15Best.j1 k x0 x1 x2 x3 x4 x12 x15 x16 x17 t483))) else (none)) else (none)))) else (some (x15, x16))
def spec_l15Best.j1 : Nat → List (S58) → List Int → List Int → Int → Int → Int → List Int → Int → Int → Bool → Option (List Int × Int)
 | 0, _, _, _, _, _, _, _, _, _, _ => none
 | k + 1, x0, x1, x2, x3, x4, x12, x15, x16, x17, x63 => if x63 = true then (spec_l15Best.l0 k x0 x1 x2 x3 x4 x12 x15 x16 (wrap64 (x17 + 1))) else ((spec_l1Own.f x2).bind fun t484 => (if t484.length < 17592186044416 then ((spec_l15Best.f k x0 x1 (t484 ++ [x17]) x3 x4).bind fun bt490 => (if bt490.2 ≥ 0 then (if x16 < 0 then (spec_l15Best.l0 k x0 x1 x2 x3 x4 x12 bt490.1 bt490.2 (wrap64 (x17 + 1))) else (if bt490.2 < x16 then (spec_l15Best.l0 k x0 x1 x2 x3 x4 x12 bt490.1 bt490.2 (wrap64 (x17 + 1))) else (spec_l15Best.l0 k x0 x1 x2 x3 x4 x12 x15 x16 (wrap64 (x17 + 1))))) else (spec_l15Best.l0 k x0 x1 x2 x3 x4 x12 x15 x16 (wrap64 (x17 + 1))))) else (none)))
def spec_l15Best.f : Nat → List (S58) → List Int → List Int → Int → Int → Option (List Int × Int)
 | 0, _, _, _, _, _ => none
 | k + 1, l0, l1, l2, a3, a4 => if 0 ≤ (wrap64 ((l2.length : Int) - 1)) then (if (wrap64 ((l2.length : Int) - 1)) < (l2.length : Int) then (if (rd l2 (wrap64 ((l2.length : Int) - 1))) = a3 then ((spec_l15Size.f k l0 l1 l2).bind fun bt476 => (some (l2, bt476.2))) else (spec_l15Best.l0 k l0 l1 l2 a3 a4 (rd l2 (wrap64 ((l2.length : Int) - 1))) (([] : List Int)) (-1) 0)) else (none)) else (none)
end
theorem spec_l15Best.mono_l : ∀ k, (∀ y0 y1 y2 y3 y4, LeO (spec_l15Best.f k y0 y1 y2 y3 y4) (spec_l15Best.f (k + 1) y0 y1 y2 y3 y4)) ∧ (∀ y0 y1 y2 y3 y4 y5 y6 y7 y8, LeO (spec_l15Best.l0 k y0 y1 y2 y3 y4 y5 y6 y7 y8) (spec_l15Best.l0 (k + 1) y0 y1 y2 y3 y4 y5 y6 y7 y8)) ∧ (∀ y0 y1 y2 y3 y4 y5 y6 y7 y8 y9, LeO (spec_l15Best.j1 k y0 y1 y2 y3 y4 y5 y6 y7 y8 y9) (spec_l15Best.j1 (k + 1) y0 y1 y2 y3 y4 y5 y6 y7 y8 y9))
 | 0 => ⟨fun _ _ _ _ _ r h => by simp [spec_l15Best.f] at h, fun _ _ _ _ _ _ _ _ _ r h => by simp [spec_l15Best.l0] at h, fun _ _ _ _ _ _ _ _ _ _ r h => by simp [spec_l15Best.j1] at h⟩
 | k + 1 => by
  obtain ⟨ih0, ih1, ih2⟩ := spec_l15Best.mono_l k
  refine ⟨?_, ?_, ?_⟩
  ·intro y0 y1 y2 y3 y4
   unfold spec_l15Best.f
   have m0 := @spec_l15Leg.mono; have m1 := @spec_l15Size.mono; have m2 := @spec_l1Has.mono
   exact qmono
  ·intro y0 y1 y2 y3 y4 y5 y6 y7 y8
   unfold spec_l15Best.l0
   have m0 := @spec_l15Leg.mono; have m1 := @spec_l15Size.mono; have m2 := @spec_l1Has.mono
   exact qmono
  ·intro y0 y1 y2 y3 y4 y5 y6 y7 y8 y9
   unfold spec_l15Best.j1
   have m0 := @spec_l15Leg.mono; have m1 := @spec_l15Size.mono; have m2 := @spec_l1Has.mono
   exact qmono
theorem spec_l15Best.mono : ∀ a0 a1 a2 a3 a4 k, LeO (spec_l15Best.f k a0 a1 a2 a3 a4) (spec_l15Best.f (k + 1) a0 a1 a2 a3 a4) := by
 intro a0 a1 a2 a3 a4 k; obtain ⟨ih0, ih1, ih2⟩ := spec_l15Best.mono_l k
 exact ih0 a0 a1 a2 a3 a4
theorem spec_l15Best.calls (k : Nat) : ∀ (A0 : Option Addr) (c0 : Nat) (l0 : List (S58)) (A1 : Option Addr) (c1 : Nat) (l1 : List Int) (P2_ : Nat → Prop) (u9000_ : Value) (l2 : List Int) (a3 : Int) (a4 : Int) (r1 : List Int) (r2 : Int) (w0 w : World) (hB : Below w0.heap.size w0 w) (hr0 : ∀ W_, Kept w W_ (fun k_ => P2_ k_) → Kd.C k58 W_ A0 l0.length l0) (hc0 : l0.length ≤ c0) (hr1 : ∀ W_, Kept w W_ (fun k_ => P2_ k_) → Kd.C (Kd.int .i64) W_ A1 l1.length l1) (hc1 : l1.length ≤ c1) (ho2 : Kd.R (Kd.int .i64) 3 w w0.heap.size P2_ u9000_ l2) (h : spec_l15Best.f k l0 l1 l2 a3 a4 = some (r1, r2)),
  Calls Try.prog 41 #[.slice A0 l0.length c0, .slice A1 l1.length c1, u9000_, .int .i64 a3, .int .i64 a4] w fun e w' => ∃ v0_ : Value, e = .returned (.tuple #[v0_, .int .i64 r2]) ∧ Kd.R (Kd.int .i64) 3 w' w0.heap.size (fun k_ => (P2_ k_ ∨ w.heap.size ≤ k_)) v0_ r1 ∧ Below w0.heap.size w0 w' ∧ Kept w w' (fun k_ => P2_ k_) := by
 induction k using Nat.strongRecOn with
 | _ k ih =>
 intro A0 c0 l0 A1 c1 l1 P2_ u9000_ l2 a3 a4 r1 r2 w0 w hB hr0 hc0 hr1 hc1 ho2 h
 cases k with
 | zero => exact absurd h (by simp [spec_l15Best.f])
 | succ k =>
 simp only [spec_l15Best.f] at h; have HR0 := Aside0.mk hr0; have HC0 := Aside0.mk hc0; clear hr0 hc0; have HR1 := Aside0.mk hr1; have HC1 := Aside0.mk hc1; clear hr1 hc1; have HO2 := Aside0.mk (by exact show Kd.R (Kd.int .i64) 3 w w0.heap.size (fun k_ => (P2_ k_ ∨ w.heap.size ≤ k_)) u9000_ l2 from Kd.R_mono ho2 (fun k_ hk => (.inl hk))); have HK := Aside0.mk (Kept.refl w (fun k_ => P2_ k_)); have HW0 := Aside0.mk hB.size; have HB := Aside0.mk hB; clear hB; have H : (if 0 ≤ (wrap64 ((l2.length : Int) - 1)) then (if (wrap64 ((l2.length : Int) - 1)) < (l2.length : Int) then (if (rd l2 (wrap64 ((l2.length : Int) - 1))) = a3 then ((spec_l15Size.f k l0 l1 l2).bind fun bt476 => (some (l2, bt476.2))) else (spec_l15Best.l0 k l0 l1 l2 a3 a4 (rd l2 (wrap64 ((l2.length : Int) - 1))) (([] : List Int)) (-1) 0)) else (none)) else (none)) = some (r1, r2) := h; clear h; obtain ⟨ji6, hji6⟩ : ∃ j_ : Int, (wrap64 ((l2.length : Int) - 1)) = j_ := ⟨_, rfl⟩
 replace H : (if 0 ≤ (ji6) then (if (ji6) < (l2.length : Int) then (if (rd l2 (ji6)) = a3 then ((spec_l15Size.f k l0 l1 l2).bind fun bt476 => (some (l2, bt476.2))) else (spec_l15Best.l0 k l0 l1 l2 a3 a4 (rd l2 (ji6)) (([] : List Int)) (-1) 0)) else (none)) else (none)) = some (r1, r2) := by first | (rw [hji6] at H; exact H) | (simp only [hji6] at H ⊢; exact H)
 have hji6w : (IntKind.i64.wrap ((l2.length : Int) - 1)) = ji6 := (i64_w _).trans hji6
 by_cases c7 : 0 ≤ (ji6)
 ·rw [if_pos c7] at H; have c7b0 : decide (0 ≤ (ji6)) = true := decide_eq_true c7; clear c7
  by_cases c8 : (ji6) < (l2.length : Int)
  ·rw [if_pos c8] at H; have c8b0 : decide ((ji6) < (l2.length : Int)) = true := decide_eq_true c8; clear c8
   by_cases c9 : (rd l2 (ji6)) = a3
   ·rw [if_pos c9] at H; have c9b0 : ((rd l2 (ji6)) == a3) = true := beq_iff_eq.mpr c9; have c9b1 : ((rd l2 (ji6)) != a3) = false := bne_eq_false_iff_eq.mpr c9; clear c9; replace H := Option.bind_eq_some_iff.mp H; obtain ⟨⟨t476, t477⟩, A100, H⟩ := H; replace H : (some (l2, t477)) = some (r1, r2) := H; have A10 := Aside0.mk A100; clear A100; simp only [Option.some.injEq, Prod.mk.injEq] at H; obtain ⟨rfl, rfl⟩ := H; obtain ⟨Ao11, co11, eo11⟩ := Kd.R_slice HO2.out; subst eo11; have p475 : 0 ≤ ((ji6) : Int) := of_decide_eq_true (qR8); have q475 : (ji6) < (l2.length : Int) := of_decide_eq_true (qR8); obtain ⟨ad475, e475, hx475_0⟩ := Kd.at_int (Kd.R_reads' HO2.out).2.2 (ji6) p475 q475; cases e475; replace p475 := eq_true p475; replace q475 := eq_true q475
    go_enter Try.func41, Try.ntmps41
    go_wp2_with (first | ((with_reducible refine gate_callee (f := 52) rfl ?_); refine goesL_ (some 34) rfl rfl Try.func52 (by kernel_rfl) rfl #[.slice A0 l0.length c0, .slice A1 l1.length c1, .slice (some ad475) l2.length co11] rfl (qR2) ?_; (with_reducible refine (spec_l15Size.calls k _ _ l0 _ _ l1 _ _ l2 t476 t477 _ ?s1 ?s2 ?s3 ?s4 ?s5 ?s6 A10.out).mono ?_); (case s1 => exact (by exact Kd.C_kept_now HR0.out (qR17))); (case s2 => exact HC0.out); (case s3 => exact (by exact Kd.C_kept_now HR1.out (qR17))); (case s4 => exact HC1.out); (case s5 => exact (qR5 HO2.out)); (case s6 => exact (qR32 HO2.out)); rintro e w' ⟨rfl, ⟨nd, rfl⟩⟩; refine ⟨_, rfl, ?_⟩))
    go_ret2
    exact ⟨_, (qR54), (qR1 HO2.out), (qR0), (qR17)⟩
   ·rw [if_neg c9] at H; have c9b0 : ((rd l2 (ji6)) == a3) = false := beq_eq_false_iff_ne.mpr c9; have c9b1 : ((rd l2 (ji6)) != a3) = true := bne_iff_ne.mpr c9; obtain ⟨y478, hy478⟩ : ∃ y_ : List Int, y_ = (([] : List Int)) := ⟨_, rfl⟩; replace H : (spec_l15Best.l0 k l0 l1 l2 a3 a4 (rd l2 (ji6)) y478 (-1) 0) = some (r1, r2) := (qR6 hy478); have Ny478 := Aside0.mk hy478; clear hy478; have H' := Aside0.mk H; clear H; obtain ⟨Ao12, co12, eo12⟩ := Kd.R_slice HO2.out; subst eo12; have p475 : 0 ≤ ((ji6) : Int) := of_decide_eq_true (qR8); have q475 : (ji6) < (l2.length : Int) := of_decide_eq_true (qR8); obtain ⟨ad475, e475, hx475_0⟩ := Kd.at_int (Kd.R_reads' HO2.out).2.2 (ji6) p475 q475; cases e475; replace p475 := eq_true p475; replace q475 := eq_true q475
    go_enter Try.func41, Try.ntmps41
    go_wp2_with (first | ((with_reducible refine gate_dst (N := 39) rfl ?_); refine Kd.R_lit (Kd.int .i64) _ 3 ?hg (N := 39) ?hd (xs := ([] : List Int)) (inner := []) (ok := fun _ => True) (okp := fun _ => True) ?hr ?hp (fun _ hk => hk) trivial (Below.refl _ _) (Nat.le_refl _) (by simp) ?_; (case hd => rfl); (case hg => rfl); (case hr => exact (qR25)); (case hp => exact (Reps.none _ _)); intro v479 w13 ho14 hb hg_ hnew_; clear hg_ hnew_; (first | rw [← Ny478.out] at ho14 | (simp only [Int.reduceToNat] at ho14; rw [← Ny478.out] at ho14)); have HO480 := Aside0.mk (by exact Kd.R_lower (Kd.R_new' (Kd.R_newM (M := fun k_ => (P2_ k_ ∨ w.heap.size ≤ k_)) ho14 (qR67) (fun k_ h_ => .inr h_)) (Kd.R_lt (qR1 HO2.out))) (below_size (qR0))); replace HO2 := Aside0.mk (qR65 HO2.out ho14); replace HK := Aside0.mk (qR96); replace HB := Aside0.mk (qR62); clear hb ho14))
    go_loopg [15, 16, 17] k (fun kq v15 v16 v17 w' => ∃ (x15_1 : List Int) (x16_1 : Int) (x17_1 : Int), v16 = .int .i64 x16_1 ∧ v17 = .int .i64 x17_1 ∧ Aside0 (spec_l15Best.l0 kq l0 l1 l2 a3 a4 (rd l2 (ji6)) x15_1 x16_1 x17_1 = some (r1, r2)) ∧ Aside0 (kq ≤ k) ∧ Aside0 (Kd.R (Kd.int .i64) 3 w' w0.heap.size (fun k_ => (P2_ k_ ∨ w.heap.size ≤ k_) ∧ some k_ ≠ (v15 : Value).ownBlock) (.slice (some ad475) l2.length co12) l2) ∧ Aside0 (Kd.R (Kd.int .i64) 3 w' w0.heap.size (fun k_ => (P2_ k_ ∨ w.heap.size ≤ k_) ∧ some k_ ≠ ((.slice (some ad475) l2.length co12) : Value).ownBlock) v15 x15_1) ∧ Aside0 (Kept w w' (fun k_ => P2_ k_)) ∧ Aside0 (Below w0.heap.size w0 w'))
    case atStart => exact ⟨(y478), ((-1)), (0), (qR12), (qR12), H', ⟨Nat.le_refl _⟩, ⟨(qR1 HO2.out)⟩, ⟨(by (with_reducible repeat (first | apply Kd.R_alloc | apply Kd.R_drewN | apply Kd.R_drew)); exact Kd.R_mono HO480.out (fun _ hk => ⟨hk.1.1, hk.2⟩))⟩, ⟨(qR17)⟩, ⟨(qR0)⟩⟩
    case round =>
     clear H'; (try clear c1); (try clear p2); (try clear c4); (try clear p4); (try clear q4); (try clear hx4); (try clear c5); (try clear p6); (try clear c7); (try clear c7b0); (try clear c8); (try clear c8b0); (try clear c9); (try clear c9b0); (try clear c9b1); (try clear hx475_0); (try clear p475); (try clear q475); obtain ⟨x15_1, x16_1, x17_1, rfl, rfl, HA, HK1, HO_2, HO_15, HK, HB⟩ := hrel
     cases gk with
     | zero => exact absurd HA.out (by simp [spec_l15Best.l0])
     | succ k1 =>
      have H := HA.out; clear HA; simp only [spec_l15Best.l0] at H
      by_cases c15 : x17_1 < 8
      ·rw [if_pos c15] at H; have c15b0 : decide (x17_1 < 8) = true := decide_eq_true c15; clear c15; replace H := bindA H; obtain ⟨t481, A16, H⟩ := H; (try dsimp only at H); have HC17 := Aside0.mk H; clear H
       go_upto_region 10 with (first | ((with_reducible refine gate_callee (f := 70) rfl ?_); refine goesL_ (some 48) rfl rfl Try.func70 (by kernel_rfl) rfl #[.slice A0 l0.length c0, .slice A1 l1.length c1, .int .i64 (rd l2 (ji6)), .int .i64 x17_1] rfl (by (try simp only [List.map_toArray, List.map_cons, List.map_nil]); first | done | (simp only [hji6]; rfl) | rfl | (simp only [List.length_drop, List.length_take]; rfl)) ?_; (with_reducible refine (spec_l15Leg.calls k1 _ _ l0 _ _ l1 (rd l2 (ji6)) x17_1 t481 _ ?s1 ?s2 ?s3 ?s4 A16.out).mono ?_); (case s1 => exact (by exact Kd.C_kept_now HR0.out (qR17))); (case s2 => exact HC0.out); (case s3 => exact (by exact Kd.C_kept_now HR1.out (qR17))); (case s4 => exact HC1.out); rintro e w' ⟨rfl, ⟨nd, rfl⟩⟩; refine ⟨_, rfl, ?_⟩))
       (try simp only [Act.put, List.setIfInBounds_toArray, List.set_cons_zero, List.set_cons_succ])
       go_cut [63] (fun v63 wc => ∃ (kq : Nat) (x63_16 : Bool), v63 = .bool x63_16 ∧ Aside0 (spec_l15Best.j1 kq l0 l1 l2 a3 a4 (rd l2 (ji6)) x15_1 x16_1 x17_1 x63_16 = some (r1, r2)) ∧ Aside0 (kq ≤ k1) ∧ Aside0 (Kd.R (Kd.int .i64) 3 wc w0.heap.size (fun k_ => (P2_ k_ ∨ w.heap.size ≤ k_) ∧ some k_ ≠ (u15 : Value).ownBlock) (.slice (some ad475) l2.length co12) l2) ∧ Aside0 (Kd.R (Kd.int .i64) 3 wc w0.heap.size (fun k_ => (P2_ k_ ∨ w.heap.size ≤ k_) ∧ some k_ ≠ ((.slice (some ad475) l2.length co12) : Value).ownBlock) u15 x15_1) ∧ Aside0 (Kept w wc (fun k_ => P2_ k_)) ∧ Aside0 (Below w0.heap.size w0 wc))
       case first =>
        have H := HC17.out; clear HC17
        by_cases c18 : t481 < 0
        ·rw [if_pos c18] at H; have c18b0 : decide (t481 < 0) = true := decide_eq_true c18; clear c18
         (first | rw [c18b0] | (simp only [i64_w, i32_w]; rw [c18b0]) | skip)
         have H' := Aside0.mk H; clear H
         go_wp2
         go_meet
         case rel => exact ⟨_, (true), (qR12), H', ⟨by have := HK1.out; first | omega | exact Nat.le_refl _⟩, ⟨(qR1 HO_2.out)⟩, ⟨(qR1 HO_15.out)⟩, ⟨(qR17)⟩, ⟨(qR0)⟩⟩
        ·rw [if_neg c18] at H; have c18b0 : decide (t481 < 0) = false := decide_eq_false c18; clear c18
         (first | rw [c18b0] | (simp only [i64_w, i32_w]; rw [c18b0]) | skip)
         by_cases c19 : 0 ≤ t481
         ·rw [if_pos c19] at H; have c19b0 : decide (0 ≤ t481) = true := decide_eq_true c19; clear c19
          by_cases c20 : t481 < (l1.length : Int)
          ·rw [if_pos c20] at H; have c20b0 : decide (t481 < (l1.length : Int)) = true := decide_eq_true c20; clear c20
           by_cases c21 : (rd l1 t481) < a4
           ·rw [if_pos c21] at H; have c21b0 : decide ((rd l1 t481) < a4) = true := decide_eq_true c21; clear c21; have H' := Aside0.mk H; clear H; have p482 : 0 ≤ (t481 : Int) := of_decide_eq_true (qR8); have q482 : t481 < (l1.length : Int) := of_decide_eq_true (qR8); obtain ⟨ad482, e482, hx482_0⟩ := Kd.at_int (Kd.C_kept_now HR1.out HK.out) t481 p482 q482; cases e482; replace p482 := eq_true p482; replace q482 := eq_true q482
            go_wp2
            go_meet
            case rel => exact ⟨_, (true), (qR12), H', ⟨by have := HK1.out; first | omega | exact Nat.le_refl _⟩, ⟨(qR1 HO_2.out)⟩, ⟨(qR1 HO_15.out)⟩, ⟨(qR17)⟩, ⟨(qR0)⟩⟩
           ·rw [if_neg c21] at H; have c21b0 : decide ((rd l1 t481) < a4) = false := decide_eq_false c21; clear c21; replace H := bindA H; obtain ⟨t483, A22, H⟩ := H; (try dsimp only at H); have H' := Aside0.mk H; clear H; have p482 : 0 ≤ (t481 : Int) := of_decide_eq_true (qR8); have q482 : t481 < (l1.length : Int) := of_decide_eq_true (qR8); obtain ⟨ad482, e482, hx482_0⟩ := Kd.at_int (Kd.C_kept_now HR1.out HK.out) t481 p482 q482; cases e482; replace p482 := eq_true p482; replace q482 := eq_true q482
            go_wp2_with (first | (go_at_call 71; (with_reducible refine (spec_l1Has.calls k1 _ _ l2 x17_1 t483 _ ?s1 ?s2 A22.out).mono ?_); (case s1 => exact (qR5 HO_2.out)); (case s2 => exact (qR32 HO_2.out)); rintro e w' ⟨rfl, ⟨nd, rfl⟩⟩))
            go_meet
            case rel => exact ⟨_, (t483), (qR12), H', ⟨by have := HK1.out; first | omega | exact Nat.le_refl _⟩, ⟨(qR1 HO_2.out)⟩, ⟨(qR1 HO_15.out)⟩, ⟨(qR17)⟩, ⟨(qR0)⟩⟩
          ·rw [if_neg c20] at H
           exact absurd H (by simp)
         ·rw [if_neg c19] at H
          exact absurd H (by simp)
       case rest =>
        clear HC17; (try clear c1); (try clear c2); (try clear p2); (try clear c4); (try clear p4); (try clear q4); (try clear hx4); (try clear c5); (try clear p6); (try clear c7); (try clear c7b0); (try clear c8); (try clear c8b0); (try clear c9); (try clear c9b0); (try clear c9b1); (try clear c15); (try clear c15b0); (try clear c18); (try clear c18b0); (try clear c19); (try clear c19b0); (try clear c20); (try clear c20b0); (try clear c21); (try clear c21b0); (try clear hx475_0); (try clear hx482_0); (try clear p2); (try clear p4); (try clear p475); (try clear p482); (try clear p6); (try clear q4); (try clear q475); (try clear q482); obtain ⟨kq, x63_16, rfl, HA, HJ16, HO_2, HO_15, HK, HB⟩ := hcut
        cases kq with
        | zero => exact absurd HA.out (by simp [spec_l15Best.j1])
        | succ kj16 =>
         have H := HA.out; clear HA; simp only [spec_l15Best.j1] at H
         by_cases c23 : x63_16 = true
         ·subst c23; rw [if_pos rfl] at H; have H' := Aside0.mk H; clear H
          go_wp2
          go_roundg kj16
          case measure => have := HK1.out; have := HJ16.out; omega
          case rel => exact ⟨(x15_1), (x16_1), (wrap64 (x17_1 + 1)), (qR12), (qR12), H', ⟨by have := HK1.out; have := HJ16.out; omega⟩, ⟨(qR1 HO_2.out)⟩, ⟨(qR1 HO_15.out)⟩, ⟨(qR17)⟩, ⟨(qR0)⟩⟩
         ·replace c23 := Bool.eq_false_iff.mpr c23; subst c23; rw [if_neg (show ¬ (false = true) by decide)] at H; replace H := bindA H; obtain ⟨t484, A24, H⟩ := H; (try dsimp only at H)
          by_cases c25 : t484.length < 17592186044416
          ·rw [if_pos c25] at H; have LMc25 := Aside0.mk c25; clear c25; obtain ⟨y487, hy487⟩ : ∃ y_ : List Int, y_ = (t484 ++ [x17_1]) := ⟨_, rfl⟩; replace H : ((spec_l15Best.f kj16 l0 l1 y487 a3 a4).bind fun bt490 => (if bt490.2 ≥ 0 then (if x16_1 < 0 then (spec_l15Best.l0 kj16 l0 l1 l2 a3 a4 (rd l2 (ji6)) bt490.1 bt490.2 (wrap64 (x17_1 + 1))) else (if bt490.2 < x16_1 then (spec_l15Best.l0 kj16 l0 l1 l2 a3 a4 (rd l2 (ji6)) bt490.1 bt490.2 (wrap64 (x17_1 + 1))) else (spec_l15Best.l0 kj16 l0 l1 l2 a3 a4 (rd l2 (ji6)) x15_1 x16_1 (wrap64 (x17_1 + 1))))) else (spec_l15Best.l0 kj16 l0 l1 l2 a3 a4 (rd l2 (ji6)) x15_1 x16_1 (wrap64 (x17_1 + 1))))) = some (r1, r2) := (qR6 hy487); have Ny487 := Aside0.mk hy487; clear hy487; replace H := bindA H; obtain ⟨⟨t490, t493⟩, A26, H⟩ := H; (try dsimp only at H)
           by_cases c27 : t493 ≥ 0
           ·rw [if_pos c27] at H; have c27b0 : decide (0 ≤ t493) = true := decide_eq_true c27; clear c27
            by_cases c28 : x16_1 < 0
            ·rw [if_pos c28] at H; have c28b0 : decide (x16_1 < 0) = true := decide_eq_true c28; clear c28; have H' := Aside0.mk H; clear H
             go_wp2_with (first | ((with_reducible refine gate_callee (f := 72) rfl ?_); refine goesL_ (some 68) rfl rfl Try.func72 (by kernel_rfl) rfl #[.slice (some ad475) l2.length co12] rfl (qR2) ?_; (with_reducible refine (spec_l1Own.calls _ _ l2 t484 _ ?s1 ?s2 A24.out).mono ?_); (case s1 => exact (qR5 HO_2.out)); (case s2 => exact (qR32 HO_2.out)); rintro e w29 ⟨v485, rfl, ho0, hb⟩; refine ⟨_, rfl, ?_⟩; have HO486 := Aside0.mk (qR108); replace HO_2 := Aside0.mk (qR65 HO_2.out ho0); replace HO_15 := Aside0.mk (qR65 HO_15.out ho0); replace HK := Aside0.mk (qR96); replace HB := Aside0.mk (qR62); clear hb ho0) | ((with_reducible refine gate_builtin (b := .append) (xs := #[.tmp 68, .tmp 70]) rfl ?_); at_builtin; refine Kd.R_append (Kd.int .i64) (w0 := w0) w0.heap.size rfl (.tmp 68) (.tmp 70) 25 3 (.int .i64 0) 8 rfl Try.underlying25 info3 rfl (by decide) (by omega) v485 t484 x17_1 [.int .i64 x17_1] (fun k_ => (P2_ k_ ∨ w.heap.size ≤ k_) ∧ some k_ ≠ (.slice (some ad475) l2.length co12 : Value).ownBlock ∧ some k_ ≠ (u15 : Value).ownBlock) (fun _ => False) rfl rfl ?aP (fun _ hk => hk.elim) ?aF ?aO ?aB ?aS ?aL ?_; (case aP => exact rfl); (case aB => exact (qR0)); (case aF => exact (qR109)); (case aO => exact (qR43)); (case aS => exact (qR84)); (case aL => have := LMc25.out; omega); intro v488 w30 ho hb hg hat; rw [← Ny487.out] at ho; replace HO_2 := Aside0.mk (qR81); replace HO_15 := Aside0.mk (qR75); replace HB := Aside0.mk (hb); replace HK := Aside0.mk (qR89); have HO489 := Aside0.mk (ho); clear HO486; clear ho hb hg hat; obtain ⟨Ao31, co31, eo31⟩ := Kd.R_slice HO489.out; subst eo31) | ((with_reducible refine gate_callee (f := 41) rfl ?_); refine goesL_ (some 74) rfl rfl Try.func41 (by kernel_rfl) rfl #[.slice A0 l0.length c0, .slice A1 l1.length c1, .slice Ao31 y487.length co31, .int .i64 a3, .int .i64 a4] rfl (qR2) ?_; (with_reducible refine (ih kj16 (qR59) _ _ l0 _ _ l1 (fun k_ => some k_ = (.slice Ao31 y487.length co31 : Value).ownBlock) (.slice Ao31 y487.length co31) y487 a3 a4 t490 t493 w0 _ ?s1 ?s2 ?s3 ?s4 ?s5 ?s6 A26.out).mono ?_); (case s1 => exact (qR0)); (case s2 => exact (qR77 HR0.out HO489.out)); (case s3 => exact HC0.out); (case s4 => exact (qR77 HR1.out HO489.out)); (case s5 => exact HC1.out); (case s6 => exact (qR60)); rintro e w32 ⟨v491, rfl, ho0, hb, hkp⟩; refine ⟨_, rfl, ?_⟩; have HO492 := Aside0.mk (Kd.R_mono (ok' := fun k_ => (P2_ k_ ∨ w.heap.size ≤ k_) ∧ some k_ ≠ (.slice (some ad475) l2.length co12 : Value).ownBlock ∧ some k_ ≠ (u15 : Value).ownBlock) ho0 (fun k_ hk_ => ⟨Or.elim hk_ (fun hs_ => (HO489.out.1 k_ (hs_).symm).1) (fun hn_ => (.inr (Nat.le_trans (qR67) hn_))), Or.elim hk_ (fun hs_ => fun e_ => (((HO_2.out).1 k_ e_.symm).2) hs_) (fun hn_ => (Kd.fresh' (Kd.R_lt (qR1 HO_2.out)) k_ hn_)), Or.elim hk_ (fun hs_ => fun e_ => (((HO_15.out).1 k_ e_.symm).2) hs_) (fun hn_ => (Kd.fresh' (Kd.R_lt (qR1 HO_15.out)) k_ hn_))⟩)); replace HO_2 := Aside0.mk (Kd.R_mono (ok' := fun k_ => (P2_ k_ ∨ w.heap.size ≤ k_) ∧ some k_ ≠ (u15 : Value).ownBlock ∧ some k_ ≠ (v491 : Value).ownBlock) (Kd.R_keptB (HO_2.out) hkp (fun k_ hk_ hs_ => (hk_.2) hs_)) (fun k_ hk_ => ⟨hk_.1.1.1, hk_.1.1.2, fun e_ => Or.elim (ho0.1 k_ e_.symm) (fun hs_ => hk_.2.1 hs_) (fun hn_ => Nat.not_le.2 hk_.2.2 hn_)⟩)); replace HO_15 := Aside0.mk (Kd.R_mono (ok' := fun k_ => (P2_ k_ ∨ w.heap.size ≤ k_) ∧ some k_ ≠ (.slice (some ad475) l2.length co12 : Value).ownBlock ∧ some k_ ≠ (v491 : Value).ownBlock) (Kd.R_keptB (HO_15.out) hkp (fun k_ hk_ hs_ => (hk_.2) hs_)) (fun k_ hk_ => ⟨hk_.1.1.1, hk_.1.1.2, fun e_ => Or.elim (ho0.1 k_ e_.symm) (fun hs_ => hk_.2.1 hs_) (fun hn_ => Nat.not_le.2 hk_.2.2 hn_)⟩)); replace HK := Aside0.mk (qR83); replace HB := Aside0.mk (hb); clear HO489; clear hb ho0))
             go_roundg kj16
             case measure => have := HK1.out; have := HJ16.out; omega
             case rel => exact ⟨(t490), (t493), (wrap64 (x17_1 + 1)), (qR12), (qR12), H', ⟨by have := HK1.out; have := HJ16.out; omega⟩, ⟨(qR58)⟩, ⟨(qR41 HO492.out)⟩, ⟨(qR17)⟩, ⟨(qR0)⟩⟩
            ·rw [if_neg c28] at H; have c28b0 : decide (x16_1 < 0) = false := decide_eq_false c28; clear c28
             by_cases c33 : t493 < x16_1
             ·rw [if_pos c33] at H; have c33b0 : decide (t493 < x16_1) = true := decide_eq_true c33; clear c33; have H' := Aside0.mk H; clear H
              go_wp2_with (first | ((with_reducible refine gate_callee (f := 72) rfl ?_); refine goesL_ (some 68) rfl rfl Try.func72 (by kernel_rfl) rfl #[.slice (some ad475) l2.length co12] rfl (qR2) ?_; (with_reducible refine (spec_l1Own.calls _ _ l2 t484 _ ?s1 ?s2 A24.out).mono ?_); (case s1 => exact (qR5 HO_2.out)); (case s2 => exact (qR32 HO_2.out)); rintro e w34 ⟨v485, rfl, ho0, hb⟩; refine ⟨_, rfl, ?_⟩; have HO486 := Aside0.mk (qR108); replace HO_2 := Aside0.mk (qR65 HO_2.out ho0); replace HO_15 := Aside0.mk (qR65 HO_15.out ho0); replace HK := Aside0.mk (qR96); replace HB := Aside0.mk (qR62); clear hb ho0) | ((with_reducible refine gate_builtin (b := .append) (xs := #[.tmp 68, .tmp 70]) rfl ?_); at_builtin; refine Kd.R_append (Kd.int .i64) (w0 := w0) w0.heap.size rfl (.tmp 68) (.tmp 70) 25 3 (.int .i64 0) 8 rfl Try.underlying25 info3 rfl (by decide) (by omega) v485 t484 x17_1 [.int .i64 x17_1] (fun k_ => (P2_ k_ ∨ w.heap.size ≤ k_) ∧ some k_ ≠ (.slice (some ad475) l2.length co12 : Value).ownBlock ∧ some k_ ≠ (u15 : Value).ownBlock) (fun _ => False) rfl rfl ?aP (fun _ hk => hk.elim) ?aF ?aO ?aB ?aS ?aL ?_; (case aP => exact rfl); (case aB => exact (qR0)); (case aF => exact (qR109)); (case aO => exact (qR43)); (case aS => exact (qR84)); (case aL => have := LMc25.out; omega); intro v488 w35 ho hb hg hat; rw [← Ny487.out] at ho; replace HO_2 := Aside0.mk (qR81); replace HO_15 := Aside0.mk (qR75); replace HB := Aside0.mk (hb); replace HK := Aside0.mk (qR89); have HO489 := Aside0.mk (ho); clear HO486; clear ho hb hg hat; obtain ⟨Ao36, co36, eo36⟩ := Kd.R_slice HO489.out; subst eo36) | ((with_reducible refine gate_callee (f := 41) rfl ?_); refine goesL_ (some 74) rfl rfl Try.func41 (by kernel_rfl) rfl #[.slice A0 l0.length c0, .slice A1 l1.length c1, .slice Ao36 y487.length co36, .int .i64 a3, .int .i64 a4] rfl (qR2) ?_; (with_reducible refine (ih kj16 (qR59) _ _ l0 _ _ l1 (fun k_ => some k_ = (.slice Ao36 y487.length co36 : Value).ownBlock) (.slice Ao36 y487.length co36) y487 a3 a4 t490 t493 w0 _ ?s1 ?s2 ?s3 ?s4 ?s5 ?s6 A26.out).mono ?_); (case s1 => exact (qR0)); (case s2 => exact (qR77 HR0.out HO489.out)); (case s3 => exact HC0.out); (case s4 => exact (qR77 HR1.out HO489.out)); (case s5 => exact HC1.out); (case s6 => exact (qR60)); rintro e w37 ⟨v491, rfl, ho0, hb, hkp⟩; refine ⟨_, rfl, ?_⟩; have HO492 := Aside0.mk (Kd.R_mono (ok' := fun k_ => (P2_ k_ ∨ w.heap.size ≤ k_) ∧ some k_ ≠ (.slice (some ad475) l2.length co12 : Value).ownBlock ∧ some k_ ≠ (u15 : Value).ownBlock) ho0 (fun k_ hk_ => ⟨Or.elim hk_ (fun hs_ => (HO489.out.1 k_ (hs_).symm).1) (fun hn_ => (.inr (Nat.le_trans (qR67) hn_))), Or.elim hk_ (fun hs_ => fun e_ => (((HO_2.out).1 k_ e_.symm).2) hs_) (fun hn_ => (Kd.fresh' (Kd.R_lt (qR1 HO_2.out)) k_ hn_)), Or.elim hk_ (fun hs_ => fun e_ => (((HO_15.out).1 k_ e_.symm).2) hs_) (fun hn_ => (Kd.fresh' (Kd.R_lt (qR1 HO_15.out)) k_ hn_))⟩)); replace HO_2 := Aside0.mk (Kd.R_mono (ok' := fun k_ => (P2_ k_ ∨ w.heap.size ≤ k_) ∧ some k_ ≠ (u15 : Value).ownBlock ∧ some k_ ≠ (v491 : Value).ownBlock) (Kd.R_keptB (HO_2.out) hkp (fun k_ hk_ hs_ => (hk_.2) hs_)) (fun k_ hk_ => ⟨hk_.1.1.1, hk_.1.1.2, fun e_ => Or.elim (ho0.1 k_ e_.symm) (fun hs_ => hk_.2.1 hs_) (fun hn_ => Nat.not_le.2 hk_.2.2 hn_)⟩)); replace HO_15 := Aside0.mk (Kd.R_mono (ok' := fun k_ => (P2_ k_ ∨ w.heap.size ≤ k_) ∧ some k_ ≠ (.slice (some ad475) l2.length co12 : Value).ownBlock ∧ some k_ ≠ (v491 : Value).ownBlock) (Kd.R_keptB (HO_15.out) hkp (fun k_ hk_ hs_ => (hk_.2) hs_)) (fun k_ hk_ => ⟨hk_.1.1.1, hk_.1.1.2, fun e_ => Or.elim (ho0.1 k_ e_.symm) (fun hs_ => hk_.2.1 hs_) (fun hn_ => Nat.not_le.2 hk_.2.2 hn_)⟩)); replace HK := Aside0.mk (qR83); replace HB := Aside0.mk (hb); clear HO489; clear hb ho0))
              go_roundg kj16
              case measure => have := HK1.out; have := HJ16.out; omega
              case rel => exact ⟨(t490), (t493), (wrap64 (x17_1 + 1)), (qR12), (qR12), H', ⟨by have := HK1.out; have := HJ16.out; omega⟩, ⟨(qR58)⟩, ⟨(qR41 HO492.out)⟩, ⟨(qR17)⟩, ⟨(qR0)⟩⟩
             ·rw [if_neg c33] at H; have c33b0 : decide (t493 < x16_1) = false := decide_eq_false c33; clear c33; have H' := Aside0.mk H; clear H
              go_wp2_with (first | ((with_reducible refine gate_callee (f := 72) rfl ?_); refine goesL_ (some 68) rfl rfl Try.func72 (by kernel_rfl) rfl #[.slice (some ad475) l2.length co12] rfl (qR2) ?_; (with_reducible refine (spec_l1Own.calls _ _ l2 t484 _ ?s1 ?s2 A24.out).mono ?_); (case s1 => exact (qR5 HO_2.out)); (case s2 => exact (qR32 HO_2.out)); rintro e w38 ⟨v485, rfl, ho0, hb⟩; refine ⟨_, rfl, ?_⟩; have HO486 := Aside0.mk (qR108); replace HO_2 := Aside0.mk (qR65 HO_2.out ho0); replace HO_15 := Aside0.mk (qR65 HO_15.out ho0); replace HK := Aside0.mk (qR96); replace HB := Aside0.mk (qR62); clear hb ho0) | ((with_reducible refine gate_builtin (b := .append) (xs := #[.tmp 68, .tmp 70]) rfl ?_); at_builtin; refine Kd.R_append (Kd.int .i64) (w0 := w0) w0.heap.size rfl (.tmp 68) (.tmp 70) 25 3 (.int .i64 0) 8 rfl Try.underlying25 info3 rfl (by decide) (by omega) v485 t484 x17_1 [.int .i64 x17_1] (fun k_ => (P2_ k_ ∨ w.heap.size ≤ k_) ∧ some k_ ≠ (.slice (some ad475) l2.length co12 : Value).ownBlock ∧ some k_ ≠ (u15 : Value).ownBlock) (fun _ => False) rfl rfl ?aP (fun _ hk => hk.elim) ?aF ?aO ?aB ?aS ?aL ?_; (case aP => exact rfl); (case aB => exact (qR0)); (case aF => exact (qR109)); (case aO => exact (qR43)); (case aS => exact (qR84)); (case aL => have := LMc25.out; omega); intro v488 w39 ho hb hg hat; rw [← Ny487.out] at ho; replace HO_2 := Aside0.mk (qR81); replace HO_15 := Aside0.mk (qR75); replace HB := Aside0.mk (hb); replace HK := Aside0.mk (qR89); have HO489 := Aside0.mk (ho); clear HO486; clear ho hb hg hat; obtain ⟨Ao40, co40, eo40⟩ := Kd.R_slice HO489.out; subst eo40) | ((with_reducible refine gate_callee (f := 41) rfl ?_); refine goesL_ (some 74) rfl rfl Try.func41 (by kernel_rfl) rfl #[.slice A0 l0.length c0, .slice A1 l1.length c1, .slice Ao40 y487.length co40, .int .i64 a3, .int .i64 a4] rfl (qR2) ?_; (with_reducible refine (ih kj16 (qR59) _ _ l0 _ _ l1 (fun k_ => some k_ = (.slice Ao40 y487.length co40 : Value).ownBlock) (.slice Ao40 y487.length co40) y487 a3 a4 t490 t493 w0 _ ?s1 ?s2 ?s3 ?s4 ?s5 ?s6 A26.out).mono ?_); (case s1 => exact (qR0)); (case s2 => exact (qR77 HR0.out HO489.out)); (case s3 => exact HC0.out); (case s4 => exact (qR77 HR1.out HO489.out)); (case s5 => exact HC1.out); (case s6 => exact (qR60)); rintro e w41 ⟨v491, rfl, ho0, hb, hkp⟩; refine ⟨_, rfl, ?_⟩; have HO492 := Aside0.mk (Kd.R_mono (ok' := fun k_ => (P2_ k_ ∨ w.heap.size ≤ k_) ∧ some k_ ≠ (.slice (some ad475) l2.length co12 : Value).ownBlock ∧ some k_ ≠ (u15 : Value).ownBlock) ho0 (fun k_ hk_ => ⟨Or.elim hk_ (fun hs_ => (HO489.out.1 k_ (hs_).symm).1) (fun hn_ => (.inr (Nat.le_trans (qR67) hn_))), Or.elim hk_ (fun hs_ => fun e_ => (((HO_2.out).1 k_ e_.symm).2) hs_) (fun hn_ => (Kd.fresh' (Kd.R_lt (qR1 HO_2.out)) k_ hn_)), Or.elim hk_ (fun hs_ => fun e_ => (((HO_15.out).1 k_ e_.symm).2) hs_) (fun hn_ => (Kd.fresh' (Kd.R_lt (qR1 HO_15.out)) k_ hn_))⟩)); replace HO_2 := Aside0.mk (Kd.R_mono (ok' := fun k_ => (P2_ k_ ∨ w.heap.size ≤ k_) ∧ some k_ ≠ (u15 : Value).ownBlock ∧ some k_ ≠ (v491 : Value).ownBlock) (Kd.R_keptB (HO_2.out) hkp (fun k_ hk_ hs_ => (hk_.2) hs_)) (fun k_ hk_ => ⟨hk_.1.1.1, hk_.1.1.2, fun e_ => Or.elim (ho0.1 k_ e_.symm) (fun hs_ => hk_.2.1 hs_) (fun hn_ => Nat.not_le.2 hk_.2.2 hn_)⟩)); replace HO_15 := Aside0.mk (Kd.R_mono (ok' := fun k_ => (P2_ k_ ∨ w.heap.size ≤ k_) ∧ some k_ ≠ (.slice (some ad475) l2.length co12 : Value).ownBlock ∧ some k_ ≠ (v491 : Value).ownBlock) (Kd.R_keptB (HO_15.out) hkp (fun k_ hk_ hs_ => (hk_.2) hs_)) (fun k_ hk_ => ⟨hk_.1.1.1, hk_.1.1.2, fun e_ => Or.elim (ho0.1 k_ e_.symm) (fun hs_ => hk_.2.1 hs_) (fun hn_ => Nat.not_le.2 hk_.2.2 hn_)⟩)); replace HK := Aside0.mk (qR83); replace HB := Aside0.mk (hb); clear HO489; clear hb ho0))
              go_roundg kj16
              case measure => have := HK1.out; have := HJ16.out; omega
              case rel => exact ⟨(x15_1), (x16_1), (wrap64 (x17_1 + 1)), (qR12), (qR12), H', ⟨by have := HK1.out; have := HJ16.out; omega⟩, ⟨(qR41 HO_2.out)⟩, ⟨(qR41 HO_15.out)⟩, ⟨(qR17)⟩, ⟨(qR0)⟩⟩
           ·rw [if_neg c27] at H; have c27b0 : decide (0 ≤ t493) = false := decide_eq_false c27; clear c27; have H' := Aside0.mk H; clear H
            go_wp2_with (first | ((with_reducible refine gate_callee (f := 72) rfl ?_); refine goesL_ (some 68) rfl rfl Try.func72 (by kernel_rfl) rfl #[.slice (some ad475) l2.length co12] rfl (qR2) ?_; (with_reducible refine (spec_l1Own.calls _ _ l2 t484 _ ?s1 ?s2 A24.out).mono ?_); (case s1 => exact (qR5 HO_2.out)); (case s2 => exact (qR32 HO_2.out)); rintro e w42 ⟨v485, rfl, ho0, hb⟩; refine ⟨_, rfl, ?_⟩; have HO486 := Aside0.mk (qR108); replace HO_2 := Aside0.mk (qR65 HO_2.out ho0); replace HO_15 := Aside0.mk (qR65 HO_15.out ho0); replace HK := Aside0.mk (qR96); replace HB := Aside0.mk (qR62); clear hb ho0) | ((with_reducible refine gate_builtin (b := .append) (xs := #[.tmp 68, .tmp 70]) rfl ?_); at_builtin; refine Kd.R_append (Kd.int .i64) (w0 := w0) w0.heap.size rfl (.tmp 68) (.tmp 70) 25 3 (.int .i64 0) 8 rfl Try.underlying25 info3 rfl (by decide) (by omega) v485 t484 x17_1 [.int .i64 x17_1] (fun k_ => (P2_ k_ ∨ w.heap.size ≤ k_) ∧ some k_ ≠ (.slice (some ad475) l2.length co12 : Value).ownBlock ∧ some k_ ≠ (u15 : Value).ownBlock) (fun _ => False) rfl rfl ?aP (fun _ hk => hk.elim) ?aF ?aO ?aB ?aS ?aL ?_; (case aP => exact rfl); (case aB => exact (qR0)); (case aF => exact (qR109)); (case aO => exact (qR43)); (case aS => exact (qR84)); (case aL => have := LMc25.out; omega); intro v488 w43 ho hb hg hat; rw [← Ny487.out] at ho; replace HO_2 := Aside0.mk (qR81); replace HO_15 := Aside0.mk (qR75); replace HB := Aside0.mk (hb); replace HK := Aside0.mk (qR89); have HO489 := Aside0.mk (ho); clear HO486; clear ho hb hg hat; obtain ⟨Ao44, co44, eo44⟩ := Kd.R_slice HO489.out; subst eo44) | ((with_reducible refine gate_callee (f := 41) rfl ?_); refine goesL_ (some 74) rfl rfl Try.func41 (by kernel_rfl) rfl #[.slice A0 l0.length c0, .slice A1 l1.length c1, .slice Ao44 y487.length co44, .int .i64 a3, .int .i64 a4] rfl (qR2) ?_; (with_reducible refine (ih kj16 (qR59) _ _ l0 _ _ l1 (fun k_ => some k_ = (.slice Ao44 y487.length co44 : Value).ownBlock) (.slice Ao44 y487.length co44) y487 a3 a4 t490 t493 w0 _ ?s1 ?s2 ?s3 ?s4 ?s5 ?s6 A26.out).mono ?_); (case s1 => exact (qR0)); (case s2 => exact (qR77 HR0.out HO489.out)); (case s3 => exact HC0.out); (case s4 => exact (qR77 HR1.out HO489.out)); (case s5 => exact HC1.out); (case s6 => exact (qR60)); rintro e w45 ⟨v491, rfl, ho0, hb, hkp⟩; refine ⟨_, rfl, ?_⟩; have HO492 := Aside0.mk (Kd.R_mono (ok' := fun k_ => (P2_ k_ ∨ w.heap.size ≤ k_) ∧ some k_ ≠ (.slice (some ad475) l2.length co12 : Value).ownBlock ∧ some k_ ≠ (u15 : Value).ownBlock) ho0 (fun k_ hk_ => ⟨Or.elim hk_ (fun hs_ => (HO489.out.1 k_ (hs_).symm).1) (fun hn_ => (.inr (Nat.le_trans (qR67) hn_))), Or.elim hk_ (fun hs_ => fun e_ => (((HO_2.out).1 k_ e_.symm).2) hs_) (fun hn_ => (Kd.fresh' (Kd.R_lt (qR1 HO_2.out)) k_ hn_)), Or.elim hk_ (fun hs_ => fun e_ => (((HO_15.out).1 k_ e_.symm).2) hs_) (fun hn_ => (Kd.fresh' (Kd.R_lt (qR1 HO_15.out)) k_ hn_))⟩)); replace HO_2 := Aside0.mk (Kd.R_mono (ok' := fun k_ => (P2_ k_ ∨ w.heap.size ≤ k_) ∧ some k_ ≠ (u15 : Value).ownBlock ∧ some k_ ≠ (v491 : Value).ownBlock) (Kd.R_keptB (HO_2.out) hkp (fun k_ hk_ hs_ => (hk_.2) hs_)) (fun k_ hk_ => ⟨hk_.1.1.1, hk_.1.1.2, fun e_ => Or.elim (ho0.1 k_ e_.symm) (fun hs_ => hk_.2.1 hs_) (fun hn_ => Nat.not_le.2 hk_.2.2 hn_)⟩)); replace HO_15 := Aside0.mk (Kd.R_mono (ok' := fun k_ => (P2_ k_ ∨ w.heap.size ≤ k_) ∧ some k_ ≠ (.slice (some ad475) l2.length co12 : Value).ownBlock ∧ some k_ ≠ (v491 : Value).ownBlock) (Kd.R_keptB (HO_15.out) hkp (fun k_ hk_ hs_ => (hk_.2) hs_)) (fun k_ hk_ => ⟨hk_.1.1.1, hk_.1.1.2, fun e_ => Or.elim (ho0.1 k_ e_.symm) (fun hs_ => hk_.2.1 hs_) (fun hn_ => Nat.not_le.2 hk_.2.2 hn_)⟩)); replace HK := Aside0.mk (qR83); replace HB := Aside0.mk (hb); clear HO489; clear hb ho0))
            go_roundg kj16
            case measure => have := HK1.out; have := HJ16.out; omega
            case rel => exact ⟨(x15_1), (x16_1), (wrap64 (x17_1 + 1)), (qR12), (qR12), H', ⟨by have := HK1.out; have := HJ16.out; omega⟩, ⟨(qR41 HO_2.out)⟩, ⟨(qR41 HO_15.out)⟩, ⟨(qR17)⟩, ⟨(qR0)⟩⟩
          ·rw [if_neg c25] at H
           exact absurd H (by simp)
      ·rw [if_neg c15] at H; have c15b0 : decide (x17_1 < 8) = false := decide_eq_false c15; clear c15; simp only [Option.some.injEq, Prod.mk.injEq] at H; obtain ⟨rfl, rfl⟩ := H
       go_wp2
       go_ret2
       exact ⟨_, (qR54), (by (with_reducible repeat (first | apply Kd.R_alloc | apply Kd.R_drewN | apply Kd.R_drew)); exact Kd.R_mono HO_15.out (fun _ hk => hk.1)), (qR0), (qR17)⟩
  ·rw [if_neg c8] at H
   exact absurd H (by simp)
 ·rw [if_neg c7] at H
  exact absurd H (by simp)

/-! ### spec_BestRoute: function 8 -/
def spec_BestRoute.f (k : Nat) (l0 : List (S58)) (l1 : List Int) (a2 : Int) (a3 : Int) (a4 : Int) : Option (List Int × Bool) := (spec_l15Asked.f k l0 l1 a2 a3).bind fun t494 => (if t494 = true then ((spec_l12Far.f a4).bind fun t495 => (if t495 = true then ((spec_l15Best.f k l0 l1 (([a2] : List Int)) a3 a4).bind fun bt499 => (some (bt499.1, decide (bt499.2 ≥ 0)))) else (some ((([] : List Int)), false)))) else (some ((([] : List Int)), false)))
theorem spec_BestRoute.mono : ∀ a0 a1 a2 a3 a4 k, LeO (spec_BestRoute.f k a0 a1 a2 a3 a4) (spec_BestRoute.f (k + 1) a0 a1 a2 a3 a4) := by
 intro a0 a1 a2 a3 a4 k
 unfold spec_BestRoute.f
 have m0 := @spec_l15Asked.mono; have m1 := @spec_l15Best.mono
 exact qmono
theorem spec_BestRoute.calls (k : Nat) (A0 : Option Addr) (c0 : Nat) (l0 : List (S58)) (A1 : Option Addr) (c1 : Nat) (l1 : List Int) (a2 : Int) (a3 : Int) (a4 : Int) (r1 : List Int) (r2 : Bool) (w : World) (hr0 : Kd.C k58 w A0 l0.length l0) (hc0 : l0.length ≤ c0) (hr1 : Kd.C (Kd.int .i64) w A1 l1.length l1) (hc1 : l1.length ≤ c1) (h : spec_BestRoute.f k l0 l1 a2 a3 a4 = some (r1, r2)) :
  Calls Try.prog 8 #[.slice A0 l0.length c0, .slice A1 l1.length c1, .int .i64 a2, .int .i64 a3, .int .i64 a4] w fun e w' => ∃ v0_ : Value, e = .returned (.tuple #[v0_, .bool r2]) ∧ Kd.R (Kd.int .i64) 3 w' w.heap.size (fun _ => True) v0_ r1 ∧ Below w.heap.size w w' := by
 have HR0 := Aside0.mk hr0; have HC0 := Aside0.mk hc0; clear hr0 hc0; have HR1 := Aside0.mk hr1; have HC1 := Aside0.mk hc1; clear hr1 hc1; have HB := Aside0.mk (Below.refl w.heap.size w); have H : ((spec_l15Asked.f k l0 l1 a2 a3).bind fun t494 => (if t494 = true then ((spec_l12Far.f a4).bind fun t495 => (if t495 = true then ((spec_l15Best.f k l0 l1 (([a2] : List Int)) a3 a4).bind fun bt499 => (some (bt499.1, decide (bt499.2 ≥ 0)))) else (some ((([] : List Int)), false)))) else (some ((([] : List Int)), false)))) = some (r1, r2) := h; clear h; replace H := bindA H; obtain ⟨t494, A6, H⟩ := H; (try dsimp only at H)
 by_cases c7 : t494 = true
 ·subst c7; rw [if_pos rfl] at H; replace H := bindA H; obtain ⟨t495, A8, H⟩ := H; (try dsimp only at H)
  by_cases c9 : t495 = true
  ·subst c9; rw [if_pos rfl] at H; obtain ⟨y496, hy496⟩ : ∃ y_ : List Int, y_ = (([a2] : List Int)) := ⟨_, rfl⟩; replace H : ((spec_l15Best.f k l0 l1 y496 a3 a4).bind fun bt499 => (some (bt499.1, decide (bt499.2 ≥ 0)))) = some (r1, r2) := (qR6 hy496); have Ny496 := Aside0.mk hy496; clear hy496; replace H := Option.bind_eq_some_iff.mp H; obtain ⟨⟨t499, t502⟩, A100, H⟩ := H; replace H : (some (t499, decide (t502 ≥ 0))) = some (r1, r2) := H; have A10 := Aside0.mk A100; clear A100; simp only [Option.some.injEq, Prod.mk.injEq] at H; obtain ⟨rfl, rfl⟩ := H
   go_enter Try.func8, Try.ntmps8
   go_wp2_with (first | ((with_reducible refine gate_callee (f := 39) rfl ?_); refine goesL_ (some 18) rfl rfl Try.func39 (by kernel_rfl) rfl #[.slice A0 l0.length c0, .slice A1 l1.length c1, .int .i64 a2, .int .i64 a3] rfl (qR2) ?_; (with_reducible refine (spec_l15Asked.calls k _ _ l0 _ _ l1 a2 a3 true _ ?s1 ?s2 ?s3 ?s4 A6.out).mono ?_); (case s1 => exact (qR11 HR0.out)); (case s2 => exact HC0.out); (case s3 => exact (qR11 HR1.out)); (case s4 => exact HC1.out); rintro e w11 ⟨rfl, hb⟩; refine ⟨_, rfl, ?_⟩; replace HB := Aside0.mk (qR62); clear hb) | (go_at_call 40; (with_reducible refine (spec_l12Far.calls a4 true _ A8.out).mono ?_); rintro e w' ⟨rfl, ⟨nd, rfl⟩⟩) | ((with_reducible refine gate_dst (N := 30) rfl ?_); refine Kd.R_lit (Kd.int .i64) _ 3 ?hg (N := 30) ?hd (xs := ([a2] : List Int)) (inner := [.int .i64 a2]) (ok := fun _ => True) (okp := fun _ => True) ?hr ?hp (fun _ hk => hk) trivial (Below.refl _ _) (Nat.le_refl _) (by simp) ?_; (case hd => rfl); (case hg => rfl); (case hr => exact (qR25)); (case hp => exact (qR50)); intro v497 w12 ho13 hb hg_ hnew_; clear hg_ hnew_; (first | rw [← Ny496.out] at ho13 | (simp only [Int.reduceToNat] at ho13; rw [← Ny496.out] at ho13)); have HO498 := Aside0.mk (qR70 ho13); replace HB := Aside0.mk (qR62); clear hb ho13; obtain ⟨Ao14, co14, eo14⟩ := Kd.R_slice HO498.out; subst eo14) | ((with_reducible refine gate_callee (f := 41) rfl ?_); refine goesL_ (some 33) rfl rfl Try.func41 (by kernel_rfl) rfl #[.slice A0 l0.length c0, .slice A1 l1.length c1, .slice Ao14 y496.length co14, .int .i64 a3, .int .i64 a4] rfl (qR2) ?_; (with_reducible refine (spec_l15Best.calls k _ _ l0 _ _ l1 (fun k_ => some k_ = (.slice Ao14 y496.length co14 : Value).ownBlock) (.slice Ao14 y496.length co14) y496 a3 a4 t499 t502 w _ ?s1 ?s2 ?s3 ?s4 ?s5 ?s6 A10.out).mono ?_); (case s1 => exact (qR0)); (case s2 => exact (by exact Kd.C_kept_came k58_heap HR0.out (qR0) (fun k_ hs_ => (fun e_ => Kd.R_base HO498.out k_ e_.symm) hs_))); (case s3 => exact HC0.out); (case s4 => exact (by exact Kd.C_kept_came (Kd.heap_int .i64) HR1.out (qR0) (fun k_ hs_ => (fun e_ => Kd.R_base HO498.out k_ e_.symm) hs_))); (case s5 => exact HC1.out); (case s6 => exact (by exact Kd.R_tight rfl HO498.out)); rintro e w15 ⟨v500, rfl, ho0, hb, hkp⟩; refine ⟨_, rfl, ?_⟩; have HO501 := Aside0.mk (Kd.R_mono (ok' := fun k_ => True) ho0 (fun k_ hk_ => trivial)); replace HB := Aside0.mk (hb); clear HO498; clear hb ho0))
   go_ret2
   exact ⟨_, (qR10), (qR1 HO501.out), (qR0)⟩
  ·replace c9 := Bool.eq_false_iff.mpr c9; subst c9; rw [if_neg (show ¬ (false = true) by decide)] at H; obtain ⟨y503, hy503⟩ : ∃ y_ : List Int, y_ = (([] : List Int)) := ⟨_, rfl⟩; replace H : (some (y503, false)) = some (r1, r2) := (qR6 hy503); have Ny503 := Aside0.mk hy503; clear hy503; simp only [Option.some.injEq, Prod.mk.injEq] at H; obtain ⟨rfl, rfl⟩ := H
   go_enter Try.func8, Try.ntmps8
   go_wp2_with (first | ((with_reducible refine gate_callee (f := 39) rfl ?_); refine goesL_ (some 18) rfl rfl Try.func39 (by kernel_rfl) rfl #[.slice A0 l0.length c0, .slice A1 l1.length c1, .int .i64 a2, .int .i64 a3] rfl (qR2) ?_; (with_reducible refine (spec_l15Asked.calls k _ _ l0 _ _ l1 a2 a3 true _ ?s1 ?s2 ?s3 ?s4 A6.out).mono ?_); (case s1 => exact (qR11 HR0.out)); (case s2 => exact HC0.out); (case s3 => exact (qR11 HR1.out)); (case s4 => exact HC1.out); rintro e w16 ⟨rfl, hb⟩; refine ⟨_, rfl, ?_⟩; replace HB := Aside0.mk (qR62); clear hb) | (go_at_call 40; (with_reducible refine (spec_l12Far.calls a4 false _ A8.out).mono ?_); rintro e w' ⟨rfl, ⟨nd, rfl⟩⟩) | ((with_reducible refine gate_dst (N := 25) rfl ?_); refine Kd.R_lit (Kd.int .i64) _ 3 ?hg (N := 25) ?hd (xs := ([] : List Int)) (inner := []) (ok := fun _ => True) (okp := fun _ => True) ?hr ?hp (fun _ hk => hk) trivial (Below.refl _ _) (Nat.le_refl _) (by simp) ?_; (case hd => rfl); (case hg => rfl); (case hr => exact (qR25)); (case hp => exact (Reps.none _ _)); intro v504 w17 ho18 hb hg_ hnew_; clear hg_ hnew_; (first | rw [← Ny503.out] at ho18 | (simp only [Int.reduceToNat] at ho18; rw [← Ny503.out] at ho18)); have HO505 := Aside0.mk (qR70 ho18); replace HB := Aside0.mk (qR62); clear hb ho18))
   go_ret2
   exact ⟨_, (qR10), (qR1 HO505.out), (qR0)⟩
 ·replace c7 := Bool.eq_false_iff.mpr c7; subst c7; rw [if_neg (show ¬ (false = true) by decide)] at H; obtain ⟨y506, hy506⟩ : ∃ y_ : List Int, y_ = (([] : List Int)) := ⟨_, rfl⟩; replace H : (some (y506, false)) = some (r1, r2) := (qR6 hy506); have Ny506 := Aside0.mk hy506; clear hy506; simp only [Option.some.injEq, Prod.mk.injEq] at H; obtain ⟨rfl, rfl⟩ := H
  go_enter Try.func8, Try.ntmps8
  go_wp2_with (first | ((with_reducible refine gate_callee (f := 39) rfl ?_); refine goesL_ (some 18) rfl rfl Try.func39 (by kernel_rfl) rfl #[.slice A0 l0.length c0, .slice A1 l1.length c1, .int .i64 a2, .int .i64 a3] rfl (qR2) ?_; (with_reducible refine (spec_l15Asked.calls k _ _ l0 _ _ l1 a2 a3 false _ ?s1 ?s2 ?s3 ?s4 A6.out).mono ?_); (case s1 => exact (qR11 HR0.out)); (case s2 => exact HC0.out); (case s3 => exact (qR11 HR1.out)); (case s4 => exact HC1.out); rintro e w19 ⟨rfl, hb⟩; refine ⟨_, rfl, ?_⟩; replace HB := Aside0.mk (qR62); clear hb) | ((with_reducible refine gate_dst (N := 25) rfl ?_); refine Kd.R_lit (Kd.int .i64) _ 3 ?hg (N := 25) ?hd (xs := ([] : List Int)) (inner := []) (ok := fun _ => True) (okp := fun _ => True) ?hr ?hp (fun _ hk => hk) trivial (Below.refl _ _) (Nat.le_refl _) (by simp) ?_; (case hd => rfl); (case hg => rfl); (case hr => exact (qR25)); (case hp => exact (Reps.none _ _)); intro v507 w20 ho21 hb hg_ hnew_; clear hg_ hnew_; (first | rw [← Ny506.out] at ho21 | (simp only [Int.reduceToNat] at ho21; rw [← Ny506.out] at ho21)); have HO508 := Aside0.mk (qR70 ho21); replace HB := Aside0.mk (qR62); clear hb ho21))
  go_ret2
  exact ⟨_, (qR10), (qR1 HO508.out), (qR0)⟩

end Go.Proofs.Ytoljdjgndogegaa.MR
