-- Written by a program of this session (wip/drv.py) out of Lean's own print of the loaded program; hand-proved parts from wip/inj.
import Derived.Test.YtkjjnfjmnifoiaaMAx0
namespace Go.Proofs.Ytkjjnfjmnifoiaa.MA
open Go.RowKit Go.Proofs.YtkjjnfjmnifoiaaW.PrintWords Go.Proofs.YtkjjnfjmnifoiaaW.PrintLast Go.Proofs.YtkjjnfjmnifoiaaW.PrintMore
attribute [local go_sem] max2_int min2_int max_two min_two max_three min_three max_four min_four   -- for this text's walks alone
set_option linter.unusedVariables false
set_option linter.unusedSimpArgs false

/-! ### spec_l15Leg: function 88 -/
mutual
def spec_l15Leg.l0 : Nat → List (S69) → List Int → Int → Int → Int → Int → Option (Int)
  | 0, _, _, _, _, _, _ => none
  | k + 1, x0, x1, x2, x3, x9, x10 => if x10 < (x0.length : Int) then (if 0 ≤ x10 then (if ((rd_T69 x0 x10).f0) = x2 then (if ((rd_T69 x0 x10).f1) = x3 then (spec_l15Leg.j1 k x0 x1 x2 x3 x9 x10 false) else (if ((rd_T69 x0 x10).f0) = x3 then (spec_l15Leg.j1 k x0 x1 x2 x3 x9 x10 (((rd_T69 x0 x10).f1) != x2)) else (spec_l15Leg.j1 k x0 x1 x2 x3 x9 x10 true))) else (if ((rd_T69 x0 x10).f0) = x3 then (spec_l15Leg.j1 k x0 x1 x2 x3 x9 x10 (((rd_T69 x0 x10).f1) != x2)) else (spec_l15Leg.j1 k x0 x1 x2 x3 x9 x10 true))) else (none)) else (some x9)
def spec_l15Leg.j1 : Nat → List (S69) → List Int → Int → Int → Int → Int → Bool → Option (Int)
  | 0, _, _, _, _, _, _, _ => none
  | k + 1, x0, x1, x2, x3, x9, x10, x50 => if x50 = true then (spec_l15Leg.l0 k x0 x1 x2 x3 x9 (wrap64 (x10 + 1))) else (if x9 < 0 then (spec_l15Leg.l0 k x0 x1 x2 x3 x10 (wrap64 (x10 + 1))) else (if 0 ≤ x10 then (if x10 < (x1.length : Int) then (if 0 ≤ x9 then (if x9 < (x1.length : Int) then (if (rd x1 x10) > (rd x1 x9) then (spec_l15Leg.l0 k x0 x1 x2 x3 x10 (wrap64 (x10 + 1))) else (if (rd x1 x10) = (rd x1 x9) then (if x10 < (x0.length : Int) then (if x9 < (x0.length : Int) then (if ((rd_T69 x0 x10).f2) < ((rd_T69 x0 x9).f2) then (spec_l15Leg.l0 k x0 x1 x2 x3 x10 (wrap64 (x10 + 1))) else (spec_l15Leg.l0 k x0 x1 x2 x3 x9 (wrap64 (x10 + 1)))) else (none)) else (none)) else (spec_l15Leg.l0 k x0 x1 x2 x3 x9 (wrap64 (x10 + 1))))) else (none)) else (none)) else (none)) else (none)))
end
def spec_l15Leg.f (k : Nat) (l0 : List (S69)) (l1 : List Int) (a2 : Int) (a3 : Int) : Option (Int) := spec_l15Leg.l0 k l0 l1 a2 a3 (-1) 0
theorem spec_l15Leg.mono_l : ∀ k, (∀ y0 y1 y2 y3 y4 y5, LeO (spec_l15Leg.l0 k y0 y1 y2 y3 y4 y5) (spec_l15Leg.l0 (k + 1) y0 y1 y2 y3 y4 y5)) ∧ (∀ y0 y1 y2 y3 y4 y5 y6, LeO (spec_l15Leg.j1 k y0 y1 y2 y3 y4 y5 y6) (spec_l15Leg.j1 (k + 1) y0 y1 y2 y3 y4 y5 y6))
  | 0 => ⟨fun _ _ _ _ _ _ r h => by simp [spec_l15Leg.l0] at h, fun _ _ _ _ _ _ _ r h => by simp [spec_l15Leg.j1] at h⟩
  | k + 1 => by
    obtain ⟨ih0, ih1⟩ := spec_l15Leg.mono_l k
    refine ⟨?_, ?_⟩
    · intro y0 y1 y2 y3 y4 y5
      unfold spec_l15Leg.l0
      repeat' first
      | (with_reducible exact ih0 _ _ _ _ _ _)
      | (with_reducible exact ih1 _ _ _ _ _ _ _)
      | (with_reducible exact LeO.refl _)
      | (with_reducible exact LeO.none _)
      | (with_reducible refine LeO.ite ?_ ?_)
      | (with_reducible refine LeO.bind ?_ (fun _ => ?_))
      | exact ih0 _ _ _ _ _ _
      | exact ih1 _ _ _ _ _ _ _
      | exact LeO.none _
      | refine LeO.ite ?_ ?_
      | refine LeO.bind ?_ (fun _ => ?_)
    · intro y0 y1 y2 y3 y4 y5 y6
      unfold spec_l15Leg.j1
      repeat' first
      | (with_reducible exact ih0 _ _ _ _ _ _)
      | (with_reducible exact ih1 _ _ _ _ _ _ _)
      | (with_reducible exact LeO.refl _)
      | (with_reducible exact LeO.none _)
      | (with_reducible refine LeO.ite ?_ ?_)
      | (with_reducible refine LeO.bind ?_ (fun _ => ?_))
      | exact ih0 _ _ _ _ _ _
      | exact ih1 _ _ _ _ _ _ _
      | exact LeO.none _
      | refine LeO.ite ?_ ?_
      | refine LeO.bind ?_ (fun _ => ?_)
theorem spec_l15Leg.mono : ∀ a0 a1 a2 a3 k, LeO (spec_l15Leg.f k a0 a1 a2 a3) (spec_l15Leg.f (k + 1) a0 a1 a2 a3) := by
  intro a0 a1 a2 a3 k
  obtain ⟨ih0, ih1⟩ := spec_l15Leg.mono_l k
  unfold spec_l15Leg.f
  repeat' first
      | (with_reducible exact ih0 _ _ _ _ _ _)
      | (with_reducible exact ih1 _ _ _ _ _ _ _)
      | (with_reducible exact LeO.refl _)
      | (with_reducible exact LeO.none _)
      | (with_reducible refine LeO.ite ?_ ?_)
      | (with_reducible refine LeO.bind ?_ (fun _ => ?_))
      | exact ih0 _ _ _ _ _ _
      | exact ih1 _ _ _ _ _ _ _
      | exact LeO.none _
      | refine LeO.ite ?_ ?_
      | refine LeO.bind ?_ (fun _ => ?_)
set_option maxHeartbeats 8000000 in
set_option maxRecDepth 100000 in
theorem spec_l15Leg.calls (k : Nat) (A0 : Option Addr) (c0 : Nat) (l0 : List (S69)) (A1 : Option Addr) (c1 : Nat) (l1 : List Int) (a2 : Int) (a3 : Int) (r : Int) (w : World) (hr0 : Kd.C k69 w A0 l0.length l0) (hc0 : l0.length ≤ c0) (hr1 : Kd.C (Kd.int .i64) w A1 l1.length l1) (hc1 : l1.length ≤ c1) (h : spec_l15Leg.f k l0 l1 a2 a3 = some r) :
    Calls Try.prog 88 #[.slice A0 l0.length c0, .slice A1 l1.length c1, .int .i64 a2, .int .i64 a3] w fun e w' => e = .returned (.int .i64 r) ∧ Drawn0 w w' := by
  have HR0 := Aside0.mk hr0
  have HC0 := Aside0.mk hc0
  clear hr0 hc0
  have HR1 := Aside0.mk hr1
  have HC1 := Aside0.mk hc1
  clear hr1 hc1
  have H : (spec_l15Leg.l0 k l0 l1 a2 a3 (-1) 0) = some r := h
  clear h
  have H' := Aside0.mk H
  clear H
  go_enter Try.func88, Try.ntmps88
  go_wp2
  repeat (go_quiet (fail); try go_wp2)
  go_loopg [9, 10] k (fun kq v9 v10 w' => ∃ (x9_1 : Int) (x10_1 : Int), v9 = .int .i64 x9_1 ∧ v10 = .int .i64 x10_1 ∧ Aside0 (spec_l15Leg.l0 kq l0 l1 a2 a3 x9_1 x10_1 = some r) ∧ Aside0 (kq ≤ k) ∧ Drawn0 w w')
  case atStart => exact ⟨((-1)), (0), (by first | rfl | (simp; done) | (simp [*]; done)), (by first | rfl | (simp; done) | (simp [*]; done)), H', ⟨Nat.le_refl _⟩, by repeat (first | exact Drawn0.refl _ | apply Drawn0.step)⟩
  case round =>
    clear H'
    try clear c1
    try clear p2
    obtain ⟨x9_1, x10_1, rfl, rfl, HA, HK1, ⟨m1, rfl⟩⟩ := hrel
    cases gk with
    | zero => exact absurd HA.out (by simp [spec_l15Leg.l0])
    | succ k1 =>
      have H := HA.out
      clear HA
      simp only [spec_l15Leg.l0] at H
      by_cases c5 : x10_1 < (l0.length : Int)
      · rw [if_pos c5] at H
        have c5b0 : decide (x10_1 < (l0.length : Int)) = true := decide_eq_true c5
        clear c5
        have HC6 := Aside0.mk H
        clear H
        go_upto_region 5 with (fail)
        repeat (go_quiet (fail); go_upto_region 5 with (fail))
        go_cut [50] (fun v50 wc => ∃ (kq : Nat) (x50_5 : Bool), v50 = .bool x50_5 ∧ Aside0 (spec_l15Leg.j1 kq l0 l1 a2 a3 x9_1 x10_1 x50_5 = some r) ∧ Aside0 (kq ≤ k1) ∧ Drawn0 w wc)
        case first =>
          have H := HC6.out
          clear HC6
          by_cases c7 : 0 ≤ x10_1
          · rw [if_pos c7] at H
            have c7b0 : decide (0 ≤ x10_1) = true := decide_eq_true c7
            clear c7
            (first | rw [c7b0] | (simp only [i64_w, i32_w]; rw [c7b0]) | skip)
            by_cases c8 : ((rd_T69 l0 x10_1).f0) = a2
            · rw [if_pos c8] at H
              have c8b0 : (((rd_T69 l0 x10_1).f0) == a2) = true := beq_iff_eq.mpr c8
              have c8b1 : (((rd_T69 l0 x10_1).f0) != a2) = false := bne_eq_false_iff_eq.mpr c8
              clear c8
              by_cases c9 : ((rd_T69 l0 x10_1).f1) = a3
              · rw [if_pos c9] at H
                have c9b0 : (((rd_T69 l0 x10_1).f1) == a3) = true := beq_iff_eq.mpr c9
                have c9b1 : (((rd_T69 l0 x10_1).f1) != a3) = false := bne_eq_false_iff_eq.mpr c9
                clear c9
                have H' := Aside0.mk H
                clear H
                have p387 : 0 ≤ (x10_1 : Int) := of_decide_eq_true (by first | (with_reducible assumption) | assumption)
                have q387 : x10_1 < (l0.length : Int) := of_decide_eq_true (by first | (with_reducible assumption) | assumption)
                obtain ⟨ad387, e387, hx387_0, hx387_1, hx387_2, hx387_3, hx387_4⟩ := at_T69 HR0.out x10_1 p387 q387
                cases e387
                replace p387 := eq_true p387
                replace q387 := eq_true q387
                have p388 : 0 ≤ (x10_1 : Int) := of_decide_eq_true (by first | (with_reducible assumption) | assumption)
                have q388 : x10_1 < (l0.length : Int) := of_decide_eq_true (by first | (with_reducible assumption) | assumption)
                obtain ⟨ad388, e388, hx388_0, hx388_1, hx388_2, hx388_3, hx388_4⟩ := at_T69 HR0.out x10_1 p388 q388
                obtain rfl : ad387 = ad388 := (by injection e388)
                replace p388 := eq_true p388
                replace q388 := eq_true q388
                go_wp2
                repeat (go_quiet (fail); try go_wp2)
                go_meet
                case rel => exact ⟨_, (false), (by first | rfl | (simp; done) | (simp [*]; done)), H', ⟨by have := HK1.out; first | omega | exact Nat.le_refl _⟩, by repeat (first | exact Drawn0.refl _ | apply Drawn0.step)⟩
              · rw [if_neg c9] at H
                have c9b0 : (((rd_T69 l0 x10_1).f1) == a3) = false := beq_eq_false_iff_ne.mpr c9
                have c9b1 : (((rd_T69 l0 x10_1).f1) != a3) = true := bne_iff_ne.mpr c9
                by_cases c10 : ((rd_T69 l0 x10_1).f0) = a3
                · rw [if_pos c10] at H
                  have c10b0 : (((rd_T69 l0 x10_1).f0) == a3) = true := beq_iff_eq.mpr c10
                  have c10b1 : (((rd_T69 l0 x10_1).f0) != a3) = false := bne_eq_false_iff_eq.mpr c10
                  clear c10
                  have H' := Aside0.mk H
                  clear H
                  have p387 : 0 ≤ (x10_1 : Int) := of_decide_eq_true (by first | (with_reducible assumption) | assumption)
                  have q387 : x10_1 < (l0.length : Int) := of_decide_eq_true (by first | (with_reducible assumption) | assumption)
                  obtain ⟨ad387, e387, hx387_0, hx387_1, hx387_2, hx387_3, hx387_4⟩ := at_T69 HR0.out x10_1 p387 q387
                  cases e387
                  replace p387 := eq_true p387
                  replace q387 := eq_true q387
                  have p388 : 0 ≤ (x10_1 : Int) := of_decide_eq_true (by first | (with_reducible assumption) | assumption)
                  have q388 : x10_1 < (l0.length : Int) := of_decide_eq_true (by first | (with_reducible assumption) | assumption)
                  obtain ⟨ad388, e388, hx388_0, hx388_1, hx388_2, hx388_3, hx388_4⟩ := at_T69 HR0.out x10_1 p388 q388
                  obtain rfl : ad387 = ad388 := (by injection e388)
                  replace p388 := eq_true p388
                  replace q388 := eq_true q388
                  have p389 : 0 ≤ (x10_1 : Int) := of_decide_eq_true (by first | (with_reducible assumption) | assumption)
                  have q389 : x10_1 < (l0.length : Int) := of_decide_eq_true (by first | (with_reducible assumption) | assumption)
                  obtain ⟨ad389, e389, hx389_0, hx389_1, hx389_2, hx389_3, hx389_4⟩ := at_T69 HR0.out x10_1 p389 q389
                  obtain rfl : ad387 = ad389 := (by injection e389)
                  replace p389 := eq_true p389
                  replace q389 := eq_true q389
                  have p390 : 0 ≤ (x10_1 : Int) := of_decide_eq_true (by first | (with_reducible assumption) | assumption)
                  have q390 : x10_1 < (l0.length : Int) := of_decide_eq_true (by first | (with_reducible assumption) | assumption)
                  obtain ⟨ad390, e390, hx390_0, hx390_1, hx390_2, hx390_3, hx390_4⟩ := at_T69 HR0.out x10_1 p390 q390
                  obtain rfl : ad387 = ad390 := (by injection e390)
                  replace p390 := eq_true p390
                  replace q390 := eq_true q390
                  go_wp2
                  repeat (go_quiet (fail); try go_wp2)
                  go_meet
                  case rel => exact ⟨_, ((((rd_T69 l0 x10_1).f1) != a2)), (by first | rfl | (simp; done) | (simp [*]; done)), H', ⟨by have := HK1.out; first | omega | exact Nat.le_refl _⟩, by repeat (first | exact Drawn0.refl _ | apply Drawn0.step)⟩
                · rw [if_neg c10] at H
                  have c10b0 : (((rd_T69 l0 x10_1).f0) == a3) = false := beq_eq_false_iff_ne.mpr c10
                  have c10b1 : (((rd_T69 l0 x10_1).f0) != a3) = true := bne_iff_ne.mpr c10
                  have H' := Aside0.mk H
                  clear H
                  have p387 : 0 ≤ (x10_1 : Int) := of_decide_eq_true (by first | (with_reducible assumption) | assumption)
                  have q387 : x10_1 < (l0.length : Int) := of_decide_eq_true (by first | (with_reducible assumption) | assumption)
                  obtain ⟨ad387, e387, hx387_0, hx387_1, hx387_2, hx387_3, hx387_4⟩ := at_T69 HR0.out x10_1 p387 q387
                  cases e387
                  replace p387 := eq_true p387
                  replace q387 := eq_true q387
                  have p388 : 0 ≤ (x10_1 : Int) := of_decide_eq_true (by first | (with_reducible assumption) | assumption)
                  have q388 : x10_1 < (l0.length : Int) := of_decide_eq_true (by first | (with_reducible assumption) | assumption)
                  obtain ⟨ad388, e388, hx388_0, hx388_1, hx388_2, hx388_3, hx388_4⟩ := at_T69 HR0.out x10_1 p388 q388
                  obtain rfl : ad387 = ad388 := (by injection e388)
                  replace p388 := eq_true p388
                  replace q388 := eq_true q388
                  have p389 : 0 ≤ (x10_1 : Int) := of_decide_eq_true (by first | (with_reducible assumption) | assumption)
                  have q389 : x10_1 < (l0.length : Int) := of_decide_eq_true (by first | (with_reducible assumption) | assumption)
                  obtain ⟨ad389, e389, hx389_0, hx389_1, hx389_2, hx389_3, hx389_4⟩ := at_T69 HR0.out x10_1 p389 q389
                  obtain rfl : ad387 = ad389 := (by injection e389)
                  replace p389 := eq_true p389
                  replace q389 := eq_true q389
                  go_wp2
                  repeat (go_quiet (fail); try go_wp2)
                  go_meet
                  case rel => exact ⟨_, (true), (by first | rfl | (simp; done) | (simp [*]; done)), H', ⟨by have := HK1.out; first | omega | exact Nat.le_refl _⟩, by repeat (first | exact Drawn0.refl _ | apply Drawn0.step)⟩
            · rw [if_neg c8] at H
              have c8b0 : (((rd_T69 l0 x10_1).f0) == a2) = false := beq_eq_false_iff_ne.mpr c8
              have c8b1 : (((rd_T69 l0 x10_1).f0) != a2) = true := bne_iff_ne.mpr c8
              by_cases c11 : ((rd_T69 l0 x10_1).f0) = a3
              · rw [if_pos c11] at H
                have c11b0 : (((rd_T69 l0 x10_1).f0) == a3) = true := beq_iff_eq.mpr c11
                have c11b1 : (((rd_T69 l0 x10_1).f0) != a3) = false := bne_eq_false_iff_eq.mpr c11
                clear c11
                have H' := Aside0.mk H
                clear H
                have p387 : 0 ≤ (x10_1 : Int) := of_decide_eq_true (by first | (with_reducible assumption) | assumption)
                have q387 : x10_1 < (l0.length : Int) := of_decide_eq_true (by first | (with_reducible assumption) | assumption)
                obtain ⟨ad387, e387, hx387_0, hx387_1, hx387_2, hx387_3, hx387_4⟩ := at_T69 HR0.out x10_1 p387 q387
                cases e387
                replace p387 := eq_true p387
                replace q387 := eq_true q387
                have p391 : 0 ≤ (x10_1 : Int) := of_decide_eq_true (by first | (with_reducible assumption) | assumption)
                have q391 : x10_1 < (l0.length : Int) := of_decide_eq_true (by first | (with_reducible assumption) | assumption)
                obtain ⟨ad391, e391, hx391_0, hx391_1, hx391_2, hx391_3, hx391_4⟩ := at_T69 HR0.out x10_1 p391 q391
                obtain rfl : ad387 = ad391 := (by injection e391)
                replace p391 := eq_true p391
                replace q391 := eq_true q391
                have p392 : 0 ≤ (x10_1 : Int) := of_decide_eq_true (by first | (with_reducible assumption) | assumption)
                have q392 : x10_1 < (l0.length : Int) := of_decide_eq_true (by first | (with_reducible assumption) | assumption)
                obtain ⟨ad392, e392, hx392_0, hx392_1, hx392_2, hx392_3, hx392_4⟩ := at_T69 HR0.out x10_1 p392 q392
                obtain rfl : ad387 = ad392 := (by injection e392)
                replace p392 := eq_true p392
                replace q392 := eq_true q392
                go_wp2
                repeat (go_quiet (fail); try go_wp2)
                go_meet
                case rel => exact ⟨_, ((((rd_T69 l0 x10_1).f1) != a2)), (by first | rfl | (simp; done) | (simp [*]; done)), H', ⟨by have := HK1.out; first | omega | exact Nat.le_refl _⟩, by repeat (first | exact Drawn0.refl _ | apply Drawn0.step)⟩
              · rw [if_neg c11] at H
                have c11b0 : (((rd_T69 l0 x10_1).f0) == a3) = false := beq_eq_false_iff_ne.mpr c11
                have c11b1 : (((rd_T69 l0 x10_1).f0) != a3) = true := bne_iff_ne.mpr c11
                have H' := Aside0.mk H
                clear H
                have p387 : 0 ≤ (x10_1 : Int) := of_decide_eq_true (by first | (with_reducible assumption) | assumption)
                have q387 : x10_1 < (l0.length : Int) := of_decide_eq_true (by first | (with_reducible assumption) | assumption)
                obtain ⟨ad387, e387, hx387_0, hx387_1, hx387_2, hx387_3, hx387_4⟩ := at_T69 HR0.out x10_1 p387 q387
                cases e387
                replace p387 := eq_true p387
                replace q387 := eq_true q387
                have p391 : 0 ≤ (x10_1 : Int) := of_decide_eq_true (by first | (with_reducible assumption) | assumption)
                have q391 : x10_1 < (l0.length : Int) := of_decide_eq_true (by first | (with_reducible assumption) | assumption)
                obtain ⟨ad391, e391, hx391_0, hx391_1, hx391_2, hx391_3, hx391_4⟩ := at_T69 HR0.out x10_1 p391 q391
                obtain rfl : ad387 = ad391 := (by injection e391)
                replace p391 := eq_true p391
                replace q391 := eq_true q391
                go_wp2
                repeat (go_quiet (fail); try go_wp2)
                go_meet
                case rel => exact ⟨_, (true), (by first | rfl | (simp; done) | (simp [*]; done)), H', ⟨by have := HK1.out; first | omega | exact Nat.le_refl _⟩, by repeat (first | exact Drawn0.refl _ | apply Drawn0.step)⟩
          · rw [if_neg c7] at H
            exact absurd H (by simp)
        case rest =>
          clear HC6
          try clear c1
          try clear p2
          try clear p3
          try clear q3
          try clear hx3
          try clear c5
          try clear c5b0
          try clear c7
          try clear c7b0
          try clear c8
          try clear c8b0
          try clear c8b1
          try clear c9
          try clear c9b0
          try clear c9b1
          try clear c10
          try clear c10b0
          try clear c10b1
          try clear c11
          try clear c11b0
          try clear c11b1
          try clear hx387_0
          try clear hx387_1
          try clear hx387_2
          try clear hx387_3
          try clear hx387_4
          try clear hx388_0
          try clear hx388_1
          try clear hx388_2
          try clear hx388_3
          try clear hx388_4
          try clear hx389_0
          try clear hx389_1
          try clear hx389_2
          try clear hx389_3
          try clear hx389_4
          try clear hx390_0
          try clear hx390_1
          try clear hx390_2
          try clear hx390_3
          try clear hx390_4
          try clear hx391_0
          try clear hx391_1
          try clear hx391_2
          try clear hx391_3
          try clear hx391_4
          try clear hx392_0
          try clear hx392_1
          try clear hx392_2
          try clear hx392_3
          try clear hx392_4
          try clear p2
          try clear p387
          try clear p388
          try clear p389
          try clear p390
          try clear p391
          try clear p392
          try clear q387
          try clear q388
          try clear q389
          try clear q390
          try clear q391
          try clear q392
          obtain ⟨kq, x50_5, rfl, HA, HJ5, ⟨mc5, rfl⟩⟩ := hcut
          cases kq with
          | zero => exact absurd HA.out (by simp [spec_l15Leg.j1])
          | succ kj5 =>
            have H := HA.out
            clear HA
            simp only [spec_l15Leg.j1] at H
            by_cases c12 : x50_5 = true
            · subst c12
              have H1 : (spec_l15Leg.l0 kj5 l0 l1 a2 a3 x9_1 (wrap64 (x10_1 + 1))) = some r := by rw [if_pos rfl] at H; exact H
              clear H
              have H := H1
              clear H1
              have H' := Aside0.mk H
              clear H
              go_wp2
              repeat (go_quiet (fail); try go_wp2)
              go_roundg kj5
              case measure => have := HK1.out; have := HJ5.out; omega
              case rel => exact ⟨(x9_1), (wrap64 (x10_1 + 1)), (by first | rfl | (simp; done) | (simp [*]; done)), (by first | rfl | (simp; done) | (simp [*]; done)), H', ⟨by have := HK1.out; have := HJ5.out; omega⟩, by repeat (first | exact Drawn0.refl _ | apply Drawn0.step)⟩
            · replace c12 := Bool.eq_false_iff.mpr c12
              subst c12
              have H1 : (if x9_1 < 0 then (spec_l15Leg.l0 kj5 l0 l1 a2 a3 x10_1 (wrap64 (x10_1 + 1))) else (if 0 ≤ x10_1 then (if x10_1 < (l1.length : Int) then (if 0 ≤ x9_1 then (if x9_1 < (l1.length : Int) then (if (rd l1 x10_1) > (rd l1 x9_1) then (spec_l15Leg.l0 kj5 l0 l1 a2 a3 x10_1 (wrap64 (x10_1 + 1))) else (if (rd l1 x10_1) = (rd l1 x9_1) then (if x10_1 < (l0.length : Int) then (if x9_1 < (l0.length : Int) then (if ((rd_T69 l0 x10_1).f2) < ((rd_T69 l0 x9_1).f2) then (spec_l15Leg.l0 kj5 l0 l1 a2 a3 x10_1 (wrap64 (x10_1 + 1))) else (spec_l15Leg.l0 kj5 l0 l1 a2 a3 x9_1 (wrap64 (x10_1 + 1)))) else (none)) else (none)) else (spec_l15Leg.l0 kj5 l0 l1 a2 a3 x9_1 (wrap64 (x10_1 + 1))))) else (none)) else (none)) else (none)) else (none))) = some r := by rw [if_neg (show ¬ (false = true) by decide)] at H; exact H
              clear H
              have H := H1
              clear H1
              by_cases c13 : x9_1 < 0
              · rw [if_pos c13] at H
                have c13b0 : decide (x9_1 < 0) = true := decide_eq_true c13
                clear c13
                have H' := Aside0.mk H
                clear H
                go_wp2
                repeat (go_quiet (fail); try go_wp2)
                go_roundg kj5
                case measure => have := HK1.out; have := HJ5.out; omega
                case rel => exact ⟨(x10_1), (wrap64 (x10_1 + 1)), (by first | rfl | (simp; done) | (simp [*]; done)), (by first | rfl | (simp; done) | (simp [*]; done)), H', ⟨by have := HK1.out; have := HJ5.out; omega⟩, by repeat (first | exact Drawn0.refl _ | apply Drawn0.step)⟩
              · rw [if_neg c13] at H
                have c13b0 : decide (x9_1 < 0) = false := decide_eq_false c13
                clear c13
                by_cases c14 : 0 ≤ x10_1
                · rw [if_pos c14] at H
                  have c14b0 : decide (0 ≤ x10_1) = true := decide_eq_true c14
                  clear c14
                  by_cases c15 : x10_1 < (l1.length : Int)
                  · rw [if_pos c15] at H
                    have c15b0 : decide (x10_1 < (l1.length : Int)) = true := decide_eq_true c15
                    clear c15
                    by_cases c16 : 0 ≤ x9_1
                    · rw [if_pos c16] at H
                      have c16b0 : decide (0 ≤ x9_1) = true := decide_eq_true c16
                      clear c16
                      by_cases c17 : x9_1 < (l1.length : Int)
                      · rw [if_pos c17] at H
                        have c17b0 : decide (x9_1 < (l1.length : Int)) = true := decide_eq_true c17
                        clear c17
                        by_cases c18 : (rd l1 x10_1) > (rd l1 x9_1)
                        · rw [if_pos c18] at H
                          have c18b0 : decide ((rd l1 x9_1) < (rd l1 x10_1)) = true := decide_eq_true c18
                          clear c18
                          have H' := Aside0.mk H
                          clear H
                          have p393 : 0 ≤ (x10_1 : Int) := of_decide_eq_true (by first | (with_reducible assumption) | assumption)
                          have q393 : x10_1 < (l1.length : Int) := of_decide_eq_true (by first | (with_reducible assumption) | assumption)
                          obtain ⟨ad393, e393, hx393_0⟩ := Kd.at_int HR1.out x10_1 p393 q393
                          cases e393
                          replace p393 := eq_true p393
                          replace q393 := eq_true q393
                          have p394 : 0 ≤ (x9_1 : Int) := of_decide_eq_true (by first | (with_reducible assumption) | assumption)
                          have q394 : x9_1 < (l1.length : Int) := of_decide_eq_true (by first | (with_reducible assumption) | assumption)
                          obtain ⟨ad394, e394, hx394_0⟩ := Kd.at_int HR1.out x9_1 p394 q394
                          obtain rfl : ad393 = ad394 := (by injection e394)
                          replace p394 := eq_true p394
                          replace q394 := eq_true q394
                          go_wp2
                          repeat (go_quiet (fail); try go_wp2)
                          go_roundg kj5
                          case measure => have := HK1.out; have := HJ5.out; omega
                          case rel => exact ⟨(x10_1), (wrap64 (x10_1 + 1)), (by first | rfl | (simp; done) | (simp [*]; done)), (by first | rfl | (simp; done) | (simp [*]; done)), H', ⟨by have := HK1.out; have := HJ5.out; omega⟩, by repeat (first | exact Drawn0.refl _ | apply Drawn0.step)⟩
                        · rw [if_neg c18] at H
                          have c18b0 : decide ((rd l1 x9_1) < (rd l1 x10_1)) = false := decide_eq_false c18
                          clear c18
                          by_cases c19 : (rd l1 x10_1) = (rd l1 x9_1)
                          · rw [if_pos c19] at H
                            have c19b0 : ((rd l1 x10_1) == (rd l1 x9_1)) = true := beq_iff_eq.mpr c19
                            have c19b1 : ((rd l1 x10_1) != (rd l1 x9_1)) = false := bne_eq_false_iff_eq.mpr c19
                            clear c19
                            by_cases c20 : x10_1 < (l0.length : Int)
                            · rw [if_pos c20] at H
                              have c20b0 : decide (x10_1 < (l0.length : Int)) = true := decide_eq_true c20
                              clear c20
                              by_cases c21 : x9_1 < (l0.length : Int)
                              · rw [if_pos c21] at H
                                have c21b0 : decide (x9_1 < (l0.length : Int)) = true := decide_eq_true c21
                                clear c21
                                by_cases c22 : ((rd_T69 l0 x10_1).f2) < ((rd_T69 l0 x9_1).f2)
                                · rw [if_pos c22] at H
                                  have c22b0 : decide (((rd_T69 l0 x10_1).f2) < ((rd_T69 l0 x9_1).f2)) = true := decide_eq_true c22
                                  clear c22
                                  have H' := Aside0.mk H
                                  clear H
                                  have p393 : 0 ≤ (x10_1 : Int) := of_decide_eq_true (by first | (with_reducible assumption) | assumption)
                                  have q393 : x10_1 < (l1.length : Int) := of_decide_eq_true (by first | (with_reducible assumption) | assumption)
                                  obtain ⟨ad393, e393, hx393_0⟩ := Kd.at_int HR1.out x10_1 p393 q393
                                  cases e393
                                  replace p393 := eq_true p393
                                  replace q393 := eq_true q393
                                  have p394 : 0 ≤ (x9_1 : Int) := of_decide_eq_true (by first | (with_reducible assumption) | assumption)
                                  have q394 : x9_1 < (l1.length : Int) := of_decide_eq_true (by first | (with_reducible assumption) | assumption)
                                  obtain ⟨ad394, e394, hx394_0⟩ := Kd.at_int HR1.out x9_1 p394 q394
                                  obtain rfl : ad393 = ad394 := (by injection e394)
                                  replace p394 := eq_true p394
                                  replace q394 := eq_true q394
                                  have p395 : 0 ≤ (x10_1 : Int) := of_decide_eq_true (by first | (with_reducible assumption) | assumption)
                                  have q395 : x10_1 < (l1.length : Int) := of_decide_eq_true (by first | (with_reducible assumption) | assumption)
                                  obtain ⟨ad395, e395, hx395_0⟩ := Kd.at_int HR1.out x10_1 p395 q395
                                  obtain rfl : ad393 = ad395 := (by injection e395)
                                  replace p395 := eq_true p395
                                  replace q395 := eq_true q395
                                  have p396 : 0 ≤ (x9_1 : Int) := of_decide_eq_true (by first | (with_reducible assumption) | assumption)
                                  have q396 : x9_1 < (l1.length : Int) := of_decide_eq_true (by first | (with_reducible assumption) | assumption)
                                  obtain ⟨ad396, e396, hx396_0⟩ := Kd.at_int HR1.out x9_1 p396 q396
                                  obtain rfl : ad393 = ad396 := (by injection e396)
                                  replace p396 := eq_true p396
                                  replace q396 := eq_true q396
                                  have p397 : 0 ≤ (x10_1 : Int) := of_decide_eq_true (by first | (with_reducible assumption) | assumption)
                                  have q397 : x10_1 < (l0.length : Int) := of_decide_eq_true (by first | (with_reducible assumption) | assumption)
                                  obtain ⟨ad397, e397, hx397_0, hx397_1, hx397_2, hx397_3, hx397_4⟩ := at_T69 HR0.out x10_1 p397 q397
                                  cases e397
                                  replace p397 := eq_true p397
                                  replace q397 := eq_true q397
                                  have p398 : 0 ≤ (x9_1 : Int) := of_decide_eq_true (by first | (with_reducible assumption) | assumption)
                                  have q398 : x9_1 < (l0.length : Int) := of_decide_eq_true (by first | (with_reducible assumption) | assumption)
                                  obtain ⟨ad398, e398, hx398_0, hx398_1, hx398_2, hx398_3, hx398_4⟩ := at_T69 HR0.out x9_1 p398 q398
                                  obtain rfl : ad397 = ad398 := (by injection e398)
                                  replace p398 := eq_true p398
                                  replace q398 := eq_true q398
                                  go_wp2
                                  repeat (go_quiet (fail); try go_wp2)
                                  go_roundg kj5
                                  case measure => have := HK1.out; have := HJ5.out; omega
                                  case rel => exact ⟨(x10_1), (wrap64 (x10_1 + 1)), (by first | rfl | (simp; done) | (simp [*]; done)), (by first | rfl | (simp; done) | (simp [*]; done)), H', ⟨by have := HK1.out; have := HJ5.out; omega⟩, by repeat (first | exact Drawn0.refl _ | apply Drawn0.step)⟩
                                · rw [if_neg c22] at H
                                  have c22b0 : decide (((rd_T69 l0 x10_1).f2) < ((rd_T69 l0 x9_1).f2)) = false := decide_eq_false c22
                                  clear c22
                                  have H' := Aside0.mk H
                                  clear H
                                  have p393 : 0 ≤ (x10_1 : Int) := of_decide_eq_true (by first | (with_reducible assumption) | assumption)
                                  have q393 : x10_1 < (l1.length : Int) := of_decide_eq_true (by first | (with_reducible assumption) | assumption)
                                  obtain ⟨ad393, e393, hx393_0⟩ := Kd.at_int HR1.out x10_1 p393 q393
                                  cases e393
                                  replace p393 := eq_true p393
                                  replace q393 := eq_true q393
                                  have p394 : 0 ≤ (x9_1 : Int) := of_decide_eq_true (by first | (with_reducible assumption) | assumption)
                                  have q394 : x9_1 < (l1.length : Int) := of_decide_eq_true (by first | (with_reducible assumption) | assumption)
                                  obtain ⟨ad394, e394, hx394_0⟩ := Kd.at_int HR1.out x9_1 p394 q394
                                  obtain rfl : ad393 = ad394 := (by injection e394)
                                  replace p394 := eq_true p394
                                  replace q394 := eq_true q394
                                  have p395 : 0 ≤ (x10_1 : Int) := of_decide_eq_true (by first | (with_reducible assumption) | assumption)
                                  have q395 : x10_1 < (l1.length : Int) := of_decide_eq_true (by first | (with_reducible assumption) | assumption)
                                  obtain ⟨ad395, e395, hx395_0⟩ := Kd.at_int HR1.out x10_1 p395 q395
                                  obtain rfl : ad393 = ad395 := (by injection e395)
                                  replace p395 := eq_true p395
                                  replace q395 := eq_true q395
                                  have p396 : 0 ≤ (x9_1 : Int) := of_decide_eq_true (by first | (with_reducible assumption) | assumption)
                                  have q396 : x9_1 < (l1.length : Int) := of_decide_eq_true (by first | (with_reducible assumption) | assumption)
                                  obtain ⟨ad396, e396, hx396_0⟩ := Kd.at_int HR1.out x9_1 p396 q396
                                  obtain rfl : ad393 = ad396 := (by injection e396)
                                  replace p396 := eq_true p396
                                  replace q396 := eq_true q396
                                  have p397 : 0 ≤ (x10_1 : Int) := of_decide_eq_true (by first | (with_reducible assumption) | assumption)
                                  have q397 : x10_1 < (l0.length : Int) := of_decide_eq_true (by first | (with_reducible assumption) | assumption)
                                  obtain ⟨ad397, e397, hx397_0, hx397_1, hx397_2, hx397_3, hx397_4⟩ := at_T69 HR0.out x10_1 p397 q397
                                  cases e397
                                  replace p397 := eq_true p397
                                  replace q397 := eq_true q397
                                  have p398 : 0 ≤ (x9_1 : Int) := of_decide_eq_true (by first | (with_reducible assumption) | assumption)
                                  have q398 : x9_1 < (l0.length : Int) := of_decide_eq_true (by first | (with_reducible assumption) | assumption)
                                  obtain ⟨ad398, e398, hx398_0, hx398_1, hx398_2, hx398_3, hx398_4⟩ := at_T69 HR0.out x9_1 p398 q398
                                  obtain rfl : ad397 = ad398 := (by injection e398)
                                  replace p398 := eq_true p398
                                  replace q398 := eq_true q398
                                  go_wp2
                                  repeat (go_quiet (fail); try go_wp2)
                                  go_roundg kj5
                                  case measure => have := HK1.out; have := HJ5.out; omega
                                  case rel => exact ⟨(x9_1), (wrap64 (x10_1 + 1)), (by first | rfl | (simp; done) | (simp [*]; done)), (by first | rfl | (simp; done) | (simp [*]; done)), H', ⟨by have := HK1.out; have := HJ5.out; omega⟩, by repeat (first | exact Drawn0.refl _ | apply Drawn0.step)⟩
                              · rw [if_neg c21] at H
                                exact absurd H (by simp)
                            · rw [if_neg c20] at H
                              exact absurd H (by simp)
                          · rw [if_neg c19] at H
                            have c19b0 : ((rd l1 x10_1) == (rd l1 x9_1)) = false := beq_eq_false_iff_ne.mpr c19
                            have c19b1 : ((rd l1 x10_1) != (rd l1 x9_1)) = true := bne_iff_ne.mpr c19
                            have H' := Aside0.mk H
                            clear H
                            have p393 : 0 ≤ (x10_1 : Int) := of_decide_eq_true (by first | (with_reducible assumption) | assumption)
                            have q393 : x10_1 < (l1.length : Int) := of_decide_eq_true (by first | (with_reducible assumption) | assumption)
                            obtain ⟨ad393, e393, hx393_0⟩ := Kd.at_int HR1.out x10_1 p393 q393
                            cases e393
                            replace p393 := eq_true p393
                            replace q393 := eq_true q393
                            have p394 : 0 ≤ (x9_1 : Int) := of_decide_eq_true (by first | (with_reducible assumption) | assumption)
                            have q394 : x9_1 < (l1.length : Int) := of_decide_eq_true (by first | (with_reducible assumption) | assumption)
                            obtain ⟨ad394, e394, hx394_0⟩ := Kd.at_int HR1.out x9_1 p394 q394
                            obtain rfl : ad393 = ad394 := (by injection e394)
                            replace p394 := eq_true p394
                            replace q394 := eq_true q394
                            have p395 : 0 ≤ (x10_1 : Int) := of_decide_eq_true (by first | (with_reducible assumption) | assumption)
                            have q395 : x10_1 < (l1.length : Int) := of_decide_eq_true (by first | (with_reducible assumption) | assumption)
                            obtain ⟨ad395, e395, hx395_0⟩ := Kd.at_int HR1.out x10_1 p395 q395
                            obtain rfl : ad393 = ad395 := (by injection e395)
                            replace p395 := eq_true p395
                            replace q395 := eq_true q395
                            have p396 : 0 ≤ (x9_1 : Int) := of_decide_eq_true (by first | (with_reducible assumption) | assumption)
                            have q396 : x9_1 < (l1.length : Int) := of_decide_eq_true (by first | (with_reducible assumption) | assumption)
                            obtain ⟨ad396, e396, hx396_0⟩ := Kd.at_int HR1.out x9_1 p396 q396
                            obtain rfl : ad393 = ad396 := (by injection e396)
                            replace p396 := eq_true p396
                            replace q396 := eq_true q396
                            go_wp2
                            repeat (go_quiet (fail); try go_wp2)
                            go_roundg kj5
                            case measure => have := HK1.out; have := HJ5.out; omega
                            case rel => exact ⟨(x9_1), (wrap64 (x10_1 + 1)), (by first | rfl | (simp; done) | (simp [*]; done)), (by first | rfl | (simp; done) | (simp [*]; done)), H', ⟨by have := HK1.out; have := HJ5.out; omega⟩, by repeat (first | exact Drawn0.refl _ | apply Drawn0.step)⟩
                      · rw [if_neg c17] at H
                        exact absurd H (by simp)
                    · rw [if_neg c16] at H
                      exact absurd H (by simp)
                  · rw [if_neg c15] at H
                    exact absurd H (by simp)
                · rw [if_neg c14] at H
                  exact absurd H (by simp)
      · rw [if_neg c5] at H
        have c5b0 : decide (x10_1 < (l0.length : Int)) = false := decide_eq_false c5
        clear c5
        obtain rfl := Option.some.inj H
        go_wp2
        repeat (go_quiet (fail); try go_wp2)
        go_ret
        exact ⟨by first | rfl | (simp; done) | (simp [*]; done), by repeat (first | exact Drawn0.refl _ | apply Drawn0.step)⟩

end Go.Proofs.Ytkjjnfjmnifoiaa.MA
