-- Written by a program of this session (wip/drv.py, wip/tight2.py). -- tight2
import Derived.Test.YtmbpdegkkdcjnaaDoorMWx0
import Derived.Test.YtmbpdegkkdcjnaaDoorMWx3
namespace Go.Proofs.YtmbpdegkkdcjnaaDoor.MW
open Go.RowKit Go.Proofs.YtmbpdegkkdcjnaaDoorW.PrintWords Go.Proofs.YtmbpdegkkdcjnaaDoorW.PrintLast Go.Proofs.YtmbpdegkkdcjnaaDoorW.PrintMore
set_option maxHeartbeats 8000000
set_option maxRecDepth 100000
attribute [local go_sem] max2_int min2_int max_two min_two max_three min_three max_four min_four   -- for this text's walks alone
set_option linter.unusedVariables false
set_option linter.unusedSimpArgs false

/-! ### laws_rTable: function 8 -/
def laws_rTable.l0 : Nat → List (List Int) → List (List Int) → Int → Option (Bool)
 | 0, _, _, _ => none
 | k + 1, x0, x1, x5 => if x5 < (x0.length : Int) then (if 0 ≤ x5 then (if x5 < (x1.length : Int) then ((laws_rInts.f k (rd_L4 x0 x5) (rd_L4 x1 x5)).bind fun t231 => (if t231 = true then (laws_rTable.l0 k x0 x1 (wrap64 (x5 + 1))) else (some false))) else (none)) else (none)) else (some true)
def laws_rTable.f (k : Nat) (l0 : List (List Int)) (l1 : List (List Int)) : Option (Bool) := if (l0.length : Int) = (l1.length : Int) then (laws_rTable.l0 k l0 l1 0) else (some false)
theorem laws_rTable.mono_l : ∀ k, (∀ y0 y1 y2, LeO (laws_rTable.l0 k y0 y1 y2) (laws_rTable.l0 (k + 1) y0 y1 y2))
 | 0 => fun _ _ _ r h => by simp [laws_rTable.l0] at h
 | k + 1 => by
  have ih0 := laws_rTable.mono_l k
  ·intro y0 y1 y2
   unfold laws_rTable.l0
   have m0 := @laws_rInts.mono
   exact qmono
theorem laws_rTable.mono : ∀ a0 a1 k, LeO (laws_rTable.f k a0 a1) (laws_rTable.f (k + 1) a0 a1) := by
 intro a0 a1 k
 have ih0 := laws_rTable.mono_l k
 unfold laws_rTable.f
 have m0 := @laws_rInts.mono
 exact qmono
theorem laws_rTable.calls (k : Nat) (A0 : Option Addr) (c0 : Nat) (l0 : List (List Int)) (A1 : Option Addr) (c1 : Nat) (l1 : List (List Int)) (r : Bool) (w : World) (hr0 : Kd.C (Kd.slice 3 (Kd.int .i64)) w A0 l0.length l0) (hc0 : l0.length ≤ c0) (hr1 : Kd.C (Kd.slice 3 (Kd.int .i64)) w A1 l1.length l1) (hc1 : l1.length ≤ c1) (h : laws_rTable.f k l0 l1 = some r) :
  Calls Tryd.prog 8 #[.slice A0 l0.length c0, .slice A1 l1.length c1] w fun e w' => e = .returned (.bool r) ∧ Drawn0 w w' := by
 have HR0 := Aside0.mk hr0; have HC0 := Aside0.mk hc0; clear hr0 hc0; have HR1 := Aside0.mk hr1; have HC1 := Aside0.mk hc1; clear hr1 hc1
 have H : (if (l0.length : Int) = (l1.length : Int) then (laws_rTable.l0 k l0 l1 0) else (some false)) = some r := h
 clear h
 by_cases c3 : (l0.length : Int) = (l1.length : Int)
 ·rw [if_pos c3] at H
  have c3b0 : ((l0.length : Int) == (l1.length : Int)) = true := beq_iff_eq.mpr c3
  have c3b1 : ((l0.length : Int) != (l1.length : Int)) = false := bne_eq_false_iff_eq.mpr c3
  have c3b2 : (l0.length == l1.length) = true := by first | simpa using c3 | (simp at c3 ⊢; omega)
  clear c3
  have H' := Aside0.mk H
  clear H
  go_enter Tryd.func8, Tryd.ntmps8
  go_wp2
  repeat (go_quiet (fail); try go_wp2)
  go_loopg [5] k (fun kq v5 w' => ∃ (x5_1 : Int), v5 = .int .i64 x5_1 ∧ Aside0 (laws_rTable.l0 kq l0 l1 x5_1 = some r) ∧ Aside0 (kq ≤ k) ∧ Drawn0 w w')
  case atStart => exact ⟨(0), (qW14), H', ⟨Nat.le_refl _⟩, (qW32)⟩
  case round =>
   clear H'
   try clear c1
   try clear p2
   try clear c3
   try clear c3b0
   try clear c3b1
   try clear c3b2
   obtain ⟨x5_1, rfl, HA, HK1, ⟨m1, rfl⟩⟩ := hrel
   cases gk with
   | zero => exact absurd HA.out (by simp [laws_rTable.l0])
   | succ k1 =>
    have H := HA.out
    clear HA
    simp only [laws_rTable.l0] at H
    by_cases c4 : x5_1 < (l0.length : Int)
    ·rw [if_pos c4] at H
     have c4b0 : decide (x5_1 < (l0.length : Int)) = true := decide_eq_true c4
     clear c4
     by_cases c5 : 0 ≤ x5_1
     ·rw [if_pos c5] at H
      have c5b0 : decide (0 ≤ x5_1) = true := decide_eq_true c5
      clear c5
      by_cases c6 : x5_1 < (l1.length : Int)
      ·rw [if_pos c6] at H
       have c6b0 : decide (x5_1 < (l1.length : Int)) = true := decide_eq_true c6
       clear c6; replace H := Option.bind_eq_some_iff.mp H; obtain ⟨t231, A70, H⟩ := H
       try dsimp only at H
       have A7 := Aside0.mk A70; clear A70
       by_cases c8 : t231 = true
       ·subst c8; rw [if_pos rfl] at H
        have H' := Aside0.mk H
        clear H
        have p229 : 0 ≤ (x5_1 : Int) := of_decide_eq_true (qW13)
        have q229 : x5_1 < (l0.length : Int) := of_decide_eq_true (qW13)
        obtain ⟨ad229, A229_0, c229_0, e229, hx229_0, hl229_0, hi229_0⟩ := at_L4 HR0.out x5_1 p229 q229
        cases e229
        have HR229_0 := Aside0.mk hi229_0; have HC229_0 := Aside0.mk hl229_0; clear hi229_0 hl229_0
        replace p229 := eq_true p229
        replace q229 := eq_true q229
        have p230 : 0 ≤ (x5_1 : Int) := of_decide_eq_true (qW13)
        have q230 : x5_1 < (l1.length : Int) := of_decide_eq_true (qW13)
        obtain ⟨ad230, A230_0, c230_0, e230, hx230_0, hl230_0, hi230_0⟩ := at_L4 HR1.out x5_1 p230 q230
        cases e230
        have HR230_0 := Aside0.mk hi230_0; have HC230_0 := Aside0.mk hl230_0; clear hi230_0 hl230_0
        replace p230 := eq_true p230
        replace q230 := eq_true q230
        go_wp2_with (first | (go_at_call 24; (with_reducible refine (laws_rInts.calls k1 _ _ (rd_L4 l0 x5_1) _ _ (rd_L4 l1 x5_1) true _ ?side1 ?side2 ?side3 ?side4 A7.out).mono ?_); (case side1 => exact (qW46)); (case side2 => exact HC229_0.out); (case side3 => exact (qW45)); (case side4 => exact HC230_0.out); rintro e w' ⟨rfl, ⟨nd, rfl⟩⟩; (try first | exact ⟨rfl, _, World.drewN_drewN _ _ _⟩ | exact ⟨rfl, _, Eq.trans (World.drewN_drewN _ _ _) (congrArg (World.drewN _) (Nat.add_assoc _ _ _))⟩)))
        repeat (go_quiet (first | (go_at_call 24; (with_reducible refine (laws_rInts.calls k1 _ _ (rd_L4 l0 x5_1) _ _ (rd_L4 l1 x5_1) true _ ?side1 ?side2 ?side3 ?side4 A7.out).mono ?_); (case side1 => exact (qW46)); (case side2 => exact HC229_0.out); (case side3 => exact (qW45)); (case side4 => exact HC230_0.out); rintro e w' ⟨rfl, ⟨nd, rfl⟩⟩; (try first | exact ⟨rfl, _, World.drewN_drewN _ _ _⟩ | exact ⟨rfl, _, Eq.trans (World.drewN_drewN _ _ _) (congrArg (World.drewN _) (Nat.add_assoc _ _ _))⟩))); try go_wp2_with (first | (go_at_call 24; (with_reducible refine (laws_rInts.calls k1 _ _ (rd_L4 l0 x5_1) _ _ (rd_L4 l1 x5_1) true _ ?side1 ?side2 ?side3 ?side4 A7.out).mono ?_); (case side1 => exact (qW46)); (case side2 => exact HC229_0.out); (case side3 => exact (qW45)); (case side4 => exact HC230_0.out); rintro e w' ⟨rfl, ⟨nd, rfl⟩⟩; (try first | exact ⟨rfl, _, World.drewN_drewN _ _ _⟩ | exact ⟨rfl, _, Eq.trans (World.drewN_drewN _ _ _) (congrArg (World.drewN _) (Nat.add_assoc _ _ _))⟩))))
        go_roundg k1
        case measure => have := HK1.out; omega
        case rel => exact ⟨(wrap64 (x5_1 + 1)), (qW14), H', ⟨by have := HK1.out; omega⟩, (qW32)⟩
       ·replace c8 := Bool.eq_false_iff.mpr c8
        subst c8
        rw [if_neg (show ¬ (false = true) by decide)] at H
        obtain rfl := Option.some.inj H
        have p229 : 0 ≤ (x5_1 : Int) := of_decide_eq_true (qW13)
        have q229 : x5_1 < (l0.length : Int) := of_decide_eq_true (qW13)
        obtain ⟨ad229, A229_0, c229_0, e229, hx229_0, hl229_0, hi229_0⟩ := at_L4 HR0.out x5_1 p229 q229
        cases e229
        have HR229_0 := Aside0.mk hi229_0; have HC229_0 := Aside0.mk hl229_0; clear hi229_0 hl229_0
        replace p229 := eq_true p229
        replace q229 := eq_true q229
        have p230 : 0 ≤ (x5_1 : Int) := of_decide_eq_true (qW13)
        have q230 : x5_1 < (l1.length : Int) := of_decide_eq_true (qW13)
        obtain ⟨ad230, A230_0, c230_0, e230, hx230_0, hl230_0, hi230_0⟩ := at_L4 HR1.out x5_1 p230 q230
        cases e230
        have HR230_0 := Aside0.mk hi230_0; have HC230_0 := Aside0.mk hl230_0; clear hi230_0 hl230_0
        replace p230 := eq_true p230
        replace q230 := eq_true q230
        go_wp2_with (first | (go_at_call 24; (with_reducible refine (laws_rInts.calls k1 _ _ (rd_L4 l0 x5_1) _ _ (rd_L4 l1 x5_1) false _ ?side1 ?side2 ?side3 ?side4 A7.out).mono ?_); (case side1 => exact (qW46)); (case side2 => exact HC229_0.out); (case side3 => exact (qW45)); (case side4 => exact HC230_0.out); rintro e w' ⟨rfl, ⟨nd, rfl⟩⟩; (try first | exact ⟨rfl, _, World.drewN_drewN _ _ _⟩ | exact ⟨rfl, _, Eq.trans (World.drewN_drewN _ _ _) (congrArg (World.drewN _) (Nat.add_assoc _ _ _))⟩)))
        repeat (go_quiet (first | (go_at_call 24; (with_reducible refine (laws_rInts.calls k1 _ _ (rd_L4 l0 x5_1) _ _ (rd_L4 l1 x5_1) false _ ?side1 ?side2 ?side3 ?side4 A7.out).mono ?_); (case side1 => exact (qW46)); (case side2 => exact HC229_0.out); (case side3 => exact (qW45)); (case side4 => exact HC230_0.out); rintro e w' ⟨rfl, ⟨nd, rfl⟩⟩; (try first | exact ⟨rfl, _, World.drewN_drewN _ _ _⟩ | exact ⟨rfl, _, Eq.trans (World.drewN_drewN _ _ _) (congrArg (World.drewN _) (Nat.add_assoc _ _ _))⟩))); try go_wp2_with (first | (go_at_call 24; (with_reducible refine (laws_rInts.calls k1 _ _ (rd_L4 l0 x5_1) _ _ (rd_L4 l1 x5_1) false _ ?side1 ?side2 ?side3 ?side4 A7.out).mono ?_); (case side1 => exact (qW46)); (case side2 => exact HC229_0.out); (case side3 => exact (qW45)); (case side4 => exact HC230_0.out); rintro e w' ⟨rfl, ⟨nd, rfl⟩⟩; (try first | exact ⟨rfl, _, World.drewN_drewN _ _ _⟩ | exact ⟨rfl, _, Eq.trans (World.drewN_drewN _ _ _) (congrArg (World.drewN _) (Nat.add_assoc _ _ _))⟩))))
        go_ret
        exact ⟨(qW14), (qW32)⟩
      ·rw [if_neg c6] at H
       exact absurd H (by simp)
     ·rw [if_neg c5] at H
      exact absurd H (by simp)
    ·rw [if_neg c4] at H
     have c4b0 : decide (x5_1 < (l0.length : Int)) = false := decide_eq_false c4
     clear c4; obtain rfl := Option.some.inj H
     go_wp2
     repeat (go_quiet (fail); try go_wp2)
     go_ret
     exact ⟨(qW14), (qW32)⟩
 ·rw [if_neg c3] at H
  have c3b0 : ((l0.length : Int) == (l1.length : Int)) = false := beq_eq_false_iff_ne.mpr c3
  have c3b1 : ((l0.length : Int) != (l1.length : Int)) = true := bne_iff_ne.mpr c3
  have c3b2 : (l0.length == l1.length) = false := by first | simpa using c3 | (simp at c3 ⊢; omega)
  obtain rfl := Option.some.inj H
  go_enter Tryd.func8, Tryd.ntmps8
  go_wp2
  repeat (go_quiet (fail); try go_wp2)
  go_ret
  exact ⟨(qW14), (qW32)⟩

/-! ### impl_Climb: function 10 -/
def impl_Climb.l0 : Nat → Int → Int → List (S44) → Int → Int → Option (Int × Int × Bool)
 | 0, _, _, _, _, _ => none
 | k + 1, x5, x6, x12, x13, x14 => if x14 < x13 then (if 0 ≤ x14 then (if x14 < (x12.length : Int) then (impl_Climb.l0 k (wrap64 (x5 + (mx ((rd_T44 x12 x14).f1) 0))) (wrap64 (x6 + (mx (wrap64 (-((rd_T44 x12 x14).f1))) 0))) x12 x13 (wrap64 (x14 + 1))) else (none)) else (none)) else (some (x5, x6, true))
def impl_Climb.f (k : Nat) (l0 : List (S44)) : Option (Int × Int × Bool) := (impl_IsWay.f k l0).bind fun t232 => (if t232 = true then (impl_Climb.l0 k 0 0 l0 (l0.length : Int) 0) else (some (0, 0, false)))
theorem impl_Climb.mono_l : ∀ k, (∀ y0 y1 y2 y3 y4, LeO (impl_Climb.l0 k y0 y1 y2 y3 y4) (impl_Climb.l0 (k + 1) y0 y1 y2 y3 y4))
 | 0 => fun _ _ _ _ _ r h => by simp [impl_Climb.l0] at h
 | k + 1 => by
  have ih0 := impl_Climb.mono_l k
  ·intro y0 y1 y2 y3 y4
   unfold impl_Climb.l0
   have m0 := @impl_IsWay.mono
   exact qmono
theorem impl_Climb.mono : ∀ a0 k, LeO (impl_Climb.f k a0) (impl_Climb.f (k + 1) a0) := by
 intro a0 k
 have ih0 := impl_Climb.mono_l k
 unfold impl_Climb.f
 have m0 := @impl_IsWay.mono
 exact qmono
theorem impl_Climb.calls (k : Nat) (A0 : Option Addr) (c0 : Nat) (l0 : List (S44)) (r1 : Int) (r2 : Int) (r3 : Bool) (w : World) (hr0 : Kd.C k44 w A0 l0.length l0) (hc0 : l0.length ≤ c0) (h : impl_Climb.f k l0 = some (r1, r2, r3)) :
  Calls Tryd.prog 10 #[.slice A0 l0.length c0] w fun e w' => e = .returned (.tuple #[.int .i64 r1, .int .i64 r2, .bool r3]) ∧ Below w.heap.size w w' := by
 have hu44 := Tryd.underlying44
 have HR0 := Aside0.mk hr0; have HC0 := Aside0.mk hc0; clear hr0 hc0
 have HB := Aside0.mk (Below.refl w.heap.size w)
 have H : ((impl_IsWay.f k l0).bind fun t232 => (if t232 = true then (impl_Climb.l0 k 0 0 l0 (l0.length : Int) 0) else (some (0, 0, false)))) = some (r1, r2, r3) := h
 clear h; replace H := Option.bind_eq_some_iff.mp H; obtain ⟨t232, A20, H⟩ := H
 try dsimp only at H
 have A2 := Aside0.mk A20; clear A20
 by_cases c3 : t232 = true
 ·subst c3; rw [if_pos rfl] at H
  have H' := Aside0.mk H
  clear H
  go_enter Tryd.func10, Tryd.ntmps10
  go_wp2_with (first | ((with_reducible refine gate_callee (f := 9) rfl ?_); refine goesL_ (some 10) rfl rfl Tryd.func9 (by kernel_rfl) rfl #[.slice A0 l0.length c0] rfl (qW1) ?_; (with_reducible refine (impl_IsWay.calls k _ _ l0 true _ ?side1 ?side2 A2.out).mono ?_); (case side1 => exact (qW26)); (case side2 => exact HC0.out); rintro e w4 ⟨rfl, hb⟩; refine ⟨_, rfl, ?_⟩; replace HB := Aside0.mk (below_step (qW0) hb); clear hb))
  go_loopg [5, 6, 14] k (fun kq v5 v6 v14 w' => ∃ (x5_1 : Int) (x6_1 : Int) (x14_1 : Int), v5 = .int .i64 x5_1 ∧ v6 = .int .i64 x6_1 ∧ v14 = .int .i64 x14_1 ∧ Aside0 (impl_Climb.l0 kq x5_1 x6_1 l0 (l0.length : Int) x14_1 = some (r1, r2, r3)) ∧ Aside0 (kq ≤ k) ∧ Aside0 (Below w.heap.size w w'))
  case atStart => exact ⟨(0), (0), (0), (qW14), (qW14), (qW14), H', ⟨Nat.le_refl _⟩, ⟨(qW0)⟩⟩
  case round =>
   clear H'
   try clear c1
   try clear p2
   try clear c3
   obtain ⟨x5_1, x6_1, x14_1, rfl, rfl, rfl, HA, HK1, HB⟩ := hrel
   cases gk with
   | zero => exact absurd HA.out (by simp [impl_Climb.l0])
   | succ k1 =>
    have H := HA.out
    clear HA
    simp only [impl_Climb.l0] at H
    by_cases c5 : x14_1 < (l0.length : Int)
    ·rw [if_pos c5] at H
     have c5b0 : decide (x14_1 < (l0.length : Int)) = true := decide_eq_true c5
     clear c5
     by_cases c6 : 0 ≤ x14_1
     ·rw [if_pos c6] at H
      have c6b0 : decide (0 ≤ x14_1) = true := decide_eq_true c6
      clear c6
      by_cases c7 : x14_1 < (l0.length : Int)
      ·rw [if_pos c7] at H
       have c7b0 : decide (x14_1 < (l0.length : Int)) = true := decide_eq_true c7
       clear c7
       obtain ⟨ji8, hji8⟩ : ∃ j_ : Int, (mx ((rd_T44 l0 x14_1).f1) 0) = j_ := ⟨_, rfl⟩
       replace H : (impl_Climb.l0 k1 (wrap64 (x5_1 + (ji8))) (wrap64 (x6_1 + (mx (wrap64 (-((rd_T44 l0 x14_1).f1))) 0))) l0 (l0.length : Int) (wrap64 (x14_1 + 1))) = some (r1, r2, r3) := by first | (rw [hji8] at H; exact H) | (simp only [hji8] at H ⊢; exact H)
       have hji8_ : (if ((rd_T44 l0 x14_1).f1) < 0 then 0 else ((rd_T44 l0 x14_1).f1)) = ji8 := hji8
       obtain ⟨ji9, hji9⟩ : ∃ j_ : Int, (mx (wrap64 (-((rd_T44 l0 x14_1).f1))) 0) = j_ := ⟨_, rfl⟩
       replace H : (impl_Climb.l0 k1 (wrap64 (x5_1 + (ji8))) (wrap64 (x6_1 + (ji9))) l0 (l0.length : Int) (wrap64 (x14_1 + 1))) = some (r1, r2, r3) := by first | (rw [hji9] at H; exact H) | (simp only [hji9] at H ⊢; exact H)
       have hji9_ : (if (wrap64 (-((rd_T44 l0 x14_1).f1))) < 0 then 0 else (wrap64 (-((rd_T44 l0 x14_1).f1)))) = ji9 := hji9
       have H' := Aside0.mk H
       clear H
       have p233 : 0 ≤ (x14_1 : Int) := of_decide_eq_true (qW13)
       have q233 : x14_1 < (l0.length : Int) := of_decide_eq_true (qW13)
       obtain ⟨ad233, e233, hx233_0, hx233_1⟩ := at_T44 HR0.out x14_1 p233 q233
       cases e233
       replace hx233_0 := (HB.out.cell (World.block_lt_of_cell? w _ hx233_0)).trans hx233_0
       replace hx233_1 := (HB.out.cell (World.block_lt_of_cell? w _ hx233_1)).trans hx233_1
       replace p233 := eq_true p233
       replace q233 := eq_true q233
       go_wp2_with (first | ((with_reducible refine gate_dst (N := 8) rfl ?_); refine box_event ?hg (N := 8) ?hd (cs := #[.int .i64 0, .int .i64 0]) (t := 44) ?hr ?_; (case hd => rfl); (case hg => rfl); (case hr => exact (qW22)); intro gb234 hg w10 hbox hb; have BK234 := Aside0.mk (hbox); have GW234 := Aside0.mk ((by rw [hg]; exact (below_size (qW0)) : w.heap.size ≤ gb234)); have GE234 := Aside0.mk ((by rw [hg]; exact (below_size (qW0)) : w.heap.size ≤ gb234)); replace HB := Aside0.mk (below_step (qW0) hb); clear hb hbox hg; have hcz11_0 : w10.cell? ⟨gb234, 0, none⟩ = some (.int .i64 0) := (blk_cell BK234.out 0).trans rfl; have hcz11_1 : w10.cell? ⟨gb234, 1, none⟩ = some (.int .i64 0) := (blk_cell BK234.out 1).trans rfl; have hfz11_0 := blk_frozen BK234.out 0; have hfz11_1 := blk_frozen BK234.out 1))
       go_roundg k1
       case measure => have := HK1.out; omega
       case rel => exact ⟨(wrap64 (x5_1 + (ji8))), (wrap64 (x6_1 + (ji9))), (wrap64 (x14_1 + 1)), (qW67), (qW66), (qW14), H', ⟨by have := HK1.out; omega⟩, ⟨(qW10 GE234.out)⟩⟩
      ·rw [if_neg c7] at H
       exact absurd H (by simp)
     ·rw [if_neg c6] at H
      exact absurd H (by simp)
    ·rw [if_neg c5] at H
     have c5b0 : decide (x14_1 < (l0.length : Int)) = false := decide_eq_false c5
     clear c5
     simp only [Option.some.injEq, Prod.mk.injEq] at H
     obtain ⟨rfl, rfl, rfl⟩ := H
     go_wp2
     go_ret3
     exact ⟨(qW9), (qW0)⟩
 ·replace c3 := Bool.eq_false_iff.mpr c3
  subst c3
  rw [if_neg (show ¬ (false = true) by decide)] at H
  simp only [Option.some.injEq, Prod.mk.injEq] at H
  obtain ⟨rfl, rfl, rfl⟩ := H
  go_enter Tryd.func10, Tryd.ntmps10
  go_wp2_with (first | ((with_reducible refine gate_callee (f := 9) rfl ?_); refine goesL_ (some 10) rfl rfl Tryd.func9 (by kernel_rfl) rfl #[.slice A0 l0.length c0] rfl (qW1) ?_; (with_reducible refine (impl_IsWay.calls k _ _ l0 false _ ?side1 ?side2 A2.out).mono ?_); (case side1 => exact (qW26)); (case side2 => exact HC0.out); rintro e w12 ⟨rfl, hb⟩; refine ⟨_, rfl, ?_⟩; replace HB := Aside0.mk (below_step (qW0) hb); clear hb))
  go_ret3
  exact ⟨(qW9), (qW0)⟩

/-! ### spec_l1Most: function 26 -/
def spec_l1Most.f (a0 : Int) (a1 : Int) : Option (Int) := if a0 > a1 then (some a0) else (some a1)
theorem spec_l1Most.calls (a0 : Int) (a1 : Int) (r : Int) (w : World) (h : spec_l1Most.f a0 a1 = some r) :
  Calls Tryd.prog 26 #[.int .i64 a0, .int .i64 a1] w fun e w' => e = .returned (.int .i64 r) ∧ Drawn0 w w' := by
 have H : (if a0 > a1 then (some a0) else (some a1)) = some r := h
 clear h
 by_cases c3 : a0 > a1
 ·rw [if_pos c3] at H
  have c3b0 : decide (a1 < a0) = true := decide_eq_true c3
  clear c3; obtain rfl := Option.some.inj H
  go_enter Tryd.func26, Tryd.ntmps26
  go_wp2
  go_ret
  exact ⟨(qW14), (qW32)⟩
 ·rw [if_neg c3] at H
  have c3b0 : decide (a1 < a0) = false := decide_eq_false c3
  clear c3; obtain rfl := Option.some.inj H
  go_enter Tryd.func26, Tryd.ntmps26
  go_wp2
  go_ret
  exact ⟨(qW14), (qW32)⟩

/-! ### spec_Climb: function 11 -/
def spec_Climb.l0 : Nat → List (S44) → Int → Int → Int → Option (Int × Int × Bool)
 | 0, _, _, _, _ => none
 | k + 1, x0, x5, x6, x7 => if x7 < (x0.length : Int) then (if 0 ≤ x7 then ((spec_l1Most.f 0 ((rd_T44 x0 x7).f1)).bind fun t237 => ((spec_l1Most.f 0 (wrap64 (-((rd_T44 x0 x7).f1)))).bind fun t239 => (spec_Climb.l0 k x0 (wrap64 (x5 + t237)) (wrap64 (x6 + t239)) (wrap64 (x7 + 1))))) else (none)) else (some (x5, x6, true))
def spec_Climb.f (k : Nat) (l0 : List (S44)) : Option (Int × Int × Bool) := (spec_l14Good.f k l0).bind fun t235 => (if t235 = true then (spec_Climb.l0 k l0 0 0 0) else (some (0, 0, false)))
theorem spec_Climb.mono_l : ∀ k, (∀ y0 y1 y2 y3, LeO (spec_Climb.l0 k y0 y1 y2 y3) (spec_Climb.l0 (k + 1) y0 y1 y2 y3))
 | 0 => fun _ _ _ _ r h => by simp [spec_Climb.l0] at h
 | k + 1 => by
  have ih0 := spec_Climb.mono_l k
  ·intro y0 y1 y2 y3
   unfold spec_Climb.l0
   have m0 := @spec_l14Good.mono
   exact qmono
theorem spec_Climb.mono : ∀ a0 k, LeO (spec_Climb.f k a0) (spec_Climb.f (k + 1) a0) := by
 intro a0 k
 have ih0 := spec_Climb.mono_l k
 unfold spec_Climb.f
 have m0 := @spec_l14Good.mono
 exact qmono
theorem spec_Climb.calls (k : Nat) (A0 : Option Addr) (c0 : Nat) (l0 : List (S44)) (r1 : Int) (r2 : Int) (r3 : Bool) (w : World) (hr0 : Kd.C k44 w A0 l0.length l0) (hc0 : l0.length ≤ c0) (h : spec_Climb.f k l0 = some (r1, r2, r3)) :
  Calls Tryd.prog 11 #[.slice A0 l0.length c0] w fun e w' => e = .returned (.tuple #[.int .i64 r1, .int .i64 r2, .bool r3]) ∧ Below w.heap.size w w' := by
 have HR0 := Aside0.mk hr0; have HC0 := Aside0.mk hc0; clear hr0 hc0
 have HB := Aside0.mk (Below.refl w.heap.size w)
 have H : ((spec_l14Good.f k l0).bind fun t235 => (if t235 = true then (spec_Climb.l0 k l0 0 0 0) else (some (0, 0, false)))) = some (r1, r2, r3) := h
 clear h; replace H := Option.bind_eq_some_iff.mp H; obtain ⟨t235, A20, H⟩ := H
 try dsimp only at H
 have A2 := Aside0.mk A20; clear A20
 by_cases c3 : t235 = true
 ·subst c3; rw [if_pos rfl] at H
  have H' := Aside0.mk H
  clear H
  go_enter Tryd.func11, Tryd.ntmps11
  go_wp2_with (first | ((with_reducible refine gate_callee (f := 23) rfl ?_); refine goesL_ (some 9) rfl rfl Tryd.func23 (by kernel_rfl) rfl #[.slice A0 l0.length c0] rfl (qW1) ?_; (with_reducible refine (spec_l14Good.calls k _ _ l0 true _ ?side1 ?side2 A2.out).mono ?_); (case side1 => exact (qW26)); (case side2 => exact HC0.out); rintro e w4 ⟨rfl, hb⟩; refine ⟨_, rfl, ?_⟩; replace HB := Aside0.mk (below_step (qW0) hb); clear hb))
  go_loopg [5, 6, 7] k (fun kq v5 v6 v7 w' => ∃ (x5_1 : Int) (x6_1 : Int) (x7_1 : Int), v5 = .int .i64 x5_1 ∧ v6 = .int .i64 x6_1 ∧ v7 = .int .i64 x7_1 ∧ Aside0 (spec_Climb.l0 kq l0 x5_1 x6_1 x7_1 = some (r1, r2, r3)) ∧ Aside0 (kq ≤ k) ∧ Aside0 (Below w.heap.size w w'))
  case atStart => exact ⟨(0), (0), (0), (qW14), (qW14), (qW14), H', ⟨Nat.le_refl _⟩, ⟨(qW0)⟩⟩
  case round =>
   clear H'
   try clear c1
   try clear c2
   try clear p2
   try clear c3
   obtain ⟨x5_1, x6_1, x7_1, rfl, rfl, rfl, HA, HK1, HB⟩ := hrel
   cases gk with
   | zero => exact absurd HA.out (by simp [spec_Climb.l0])
   | succ k1 =>
    have H := HA.out
    clear HA
    simp only [spec_Climb.l0] at H
    by_cases c5 : x7_1 < (l0.length : Int)
    ·rw [if_pos c5] at H
     have c5b0 : decide (x7_1 < (l0.length : Int)) = true := decide_eq_true c5
     clear c5
     by_cases c6 : 0 ≤ x7_1
     ·rw [if_pos c6] at H
      have c6b0 : decide (0 ≤ x7_1) = true := decide_eq_true c6
      clear c6; replace H := Option.bind_eq_some_iff.mp H; obtain ⟨t237, A70, H⟩ := H
      try dsimp only at H
      have A7 := Aside0.mk A70; clear A70; replace H := Option.bind_eq_some_iff.mp H; obtain ⟨t239, A80, H⟩ := H
      try dsimp only at H
      have A8 := Aside0.mk A80; clear A80
      have H' := Aside0.mk H
      clear H
      have p236 : 0 ≤ (x7_1 : Int) := of_decide_eq_true (qW13)
      have q236 : x7_1 < (l0.length : Int) := of_decide_eq_true (qW13)
      obtain ⟨ad236, e236, hx236_0, hx236_1⟩ := at_T44 HR0.out x7_1 p236 q236
      cases e236
      replace hx236_0 := (HB.out.cell (World.block_lt_of_cell? w _ hx236_0)).trans hx236_0
      replace hx236_1 := (HB.out.cell (World.block_lt_of_cell? w _ hx236_1)).trans hx236_1
      replace p236 := eq_true p236
      replace q236 := eq_true q236
      go_wp2_with (first | ((with_reducible refine gate_callee (f := 26) rfl ?_); refine goesL_ (some 23) rfl rfl Tryd.func26 (by kernel_rfl) rfl #[.int .i64 0, .int .i64 ((rd_T44 l0 x7_1).f1)] rfl (qW1) ?_; (with_reducible refine (spec_l1Most.calls 0 ((rd_T44 l0 x7_1).f1) t237 _ A7.out).mono ?_); rintro e w' ⟨rfl, ⟨nd, rfl⟩⟩; refine ⟨_, rfl, ?_⟩; have p238 : 0 ≤ (x7_1 : Int) := of_decide_eq_true (qW13); have q238 : x7_1 < (l0.length : Int) := of_decide_eq_true (qW13); obtain ⟨ad238, e238, hx238_0, hx238_1⟩ := at_T44 HR0.out x7_1 p238 q238; obtain rfl : ad236 = ad238 := (by injection e238); replace hx238_0 := (HB.out.cell (World.block_lt_of_cell? w _ hx238_0)).trans hx238_0; replace hx238_1 := (HB.out.cell (World.block_lt_of_cell? w _ hx238_1)).trans hx238_1; replace p238 := eq_true p238; replace q238 := eq_true q238) | ((with_reducible refine gate_callee (f := 26) rfl ?_); refine goesL_ (some 32) rfl rfl Tryd.func26 (by kernel_rfl) rfl #[.int .i64 0, .int .i64 (wrap64 (-((rd_T44 l0 x7_1).f1)))] rfl (qW1) ?_; (with_reducible refine (spec_l1Most.calls 0 (wrap64 (-((rd_T44 l0 x7_1).f1))) t239 _ A8.out).mono ?_); rintro e w' ⟨rfl, ⟨nd, rfl⟩⟩; refine ⟨_, rfl, ?_⟩))
      go_roundg k1
      case measure => have := HK1.out; omega
      case rel => exact ⟨(wrap64 (x5_1 + t237)), (wrap64 (x6_1 + t239)), (wrap64 (x7_1 + 1)), (qW14), (qW14), (qW14), H', ⟨by have := HK1.out; omega⟩, ⟨(qW0)⟩⟩
     ·rw [if_neg c6] at H
      exact absurd H (by simp)
    ·rw [if_neg c5] at H
     have c5b0 : decide (x7_1 < (l0.length : Int)) = false := decide_eq_false c5
     clear c5
     simp only [Option.some.injEq, Prod.mk.injEq] at H
     obtain ⟨rfl, rfl, rfl⟩ := H
     go_wp2
     go_ret3
     exact ⟨(qW9), (qW0)⟩
 ·replace c3 := Bool.eq_false_iff.mpr c3
  subst c3
  rw [if_neg (show ¬ (false = true) by decide)] at H
  simp only [Option.some.injEq, Prod.mk.injEq] at H
  obtain ⟨rfl, rfl, rfl⟩ := H
  go_enter Tryd.func11, Tryd.ntmps11
  go_wp2_with (first | ((with_reducible refine gate_callee (f := 23) rfl ?_); refine goesL_ (some 9) rfl rfl Tryd.func23 (by kernel_rfl) rfl #[.slice A0 l0.length c0] rfl (qW1) ?_; (with_reducible refine (spec_l14Good.calls k _ _ l0 false _ ?side1 ?side2 A2.out).mono ?_); (case side1 => exact (qW26)); (case side2 => exact HC0.out); rintro e w9 ⟨rfl, hb⟩; refine ⟨_, rfl, ?_⟩; replace HB := Aside0.mk (below_step (qW0) hb); clear hb))
  go_ret3
  exact ⟨(qW9), (qW0)⟩

/-! ### impl_RangeOf: function 12 -/
def impl_RangeOf.l0 : Nat → Int → Int → Int → List (S44) → Int → Int → Option (Int × Int × Bool)
 | 0, _, _, _, _, _, _ => none
 | k + 1, x5, x6, x7, x13, x14, x15 => if x15 < x14 then (if 0 ≤ x15 then (if x15 < (x13.length : Int) then (impl_RangeOf.l0 k (wrap64 (x5 + ((rd_T44 x13 x15).f1))) (mn x6 (wrap64 (x5 + ((rd_T44 x13 x15).f1)))) (mx x7 (wrap64 (x5 + ((rd_T44 x13 x15).f1)))) x13 x14 (wrap64 (x15 + 1))) else (none)) else (none)) else (some (x6, x7, true))
def impl_RangeOf.f (k : Nat) (l0 : List (S44)) : Option (Int × Int × Bool) := (impl_IsWay.f k l0).bind fun t240 => (if t240 = true then (impl_RangeOf.l0 k 0 0 0 l0 (l0.length : Int) 0) else (some (0, 0, false)))
theorem impl_RangeOf.mono_l : ∀ k, (∀ y0 y1 y2 y3 y4 y5, LeO (impl_RangeOf.l0 k y0 y1 y2 y3 y4 y5) (impl_RangeOf.l0 (k + 1) y0 y1 y2 y3 y4 y5))
 | 0 => fun _ _ _ _ _ _ r h => by simp [impl_RangeOf.l0] at h
 | k + 1 => by
  have ih0 := impl_RangeOf.mono_l k
  ·intro y0 y1 y2 y3 y4 y5
   unfold impl_RangeOf.l0
   have m0 := @impl_IsWay.mono
   exact qmono
theorem impl_RangeOf.mono : ∀ a0 k, LeO (impl_RangeOf.f k a0) (impl_RangeOf.f (k + 1) a0) := by
 intro a0 k
 have ih0 := impl_RangeOf.mono_l k
 unfold impl_RangeOf.f
 have m0 := @impl_IsWay.mono
 exact qmono
theorem impl_RangeOf.calls (k : Nat) (A0 : Option Addr) (c0 : Nat) (l0 : List (S44)) (r1 : Int) (r2 : Int) (r3 : Bool) (w : World) (hr0 : Kd.C k44 w A0 l0.length l0) (hc0 : l0.length ≤ c0) (h : impl_RangeOf.f k l0 = some (r1, r2, r3)) :
  Calls Tryd.prog 12 #[.slice A0 l0.length c0] w fun e w' => e = .returned (.tuple #[.int .i64 r1, .int .i64 r2, .bool r3]) ∧ Below w.heap.size w w' := by
 have hu44 := Tryd.underlying44
 have HR0 := Aside0.mk hr0; have HC0 := Aside0.mk hc0; clear hr0 hc0
 have HB := Aside0.mk (Below.refl w.heap.size w)
 have H : ((impl_IsWay.f k l0).bind fun t240 => (if t240 = true then (impl_RangeOf.l0 k 0 0 0 l0 (l0.length : Int) 0) else (some (0, 0, false)))) = some (r1, r2, r3) := h
 clear h; replace H := Option.bind_eq_some_iff.mp H; obtain ⟨t240, A20, H⟩ := H
 try dsimp only at H
 have A2 := Aside0.mk A20; clear A20
 by_cases c3 : t240 = true
 ·subst c3; rw [if_pos rfl] at H
  have H' := Aside0.mk H
  clear H
  go_enter Tryd.func12, Tryd.ntmps12
  go_wp2_with (first | ((with_reducible refine gate_callee (f := 9) rfl ?_); refine goesL_ (some 11) rfl rfl Tryd.func9 (by kernel_rfl) rfl #[.slice A0 l0.length c0] rfl (qW1) ?_; (with_reducible refine (impl_IsWay.calls k _ _ l0 true _ ?side1 ?side2 A2.out).mono ?_); (case side1 => exact (qW26)); (case side2 => exact HC0.out); rintro e w4 ⟨rfl, hb⟩; refine ⟨_, rfl, ?_⟩; replace HB := Aside0.mk (below_step (qW0) hb); clear hb))
  go_loopg [5, 6, 7, 15] k (fun kq v5 v6 v7 v15 w' => ∃ (x5_1 : Int) (x6_1 : Int) (x7_1 : Int) (x15_1 : Int), v5 = .int .i64 x5_1 ∧ v6 = .int .i64 x6_1 ∧ v7 = .int .i64 x7_1 ∧ v15 = .int .i64 x15_1 ∧ Aside0 (impl_RangeOf.l0 kq x5_1 x6_1 x7_1 l0 (l0.length : Int) x15_1 = some (r1, r2, r3)) ∧ Aside0 (kq ≤ k) ∧ Aside0 (Below w.heap.size w w'))
  case atStart => exact ⟨(0), (0), (0), (0), (qW14), (qW14), (qW14), (qW14), H', ⟨Nat.le_refl _⟩, ⟨(qW0)⟩⟩
  case round =>
   clear H'
   try clear c1
   try clear p2
   try clear c3
   obtain ⟨x5_1, x6_1, x7_1, x15_1, rfl, rfl, rfl, rfl, HA, HK1, HB⟩ := hrel
   cases gk with
   | zero => exact absurd HA.out (by simp [impl_RangeOf.l0])
   | succ k1 =>
    have H := HA.out
    clear HA
    simp only [impl_RangeOf.l0] at H
    by_cases c5 : x15_1 < (l0.length : Int)
    ·rw [if_pos c5] at H
     have c5b0 : decide (x15_1 < (l0.length : Int)) = true := decide_eq_true c5
     clear c5
     by_cases c6 : 0 ≤ x15_1
     ·rw [if_pos c6] at H
      have c6b0 : decide (0 ≤ x15_1) = true := decide_eq_true c6
      clear c6
      by_cases c7 : x15_1 < (l0.length : Int)
      ·rw [if_pos c7] at H
       have c7b0 : decide (x15_1 < (l0.length : Int)) = true := decide_eq_true c7
       clear c7
       obtain ⟨ji8, hji8⟩ : ∃ j_ : Int, (mn x6_1 (wrap64 (x5_1 + ((rd_T44 l0 x15_1).f1)))) = j_ := ⟨_, rfl⟩
       replace H : (impl_RangeOf.l0 k1 (wrap64 (x5_1 + ((rd_T44 l0 x15_1).f1))) ji8 (mx x7_1 (wrap64 (x5_1 + ((rd_T44 l0 x15_1).f1)))) l0 (l0.length : Int) (wrap64 (x15_1 + 1))) = some (r1, r2, r3) := by first | (rw [hji8] at H; exact H) | (simp only [hji8] at H ⊢; exact H)
       have hji8_ : (if (wrap64 (x5_1 + ((rd_T44 l0 x15_1).f1))) < x6_1 then (wrap64 (x5_1 + ((rd_T44 l0 x15_1).f1))) else x6_1) = ji8 := hji8
       obtain ⟨ji9, hji9⟩ : ∃ j_ : Int, (mx x7_1 (wrap64 (x5_1 + ((rd_T44 l0 x15_1).f1)))) = j_ := ⟨_, rfl⟩
       replace H : (impl_RangeOf.l0 k1 (wrap64 (x5_1 + ((rd_T44 l0 x15_1).f1))) ji8 ji9 l0 (l0.length : Int) (wrap64 (x15_1 + 1))) = some (r1, r2, r3) := by first | (rw [hji9] at H; exact H) | (simp only [hji9] at H ⊢; exact H)
       have hji9_ : (if x7_1 < (wrap64 (x5_1 + ((rd_T44 l0 x15_1).f1))) then (wrap64 (x5_1 + ((rd_T44 l0 x15_1).f1))) else x7_1) = ji9 := hji9
       have H' := Aside0.mk H
       clear H
       have p241 : 0 ≤ (x15_1 : Int) := of_decide_eq_true (qW13)
       have q241 : x15_1 < (l0.length : Int) := of_decide_eq_true (qW13)
       obtain ⟨ad241, e241, hx241_0, hx241_1⟩ := at_T44 HR0.out x15_1 p241 q241
       cases e241
       replace hx241_0 := (HB.out.cell (World.block_lt_of_cell? w _ hx241_0)).trans hx241_0
       replace hx241_1 := (HB.out.cell (World.block_lt_of_cell? w _ hx241_1)).trans hx241_1
       replace p241 := eq_true p241
       replace q241 := eq_true q241
       go_wp2_with (first | ((with_reducible refine gate_dst (N := 9) rfl ?_); refine box_event ?hg (N := 9) ?hd (cs := #[.int .i64 0, .int .i64 0]) (t := 44) ?hr ?_; (case hd => rfl); (case hg => rfl); (case hr => exact (qW22)); intro gb242 hg w10 hbox hb; have BK242 := Aside0.mk (hbox); have GW242 := Aside0.mk ((by rw [hg]; exact (below_size (qW0)) : w.heap.size ≤ gb242)); have GE242 := Aside0.mk ((by rw [hg]; exact (below_size (qW0)) : w.heap.size ≤ gb242)); replace HB := Aside0.mk (below_step (qW0) hb); clear hb hbox hg; have hcz11_0 : w10.cell? ⟨gb242, 0, none⟩ = some (.int .i64 0) := (blk_cell BK242.out 0).trans rfl; have hcz11_1 : w10.cell? ⟨gb242, 1, none⟩ = some (.int .i64 0) := (blk_cell BK242.out 1).trans rfl; have hfz11_0 := blk_frozen BK242.out 0; have hfz11_1 := blk_frozen BK242.out 1))
       go_roundg k1
       case measure => have := HK1.out; omega
       case rel => exact ⟨(wrap64 (x5_1 + ((rd_T44 l0 x15_1).f1))), (ji8), (ji9), (wrap64 (x15_1 + 1)), (qW14), (qW67), (qW66), (qW14), H', ⟨by have := HK1.out; omega⟩, ⟨(qW10 GE242.out)⟩⟩
      ·rw [if_neg c7] at H
       exact absurd H (by simp)
     ·rw [if_neg c6] at H
      exact absurd H (by simp)
    ·rw [if_neg c5] at H
     have c5b0 : decide (x15_1 < (l0.length : Int)) = false := decide_eq_false c5
     clear c5
     simp only [Option.some.injEq, Prod.mk.injEq] at H
     obtain ⟨rfl, rfl, rfl⟩ := H
     go_wp2
     go_ret3
     exact ⟨(qW9), (qW0)⟩
 ·replace c3 := Bool.eq_false_iff.mpr c3
  subst c3
  rw [if_neg (show ¬ (false = true) by decide)] at H
  simp only [Option.some.injEq, Prod.mk.injEq] at H
  obtain ⟨rfl, rfl, rfl⟩ := H
  go_enter Tryd.func12, Tryd.ntmps12
  go_wp2_with (first | ((with_reducible refine gate_callee (f := 9) rfl ?_); refine goesL_ (some 11) rfl rfl Tryd.func9 (by kernel_rfl) rfl #[.slice A0 l0.length c0] rfl (qW1) ?_; (with_reducible refine (impl_IsWay.calls k _ _ l0 false _ ?side1 ?side2 A2.out).mono ?_); (case side1 => exact (qW26)); (case side2 => exact HC0.out); rintro e w12 ⟨rfl, hb⟩; refine ⟨_, rfl, ?_⟩; replace HB := Aside0.mk (below_step (qW0) hb); clear hb))
  go_ret3
  exact ⟨(qW9), (qW0)⟩

/-! ### spec_l1Least: function 27 -/
def spec_l1Least.f (a0 : Int) (a1 : Int) : Option (Int) := if a0 < a1 then (some a0) else (some a1)
theorem spec_l1Least.calls (a0 : Int) (a1 : Int) (r : Int) (w : World) (h : spec_l1Least.f a0 a1 = some r) :
  Calls Tryd.prog 27 #[.int .i64 a0, .int .i64 a1] w fun e w' => e = .returned (.int .i64 r) ∧ Drawn0 w w' := by
 have H : (if a0 < a1 then (some a0) else (some a1)) = some r := h
 clear h
 by_cases c3 : a0 < a1
 ·rw [if_pos c3] at H
  have c3b0 : decide (a0 < a1) = true := decide_eq_true c3
  clear c3; obtain rfl := Option.some.inj H
  go_enter Tryd.func27, Tryd.ntmps27
  go_wp2
  go_ret
  exact ⟨(qW14), (qW32)⟩
 ·rw [if_neg c3] at H
  have c3b0 : decide (a0 < a1) = false := decide_eq_false c3
  clear c3; obtain rfl := Option.some.inj H
  go_enter Tryd.func27, Tryd.ntmps27
  go_wp2
  go_ret
  exact ⟨(qW14), (qW32)⟩

/-! ### spec_RangeOf: function 13 -/
def spec_RangeOf.l0 : Nat → List (S44) → Int → Int → Int → Int → Option (Int × Int × Bool)
 | 0, _, _, _, _, _ => none
 | k + 1, x0, x5, x6, x7, x8 => if x8 < (x0.length : Int) then (if 0 ≤ x8 then ((spec_l1Least.f x5 (wrap64 (x7 + ((rd_T44 x0 x8).f1)))).bind fun t245 => ((spec_l1Most.f x6 (wrap64 (x7 + ((rd_T44 x0 x8).f1)))).bind fun t246 => (spec_RangeOf.l0 k x0 t245 t246 (wrap64 (x7 + ((rd_T44 x0 x8).f1))) (wrap64 (x8 + 1))))) else (none)) else (some (x5, x6, true))
def spec_RangeOf.f (k : Nat) (l0 : List (S44)) : Option (Int × Int × Bool) := (spec_l14Good.f k l0).bind fun t243 => (if t243 = true then (spec_RangeOf.l0 k l0 0 0 0 0) else (some (0, 0, false)))
theorem spec_RangeOf.mono_l : ∀ k, (∀ y0 y1 y2 y3 y4, LeO (spec_RangeOf.l0 k y0 y1 y2 y3 y4) (spec_RangeOf.l0 (k + 1) y0 y1 y2 y3 y4))
 | 0 => fun _ _ _ _ _ r h => by simp [spec_RangeOf.l0] at h
 | k + 1 => by
  have ih0 := spec_RangeOf.mono_l k
  ·intro y0 y1 y2 y3 y4
   unfold spec_RangeOf.l0
   have m0 := @spec_l14Good.mono
   exact qmono
theorem spec_RangeOf.mono : ∀ a0 k, LeO (spec_RangeOf.f k a0) (spec_RangeOf.f (k + 1) a0) := by
 intro a0 k
 have ih0 := spec_RangeOf.mono_l k
 unfold spec_RangeOf.f
 have m0 := @spec_l14Good.mono
 exact qmono
theorem spec_RangeOf.calls (k : Nat) (A0 : Option Addr) (c0 : Nat) (l0 : List (S44)) (r1 : Int) (r2 : Int) (r3 : Bool) (w : World) (hr0 : Kd.C k44 w A0 l0.length l0) (hc0 : l0.length ≤ c0) (h : spec_RangeOf.f k l0 = some (r1, r2, r3)) :
  Calls Tryd.prog 13 #[.slice A0 l0.length c0] w fun e w' => e = .returned (.tuple #[.int .i64 r1, .int .i64 r2, .bool r3]) ∧ Below w.heap.size w w' := by
 have HR0 := Aside0.mk hr0; have HC0 := Aside0.mk hc0; clear hr0 hc0
 have HB := Aside0.mk (Below.refl w.heap.size w)
 have H : ((spec_l14Good.f k l0).bind fun t243 => (if t243 = true then (spec_RangeOf.l0 k l0 0 0 0 0) else (some (0, 0, false)))) = some (r1, r2, r3) := h
 clear h; replace H := Option.bind_eq_some_iff.mp H; obtain ⟨t243, A20, H⟩ := H
 try dsimp only at H
 have A2 := Aside0.mk A20; clear A20
 by_cases c3 : t243 = true
 ·subst c3; rw [if_pos rfl] at H
  have H' := Aside0.mk H
  clear H
  go_enter Tryd.func13, Tryd.ntmps13
  go_wp2_with (first | ((with_reducible refine gate_callee (f := 23) rfl ?_); refine goesL_ (some 10) rfl rfl Tryd.func23 (by kernel_rfl) rfl #[.slice A0 l0.length c0] rfl (qW1) ?_; (with_reducible refine (spec_l14Good.calls k _ _ l0 true _ ?side1 ?side2 A2.out).mono ?_); (case side1 => exact (qW26)); (case side2 => exact HC0.out); rintro e w4 ⟨rfl, hb⟩; refine ⟨_, rfl, ?_⟩; replace HB := Aside0.mk (below_step (qW0) hb); clear hb))
  go_loopg [5, 6, 7, 8] k (fun kq v5 v6 v7 v8 w' => ∃ (x5_1 : Int) (x6_1 : Int) (x7_1 : Int) (x8_1 : Int), v5 = .int .i64 x5_1 ∧ v6 = .int .i64 x6_1 ∧ v7 = .int .i64 x7_1 ∧ v8 = .int .i64 x8_1 ∧ Aside0 (spec_RangeOf.l0 kq l0 x5_1 x6_1 x7_1 x8_1 = some (r1, r2, r3)) ∧ Aside0 (kq ≤ k) ∧ Aside0 (Below w.heap.size w w'))
  case atStart => exact ⟨(0), (0), (0), (0), (qW14), (qW14), (qW14), (qW14), H', ⟨Nat.le_refl _⟩, ⟨(qW0)⟩⟩
  case round =>
   clear H'
   try clear c1
   try clear c2
   try clear p2
   try clear c3
   obtain ⟨x5_1, x6_1, x7_1, x8_1, rfl, rfl, rfl, rfl, HA, HK1, HB⟩ := hrel
   cases gk with
   | zero => exact absurd HA.out (by simp [spec_RangeOf.l0])
   | succ k1 =>
    have H := HA.out
    clear HA
    simp only [spec_RangeOf.l0] at H
    by_cases c5 : x8_1 < (l0.length : Int)
    ·rw [if_pos c5] at H
     have c5b0 : decide (x8_1 < (l0.length : Int)) = true := decide_eq_true c5
     clear c5
     by_cases c6 : 0 ≤ x8_1
     ·rw [if_pos c6] at H
      have c6b0 : decide (0 ≤ x8_1) = true := decide_eq_true c6
      clear c6; replace H := Option.bind_eq_some_iff.mp H; obtain ⟨t245, A70, H⟩ := H
      try dsimp only at H
      have A7 := Aside0.mk A70; clear A70; replace H := Option.bind_eq_some_iff.mp H; obtain ⟨t246, A80, H⟩ := H
      try dsimp only at H
      have A8 := Aside0.mk A80; clear A80
      have H' := Aside0.mk H
      clear H
      have p244 : 0 ≤ (x8_1 : Int) := of_decide_eq_true (qW13)
      have q244 : x8_1 < (l0.length : Int) := of_decide_eq_true (qW13)
      obtain ⟨ad244, e244, hx244_0, hx244_1⟩ := at_T44 HR0.out x8_1 p244 q244
      cases e244
      replace hx244_0 := (HB.out.cell (World.block_lt_of_cell? w _ hx244_0)).trans hx244_0
      replace hx244_1 := (HB.out.cell (World.block_lt_of_cell? w _ hx244_1)).trans hx244_1
      replace p244 := eq_true p244
      replace q244 := eq_true q244
      go_wp2_with (first | ((with_reducible refine gate_callee (f := 27) rfl ?_); refine goesL_ (some 27) rfl rfl Tryd.func27 (by kernel_rfl) rfl #[.int .i64 x5_1, .int .i64 (wrap64 (x7_1 + ((rd_T44 l0 x8_1).f1)))] rfl (qW1) ?_; (with_reducible refine (spec_l1Least.calls x5_1 (wrap64 (x7_1 + ((rd_T44 l0 x8_1).f1))) t245 _ A7.out).mono ?_); rintro e w' ⟨rfl, ⟨nd, rfl⟩⟩; refine ⟨_, rfl, ?_⟩) | ((with_reducible refine gate_callee (f := 26) rfl ?_); refine goesL_ (some 30) rfl rfl Tryd.func26 (by kernel_rfl) rfl #[.int .i64 x6_1, .int .i64 (wrap64 (x7_1 + ((rd_T44 l0 x8_1).f1)))] rfl (qW1) ?_; (with_reducible refine (spec_l1Most.calls x6_1 (wrap64 (x7_1 + ((rd_T44 l0 x8_1).f1))) t246 _ A8.out).mono ?_); rintro e w' ⟨rfl, ⟨nd, rfl⟩⟩; refine ⟨_, rfl, ?_⟩))
      go_roundg k1
      case measure => have := HK1.out; omega
      case rel => exact ⟨(t245), (t246), (wrap64 (x7_1 + ((rd_T44 l0 x8_1).f1))), (wrap64 (x8_1 + 1)), (qW14), (qW14), (qW14), (qW14), H', ⟨by have := HK1.out; omega⟩, ⟨(qW0)⟩⟩
     ·rw [if_neg c6] at H
      exact absurd H (by simp)
    ·rw [if_neg c5] at H
     have c5b0 : decide (x8_1 < (l0.length : Int)) = false := decide_eq_false c5
     clear c5
     simp only [Option.some.injEq, Prod.mk.injEq] at H
     obtain ⟨rfl, rfl, rfl⟩ := H
     go_wp2
     go_ret3
     exact ⟨(qW9), (qW0)⟩
 ·replace c3 := Bool.eq_false_iff.mpr c3
  subst c3
  rw [if_neg (show ¬ (false = true) by decide)] at H
  simp only [Option.some.injEq, Prod.mk.injEq] at H
  obtain ⟨rfl, rfl, rfl⟩ := H
  go_enter Tryd.func13, Tryd.ntmps13
  go_wp2_with (first | ((with_reducible refine gate_callee (f := 23) rfl ?_); refine goesL_ (some 10) rfl rfl Tryd.func23 (by kernel_rfl) rfl #[.slice A0 l0.length c0] rfl (qW1) ?_; (with_reducible refine (spec_l14Good.calls k _ _ l0 false _ ?side1 ?side2 A2.out).mono ?_); (case side1 => exact (qW26)); (case side2 => exact HC0.out); rintro e w9 ⟨rfl, hb⟩; refine ⟨_, rfl, ?_⟩; replace HB := Aside0.mk (below_step (qW0) hb); clear hb))
  go_ret3
  exact ⟨(qW9), (qW0)⟩

/-! ### impl_Run_1: function 41 (by hand: wip/inj) -/


/-! ### impl_Run_28: function 28 (by hand: wip/inj) -/


end Go.Proofs.YtmbpdegkkdcjnaaDoor.MW
