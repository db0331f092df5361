-- Written by a program of this session (wip/drv.py, wip/tight.py).
import Derived.Shelf.RegionOpenPlain
import Derived.Test.YtfgkpokjhihaaaaMRx0
import Derived.Test.YtfgkpokjhihaaaaMRx7
namespace Go.Proofs.Ytfgkpokjhihaaaa.MR
open Go.RowKit Go.Proofs.YtfgkpokjhihaaaaW.PrintWords Go.Proofs.YtfgkpokjhihaaaaW.PrintLast Go.Proofs.YtfgkpokjhihaaaaW.PrintMore
set_option maxHeartbeats 8000000
set_option maxRecDepth 100000
theorem qR8_0 {p : Prop} (h : p := by (try simp only [List.map_toArray, List.map_cons, List.map_nil]); first | done | rfl | (simp only [List.length_drop, List.length_take]; rfl)) : p := h
theorem qR8_1 {p : Prop} (h : p := by repeat (first | exact Drawn0.refl _ | apply Drawn0.step)) : p := h
theorem qR8_2 {p : Prop} (h : p := by first | (with_reducible assumption) | assumption) : p := h
theorem qR8_3 {p : Prop} (h : p := by first | rfl | (simp; done) | (simp [*]; done)) : p := h
theorem qR8_4 {p : Prop} (h : p := by first | (go_simp; done) | (go_simp; rfl)) : p := h
attribute [local go_sem] max2_int min2_int max_two min_two max_three min_three max_four min_four   -- for this text's walks alone
set_option linter.unusedVariables false
set_option linter.unusedSimpArgs false

/-! ### impl_greatest: function 56 (by hand: wip/inj) -/
def greatestDown (l0 : List S66) (l1 : List Int) (from_ to_ : Int) : Nat → Int
 | 0 => -1
 | k + 1 => if (reachOf l0 l1 from_ (k : Int)).getD to_.toNat false = true then (k : Int) else greatestDown l0 l1 from_ to_ k
def impl_greatest.f (l0 : List S66) (l1 : List Int) (a2 a3 : Int) : Option Int := if reachOk l0 l1 a2 = true ∧ 0 ≤ a3 ∧ a3 ≤ 7 then some (greatestDown l0 l1 a2 a3 201) else none
theorem impl_greatest.calls (A0 : Option Addr) (c0 : Nat) (l0 : List S66) (A1 : Option Addr) (c1 : Nat) (l1 : List Int) (a2 a3 : Int) (r : Int) (w : World) (hr0 : Kd.C k66 w A0 l0.length l0) (hc0 : l0.length ≤ c0) (hr1 : Kd.C (Kd.int .i64) w A1 l1.length l1) (hc1 : l1.length ≤ c1) (h : impl_greatest.f l0 l1 a2 a3 = some r) :
  Calls Try.prog 56 #[.slice A0 l0.length c0, .slice A1 l1.length c1, .int .i64 a2, .int .i64 a3] w fun e w' => e = .returned (.int .i64 r) ∧ Below w.heap.size w w' := by
 unfold impl_greatest.f at h
 by_cases hok : reachOk l0 l1 a2 = true ∧ 0 ≤ a3 ∧ a3 ≤ 7
 case neg => rw [if_neg hok] at h; cases h
 rw [if_pos hok] at h
 have hr := Option.some.inj h
 clear h; have HOK := Aside0.mk hok; have HR0 := Aside0.mk hr0; have HR1 := Aside0.mk hr1; have HC0 := Aside0.mk hc0; have HC1 := Aside0.mk hc1; have HRES := Aside0.mk hr
 have HM0 := Aside0.mk hr0.2.1
 have HM1 := Aside0.mk hr1.2.1
 clear hr hr0 hr1 hc0 hc1 hok
 have HCALL : Aside0 (∀ (x : Int) (W : World), Below w.heap.size w W → Calls Try.prog 74 #[.slice A0 l0.length c0, .slice A1 l1.length c1, .int .i64 a2, .int .i64 x] W fun e w' => e = .returned (.agg (arrOf (reachOf l0 l1 a2 x))) ∧ Below W.heap.size W w') := ⟨fun x W hb => impl_reach.calls A0 c0 l0 A1 c1 l1 a2 x _ W (Kd.C_below HR0.out hb) HC0.out (Kd.C_below HR1.out hb) HC1.out (by unfold impl_reach.f; rw [if_pos HOK.out.1]; rfl)⟩
 go_enter Try.func56, Try.ntmps56
 go_wp2
 go_loopg [9] 201 (fun kq v9 w' => ∃ x : Int, v9 = .int .i64 x ∧ Aside0 (-1 ≤ x ∧ x ≤ 200 ∧ (kq : Int) = x + 1 ∧ greatestDown l0 l1 a2 a3 kq = r) ∧ Aside0 (Below w.heap.size w w'))
 case atStart => exact ⟨200, rfl, ⟨by omega, by omega, by omega, HRES.out⟩, ⟨Below.refl _ _⟩⟩
 case round =>
  obtain ⟨x, rfl, HA, HB⟩ := hrel
  by_cases hlt : 0 ≤ x
  ·have d0 : decide (x ≥ 0) = true := decide_eq_true hlt
   have d1 : decide (0 ≤ x) = true := decide_eq_true hlt
   have HLT := Aside0.mk hlt; clear hlt
   obtain ⟨k1, rfl⟩ : ∃ k1, gk = k1 + 1 := ⟨gk - 1, by have := HA.out; have := HLT.out; omega⟩
   have hx : x = (k1 : Int) := by have := HA.out; omega
   have hidx := fun w => run_indexA (reachOf l0 l1 a2 x) (reachOf_length _ _ _ _) a3 HOK.out.2.1 HOK.out.2.2 w
   cases ht : (reachOf l0 l1 a2 x).getD a3.toNat false with
   | true =>
    rw [ht] at hidx
    have HT := Aside0.mk ht; have HX := Aside0.mk hx; clear ht hx
    go_wp2_with (go_at_call 74; refine (HCALL.out _ _ HB.out).mono ?_; rintro e w1 ⟨rfl, hb⟩)
    go_ret
    refine ⟨?_, HB.out.trans (hb.mono HB.out.size)⟩
    rw [← HA.out.2.2.2]
    show _ = Ending.returned (Value.int .i64 (if (reachOf l0 l1 a2 (k1 : Int)).getD a3.toNat false = true then (k1 : Int) else _))
    rw [← HX.out, if_pos HT.out]
    rfl
   | false =>
    rw [ht] at hidx
    have HT := Aside0.mk ht; have HX := Aside0.mk hx; clear ht hx
    go_wp2_with (go_at_call 74; refine (HCALL.out _ _ HB.out).mono ?_; rintro e w1 ⟨rfl, hb⟩)
    go_roundg k1
    case measure => omega
    case rel =>
     refine ⟨wrap64 (x - 1), rfl, ⟨by have := HA.out; have := HLT.out; unfold wrap64; omega, by have := HA.out; have := HLT.out; unfold wrap64; omega, by have := HA.out; have := HLT.out; unfold wrap64; omega, ?_⟩, ⟨HB.out.trans (hb.mono HB.out.size)⟩⟩
     rw [← HA.out.2.2.2]
     show _ = (if (reachOf l0 l1 a2 (k1 : Int)).getD a3.toNat false = true then (k1 : Int) else greatestDown l0 l1 a2 a3 k1)
     rw [← HX.out, if_neg (by rw [HT.out]; decide)]
  ·have d0 : decide (x ≥ 0) = false := decide_eq_false hlt
   have d1 : decide (0 ≤ x) = false := decide_eq_false hlt
   have HLT := Aside0.mk hlt; clear hlt
   obtain rfl : gk = 0 := by have := HA.out; have := HLT.out; omega
   go_wp2
   go_ret
   exact ⟨by rw [← HA.out.2.2.2]; rfl, HB.out⟩


/-! ### impl_strictly: function 69 -/
def impl_strictly.l0 : Nat → List Int → Int → Int → List Int → Int → Int → Option (Bool)
 | 0, _, _, _, _, _, _ => none
 | k + 1, x0, x1, x2, x9, x10, x11 => if x11 < x10 then (if 0 ≤ x11 then (if x11 < (x9.length : Int) then ((impl_within.f (rd x9 x11) x1 x2).bind fun t282 => (if t282 = true then (if x11 > 0 then (if 0 ≤ (wrap64 (x11 - 1)) then (if (wrap64 (x11 - 1)) < (x0.length : Int) then (if (rd x0 (wrap64 (x11 - 1))) ≥ (rd x9 x11) then (some false) else (impl_strictly.l0 k x0 x1 x2 x9 x10 (wrap64 (x11 + 1)))) else (none)) else (none)) else (impl_strictly.l0 k x0 x1 x2 x9 x10 (wrap64 (x11 + 1)))) else (some false))) else (none)) else (none)) else (some true)
def impl_strictly.f (k : Nat) (l0 : List Int) (a1 : Int) (a2 : Int) : Option (Bool) := impl_strictly.l0 k l0 a1 a2 l0 (l0.length : Int) 0
theorem impl_strictly.mono_l : ∀ k, (∀ y0 y1 y2 y3 y4 y5, LeO (impl_strictly.l0 k y0 y1 y2 y3 y4 y5) (impl_strictly.l0 (k + 1) y0 y1 y2 y3 y4 y5))
 | 0 => fun _ _ _ _ _ _ r h => by simp [impl_strictly.l0] at h
 | k + 1 => by
  have ih0 := impl_strictly.mono_l k
  ·intro y0 y1 y2 y3 y4 y5
   unfold impl_strictly.l0
   repeat' first
   | (with_reducible exact ih0 _ _ _ _ _ _)
   | (with_reducible exact LeO.refl _)
   | (with_reducible exact LeO.none _)
   | (with_reducible refine LeO.ite ?_ ?_)
   | (with_reducible refine LeO.bind ?_ (fun _ => ?_))
   | exact ih0 _ _ _ _ _ _
   | exact LeO.none _
   | refine LeO.ite ?_ ?_
   | refine LeO.bind ?_ (fun _ => ?_)
theorem impl_strictly.mono : ∀ a0 a1 a2 k, LeO (impl_strictly.f k a0 a1 a2) (impl_strictly.f (k + 1) a0 a1 a2) := by
 intro a0 a1 a2 k
 have ih0 := impl_strictly.mono_l k
 unfold impl_strictly.f
 repeat' first
   | (with_reducible exact ih0 _ _ _ _ _ _)
   | (with_reducible exact LeO.refl _)
   | (with_reducible exact LeO.none _)
   | (with_reducible refine LeO.ite ?_ ?_)
   | (with_reducible refine LeO.bind ?_ (fun _ => ?_))
   | exact ih0 _ _ _ _ _ _
   | exact LeO.none _
   | refine LeO.ite ?_ ?_
   | refine LeO.bind ?_ (fun _ => ?_)
theorem impl_strictly.calls (k : Nat) (A0 : Option Addr) (c0 : Nat) (l0 : List Int) (a1 : Int) (a2 : Int) (r : Bool) (w : World) (hr0 : Kd.C (Kd.int .i64) w A0 l0.length l0) (hc0 : l0.length ≤ c0) (h : impl_strictly.f k l0 a1 a2 = some r) :
  Calls Try.prog 69 #[.slice A0 l0.length c0, .int .i64 a1, .int .i64 a2] w fun e w' => e = .returned (.bool r) ∧ Drawn0 w w' := by
 have HR0 := Aside0.mk hr0; have HC0 := Aside0.mk hc0; clear hr0 hc0
 have H : (impl_strictly.l0 k l0 a1 a2 l0 (l0.length : Int) 0) = some r := h
 clear h
 have H' := Aside0.mk H
 clear H
 go_enter Try.func69, Try.ntmps69
 go_wp2
 go_loopg [11] k (fun kq v11 w' => ∃ (x11_1 : Int), v11 = .int .i64 x11_1 ∧ Aside0 (impl_strictly.l0 kq l0 a1 a2 l0 (l0.length : Int) x11_1 = some r) ∧ Aside0 (kq ≤ k) ∧ Drawn0 w w')
 case atStart => exact ⟨(0), (qR8_3), H', ⟨Nat.le_refl _⟩, (qR8_1)⟩
 case round =>
  clear H'
  try clear p2
  obtain ⟨x11_1, rfl, HA, HK1, ⟨m1, rfl⟩⟩ := hrel
  cases gk with
  | zero => exact absurd HA.out (by simp [impl_strictly.l0])
  | succ k1 =>
   have H := HA.out
   clear HA
   simp only [impl_strictly.l0] at H
   by_cases c4 : x11_1 < (l0.length : Int)
   ·rw [if_pos c4] at H
    have c4b0 : decide (x11_1 < (l0.length : Int)) = true := decide_eq_true c4
    clear c4
    by_cases c5 : 0 ≤ x11_1
    ·rw [if_pos c5] at H
     have c5b0 : decide (0 ≤ x11_1) = true := decide_eq_true c5
     clear c5
     by_cases c6 : x11_1 < (l0.length : Int)
     ·rw [if_pos c6] at H
      have c6b0 : decide (x11_1 < (l0.length : Int)) = true := decide_eq_true c6
      clear c6; replace H := Option.bind_eq_some_iff.mp H; obtain ⟨t282, A70, H⟩ := H
      try dsimp only at H
      have A7 := Aside0.mk A70; clear A70
      by_cases c8 : t282 = true
      ·subst c8
       have H1 : (if x11_1 > 0 then (if 0 ≤ (wrap64 (x11_1 - 1)) then (if (wrap64 (x11_1 - 1)) < (l0.length : Int) then (if (rd l0 (wrap64 (x11_1 - 1))) ≥ (rd l0 x11_1) then (some false) else (impl_strictly.l0 k1 l0 a1 a2 l0 (l0.length : Int) (wrap64 (x11_1 + 1)))) else (none)) else (none)) else (impl_strictly.l0 k1 l0 a1 a2 l0 (l0.length : Int) (wrap64 (x11_1 + 1)))) = some r := by rw [if_pos rfl] at H; exact H
       clear H; have H := H1; clear H1
       by_cases c9 : x11_1 > 0
       ·rw [if_pos c9] at H
        have c9b0 : decide (0 < x11_1) = true := decide_eq_true c9
        clear c9
        obtain ⟨ji10, hji10⟩ : ∃ j_ : Int, (wrap64 (x11_1 - 1)) = j_ := ⟨_, rfl⟩
        replace H : (if 0 ≤ (ji10) then (if (ji10) < (l0.length : Int) then (if (rd l0 (ji10)) ≥ (rd l0 x11_1) then (some false) else (impl_strictly.l0 k1 l0 a1 a2 l0 (l0.length : Int) (wrap64 (x11_1 + 1)))) else (none)) else (none)) = some r := by first | (rw [hji10] at H; exact H) | (simp only [hji10] at H ⊢; exact H)
        (try rw [hji10] at A7)
        have hji10w : (IntKind.i64.wrap (x11_1 - 1)) = ji10 := (i64_w _).trans hji10
        by_cases c11 : 0 ≤ (ji10)
        ·rw [if_pos c11] at H
         have c11b0 : decide (0 ≤ (ji10)) = true := decide_eq_true c11
         clear c11
         by_cases c12 : (ji10) < (l0.length : Int)
         ·rw [if_pos c12] at H
          have c12b0 : decide ((ji10) < (l0.length : Int)) = true := decide_eq_true c12
          clear c12
          by_cases c13 : (rd l0 (ji10)) ≥ (rd l0 x11_1)
          ·rw [if_pos c13] at H
           have c13b0 : decide ((rd l0 x11_1) ≤ (rd l0 (ji10))) = true := decide_eq_true c13
           clear c13; obtain rfl := Option.some.inj H
           have p281 : 0 ≤ (x11_1 : Int) := of_decide_eq_true (qR8_2)
           have q281 : x11_1 < (l0.length : Int) := of_decide_eq_true (qR8_2)
           obtain ⟨ad281, e281, hx281_0⟩ := Kd.at_int HR0.out x11_1 p281 q281
           cases e281
           replace p281 := eq_true p281
           replace q281 := eq_true q281
           go_wp2_with (first | ((with_reducible refine gate_callee (f := 44) rfl ?_); refine goesL_ (some 19) rfl rfl Try.func44 (by kernel_rfl) rfl #[.int .i64 (rd l0 x11_1), .int .i64 a1, .int .i64 a2] rfl (qR8_0) ?_; (with_reducible refine (impl_within.calls (rd l0 x11_1) a1 a2 true _ A7.out).mono ?_); rintro e w' ⟨rfl, ⟨nd, rfl⟩⟩; refine ⟨_, rfl, ?_⟩; have p283 : 0 ≤ ((ji10) : Int) := of_decide_eq_true (qR8_2); have q283 : (ji10) < (l0.length : Int) := of_decide_eq_true (qR8_2); obtain ⟨ad283, e283, hx283_0⟩ := Kd.at_int HR0.out (ji10) p283 q283; obtain rfl : ad281 = ad283 := (by injection e283); replace p283 := eq_true p283; replace q283 := eq_true q283))
           go_ret
           exact ⟨(by first | rfl | (simp; done) | (simp only [← hji10] <;> (first | rfl | simp)) | (simp [*]; done)), (qR8_1)⟩
          ·rw [if_neg c13] at H
           have c13b0 : decide ((rd l0 x11_1) ≤ (rd l0 (ji10))) = false := decide_eq_false c13
           clear c13
           have H' := Aside0.mk H
           clear H
           have p281 : 0 ≤ (x11_1 : Int) := of_decide_eq_true (qR8_2)
           have q281 : x11_1 < (l0.length : Int) := of_decide_eq_true (qR8_2)
           obtain ⟨ad281, e281, hx281_0⟩ := Kd.at_int HR0.out x11_1 p281 q281
           cases e281
           replace p281 := eq_true p281
           replace q281 := eq_true q281
           go_wp2_with (first | ((with_reducible refine gate_callee (f := 44) rfl ?_); refine goesL_ (some 19) rfl rfl Try.func44 (by kernel_rfl) rfl #[.int .i64 (rd l0 x11_1), .int .i64 a1, .int .i64 a2] rfl (qR8_0) ?_; (with_reducible refine (impl_within.calls (rd l0 x11_1) a1 a2 true _ A7.out).mono ?_); rintro e w' ⟨rfl, ⟨nd, rfl⟩⟩; refine ⟨_, rfl, ?_⟩; have p283 : 0 ≤ ((ji10) : Int) := of_decide_eq_true (qR8_2); have q283 : (ji10) < (l0.length : Int) := of_decide_eq_true (qR8_2); obtain ⟨ad283, e283, hx283_0⟩ := Kd.at_int HR0.out (ji10) p283 q283; obtain rfl : ad281 = ad283 := (by injection e283); replace p283 := eq_true p283; replace q283 := eq_true q283))
           go_roundg k1
           case measure => have := HK1.out; omega
           case rel => exact ⟨(wrap64 (x11_1 + 1)), (qR8_3), H', ⟨by have := HK1.out; omega⟩, (qR8_1)⟩
         ·rw [if_neg c12] at H
          exact absurd H (by simp)
        ·rw [if_neg c11] at H
         exact absurd H (by simp)
       ·rw [if_neg c9] at H
        have c9b0 : decide (0 < x11_1) = false := decide_eq_false c9
        clear c9
        have H' := Aside0.mk H
        clear H
        have p281 : 0 ≤ (x11_1 : Int) := of_decide_eq_true (qR8_2)
        have q281 : x11_1 < (l0.length : Int) := of_decide_eq_true (qR8_2)
        obtain ⟨ad281, e281, hx281_0⟩ := Kd.at_int HR0.out x11_1 p281 q281
        cases e281
        replace p281 := eq_true p281
        replace q281 := eq_true q281
        go_wp2_with (first | ((with_reducible refine gate_callee (f := 44) rfl ?_); refine goesL_ (some 19) rfl rfl Try.func44 (by kernel_rfl) rfl #[.int .i64 (rd l0 x11_1), .int .i64 a1, .int .i64 a2] rfl (qR8_0) ?_; (with_reducible refine (impl_within.calls (rd l0 x11_1) a1 a2 true _ A7.out).mono ?_); rintro e w' ⟨rfl, ⟨nd, rfl⟩⟩; refine ⟨_, rfl, ?_⟩))
        go_roundg k1
        case measure => have := HK1.out; omega
        case rel => exact ⟨(wrap64 (x11_1 + 1)), (qR8_3), H', ⟨by have := HK1.out; omega⟩, (qR8_1)⟩
      ·replace c8 := Bool.eq_false_iff.mpr c8
       subst c8
       have H1 : (some false) = some r := by rw [if_neg (show ¬ (false = true) by decide)] at H; exact H
       clear H; have H := H1; clear H1; obtain rfl := Option.some.inj H
       have p281 : 0 ≤ (x11_1 : Int) := of_decide_eq_true (qR8_2)
       have q281 : x11_1 < (l0.length : Int) := of_decide_eq_true (qR8_2)
       obtain ⟨ad281, e281, hx281_0⟩ := Kd.at_int HR0.out x11_1 p281 q281
       cases e281
       replace p281 := eq_true p281
       replace q281 := eq_true q281
       go_wp2_with (first | ((with_reducible refine gate_callee (f := 44) rfl ?_); refine goesL_ (some 19) rfl rfl Try.func44 (by kernel_rfl) rfl #[.int .i64 (rd l0 x11_1), .int .i64 a1, .int .i64 a2] rfl (qR8_0) ?_; (with_reducible refine (impl_within.calls (rd l0 x11_1) a1 a2 false _ A7.out).mono ?_); rintro e w' ⟨rfl, ⟨nd, rfl⟩⟩; refine ⟨_, rfl, ?_⟩))
       go_ret
       exact ⟨(qR8_3), (qR8_1)⟩
     ·rw [if_neg c6] at H
      exact absurd H (by simp)
    ·rw [if_neg c5] at H
     exact absurd H (by simp)
   ·rw [if_neg c4] at H
    have c4b0 : decide (x11_1 < (l0.length : Int)) = false := decide_eq_false c4
    clear c4; obtain rfl := Option.some.inj H
    go_wp2
    go_ret
    exact ⟨(qR8_3), (qR8_1)⟩

-- NOT PRINTED: function 104 (slices_insertionSortCmpFunc_int)

-- NOT PRINTED: function 113 (slices_swapRangeCmpFunc_int)

-- NOT PRINTED: function 111 (slices_rotateCmpFunc_int)

-- NOT PRINTED: function 105 (slices_symMergeCmpFunc_int)

-- NOT PRINTED: function 92 (slices_stableCmpFunc_int)

-- NOT PRINTED: function 70 (slices_SortStableFunc_int_int)

/-! ### cmp_isNaN_int: function 93 -/
def cmp_isNaN_int.f (a0 : Int) : Option (Bool) := some (a0 != a0)
theorem cmp_isNaN_int.calls (a0 : Int) (r : Bool) (w : World) (h : cmp_isNaN_int.f a0 = some r) :
  Calls Try.prog 93 #[.int .i64 a0] w fun e w' => e = .returned (.bool r) ∧ Drawn0 w w' := by
 have H : (some (a0 != a0)) = some r := h
 clear h; obtain rfl := Option.some.inj H
 go_enter Try.func93, Try.ntmps93
 go_wp2
 go_ret
 exact ⟨(qR8_3), (qR8_1)⟩

/-! ### cmp_Compare_int: function 72 -/
def cmp_Compare_int.f (a0 : Int) (a1 : Int) : Option (Int) := (cmp_isNaN_int.f a0).bind fun t284 => ((cmp_isNaN_int.f a1).bind fun t285 => (if t284 = true then (if t285 = true then (some 0) else (some (-1))) else (if t285 = true then (some 1) else (if a0 < a1 then (some (-1)) else (if a0 > a1 then (some 1) else (some 0))))))
theorem cmp_Compare_int.calls (a0 : Int) (a1 : Int) (r : Int) (w : World) (h : cmp_Compare_int.f a0 a1 = some r) :
  Calls Try.prog 72 #[.int .i64 a0, .int .i64 a1] w fun e w' => e = .returned (.int .i64 r) ∧ Drawn0 w w' := by
 have H : ((cmp_isNaN_int.f a0).bind fun t284 => ((cmp_isNaN_int.f a1).bind fun t285 => (if t284 = true then (if t285 = true then (some 0) else (some (-1))) else (if t285 = true then (some 1) else (if a0 < a1 then (some (-1)) else (if a0 > a1 then (some 1) else (some 0))))))) = some r := h
 clear h; replace H := Option.bind_eq_some_iff.mp H; obtain ⟨t284, A30, H⟩ := H
 try dsimp only at H
 have A3 := Aside0.mk A30; clear A30; replace H := Option.bind_eq_some_iff.mp H; obtain ⟨t285, A40, H⟩ := H
 try dsimp only at H
 have A4 := Aside0.mk A40; clear A40
 by_cases c5 : t284 = true
 ·subst c5
  have H1 : (if t285 = true then (some 0) else (some (-1))) = some r := by rw [if_pos rfl] at H; exact H
  clear H; have H := H1; clear H1
  by_cases c6 : t285 = true
  ·subst c6
   have H1 : (some 0) = some r := by rw [if_pos rfl] at H; exact H
   clear H; have H := H1; clear H1; obtain rfl := Option.some.inj H
   go_enter Try.func72, Try.ntmps72
   go_wp2_with (first | ((with_reducible refine gate_callee (f := 93) rfl ?_); refine goesL_ (some 8) rfl rfl Try.func93 (by kernel_rfl) rfl #[.int .i64 a0] rfl (qR8_0) ?_; (with_reducible refine (cmp_isNaN_int.calls a0 true _ A3.out).mono ?_); rintro e w' ⟨rfl, ⟨nd, rfl⟩⟩; refine ⟨_, rfl, ?_⟩) | ((with_reducible refine gate_callee (f := 93) rfl ?_); refine goesL_ (some 10) rfl rfl Try.func93 (by kernel_rfl) rfl #[.int .i64 a1] rfl (qR8_0) ?_; (with_reducible refine (cmp_isNaN_int.calls a1 true _ A4.out).mono ?_); rintro e w' ⟨rfl, ⟨nd, rfl⟩⟩; refine ⟨_, rfl, ?_⟩))
   go_ret
   exact ⟨(qR8_3), (qR8_1)⟩
  ·replace c6 := Bool.eq_false_iff.mpr c6
   subst c6
   have H1 : (some (-1)) = some r := by rw [if_neg (show ¬ (false = true) by decide)] at H; exact H
   clear H; have H := H1; clear H1; obtain rfl := Option.some.inj H
   go_enter Try.func72, Try.ntmps72
   go_wp2_with (first | ((with_reducible refine gate_callee (f := 93) rfl ?_); refine goesL_ (some 8) rfl rfl Try.func93 (by kernel_rfl) rfl #[.int .i64 a0] rfl (qR8_0) ?_; (with_reducible refine (cmp_isNaN_int.calls a0 true _ A3.out).mono ?_); rintro e w' ⟨rfl, ⟨nd, rfl⟩⟩; refine ⟨_, rfl, ?_⟩) | ((with_reducible refine gate_callee (f := 93) rfl ?_); refine goesL_ (some 10) rfl rfl Try.func93 (by kernel_rfl) rfl #[.int .i64 a1] rfl (qR8_0) ?_; (with_reducible refine (cmp_isNaN_int.calls a1 false _ A4.out).mono ?_); rintro e w' ⟨rfl, ⟨nd, rfl⟩⟩; refine ⟨_, rfl, ?_⟩))
   go_ret
   exact ⟨(qR8_3), (qR8_1)⟩
 ·replace c5 := Bool.eq_false_iff.mpr c5
  subst c5
  have H1 : (if t285 = true then (some 1) else (if a0 < a1 then (some (-1)) else (if a0 > a1 then (some 1) else (some 0)))) = some r := by rw [if_neg (show ¬ (false = true) by decide)] at H; exact H
  clear H; have H := H1; clear H1
  by_cases c7 : t285 = true
  ·subst c7
   have H1 : (some 1) = some r := by rw [if_pos rfl] at H; exact H
   clear H; have H := H1; clear H1; obtain rfl := Option.some.inj H
   go_enter Try.func72, Try.ntmps72
   go_wp2_with (first | ((with_reducible refine gate_callee (f := 93) rfl ?_); refine goesL_ (some 8) rfl rfl Try.func93 (by kernel_rfl) rfl #[.int .i64 a0] rfl (qR8_0) ?_; (with_reducible refine (cmp_isNaN_int.calls a0 false _ A3.out).mono ?_); rintro e w' ⟨rfl, ⟨nd, rfl⟩⟩; refine ⟨_, rfl, ?_⟩) | ((with_reducible refine gate_callee (f := 93) rfl ?_); refine goesL_ (some 10) rfl rfl Try.func93 (by kernel_rfl) rfl #[.int .i64 a1] rfl (qR8_0) ?_; (with_reducible refine (cmp_isNaN_int.calls a1 true _ A4.out).mono ?_); rintro e w' ⟨rfl, ⟨nd, rfl⟩⟩; refine ⟨_, rfl, ?_⟩))
   go_ret
   exact ⟨(qR8_3), (qR8_1)⟩
  ·replace c7 := Bool.eq_false_iff.mpr c7
   subst c7
   have H1 : (if a0 < a1 then (some (-1)) else (if a0 > a1 then (some 1) else (some 0))) = some r := by rw [if_neg (show ¬ (false = true) by decide)] at H; exact H
   clear H; have H := H1; clear H1
   by_cases c8 : a0 < a1
   ·rw [if_pos c8] at H
    have c8b0 : decide (a0 < a1) = true := decide_eq_true c8
    clear c8; obtain rfl := Option.some.inj H
    go_enter Try.func72, Try.ntmps72
    go_wp2_with (first | ((with_reducible refine gate_callee (f := 93) rfl ?_); refine goesL_ (some 8) rfl rfl Try.func93 (by kernel_rfl) rfl #[.int .i64 a0] rfl (qR8_0) ?_; (with_reducible refine (cmp_isNaN_int.calls a0 false _ A3.out).mono ?_); rintro e w' ⟨rfl, ⟨nd, rfl⟩⟩; refine ⟨_, rfl, ?_⟩) | ((with_reducible refine gate_callee (f := 93) rfl ?_); refine goesL_ (some 10) rfl rfl Try.func93 (by kernel_rfl) rfl #[.int .i64 a1] rfl (qR8_0) ?_; (with_reducible refine (cmp_isNaN_int.calls a1 false _ A4.out).mono ?_); rintro e w' ⟨rfl, ⟨nd, rfl⟩⟩; refine ⟨_, rfl, ?_⟩))
    go_ret
    exact ⟨(qR8_3), (qR8_1)⟩
   ·rw [if_neg c8] at H
    have c8b0 : decide (a0 < a1) = false := decide_eq_false c8
    clear c8
    by_cases c9 : a0 > a1
    ·rw [if_pos c9] at H
     have c9b0 : decide (a1 < a0) = true := decide_eq_true c9
     clear c9; obtain rfl := Option.some.inj H
     go_enter Try.func72, Try.ntmps72
     go_wp2_with (first | ((with_reducible refine gate_callee (f := 93) rfl ?_); refine goesL_ (some 8) rfl rfl Try.func93 (by kernel_rfl) rfl #[.int .i64 a0] rfl (qR8_0) ?_; (with_reducible refine (cmp_isNaN_int.calls a0 false _ A3.out).mono ?_); rintro e w' ⟨rfl, ⟨nd, rfl⟩⟩; refine ⟨_, rfl, ?_⟩) | ((with_reducible refine gate_callee (f := 93) rfl ?_); refine goesL_ (some 10) rfl rfl Try.func93 (by kernel_rfl) rfl #[.int .i64 a1] rfl (qR8_0) ?_; (with_reducible refine (cmp_isNaN_int.calls a1 false _ A4.out).mono ?_); rintro e w' ⟨rfl, ⟨nd, rfl⟩⟩; refine ⟨_, rfl, ?_⟩))
     go_ret
     exact ⟨(qR8_3), (qR8_1)⟩
    ·rw [if_neg c9] at H
     have c9b0 : decide (a1 < a0) = false := decide_eq_false c9
     clear c9; obtain rfl := Option.some.inj H
     go_enter Try.func72, Try.ntmps72
     go_wp2_with (first | ((with_reducible refine gate_callee (f := 93) rfl ?_); refine goesL_ (some 8) rfl rfl Try.func93 (by kernel_rfl) rfl #[.int .i64 a0] rfl (qR8_0) ?_; (with_reducible refine (cmp_isNaN_int.calls a0 false _ A3.out).mono ?_); rintro e w' ⟨rfl, ⟨nd, rfl⟩⟩; refine ⟨_, rfl, ?_⟩) | ((with_reducible refine gate_callee (f := 93) rfl ?_); refine goesL_ (some 10) rfl rfl Try.func93 (by kernel_rfl) rfl #[.int .i64 a1] rfl (qR8_0) ?_; (with_reducible refine (cmp_isNaN_int.calls a1 false _ A4.out).mono ?_); rintro e w' ⟨rfl, ⟨nd, rfl⟩⟩; refine ⟨_, rfl, ?_⟩))
     go_ret
     exact ⟨(qR8_3), (qR8_1)⟩

-- NOT PRINTED: function 71 (impl_RescueOrder_1)

/-! ### impl_RescueOrder: function 32 (by hand: wip/inj) -/
/-- The row that is sorted lies in block g; the rest of w stands. -/
def SortS (w0 w W : World) (b0 : Nat) (okp : Nat → Prop) (g n c : Nat) (xs : List Int) : Prop := Kd.R (Kd.int .i64) 3 W b0 okp (.slice (some ⟨g, 0, none⟩) n c) xs ∧ KeepBut w W g none ∧ Below b0 w0 W ∧ b0 ≤ g ∧ b0 ≤ w.heap.size
theorem SortS.below {w0 w W W' : World} {b0 : Nat} {okp : Nat → Prop} {g n c : Nat} {xs : List Int} (h : SortS w0 w W b0 okp g n c xs) (hb : Below W.heap.size W W') : SortS w0 w W' b0 okp g n c xs :=
 ⟨Kd.R_below h.1 hb, h.2.1.trans (KeepBut.of_below hb g none) (.inl rfl), h.2.2.1.trans (hb.mono (Nat.le_trans h.2.2.2.2 h.2.1.1)), h.2.2.2⟩
theorem SortS.drew {w0 w W : World} {b0 : Nat} {okp : Nat → Prop} {g n c : Nat} {xs : List Int} (h : SortS w0 w W b0 okp g n c xs) : SortS w0 w W.drew b0 okp g n c xs :=
 h.below (below_drew1 (Below.refl _ _))
theorem SortS.put {w0 w W : World} {b0 : Nat} {okp : Nat → Prop} {g n c : Nat} {xs : List Int} (h : SortS w0 w W b0 okp g n c xs) (j : Nat) (x : Int) : SortS w0 w (W.setCell ⟨g, j, none⟩ (.int .i64 x)) b0 okp g n c (xs.set j x) := by
 have hp := Kd.R_putg h.1 (j : Int) x
 rw [Int.toNat_natCast] at hp
 exact ⟨hp.1, h.2.1.set_ j _, h.2.2.1.setCell h.2.2.2.1 _, h.2.2.2⟩
theorem SortS.cell {w0 w W : World} {b0 : Nat} {okp : Nat → Prop} {g n c : Nat} {xs : List Int} (h : SortS w0 w W b0 okp g n c xs) {j : Nat} (hj : j < n) : W.cell? ⟨g, j, none⟩ = some (.int .i64 (xs.getD j 0)) ∧ W.frozen? ⟨g, j, none⟩ = false := by
 have hc := Kd.R_celln 0 h.1 (j : Int) (Int.natCast_nonneg _) (by omega)
 rw [Int.toNat_natCast] at hc
 exact ⟨by rw [hc.1]; simp [rdOf], hc.2⟩
def insIn (cf : Int → Int → Int) : Nat → List Int → List Int
 | 0, l => l
 | j + 1, l => if cf (l.getD (j + 1) 0) (l.getD j 0) < 0 then insIn cf j ((l.set (j + 1) (l.getD j 0)).set j (l.getD (j + 1) 0)) else l
def insOut (cf : Int → Int → Int) : Nat → Nat → List Int → List Int
 | 0, _, l => l
 | d + 1, i, l => insOut cf d (i + 1) (insIn cf i l)
theorem sortIns.calls (cf : Int → Int → Int) (P : Int → Prop) (caps : Array Value) (w0 w : World) (b0 : Nat) (okp : Nat → Prop) (g n c : Nat) (xs : List Int) (hn : 1 ≤ n) (hm : n ≤ 1000) (hx : xs.length = n) (hS : SortS w0 w w b0 okp g n c xs)
  (hP : ∀ z ∈ xs, P z) (hp : ∀ x y W, P x → P y → KeepBut w W g none → Below b0 w0 W → Calls Try.prog 71 (#[.int .i64 x, .int .i64 y] ++ caps) W fun e W' => e = .returned (.int .i64 (cf x y)) ∧ Below W.heap.size W W') :
  Calls Try.prog 104 #[.slice (some ⟨g, 0, none⟩) n c, .int .i64 0, .int .i64 n, .func (.func 71) #[] caps] w fun e w' => e = .returned (.tuple #[]) ∧ SortS w0 w w' b0 okp g n c (insOut cf (n - 1) 1 xs) := by
 obtain ⟨res, hres⟩ : ∃ res, insOut cf (n - 1) 1 xs = res := ⟨_, rfl⟩
 rw [hres]
 have HRES := Aside0.mk hres; have HM := Aside0.mk hm; have HX := Aside0.mk hx; have HS := Aside0.mk hS; have HP := Aside0.mk hp; have HQ := Aside0.mk hP; have HN := Aside0.mk hn; clear hres hm hx hS hp hn hP
 have mixed : Try.prog.follows Departure.mixedOrders = true := by kernel_rfl
 go_enter Try.func104, Try.ntmps104
 go_wp2
 go_loopg [8] (n - 1) (fun kq v8 w' => ∃ (i : Nat) (l : List Int), v8 = .int .i64 (i : Int) ∧ Aside0 (kq + i = n ∧ 1 ≤ i ∧ l.length = n ∧ insOut cf kq i l = res) ∧ Aside0 (∀ z ∈ l, P z) ∧ Aside0 (SortS w0 w w' b0 okp g n c l))
 case atStart => exact ⟨1, xs, rfl, ⟨by have := HN.out; omega, by omega, HX.out, HRES.out⟩, HQ, HS⟩
 case round =>
  clear HS HRES HX HQ; obtain ⟨i, l, rfl, HA, HQ, HS⟩ := hrel
  by_cases hlt : i < n
  ·obtain ⟨k1, rfl⟩ : ∃ k1, gk = k1 + 1 := ⟨gk - 1, by have := HA.out.1; omega⟩
   have dlt : decide ((i : Int) < (n : Int)) = true := decide_eq_true (by omega)
   have dlt2 : decide (i < n) = true := decide_eq_true hlt
   have HLT := Aside0.mk hlt
   have HGO : Aside0 (insOut cf k1 (i + 1) (insIn cf i l) = res) := ⟨HA.out.2.2.2⟩
   have HWI : Aside0 (wrap64 ((i : Int) + 1) = ((i + 1 : Nat) : Int)) := ⟨by have := HM.out; unfold wrap64; omega⟩
   have HKI := Aside0.mk HA.out.1
   have HLEN := Aside0.mk HA.out.2.2.1
   clear hlt HA
   go_wp2
   go_loopg [9] i (fun kj v9 w' => ∃ (l' : List Int), v9 = .int .i64 (kj : Int) ∧ Aside0 (kj ≤ i ∧ l'.length = n ∧ insIn cf kj l' = insIn cf i l) ∧ Aside0 (∀ z ∈ l', P z) ∧ Aside0 (SortS w0 w w' b0 okp g n c l'))
   case atStart => exact ⟨l, rfl, ⟨Nat.le_refl _, HLEN.out, rfl⟩, HQ, HS⟩
   case round =>
    clear HS HQ; obtain ⟨l', rfl, HJ, HQ, HS⟩ := hrel
    cases gk with
    | zero =>
     have hdj : decide (((0 : Nat) : Int) > (0 : Int)) = false := rfl
     have HE : Aside0 (insOut cf k1 (i + 1) l' = res) := ⟨by rw [← HGO.out, ← HJ.out.2.2]; rfl⟩
     go_wp2_with fail
     go_big_region_o
     have HS2 := Aside0.mk HS.out.drew
     clear HS
     generalize wr.drew = w2 at HS2 ⊢
     go_wp2
     go_roundg k1
     case measure => omega
     case rel => exact ⟨i + 1, l', by rw [HWI.out], ⟨by have := HKI.out; omega, by omega, HJ.out.2.1, HE.out⟩, HQ, HS2⟩
    | succ j =>
     have hdj : decide (((j + 1 : Nat) : Int) > (0 : Int)) = true := decide_eq_true (by omega)
     have hdj2 : decide ((j : Int) + 1 > (0 : Int)) = true := decide_eq_true (by omega)
     have hjn : j + 1 < n := by have := HJ.out.1; have := HLT.out; omega
     have ej1 : ((j : Int) + 1).toNat = j + 1 := by omega
     have ej0 : ((j : Int)).toNat = j := by omega
     have p1 : (0 : Int) ≤ (j : Int) + 1 := by omega
     have q1 : (j : Int) + 1 < (n : Int) := by omega
     have p0 : (0 : Int) ≤ (j : Int) := by omega
     have q0 : (j : Int) < (n : Int) := by omega
     have wj : wrap64 ((j : Int) + 1 - 1) = (j : Int) := by have := HM.out; unfold wrap64; omega
     have wj2 : wrap64 (j : Int) = (j : Int) := by have := HM.out; unfold wrap64; omega
     have ij : IntKind.i64.wrap ((j : Int)) = (j : Int) := (i64_w _).trans wj2
     have ij2 : IntKind.i64.wrap ((j : Int) + 1 - 1) = (j : Int) := (i64_w _).trans wj
     obtain ⟨x, hx⟩ : ∃ x, x = l'.getD (j + 1) 0 := ⟨_, rfl⟩
     obtain ⟨y, hy⟩ : ∃ y, y = l'.getD j 0 := ⟨_, rfl⟩
     have ⟨l1a, f1a⟩ := HS.out.cell hjn
     have ⟨l1b, f1b⟩ := HS.out.cell (show j < n by omega)
     rw [← hx] at l1a
     rw [← hy] at l1b
     have HJN := Aside0.mk hjn; have HXX := Aside0.mk hx; have HYY := Aside0.mk hy; clear hx hy
     have HPX : Aside0 (P x) := ⟨HQ.out x (by rw [HXX.out, List.getD_eq_getElem?_getD, List.getElem?_eq_getElem (by rw [HJ.out.2.1]; exact HJN.out)]; exact List.getElem_mem _)⟩
     have HPY : Aside0 (P y) := ⟨HQ.out y (by rw [HYY.out, List.getD_eq_getElem?_getD, List.getElem?_eq_getElem (by rw [HJ.out.2.1]; exact Nat.lt_of_succ_lt HJN.out)]; exact List.getElem_mem _)⟩
     by_cases hv : cf x y < 0
     ·have hd : decide (cf x y < 0) = true := decide_eq_true hv
      have HSd := Aside0.mk HS.out.drew
      have HV := Aside0.mk hv; clear HS hv
      go_wp2_with fail
      go_region_held3 (fun W' => SortS w0 w W' b0 okp g n c l' ∧ W'.cell? ⟨g, j + 1, none⟩ = some (.int .i64 x) ∧ W'.cell? ⟨g, j, none⟩ = some (.int .i64 y)) ((first | exact ⟨HSd.out, l1a, l1b⟩ | exact ⟨SortS.below HSd.out hb, by rw [HXX.out]; exact (SortS.cell (SortS.below HSd.out hb) HJN.out).1, by rw [HYY.out]; exact (SortS.cell (SortS.below HSd.out hb) (Nat.lt_of_succ_lt HJN.out)).1⟩)) ((go_at_call 71; refine (HP.out x y _ HPX.out HPY.out HSd.out.2.1 HSd.out.2.2.1).mono ?_; rintro e w2 ⟨rfl, hb⟩))
      have HS2 := Aside0.mk (SortS.below HSd.out hb)
      clear HSd hb l1a l1b f1a f1b
      have ⟨m1a, n1a⟩ := HS2.out.cell HJN.out
      have ⟨m1b, n1b⟩ := HS2.out.cell (show j < n by have := HJN.out; omega)
      rw [← HXX.out] at m1a
      rw [← HYY.out] at m1b
      have HQ2 : Aside0 (∀ z ∈ (l'.set (j + 1) y).set j x, P z) := ⟨fun z hz => by
       rcases List.mem_or_eq_of_mem_set hz with hz | rfl
       ·rcases List.mem_or_eq_of_mem_set hz with hz | rfl
        ·exact HQ.out z hz
        ·exact HPY.out
       ·exact HPX.out⟩
      have HS3 : Aside0 (SortS w0 w ((w2.setCell ⟨g, j + 1, none⟩ (.int .i64 y)).setCell ⟨g, j, none⟩ (.int .i64 x)).drew b0 okp g n c ((l'.set (j + 1) y).set j x)) := ⟨((HS2.out.put (j + 1) y).put j x).drew⟩
      have ⟨m2b, n2b⟩ := (HS2.out.put (j + 1) y).cell (show j < n by have := HJN.out; omega)
      have m2b' : (w2.setCell ⟨g, j + 1, none⟩ (.int .i64 y)).cell? ⟨g, j, none⟩ = some (.int .i64 y) := by rw [m2b, HYY.out]; congr 2; simp [List.getD_eq_getElem?_getD, List.getElem?_set]
      clear m2b HS2
      go_wp2_with fail
      go_big_region_o
      clear m1a n1a m1b n1b m2b' n2b
      generalize ((w2.setCell ⟨g, j + 1, none⟩ (.int .i64 y)).setCell ⟨g, j, none⟩ (.int .i64 x)).drew = w3 at HS3 ⊢
      go_wp2
      go_roundg j
      case measure => omega
      case rel => exact ⟨(l'.set (j + 1) y).set j x, (by first | rfl | (congr 1)), ⟨by have := HJ.out.1; omega, by rw [List.length_set, List.length_set]; exact HJ.out.2.1, by rw [← HJ.out.2.2]; simp only [insIn]; rw [← HXX.out, ← HYY.out, if_pos HV.out]⟩, HQ2, HS3⟩
     ·have hd : decide (cf x y < 0) = false := decide_eq_false hv
      have HSd := Aside0.mk HS.out.drew
      have HV := Aside0.mk hv; clear HS hv
      have HE : Aside0 (insOut cf k1 (i + 1) l' = res) := ⟨by rw [← HGO.out, ← HJ.out.2.2]; simp only [insIn]; rw [← HXX.out, ← HYY.out, if_neg HV.out]⟩
      go_wp2_with fail
      go_region_held3 (fun W' => SortS w0 w W' b0 okp g n c l' ∧ W'.cell? ⟨g, j + 1, none⟩ = some (.int .i64 x) ∧ W'.cell? ⟨g, j, none⟩ = some (.int .i64 y)) ((first | exact ⟨HSd.out, l1a, l1b⟩ | exact ⟨SortS.below HSd.out hb, by rw [HXX.out]; exact (SortS.cell (SortS.below HSd.out hb) HJN.out).1, by rw [HYY.out]; exact (SortS.cell (SortS.below HSd.out hb) (Nat.lt_of_succ_lt HJN.out)).1⟩)) ((go_at_call 71; refine (HP.out x y _ HPX.out HPY.out HSd.out.2.1 HSd.out.2.2.1).mono ?_; rintro e w2 ⟨rfl, hb⟩))
      have HS2 := Aside0.mk (SortS.below HSd.out hb)
      clear HSd hb l1a l1b f1a f1b
      go_wp2
      go_roundg k1
      case measure => omega
      case rel => exact ⟨i + 1, l', by rw [HWI.out], ⟨by have := HKI.out; omega, by omega, HJ.out.2.1, HE.out⟩, HQ, HS2⟩
  ·have dlt : decide ((i : Int) < (n : Int)) = false := decide_eq_false (by omega)
   have dlt2 : decide (i < n) = false := decide_eq_false hlt
   obtain rfl : gk = 0 := by have := HA.out.1; omega
   have HE := Aside0.mk (show l = res from HA.out.2.2.2)
   clear hlt
   go_wp2
   go_end0
   exact ⟨rfl, by rw [← HE.out]; exact HS.out⟩
theorem sortStable.calls (cf : Int → Int → Int) (P : Int → Prop) (caps : Array Value) (w0 w : World) (b0 : Nat) (okp : Nat → Prop) (g n c : Nat) (xs : List Int) (hn : 1 ≤ n) (hm : n < 20) (hx : xs.length = n) (hS : SortS w0 w w b0 okp g n c xs)
  (hP : ∀ z ∈ xs, P z) (hp : ∀ x y W, P x → P y → KeepBut w W g none → Below b0 w0 W → Calls Try.prog 71 (#[.int .i64 x, .int .i64 y] ++ caps) W fun e W' => e = .returned (.int .i64 (cf x y)) ∧ Below W.heap.size W W') :
  Calls Try.prog 92 #[.slice (some ⟨g, 0, none⟩) n c, .int .i64 n, .func (.func 71) #[] caps] w fun e w' => e = .returned (.tuple #[]) ∧ SortS w0 w w' b0 okp g n c (insOut cf (n - 1) 1 xs) := by
 have HI := Aside0.mk (sortIns.calls cf P caps w0 w b0 okp g n c xs hn (by omega) hx hS hP hp)
 have d1 : decide ((20 : Int) ≤ (n : Int)) = false := decide_eq_false (by omega)
 have d2 : decide ((20 : Int) < (n : Int)) = false := decide_eq_false (by omega)
 have d3 : ¬ ((20 : Int) ≤ (n : Int)) := by omega
 have d4 : ¬ ((20 : Int) < (n : Int)) := by omega
 clear hn hm hx hS hP hp
 go_enter Try.func92, Try.ntmps92
 go_wp2
 go_loopg [7, 8] 1 (fun kq v7 v8 w' => v7 = .int .i64 0 ∧ v8 = .int .i64 20 ∧ w' = w)
 case atStart => exact ⟨rfl, rfl, rfl⟩
 case round =>
  obtain ⟨rfl, rfl, rfl⟩ := hrel
  go_wp2_with (go_at_call 104; refine HI.out.mono ?_; rintro e w1 ⟨rfl, hs⟩; have HS1 := Aside0.mk hs; clear hs)
  go_loopg [6] 1 (fun kq v6 w' => v6 = .int .i64 20 ∧ w' = w1)
  case atStart => exact ⟨rfl, rfl⟩
  case round =>
   obtain ⟨rfl, rfl⟩ := hrel
   go_wp2
   go_end0
   exact ⟨rfl, HS1.out⟩
theorem sortRow.calls (cf : Int → Int → Int) (P : Int → Prop) (caps : Array Value) (w0 w : World) (b0 : Nat) (okp : Nat → Prop) (g n c : Nat) (xs : List Int) (hn : 1 ≤ n) (hm : n < 20) (hx : xs.length = n) (hS : SortS w0 w w b0 okp g n c xs)
  (hP : ∀ z ∈ xs, P z) (hp : ∀ x y W, P x → P y → KeepBut w W g none → Below b0 w0 W → Calls Try.prog 71 (#[.int .i64 x, .int .i64 y] ++ caps) W fun e W' => e = .returned (.int .i64 (cf x y)) ∧ Below W.heap.size W W') :
  Calls Try.prog 70 #[.slice (some ⟨g, 0, none⟩) n c, .func (.func 71) #[] caps] w fun e w' => e = .returned (.tuple #[]) ∧ SortS w0 w w' b0 okp g n c (insOut cf (n - 1) 1 xs) := by
 have HI := Aside0.mk (sortStable.calls cf P caps w0 w b0 okp g n c xs hn hm hx hS hP hp)
 clear hn hm hx hS hP hp
 go_enter Try.func70, Try.ntmps70
 go_wp2_with (go_at_call 92; refine HI.out.mono ?_; rintro e w1 ⟨rfl, hs⟩; have HS1 := Aside0.mk hs; clear hs)
 go_end0
 exact ⟨rfl, HS1.out⟩
theorem sortIns0.calls (caps : Array Value) (A : Option Addr) (c : Nat) (w : World) :
  Calls Try.prog 104 #[.slice A 0 c, .int .i64 0, .int .i64 0, .func (.func 71) #[] caps] w fun e w' => e = .returned (.tuple #[]) ∧ w' = w := by
 go_enter Try.func104, Try.ntmps104
 go_wp2
 go_loopg [8] 1 (fun kq v8 w' => v8 = .int .i64 1 ∧ w' = w)
 case atStart => exact ⟨rfl, rfl⟩
 case round =>
  obtain ⟨rfl, rfl⟩ := hrel
  go_wp2
  go_end0
  exact ⟨rfl, rfl⟩
theorem sortStable0.calls (caps : Array Value) (A : Option Addr) (c : Nat) (w : World) :
  Calls Try.prog 92 #[.slice A 0 c, .int .i64 0, .func (.func 71) #[] caps] w fun e w' => e = .returned (.tuple #[]) ∧ w' = w := by
 go_enter Try.func92, Try.ntmps92
 go_wp2
 go_loopg [7, 8] 1 (fun kq v7 v8 w' => v7 = .int .i64 0 ∧ v8 = .int .i64 20 ∧ Aside0 (w' = w))
 case atStart => exact ⟨rfl, rfl, ⟨rfl⟩⟩
 case round =>
  obtain ⟨rfl, rfl, HW⟩ := hrel
  go_wp2_with (go_at_call 104; refine (sortIns0.calls caps A c _).mono ?_; rintro e w1 ⟨rfl, hw1⟩; have HW1 := Aside0.mk (hw1.trans HW.out); clear hw1)
  go_loopg [6] 1 (fun kq v6 w' => v6 = .int .i64 20 ∧ Aside0 (w' = w))
  case atStart => exact ⟨rfl, HW1⟩
  case round =>
   obtain ⟨rfl, HW2⟩ := hrel
   go_wp2
   go_end0
   exact ⟨rfl, HW2.out⟩
theorem sortRow0.calls (caps : Array Value) (A : Option Addr) (c : Nat) (w : World) :
  Calls Try.prog 70 #[.slice A 0 c, .func (.func 71) #[] caps] w fun e w' => e = .returned (.tuple #[]) ∧ w' = w := by
 go_enter Try.func70, Try.ntmps70
 go_wp2_with (go_at_call 92; refine (sortStable0.calls caps A c _).mono ?_; rintro e w1 ⟨rfl, rfl⟩)
 go_end0
 exact ⟨rfl, rfl⟩
def cmpOf (a b : Int) : Int := if a < b then -1 else if a > b then 1 else 0
theorem cmpOf_eq (a b : Int) : cmp_Compare_int.f a b = some (cmpOf a b) := by
 simp only [cmp_Compare_int.f, cmp_isNaN_int.f, cmpOf, Option.bind_some, bne_self_eq_false, Bool.false_eq_true, if_false]
 split
 ·rfl
 ·split <;> rfl
/-- The order of the rescue: what the closure answers. -/
def rescueCf (l0 : List S66) (l1 : List Int) (from_ : Int) (a b : Int) : Int := cmpOf (greatestDown l0 l1 from_ b 201) (greatestDown l0 l1 from_ a 201)
theorem impl_RescueOrder_1.calls (l0 : List S66) (l1 : List Int) (from_ : Int) (A0 : Option Addr) (c0 : Nat) (A1 : Option Addr) (c1 : Nat) (g1 g2 g3 : Nat) (a b : Int) (W : World) (hr0 : Kd.C k66 W A0 l0.length l0) (hc0 : l0.length ≤ c0) (hr1 : Kd.C (Kd.int .i64) W A1 l1.length l1) (hc1 : l1.length ≤ c1)
  (h1 : W.heap[g1]? = some (.cells #[.slice A0 l0.length c0] 24 (0, 0))) (h2 : W.heap[g2]? = some (.cells #[.slice A1 l1.length c1] 25 (0, 0))) (h3 : W.heap[g3]? = some (.cells #[.int .i64 from_] 3 (0, 0)))
  (hreach : reachOk l0 l1 from_ = true) (ha : 0 ≤ a ∧ a ≤ 7) (hb : 0 ≤ b ∧ b ≤ 7) :
  Calls Try.prog 71 (#[.int .i64 a, .int .i64 b] ++ #[.pointer (some ⟨g1, 0, none⟩), .pointer (some ⟨g2, 0, none⟩), .pointer (some ⟨g3, 0, none⟩)]) W fun e W' => e = .returned (.int .i64 (rescueCf l0 l1 from_ a b)) ∧ Below W.heap.size W W' := by
 have HG : Aside0 (∀ x W', 0 ≤ x ∧ x ≤ 7 → Below W.heap.size W W' → Calls Try.prog 56 #[.slice A0 l0.length c0, .slice A1 l1.length c1, .int .i64 from_, .int .i64 x] W' fun e W'' => e = .returned (.int .i64 (greatestDown l0 l1 from_ x 201)) ∧ Below W.heap.size W W'') := ⟨fun x W' hx hbw =>
  (impl_greatest.calls A0 c0 l0 A1 c1 l1 from_ x _ W' (Kd.C_below hr0 hbw) hc0 (Kd.C_below hr1 hbw) hc1 (by unfold impl_greatest.f; rw [if_pos ⟨hreach, hx.1, hx.2⟩])).mono (fun e w'' h_ => ⟨h_.1, below_step hbw h_.2⟩)⟩
 have HK1 := Aside0.mk h1; have HK2 := Aside0.mk h2; have HK3 := Aside0.mk h3; have HPA := Aside0.mk ha; have HPB := Aside0.mk hb
 have hbd : Below W.heap.size W W.drew := below_drew1 (Below.refl _ _)
 have HBd := Aside0.mk hbd
 have hz1 : W.cell? ⟨g1, 0, none⟩ = some (.slice A0 l0.length c0) := (blk_cell h1 0).trans rfl
 have hz2 : W.cell? ⟨g2, 0, none⟩ = some (.slice A1 l1.length c1) := (blk_cell h2 0).trans rfl
 have hz3 : W.cell? ⟨g3, 0, none⟩ = some (.int .i64 from_) := (blk_cell h3 0).trans rfl
 clear hr0 hc0 hr1 hc1 h1 h2 h3 hreach ha hb hbd
 have hcmp : Aside0 (∀ w', Calls Try.prog 72 #[.int .i64 (greatestDown l0 l1 from_ b 201), .int .i64 (greatestDown l0 l1 from_ a 201)] w' fun e w'' => e = .returned (.int .i64 (rescueCf l0 l1 from_ a b)) ∧ Drawn0 w' w'') := ⟨fun w' => cmp_Compare_int.calls _ _ _ w' (cmpOf_eq _ _)⟩
 go_enter Try.func71, Try.ntmps71
 go_wp2_with fail
 go_region_held3 (fun W' => Below W.heap.size W W' ∧ W'.cell? ⟨g1, 0, none⟩ = some (.slice A0 l0.length c0) ∧ W'.cell? ⟨g2, 0, none⟩ = some (.slice A1 l1.length c1) ∧ W'.cell? ⟨g3, 0, none⟩ = some (.int .i64 from_)) ((first | exact ⟨hb, (blk_cell (blk_below HK1.out hb) 0).trans rfl, (blk_cell (blk_below HK2.out hb) 0).trans rfl, (blk_cell (blk_below HK3.out hb) 0).trans rfl⟩ | exact ⟨HBd.out, hz1, hz2, hz3⟩ | exact ⟨by assumption, by assumption, by assumption, by assumption⟩)) ((first | (go_at_call 56; refine (HG.out _ _ ?hx ?hb).mono ?_; (case hx => exact (by first | exact HPA.out | exact HPB.out)); (case hb => exact (by first | exact hb | exact HBd.out | assumption)); rintro e w2 ⟨rfl, hb⟩) | (go_at_call 72; refine (hcmp.out _).mono ?_; rintro e w3 ⟨rfl, ⟨nd, rfl⟩⟩; replace hb := pw_below_drewN hb nd)))
 go_wp2
 go_ret
 exact ⟨rfl, hb⟩
/-- The stations to which there is a route. -/
def reachable (l0 : List S66) (l1 : List Int) (from_ : Int) (s : Int) : Bool := greatestDown l0 l1 from_ s 201 != -1
def impl_RescueOrder.f (k : Nat) (l0 : List S66) (l1 : List Int) (a2 : Int) (l3 : List Int) : Option (List Int × Bool) := (impl_areEnds.f k l0 l1 a2 a2).bind fun t => if t = true then ((impl_strictly.f k l3 0 7).bind fun t2 => if t2 = true then (if reachOk l0 l1 a2 = true ∧ (∀ z ∈ l3, 0 ≤ z ∧ z ≤ 7) ∧ l3.length ≤ 19 then some (insOut (rescueCf l0 l1 a2) ((l3.filter (reachable l0 l1 a2)).length - 1) 1 (l3.filter (reachable l0 l1 a2)), true) else none) else some ([], false)) else some ([], false)
theorem impl_RescueOrder.mono : ∀ a0 a1 a2 a3 k, LeO (impl_RescueOrder.f k a0 a1 a2 a3) (impl_RescueOrder.f (k + 1) a0 a1 a2 a3) := by
 intro a0 a1 a2 a3 k
 unfold impl_RescueOrder.f
 repeat' first
   | (with_reducible exact impl_areEnds.mono _ _ _ _ _)
   | (with_reducible exact impl_strictly.mono _ _ _ _)
   | (with_reducible exact LeO.refl _)
   | (with_reducible exact LeO.none _)
   | (with_reducible refine LeO.ite ?_ ?_)
   | (with_reducible refine LeO.bind ?_ (fun _ => ?_))
   | exact impl_areEnds.mono _ _ _ _ _
   | exact impl_strictly.mono _ _ _ _
   | exact LeO.none _
   | refine LeO.ite ?_ ?_
   | refine LeO.bind ?_ (fun _ => ?_)
theorem filter_take1 (p : Int → Bool) (xs : List Int) (i : Nat) (h : i < xs.length) : (xs.take (i + 1)).filter p = (xs.take i).filter p ++ (if p (xs.getD i 0) = true then [xs.getD i 0] else []) := by
 rw [List.take_succ_eq_append_getElem h, List.filter_append, List.getD_eq_getElem?_getD, List.getElem?_eq_getElem h]
 simp [List.filter_cons]
theorem impl_RescueOrder.calls (k : Nat) (A0 : Option Addr) (c0 : Nat) (l0 : List S66) (A1 : Option Addr) (c1 : Nat) (l1 : List Int) (a2 : Int) (A3 : Option Addr) (c3 : Nat) (l3 : List Int) (r1 : List Int) (r2 : Bool) (w : World) (hr0 : Kd.C k66 w A0 l0.length l0) (hc0 : l0.length ≤ c0) (hr1 : Kd.C (Kd.int .i64) w A1 l1.length l1) (hc1 : l1.length ≤ c1) (hr3 : Kd.C (Kd.int .i64) w A3 l3.length l3) (hc3 : l3.length ≤ c3) (h : impl_RescueOrder.f k l0 l1 a2 l3 = some (r1, r2)) :
  Calls Try.prog 32 #[.slice A0 l0.length c0, .slice A1 l1.length c1, .int .i64 a2, .slice A3 l3.length c3] w fun e w' => ∃ v0_ : Value, e = .returned (.tuple #[v0_, .bool r2]) ∧ Kd.R (Kd.int .i64) 3 w' w.heap.size (fun _ => True) v0_ r1 ∧ Below w.heap.size w w' := by
 obtain ⟨t, ht, h⟩ := Option.bind_eq_some_iff.mp h
 have HE : Aside0 (∀ W, Below w.heap.size w W → Calls Try.prog 43 #[.slice A0 l0.length c0, .slice A1 l1.length c1, .int .i64 a2, .int .i64 a2] W fun e w' => e = .returned (.bool t) ∧ Below W.heap.size W w') := ⟨fun W hb => (impl_areEnds.calls k A0 c0 l0 A1 c1 l1 a2 a2 t W (Kd.C_below hr0 hb) hc0 (Kd.C_below hr1 hb) hc1 ht).mono (fun e w' h_ => ⟨h_.1, h_.2⟩)⟩
 have HR0 := Aside0.mk hr0; have HC0 := Aside0.mk hc0; have HR1 := Aside0.mk hr1; have HC1 := Aside0.mk hc1; have HR3 := Aside0.mk hr3; have HC3 := Aside0.mk hc3
 have HB := Aside0.mk (Below.refl w.heap.size w)
 clear hr0 hc0 hr1 hc1 hr3 hc3 ht
 cases t with
 | false =>
  simp only [Bool.false_eq_true, if_false, Option.some.injEq, Prod.mk.injEq] at h
  obtain ⟨rfl, rfl⟩ := h
  go_enter Try.func32, Try.ntmps32
  go_wp2_with (first | ((with_reducible refine gate_dst (N := 4) rfl ?_); refine box_event ?hg (N := 4) ?hd (cs := #[.slice A0 l0.length c0]) (t := 24) ?hr ?_; (case hd => rfl); (case hg => rfl); (case hr => exact (qR8_4)); intro g1 hg wb1 hbox hb; have BK1 := Aside0.mk hbox; have GE1 : Aside0 (w.heap.size ≤ g1) := ⟨by rw [hg]; exact HB.out.size⟩; have GL1 : Aside0 (g1 < wb1.heap.size) := ⟨blk_lt hbox⟩; have n_ := Aside0.mk (below_step HB.out hb); clear HB; have HB := n_; clear n_; clear hbox hb hg) | ((with_reducible refine gate_dst (N := 5) rfl ?_); refine box_event ?hg (N := 5) ?hd (cs := #[.slice A1 l1.length c1]) (t := 25) ?hr ?_; (case hd => rfl); (case hg => rfl); (case hr => exact (qR8_4)); intro g2 hg wb2 hbox hb; have BK2 := Aside0.mk hbox; have GE2 : Aside0 (w.heap.size ≤ g2) := ⟨by rw [hg]; exact HB.out.size⟩; have GL2 : Aside0 (g2 < wb2.heap.size) := ⟨blk_lt hbox⟩; have m1_ := Aside0.mk (blk_below BK1.out hb); clear BK1; have BK1 := m1_; clear m1_; have n_ := Aside0.mk (below_step HB.out hb); clear HB; have HB := n_; clear n_; clear hbox hb hg) | ((with_reducible refine gate_dst (N := 6) rfl ?_); refine box_event ?hg (N := 6) ?hd (cs := #[.int .i64 a2]) (t := 3) ?hr ?_; (case hd => rfl); (case hg => rfl); (case hr => exact (qR8_4)); intro g3 hg wb3 hbox hb; have BK3 := Aside0.mk hbox; have GE3 : Aside0 (w.heap.size ≤ g3) := ⟨by rw [hg]; exact HB.out.size⟩; have GL3 : Aside0 (g3 < wb3.heap.size) := ⟨blk_lt hbox⟩; have m1_ := Aside0.mk (blk_below BK1.out hb); clear BK1; have BK1 := m1_; clear m1_; have m2_ := Aside0.mk (blk_below BK2.out hb); clear BK2; have BK2 := m2_; clear m2_; have n_ := Aside0.mk (below_step HB.out hb); clear HB; have HB := n_; clear n_; clear hbox hb hg; have hz1 := (blk_cell BK1.out 0).trans rfl; have hz2 := (blk_cell BK2.out 0).trans rfl; have hz3 := (blk_cell BK3.out 0).trans rfl; have W3 := Aside0.mk (Below.refl wb3.heap.size wb3); have HB3 := HB) | (go_at_call 43; refine (HE.out _ HB.out).mono ?_; rintro e w8 ⟨rfl, hb⟩; have n1_ := Aside0.mk (below_step HB.out hb); have n2_ := Aside0.mk (below_step W3.out hb); clear HB W3 hb; have HB := n1_; have W3 := n2_; clear n1_ n2_))
  go_ret2
  exact ⟨_, rfl, Kd.R_nil _ _ _ _ _, HB.out⟩
 | true =>
  rw [if_pos rfl] at h
  obtain ⟨t2, ht2, h⟩ := Option.bind_eq_some_iff.mp h
  have HS2 : Aside0 (∀ W, Below w.heap.size w W → Calls Try.prog 69 #[.slice A3 l3.length c3, .int .i64 0, .int .i64 7] W fun e w' => e = .returned (.bool t2) ∧ Below W.heap.size W w') := ⟨fun W hb => (impl_strictly.calls k A3 c3 l3 0 7 t2 W (Kd.C_below HR3.out hb) HC3.out ht2).mono (fun e w' h_ => ⟨h_.1, by obtain ⟨n_, e_⟩ := h_.2; rw [e_]; exact pw_below_drewN (Below.refl _ _) _⟩)⟩
  clear ht2
  cases t2 with
  | false =>
   simp only [Bool.false_eq_true, if_false, Option.some.injEq, Prod.mk.injEq] at h
   obtain ⟨rfl, rfl⟩ := h
   go_enter Try.func32, Try.ntmps32
   go_wp2_with (first | ((with_reducible refine gate_dst (N := 4) rfl ?_); refine box_event ?hg (N := 4) ?hd (cs := #[.slice A0 l0.length c0]) (t := 24) ?hr ?_; (case hd => rfl); (case hg => rfl); (case hr => exact (qR8_4)); intro g1 hg wb1 hbox hb; have BK1 := Aside0.mk hbox; have GE1 : Aside0 (w.heap.size ≤ g1) := ⟨by rw [hg]; exact HB.out.size⟩; have GL1 : Aside0 (g1 < wb1.heap.size) := ⟨blk_lt hbox⟩; have n_ := Aside0.mk (below_step HB.out hb); clear HB; have HB := n_; clear n_; clear hbox hb hg) | ((with_reducible refine gate_dst (N := 5) rfl ?_); refine box_event ?hg (N := 5) ?hd (cs := #[.slice A1 l1.length c1]) (t := 25) ?hr ?_; (case hd => rfl); (case hg => rfl); (case hr => exact (qR8_4)); intro g2 hg wb2 hbox hb; have BK2 := Aside0.mk hbox; have GE2 : Aside0 (w.heap.size ≤ g2) := ⟨by rw [hg]; exact HB.out.size⟩; have GL2 : Aside0 (g2 < wb2.heap.size) := ⟨blk_lt hbox⟩; have m1_ := Aside0.mk (blk_below BK1.out hb); clear BK1; have BK1 := m1_; clear m1_; have n_ := Aside0.mk (below_step HB.out hb); clear HB; have HB := n_; clear n_; clear hbox hb hg) | ((with_reducible refine gate_dst (N := 6) rfl ?_); refine box_event ?hg (N := 6) ?hd (cs := #[.int .i64 a2]) (t := 3) ?hr ?_; (case hd => rfl); (case hg => rfl); (case hr => exact (qR8_4)); intro g3 hg wb3 hbox hb; have BK3 := Aside0.mk hbox; have GE3 : Aside0 (w.heap.size ≤ g3) := ⟨by rw [hg]; exact HB.out.size⟩; have GL3 : Aside0 (g3 < wb3.heap.size) := ⟨blk_lt hbox⟩; have m1_ := Aside0.mk (blk_below BK1.out hb); clear BK1; have BK1 := m1_; clear m1_; have m2_ := Aside0.mk (blk_below BK2.out hb); clear BK2; have BK2 := m2_; clear m2_; have n_ := Aside0.mk (below_step HB.out hb); clear HB; have HB := n_; clear n_; clear hbox hb hg; have hz1 := (blk_cell BK1.out 0).trans rfl; have hz2 := (blk_cell BK2.out 0).trans rfl; have hz3 := (blk_cell BK3.out 0).trans rfl; have W3 := Aside0.mk (Below.refl wb3.heap.size wb3); have HB3 := HB) | (go_at_call 43; refine (HE.out _ HB.out).mono ?_; rintro e w8 ⟨rfl, hb⟩; have n1_ := Aside0.mk (below_step HB.out hb); have n2_ := Aside0.mk (below_step W3.out hb); clear HB W3 hb; have HB := n1_; have W3 := n2_; clear n1_ n2_) | (go_at_call 69; refine (HS2.out _ HB.out).mono ?_; rintro e w9 ⟨rfl, hb⟩; have n1_ := Aside0.mk (below_step HB.out hb); have n2_ := Aside0.mk (below_step W3.out hb); clear HB W3 hb; have HB := n1_; have W3 := n2_; clear n1_ n2_))
   go_ret2
   exact ⟨_, rfl, Kd.R_nil _ _ _ _ _, HB.out⟩
  | true =>
   rw [if_pos rfl] at h
   split at h
   case isFalse => cases h
   rename_i hall
   simp only [Option.some.injEq, Prod.mk.injEq] at h
   obtain ⟨hres, rfl⟩ := h; have HALL := Aside0.mk hall; have HRES := Aside0.mk hres; clear hall hres
   go_enter Try.func32, Try.ntmps32
   go_wp2_with (first | ((with_reducible refine gate_dst (N := 4) rfl ?_); refine box_event ?hg (N := 4) ?hd (cs := #[.slice A0 l0.length c0]) (t := 24) ?hr ?_; (case hd => rfl); (case hg => rfl); (case hr => exact (qR8_4)); intro g1 hg wb1 hbox hb; have BK1 := Aside0.mk hbox; have GE1 : Aside0 (w.heap.size ≤ g1) := ⟨by rw [hg]; exact HB.out.size⟩; have GL1 : Aside0 (g1 < wb1.heap.size) := ⟨blk_lt hbox⟩; have n_ := Aside0.mk (below_step HB.out hb); clear HB; have HB := n_; clear n_; clear hbox hb hg) | ((with_reducible refine gate_dst (N := 5) rfl ?_); refine box_event ?hg (N := 5) ?hd (cs := #[.slice A1 l1.length c1]) (t := 25) ?hr ?_; (case hd => rfl); (case hg => rfl); (case hr => exact (qR8_4)); intro g2 hg wb2 hbox hb; have BK2 := Aside0.mk hbox; have GE2 : Aside0 (w.heap.size ≤ g2) := ⟨by rw [hg]; exact HB.out.size⟩; have GL2 : Aside0 (g2 < wb2.heap.size) := ⟨blk_lt hbox⟩; have m1_ := Aside0.mk (blk_below BK1.out hb); clear BK1; have BK1 := m1_; clear m1_; have n_ := Aside0.mk (below_step HB.out hb); clear HB; have HB := n_; clear n_; clear hbox hb hg) | ((with_reducible refine gate_dst (N := 6) rfl ?_); refine box_event ?hg (N := 6) ?hd (cs := #[.int .i64 a2]) (t := 3) ?hr ?_; (case hd => rfl); (case hg => rfl); (case hr => exact (qR8_4)); intro g3 hg wb3 hbox hb; have BK3 := Aside0.mk hbox; have GE3 : Aside0 (w.heap.size ≤ g3) := ⟨by rw [hg]; exact HB.out.size⟩; have GL3 : Aside0 (g3 < wb3.heap.size) := ⟨blk_lt hbox⟩; have m1_ := Aside0.mk (blk_below BK1.out hb); clear BK1; have BK1 := m1_; clear m1_; have m2_ := Aside0.mk (blk_below BK2.out hb); clear BK2; have BK2 := m2_; clear m2_; have n_ := Aside0.mk (below_step HB.out hb); clear HB; have HB := n_; clear n_; clear hbox hb hg; have hz1 := (blk_cell BK1.out 0).trans rfl; have hz2 := (blk_cell BK2.out 0).trans rfl; have hz3 := (blk_cell BK3.out 0).trans rfl; have W3 := Aside0.mk (Below.refl wb3.heap.size wb3); have HB3 := HB) | (go_at_call 43; refine (HE.out _ HB.out).mono ?_; rintro e w8 ⟨rfl, hb⟩; have n1_ := Aside0.mk (below_step HB.out hb); have n2_ := Aside0.mk (below_step W3.out hb); clear HB W3 hb; have HB := n1_; have W3 := n2_; clear n1_ n2_) | (go_at_call 69; refine (HS2.out _ HB.out).mono ?_; rintro e w9 ⟨rfl, hb⟩; have n1_ := Aside0.mk (below_step HB.out hb); have n2_ := Aside0.mk (below_step W3.out hb); clear HB W3 hb; have HB := n1_; have W3 := n2_; clear n1_ n2_))
   clear hz1 hz2 hz3 HB HE HS2
   go_loopg [10, 26] l3.length (fun kq v10 v26 w' => ∃ (i : Nat) (out : List Int), v26 = .int .i64 (i : Int) ∧ Aside0 (kq + i = l3.length ∧ out = (l3.take i).filter (reachable l0 l1 a2)) ∧ Aside0 (Kd.R (Kd.int .i64) 3 w' wb3.heap.size (fun _ => True) v10 out) ∧ Aside0 (Below wb3.heap.size wb3 w'))
   case atStart => exact ⟨0, [], rfl, ⟨by omega, by simp⟩, ⟨Kd.R_nil _ _ _ _ _⟩, W3⟩
   case round =>
    clear W3; obtain ⟨i, out, rfl, HX, HO, HW⟩ := hrel
    have HBW := Aside0.mk (HB3.out.trans (HW.out.mono HB3.out.size))
    by_cases hlt : i < l3.length
    ·obtain ⟨k1, rfl⟩ : ∃ k1, gk = k1 + 1 := ⟨gk - 1, by have := HX.out.1; omega⟩
     have dlt : decide ((i : Int) < (l3.length : Int)) = true := decide_eq_true (by omega)
     have dlt2 : decide (i < l3.length) = true := decide_eq_true hlt
     have p5 : (0 : Int) ≤ (i : Int) := Int.natCast_nonneg _
     have q5 : (i : Int) < (l3.length : Int) := by omega
     obtain ⟨ad, ead, hx0⟩ := Kd.at_int (Kd.C_below HR3.out HBW.out) (i : Int) p5 q5
     cases ead
     obtain ⟨s, hs⟩ : ∃ s, s = rd l3 (i : Int) := ⟨_, rfl⟩
     rw [← hs, Int.toNat_natCast] at hx0
     have hs2 : s = l3.getD i 0 := by rw [hs]; simp [rd]
     have hsm : s ∈ l3 := by rw [hs2, List.getD_eq_getElem?_getD, List.getElem?_eq_getElem hlt]; exact List.getElem_mem _
     have HS2 := Aside0.mk hs2; have HLT := Aside0.mk hlt
     have HWI : Aside0 (wrap64 ((i : Int) + 1) = ((i + 1 : Nat) : Int)) := ⟨by have := HALL.out.2.2; unfold wrap64; omega⟩
     have HKI := Aside0.mk HX.out.1
     have HFT := Aside0.mk (filter_take1 (reachable l0 l1 a2) l3 i hlt)
     have hz1 : wr.cell? ⟨g1, 0, none⟩ = some (.slice A0 l0.length c0) := (blk_cell (blk_below BK1.out HW.out) 0).trans rfl
     have hz2 : wr.cell? ⟨g2, 0, none⟩ = some (.slice A1 l1.length c1) := (blk_cell (blk_below BK2.out HW.out) 0).trans rfl
     have hz3 : wr.cell? ⟨g3, 0, none⟩ = some (.int .i64 a2) := (blk_cell (blk_below BK3.out HW.out) 0).trans rfl
     have HGS := Aside0.mk (impl_greatest.calls A0 c0 l0 A1 c1 l1 a2 s (greatestDown l0 l1 a2 s 201) wr (Kd.C_below HR0.out HBW.out) HC0.out (Kd.C_below HR1.out HBW.out) HC1.out (by unfold impl_greatest.f; rw [if_pos ⟨HALL.out.1, HALL.out.2.1 s hsm⟩]))
     have HLO : Aside0 (out.length ≤ 19) := ⟨by rw [HX.out.2]; have h1_ := List.length_filter_le (reachable l0 l1 a2) (l3.take i); have h2_ := List.length_take_le i l3; have := HALL.out.2.2; omega⟩
     clear hs hs2 hsm hlt
     by_cases hq : greatestDown l0 l1 a2 s 201 = -1
     ·have dq : (greatestDown l0 l1 a2 s 201 == -1) = true := beq_iff_eq.2 hq
      have dq2 : (greatestDown l0 l1 a2 s 201 != -1) = false := bne_eq_false_iff_eq.2 hq
      have HQ := Aside0.mk dq2; clear hq
      go_wp2_with (go_at_call 56; refine HGS.out.mono ?_; rintro e w8 ⟨rfl, hb⟩; have HO2 := Aside0.mk (Kd.R_below HO.out hb); have HW2 := Aside0.mk (below_step HW.out hb); clear hb)
      go_roundg k1
      case measure => omega
      case rel => exact ⟨i + 1, out, (by first | rfl | rw [HWI.out]), ⟨by have := HKI.out; omega, by rw [HFT.out, ← HX.out.2, ← HS2.out, show reachable l0 l1 a2 s = false from HQ.out]; simp⟩, HO2, HW2⟩
     ·have dq : (greatestDown l0 l1 a2 s 201 == -1) = false := beq_eq_false_iff_ne.2 hq
      have dq2 : (greatestDown l0 l1 a2 s 201 != -1) = true := bne_iff_ne.2 hq
      have HQ := Aside0.mk dq2; clear hq
      go_wp2_with (first | (go_at_call 56; refine HGS.out.mono ?_; rintro e w8 ⟨rfl, hb⟩; have HO2 := Aside0.mk (Kd.R_below HO.out hb); have HW2 := Aside0.mk (below_step HW.out hb); clear hb) | ((with_reducible refine gate_builtin (b := .append) (xs := #[.tmp 36, .tmp 38]) rfl ?_); at_builtin; refine Kd.R_append (Kd.int .i64) (w0 := wb3) wb3.heap.size rfl (.tmp 36) (.tmp 38) 25 3 (.int .i64 0) 8 rfl Try.underlying25 info3 rfl (by decide) (by omega) u10 out s [.int .i64 s] (fun _ => True) (fun _ => False) rfl rfl ?aP (fun _ hk => hk.elim) ?aF ?aO ?aB ?aS ?aL ?_; (case aP => exact rfl); (case aB => exact HW2.out); (case aF => exact (fun _ _ => trivial)); (case aO => exact HO2.out); (case aS => exact HW2.out.size); (case aL => have := HLO.out; omega); intro v212 w22 ho hb hg hat; have HO3 := Aside0.mk ho; have HW3 := Aside0.mk hb; clear ho hb hg hat))
      go_roundg k1
      case measure => omega
      case rel => exact ⟨i + 1, out ++ [s], (by first | rfl | rw [HWI.out]), ⟨by have := HKI.out; omega, by rw [HFT.out, ← HX.out.2, ← HS2.out, show reachable l0 l1 a2 s = true from HQ.out]; simp⟩, HO3, HW3⟩
    ·have dlt : decide ((i : Int) < (l3.length : Int)) = false := decide_eq_false (by omega)
     have dlt2 : decide (i < l3.length) = false := decide_eq_false hlt
     have ho_ : out = l3.filter (reachable l0 l1 a2) := by rw [HX.out.2, List.take_of_length_le (by omega)]
     have hr_ : insOut (rescueCf l0 l1 a2) (out.length - 1) 1 out = r1 := by rw [ho_]; exact HRES.out
     have HR := Aside0.mk hr_
     have HP : Aside0 (∀ z ∈ out, 0 ≤ z ∧ z ≤ 7) := ⟨fun z hz => HALL.out.2.1 z (by rw [ho_] at hz; exact (List.mem_filter.1 hz).1)⟩
     have HLO : Aside0 (out.length ≤ 19) := ⟨by rw [ho_]; have h1_ := List.length_filter_le (reachable l0 l1 a2) l3; have := HALL.out.2.2; omega⟩
     clear ho_ hr_ hlt
     rcases Nat.eq_zero_or_pos out.length with hn0 | hn0
     ·obtain rfl := List.length_eq_zero_iff.1 hn0
      obtain ⟨A9, c9, e9⟩ := Kd.R_slice HO.out
      subst e9; clear hn0
      go_wp2_with (go_at_call 70; refine (sortRow0.calls _ A9 c9 _).mono ?_; rintro e w8 ⟨rfl, hw8⟩; have HW8 := Aside0.mk hw8; clear hw8)
      go_ret2
      exact ⟨_, rfl, by rw [← HR.out, HW8.out]; exact Kd.R_lower HO.out HB3.out.size, by rw [HW8.out]; exact HBW.out⟩
     ·obtain ⟨g, c9, e9, hgb, hgl, cells9, hc9⟩ := Kd.R_form HO.out hn0
      subst e9
      have HSR := Aside0.mk (sortRow.calls (rescueCf l0 l1 a2) (fun z => 0 ≤ z ∧ z ≤ 7) #[.pointer (some ⟨g1, 0, none⟩), .pointer (some ⟨g2, 0, none⟩), .pointer (some ⟨g3, 0, none⟩)] wb3 wr wb3.heap.size (fun _ => True) g out.length c9 out hn0 (by have := HLO.out; omega) rfl ⟨HO.out, KeepBut.refl _ _ _, HW.out, hgb, HW.out.size⟩ HP.out (fun x y W hx hy hk hb => impl_RescueOrder_1.calls l0 l1 a2 A0 c0 A1 c1 g1 g2 g3 x y W (Kd.C_below HR0.out (HB3.out.trans (hb.mono HB3.out.size))) HC0.out (Kd.C_below HR1.out (HB3.out.trans (hb.mono HB3.out.size))) HC1.out (blk_below BK1.out hb) (blk_below BK2.out hb) (blk_below BK3.out hb) HALL.out.1 hx hy))
      clear hn0 hgb hgl hc9
      go_wp2_with (go_at_call 70; refine HSR.out.mono ?_; rintro e w8 ⟨rfl, hs⟩; have HSS := Aside0.mk hs; clear hs)
      go_ret2
      exact ⟨_, rfl, by rw [← HR.out]; exact Kd.R_lower HSS.out.1 HB3.out.size, HB3.out.trans (HSS.out.2.2.1.mono HB3.out.size)⟩


end Go.Proofs.Ytfgkpokjhihaaaa.MR
