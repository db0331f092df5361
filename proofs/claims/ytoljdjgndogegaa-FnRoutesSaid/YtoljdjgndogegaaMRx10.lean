-- Written by a program of this session (wip/drv.py, wip/tight2.py). -- tight2
import Derived.Test.YtoljdjgndogegaaMRx0
import Derived.Test.YtoljdjgndogegaaMRx5
import Derived.Test.YtoljdjgndogegaaMRx6
import Derived.Test.YtoljdjgndogegaaMRx9
namespace Go.Proofs.Ytoljdjgndogegaa.MR
open Go.RowKit Go.Proofs.YtoljdjgndogegaaW.PrintWords Go.Proofs.YtoljdjgndogegaaW.PrintLast
set_option maxHeartbeats 8000000
set_option maxRecDepth 100000
attribute [local go_sem] max2_int min2_int max_two min_two   -- for this text's walks alone
set_option linter.unusedVariables false
set_option linter.unusedSimpArgs false

/-! ### spec_GreatestWidth: function 13 -/
def spec_GreatestWidth.f (k : Nat) (l0 : List (S58)) (l1 : List Int) (a2 : Int) (a3 : Int) : Option (Int × Bool) := (spec_l15Asked.f k l0 l1 a2 a3).bind fun t568 => (if t568 = true then ((spec_l15Greatest.f k l0 l1 a2 a3).bind fun t569 => (some (t569, true))) else (some (0, false)))
theorem spec_GreatestWidth.mono : ∀ a0 a1 a2 a3 k, LeO (spec_GreatestWidth.f k a0 a1 a2 a3) (spec_GreatestWidth.f (k + 1) a0 a1 a2 a3) := by
 intro a0 a1 a2 a3 k
 unfold spec_GreatestWidth.f
 have m0 := @spec_l15Asked.mono; have m1 := @spec_l15Greatest.mono
 exact qmono
theorem spec_GreatestWidth.calls (k : Nat) (A0 : Option Addr) (c0 : Nat) (l0 : List (S58)) (A1 : Option Addr) (c1 : Nat) (l1 : List Int) (a2 : Int) (a3 : Int) (r1 : Int) (r2 : Bool) (w : World) (hr0 : Kd.C k58 w A0 l0.length l0) (hc0 : l0.length ≤ c0) (hr1 : Kd.C (Kd.int .i64) w A1 l1.length l1) (hc1 : l1.length ≤ c1) (h : spec_GreatestWidth.f k l0 l1 a2 a3 = some (r1, r2)) :
  Calls Try.prog 13 #[.slice A0 l0.length c0, .slice A1 l1.length c1, .int .i64 a2, .int .i64 a3] w fun e w' => e = .returned (.tuple #[.int .i64 r1, .bool r2]) ∧ Below w.heap.size w w' := by
 have HR0 := Aside0.mk hr0; have HC0 := Aside0.mk hc0; clear hr0 hc0; have HR1 := Aside0.mk hr1; have HC1 := Aside0.mk hc1; clear hr1 hc1; have HB := Aside0.mk (Below.refl w.heap.size w); have H : ((spec_l15Asked.f k l0 l1 a2 a3).bind fun t568 => (if t568 = true then ((spec_l15Greatest.f k l0 l1 a2 a3).bind fun t569 => (some (t569, true))) else (some (0, false)))) = some (r1, r2) := h; clear h; replace H := bindA H; obtain ⟨t568, A5, H⟩ := H; (try dsimp only at H)
 by_cases c6 : t568 = true
 ·subst c6; rw [if_pos rfl] at H; replace H := Option.bind_eq_some_iff.mp H; obtain ⟨t569, A70, H⟩ := H; replace H : (some (t569, true)) = some (r1, r2) := H; have A7 := Aside0.mk A70; clear A70; simp only [Option.some.injEq, Prod.mk.injEq] at H; obtain ⟨rfl, rfl⟩ := H
  go_enter Try.func13, Try.ntmps13
  go_wp2_with (first | ((with_reducible refine gate_callee (f := 39) rfl ?_); refine goesL_ (some 14) rfl rfl Try.func39 (by kernel_rfl) rfl #[.slice A0 l0.length c0, .slice A1 l1.length c1, .int .i64 a2, .int .i64 a3] rfl (qR2) ?_; (with_reducible refine (spec_l15Asked.calls k _ _ l0 _ _ l1 a2 a3 true _ ?s1 ?s2 ?s3 ?s4 A5.out).mono ?_); (case s1 => exact (qR11 HR0.out)); (case s2 => exact HC0.out); (case s3 => exact (qR11 HR1.out)); (case s4 => exact HC1.out); rintro e w8 ⟨rfl, hb⟩; refine ⟨_, rfl, ?_⟩; replace HB := Aside0.mk (qR62); clear hb) | ((with_reducible refine gate_callee (f := 47) rfl ?_); refine goesL_ (some 20) rfl rfl Try.func47 (by kernel_rfl) rfl #[.slice A0 l0.length c0, .slice A1 l1.length c1, .int .i64 a2, .int .i64 a3] rfl (qR2) ?_; (with_reducible refine (spec_l15Greatest.calls k _ _ l0 _ _ l1 a2 a3 t569 _ ?s1 ?s2 ?s3 ?s4 A7.out).mono ?_); (case s1 => exact (qR14 HR0.out)); (case s2 => exact HC0.out); (case s3 => exact (qR14 HR1.out)); (case s4 => exact HC1.out); rintro e w9 ⟨rfl, hb⟩; refine ⟨_, rfl, ?_⟩; replace HB := Aside0.mk (qR62); clear hb))
  go_ret2
  exact ⟨(qR10), (qR0)⟩
 ·replace c6 := Bool.eq_false_iff.mpr c6; subst c6; rw [if_neg (show ¬ (false = true) by decide)] at H; simp only [Option.some.injEq, Prod.mk.injEq] at H; obtain ⟨rfl, rfl⟩ := H
  go_enter Try.func13, Try.ntmps13
  go_wp2_with (first | ((with_reducible refine gate_callee (f := 39) rfl ?_); refine goesL_ (some 14) rfl rfl Try.func39 (by kernel_rfl) rfl #[.slice A0 l0.length c0, .slice A1 l1.length c1, .int .i64 a2, .int .i64 a3] rfl (qR2) ?_; (with_reducible refine (spec_l15Asked.calls k _ _ l0 _ _ l1 a2 a3 false _ ?s1 ?s2 ?s3 ?s4 A5.out).mono ?_); (case s1 => exact (qR11 HR0.out)); (case s2 => exact HC0.out); (case s3 => exact (qR11 HR1.out)); (case s4 => exact HC1.out); rintro e w10 ⟨rfl, hb⟩; refine ⟨_, rfl, ?_⟩; replace HB := Aside0.mk (qR62); clear hb))
  go_ret2
  exact ⟨(qR10), (qR0)⟩

/-! ### impl_routeLegs: function 48 -/
mutual
def impl_routeLegs.j0 : Nat → List (S58) → List Int → List Int → Bool → Option (List Int × Bool)
 | 0, _, _, _, _ => none
 | k + 1, x0, x1, x2, x20 => if x20 = true then (some (([] : List Int), false)) else (impl_routeLegs.l0 k x0 x1 x2 ([] : List Int) x2 (x2.length : Int) 0)
def impl_routeLegs.l0 : Nat → List (S58) → List Int → List Int → List Int → List Int → Int → Int → Option (List Int × Bool)
 | 0, _, _, _, _, _, _, _ => none
 | k + 1, x0, x1, x2, x8, x21, x22, x23 => if x23 < x22 then (if 0 ≤ x23 then (if x23 < (x21.length : Int) then ((impl_isStation.f (rd x21 x23)).bind fun t572 => (if t572 = true then (if x23 ≤ (x2.length : Int) then ((impl_has.f k (x2.take (x23 : Int).toNat) (rd x21 x23)).bind fun t574 => (impl_routeLegs.j2 k x0 x1 x2 x8 x23 (rd x21 x23) x21 x22 x23 t574)) else (none)) else (impl_routeLegs.j2 k x0 x1 x2 x8 x23 (rd x21 x23) x21 x22 x23 true))) else (none)) else (none)) else (some (x8, true))
def impl_routeLegs.j2 : Nat → List (S58) → List Int → List Int → List Int → Int → Int → List Int → Int → Int → Bool → Option (List Int × Bool)
 | 0, _, _, _, _, _, _, _, _, _, _ => none
 | k + 1, x0, x1, x2, x8, x9, x10, x21, x22, x23, x37 => if x37 = true then (some (([] : List Int), false)) else (if x9 > 0 then (if 0 ≤ (wrap64 (x9 - 1)) then (if (wrap64 (x9 - 1)) < (x2.length : Int) then ((impl_between.f k x0 x1 (rd x2 (wrap64 (x9 - 1))) x10).bind fun t576 => (if t576 < 0 then (some (([] : List Int), false)) else (if x8.length < 17592186044416 then (impl_routeLegs.l0 k x0 x1 x2 (x8 ++ [t576]) x21 x22 (wrap64 (x23 + 1))) else (none)))) else (none)) else (none)) else (impl_routeLegs.l0 k x0 x1 x2 x8 x21 x22 (wrap64 (x23 + 1))))
end
def impl_routeLegs.f (k : Nat) (l0 : List (S58)) (l1 : List Int) (l2 : List Int) : Option (List Int × Bool) := (impl_AreWidths.f k l0 l1).bind fun t570 => (if t570 = true then (impl_routeLegs.j0 k l0 l1 l2 ((l2.length : Int) == 0)) else (impl_routeLegs.j0 k l0 l1 l2 true))
theorem impl_routeLegs.mono_l : ∀ k, (∀ y0 y1 y2 y3, LeO (impl_routeLegs.j0 k y0 y1 y2 y3) (impl_routeLegs.j0 (k + 1) y0 y1 y2 y3)) ∧ (∀ y0 y1 y2 y3 y4 y5 y6, LeO (impl_routeLegs.l0 k y0 y1 y2 y3 y4 y5 y6) (impl_routeLegs.l0 (k + 1) y0 y1 y2 y3 y4 y5 y6)) ∧ (∀ y0 y1 y2 y3 y4 y5 y6 y7 y8 y9, LeO (impl_routeLegs.j2 k y0 y1 y2 y3 y4 y5 y6 y7 y8 y9) (impl_routeLegs.j2 (k + 1) y0 y1 y2 y3 y4 y5 y6 y7 y8 y9))
 | 0 => ⟨fun _ _ _ _ r h => by simp [impl_routeLegs.j0] at h, fun _ _ _ _ _ _ _ r h => by simp [impl_routeLegs.l0] at h, fun _ _ _ _ _ _ _ _ _ _ r h => by simp [impl_routeLegs.j2] at h⟩
 | k + 1 => by
  obtain ⟨ih0, ih1, ih2⟩ := impl_routeLegs.mono_l k
  refine ⟨?_, ?_, ?_⟩
  ·intro y0 y1 y2 y3
   unfold impl_routeLegs.j0
   have m0 := @impl_AreWidths.mono; have m1 := @impl_between.mono; have m2 := @impl_has.mono
   exact qmono
  ·intro y0 y1 y2 y3 y4 y5 y6
   unfold impl_routeLegs.l0
   have m0 := @impl_AreWidths.mono; have m1 := @impl_between.mono; have m2 := @impl_has.mono
   exact qmono
  ·intro y0 y1 y2 y3 y4 y5 y6 y7 y8 y9
   unfold impl_routeLegs.j2
   have m0 := @impl_AreWidths.mono; have m1 := @impl_between.mono; have m2 := @impl_has.mono
   exact qmono
theorem impl_routeLegs.mono : ∀ a0 a1 a2 k, LeO (impl_routeLegs.f k a0 a1 a2) (impl_routeLegs.f (k + 1) a0 a1 a2) := by
 intro a0 a1 a2 k; obtain ⟨ih0, ih1, ih2⟩ := impl_routeLegs.mono_l k
 unfold impl_routeLegs.f
 have m0 := @impl_AreWidths.mono; have m1 := @impl_between.mono; have m2 := @impl_has.mono
 exact qmono
theorem impl_routeLegs.calls (k : Nat) (A0 : Option Addr) (c0 : Nat) (l0 : List (S58)) (A1 : Option Addr) (c1 : Nat) (l1 : List Int) (A2 : Option Addr) (c2 : Nat) (l2 : List Int) (r1 : List Int) (r2 : Bool) (w : World) (hr0 : Kd.C k58 w A0 l0.length l0) (hc0 : l0.length ≤ c0) (hr1 : Kd.C (Kd.int .i64) w A1 l1.length l1) (hc1 : l1.length ≤ c1) (hr2 : Kd.C (Kd.int .i64) w A2 l2.length l2) (hc2 : l2.length ≤ c2) (h : impl_routeLegs.f k l0 l1 l2 = some (r1, r2)) :
  Calls Try.prog 48 #[.slice A0 l0.length c0, .slice A1 l1.length c1, .slice A2 l2.length c2] w fun e w' => ∃ v0_ : Value, e = .returned (.tuple #[v0_, .bool r2]) ∧ Kd.R (Kd.int .i64) 3 w' w.heap.size (fun _ => True) v0_ r1 ∧ Below w.heap.size w w' := by
 have HR0 := Aside0.mk hr0; have HC0 := Aside0.mk hc0; clear hr0 hc0; have HR1 := Aside0.mk hr1; have HC1 := Aside0.mk hc1; clear hr1 hc1; have HR2 := Aside0.mk hr2; have HC2 := Aside0.mk hc2; clear hr2 hc2; have HB := Aside0.mk (Below.refl w.heap.size w); have H : ((impl_AreWidths.f k l0 l1).bind fun t570 => (if t570 = true then (impl_routeLegs.j0 k l0 l1 l2 ((l2.length : Int) == 0)) else (impl_routeLegs.j0 k l0 l1 l2 true))) = some (r1, r2) := h; clear h; have HC4 := Aside0.mk H; clear H
 go_enter Try.func48, Try.ntmps48
 go_upto_region 1 with (fail)
 go_cut [20] (fun v20 wc => ∃ (kq : Nat) (x20_3 : Bool), v20 = .bool x20_3 ∧ Aside0 (impl_routeLegs.j0 kq l0 l1 l2 x20_3 = some (r1, r2)) ∧ Aside0 (kq ≤ k) ∧ Aside0 (Below w.heap.size w wc))
 case first =>
  have H := HC4.out; clear HC4; replace H := bindA H; obtain ⟨t570, A5, H⟩ := H; (try dsimp only at H)
  by_cases c6 : t570 = true
  ·subst c6; rw [if_pos rfl] at H; have H' := Aside0.mk H; clear H
   go_wp2_with (first | ((with_reducible refine gate_callee (f := 10) rfl ?_); refine goesL_ (some 14) rfl rfl Try.func10 (by kernel_rfl) rfl #[.slice A0 l0.length c0, .slice A1 l1.length c1] rfl (qR2) ?_; (with_reducible refine (impl_AreWidths.calls k _ _ l0 _ _ l1 true _ ?s1 ?s2 ?s3 ?s4 A5.out).mono ?_); (case s1 => exact (qR14 HR0.out)); (case s2 => exact HC0.out); (case s3 => exact (qR14 HR1.out)); (case s4 => exact HC1.out); rintro e w7 ⟨rfl, hb⟩; refine ⟨_, rfl, ?_⟩; replace HB := Aside0.mk (qR62); clear hb))
   go_meet
   case rel => exact ⟨_, (((l2.length : Int) == 0)), (qR12), H', ⟨by first | omega | exact Nat.le_refl _⟩, ⟨(qR0)⟩⟩
  ·replace c6 := Bool.eq_false_iff.mpr c6; subst c6; rw [if_neg (show ¬ (false = true) by decide)] at H; have H' := Aside0.mk H; clear H
   go_wp2_with (first | ((with_reducible refine gate_callee (f := 10) rfl ?_); refine goesL_ (some 14) rfl rfl Try.func10 (by kernel_rfl) rfl #[.slice A0 l0.length c0, .slice A1 l1.length c1] rfl (qR2) ?_; (with_reducible refine (impl_AreWidths.calls k _ _ l0 _ _ l1 false _ ?s1 ?s2 ?s3 ?s4 A5.out).mono ?_); (case s1 => exact (qR14 HR0.out)); (case s2 => exact HC0.out); (case s3 => exact (qR14 HR1.out)); (case s4 => exact HC1.out); rintro e w8 ⟨rfl, hb⟩; refine ⟨_, rfl, ?_⟩; replace HB := Aside0.mk (qR62); clear hb))
   go_meet
   case rel => exact ⟨_, (true), (qR12), H', ⟨by first | omega | exact Nat.le_refl _⟩, ⟨(qR0)⟩⟩
 case rest =>
  clear HC4; (try clear c1); (try clear c2); (try clear p2); (try clear c4); (try clear c6); obtain ⟨kq, x20_3, rfl, HA, HJ3, HB⟩ := hcut
  cases kq with
  | zero => exact absurd HA.out (by simp [impl_routeLegs.j0])
  | succ kj3 =>
   have H := HA.out; clear HA; simp only [impl_routeLegs.j0] at H
   by_cases c9 : x20_3 = true
   ·subst c9; rw [if_pos rfl] at H; simp only [Option.some.injEq, Prod.mk.injEq] at H; obtain ⟨rfl, rfl⟩ := H
    go_wp2
    go_ret2
    exact ⟨_, (qR10), by first | exact Kd.R_nil _ _ _ _ _ | exact Kd.N_nil _ _ _ _ _ | exact Kd.V_nil _ _ _ _ _ | exact Kd.Q_nil _ _ _ _ _ | exact Kd.S_nil _ _ _ _ _, (qR0)⟩
   ·replace c9 := Bool.eq_false_iff.mpr c9; subst c9; rw [if_neg (show ¬ (false = true) by decide)] at H; have H' := Aside0.mk H; clear H
    go_wp2
    go_loopg [8, 23] kj3 (fun kq v8 v23 w' => ∃ (x8_2 : List Int) (x23_2 : Int), v23 = .int .i64 x23_2 ∧ Aside0 (impl_routeLegs.l0 kq l0 l1 l2 x8_2 l2 (l2.length : Int) x23_2 = some (r1, r2)) ∧ Aside0 (kq ≤ kj3) ∧ Aside0 (Kd.R (Kd.int .i64) 3 w' w.heap.size (fun _ => True) v8 x8_2) ∧ Aside0 (Below w.heap.size w w'))
    case atStart => exact ⟨(([] : List Int)), (0), (qR12), H', ⟨Nat.le_refl _⟩, ⟨by first | exact Kd.R_nil _ _ _ _ _ | exact Kd.N_nil _ _ _ _ _ | exact Kd.V_nil _ _ _ _ _ | exact Kd.Q_nil _ _ _ _ _ | exact Kd.S_nil _ _ _ _ _⟩, ⟨(qR0)⟩⟩
    case round =>
     clear H'; (try clear c1); (try clear c2); (try clear p2); (try clear c4); (try clear c6); (try clear c9); (try clear p2); obtain ⟨x8_2, x23_2, rfl, HA, HK2, HO_8, HB⟩ := hrel
     cases gk with
     | zero => exact absurd HA.out (by simp [impl_routeLegs.l0])
     | succ k2 =>
      have H := HA.out; clear HA; simp only [impl_routeLegs.l0] at H
      by_cases c10 : x23_2 < (l2.length : Int)
      ·rw [if_pos c10] at H; have c10b0 : decide (x23_2 < (l2.length : Int)) = true := decide_eq_true c10; clear c10
       by_cases c11 : 0 ≤ x23_2
       ·rw [if_pos c11] at H; have c11b0 : decide (0 ≤ x23_2) = true := decide_eq_true c11; clear c11
        by_cases c12 : x23_2 < (l2.length : Int)
        ·rw [if_pos c12] at H; have c12b0 : decide (x23_2 < (l2.length : Int)) = true := decide_eq_true c12; clear c12; have HC13 := Aside0.mk H; clear H; have p571 : 0 ≤ (x23_2 : Int) := of_decide_eq_true (qR8); have q571 : x23_2 < (l2.length : Int) := of_decide_eq_true (qR8); obtain ⟨ad571, e571, hx571_0⟩ := Kd.at_int HR2.out x23_2 p571 q571; cases e571; replace hx571_0 := (HB.out.cell (World.block_lt_of_cell? w _ hx571_0)).trans hx571_0; replace p571 := eq_true p571; replace q571 := eq_true q571
         go_upto_region 7 with (fail)
         go_cut [37] (fun v37 wc => ∃ (kq : Nat) (x37_12 : Bool), v37 = .bool x37_12 ∧ Aside0 (impl_routeLegs.j2 kq l0 l1 l2 x8_2 x23_2 (rd l2 x23_2) l2 (l2.length : Int) x23_2 x37_12 = some (r1, r2)) ∧ Aside0 (kq ≤ k2) ∧ Aside0 (Kd.R (Kd.int .i64) 3 wc w.heap.size (fun _ => True) u8 x8_2) ∧ Aside0 (Below w.heap.size w wc))
         case first =>
          have H := HC13.out; clear HC13; replace H := bindA H; obtain ⟨t572, A14, H⟩ := H; (try dsimp only at H)
          by_cases c15 : t572 = true
          ·subst c15; rw [if_pos rfl] at H; have c16b0 := eq_true (of_decide_eq_true (qR8) : 0 ≤ x23_2)
           by_cases c17 : x23_2 ≤ (l2.length : Int)
           ·rw [if_pos c17] at H; have c17b0 := eq_true c17; have c17b1 : decide (x23_2 ≤ (l2.length : Int)) = true := decide_eq_true c17; clear c17; replace H := bindA H; obtain ⟨t574, A18, H⟩ := H; (try dsimp only at H); have H' := Aside0.mk H; clear H
            go_wp2_with (first | ((with_reducible refine gate_callee (f := 66) rfl ?_); refine goesL_ (some 29) rfl rfl Try.func66 (by kernel_rfl) rfl #[.int .i64 (rd l2 x23_2)] rfl (qR2) ?_; (with_reducible refine (impl_isStation.calls (rd l2 x23_2) true _ A14.out).mono ?_); rintro e w' ⟨rfl, ⟨nd, rfl⟩⟩; refine ⟨_, rfl, ?_⟩; obtain ⟨i019, hi019, _, hsz19, _⟩ := info_parts info3; obtain ⟨hcut19, hA19, hC19⟩ := print_take_of (P := Try.prog) (Value.int .i64) 0 25 3 .i64 Try.underlying25 hi019 hsz19 (some ad571) c2 l2 x23_2 (of_decide_eq_true (qR8)) (of_decide_eq_true (qR8)) HC2.out; have HR573 := Aside0.mk (by exact Kd.C_of_reads (h1 := fun _ => rfl) (hA19 _ (Kd.reads_of_C HR2.out))); have HC573 := Aside0.mk hC19; clear hA19 hC19 hi019 hsz19) | (go_at_call 38; refine calls_of_args (args' := #[.slice (some ad571) (l2.take (x23_2 : Int).toNat).length c2, .int .i64 (rd l2 x23_2)]) (by have hz_ : (x23_2 : Int) ≤ (l2.length : Int) := (by first | exact of_decide_eq_true (by with_reducible assumption) | exact Int.le_of_lt (of_decide_eq_true (by with_reducible assumption))); rw [show (l2.take (x23_2 : Int).toNat).length = (x23_2 : Int).toNat from by rw [List.length_take]; omega]) ?_; (with_reducible refine (impl_has.calls k2 _ _ (l2.take (x23_2 : Int).toNat) (rd l2 x23_2) t574 _ ?s1 ?s2 A18.out).mono ?_); (case s1 => exact (qR78 HR573.out)); (case s2 => exact HC573.out); rintro e w' ⟨rfl, ⟨nd, rfl⟩⟩))
            go_meet
            case rel => exact ⟨_, (t574), (qR12), H', ⟨by have := HJ3.out; have := HK2.out; first | omega | exact Nat.le_refl _⟩, ⟨(qR1 HO_8.out)⟩, ⟨(qR0)⟩⟩
           ·rw [if_neg c17] at H
            exact absurd H (by simp)
          ·replace c15 := Bool.eq_false_iff.mpr c15; subst c15; rw [if_neg (show ¬ (false = true) by decide)] at H; have H' := Aside0.mk H; clear H
           go_wp2_with (first | ((with_reducible refine gate_callee (f := 66) rfl ?_); refine goesL_ (some 29) rfl rfl Try.func66 (by kernel_rfl) rfl #[.int .i64 (rd l2 x23_2)] rfl (qR2) ?_; (with_reducible refine (impl_isStation.calls (rd l2 x23_2) false _ A14.out).mono ?_); rintro e w' ⟨rfl, ⟨nd, rfl⟩⟩; refine ⟨_, rfl, ?_⟩))
           go_meet
           case rel => exact ⟨_, (true), (qR12), H', ⟨by have := HJ3.out; have := HK2.out; first | omega | exact Nat.le_refl _⟩, ⟨(qR1 HO_8.out)⟩, ⟨(qR0)⟩⟩
         case rest =>
          clear HC13; (try clear c1); (try clear c2); (try clear p2); (try clear c4); (try clear p5); (try clear q5); (try clear hx5); (try clear c6); (try clear c9); (try clear c10); (try clear c10b0); (try clear c11); (try clear c11b0); (try clear c12); (try clear c12b0); (try clear c15); (try clear c16); (try clear c16b0); (try clear c17); (try clear c17b0); (try clear c17b1); (try clear hx571_0); (try clear p2); (try clear p571); (try clear q571); obtain ⟨kq, x37_12, rfl, HA, HJ12, HO_8, HB⟩ := hcut
          cases kq with
          | zero => exact absurd HA.out (by simp [impl_routeLegs.j2])
          | succ kj12 =>
           have H := HA.out; clear HA; simp only [impl_routeLegs.j2] at H
           by_cases c20 : x37_12 = true
           ·subst c20; rw [if_pos rfl] at H; simp only [Option.some.injEq, Prod.mk.injEq] at H; obtain ⟨rfl, rfl⟩ := H
            go_wp2
            go_ret2
            exact ⟨_, (qR10), by first | exact Kd.R_nil _ _ _ _ _ | exact Kd.N_nil _ _ _ _ _ | exact Kd.V_nil _ _ _ _ _ | exact Kd.Q_nil _ _ _ _ _ | exact Kd.S_nil _ _ _ _ _, (qR0)⟩
           ·replace c20 := Bool.eq_false_iff.mpr c20; subst c20; rw [if_neg (show ¬ (false = true) by decide)] at H
            by_cases c21 : x23_2 > 0
            ·rw [if_pos c21] at H; have c21b0 : decide (0 < x23_2) = true := decide_eq_true c21; clear c21; obtain ⟨ji22, hji22⟩ : ∃ j_ : Int, (wrap64 (x23_2 - 1)) = j_ := ⟨_, rfl⟩
             replace H : (if 0 ≤ (ji22) then (if (ji22) < (l2.length : Int) then ((impl_between.f kj12 l0 l1 (rd l2 (ji22)) (rd l2 x23_2)).bind fun t576 => (if t576 < 0 then (some (([] : List Int), false)) else (if x8_2.length < 17592186044416 then (impl_routeLegs.l0 kj12 l0 l1 l2 (x8_2 ++ [t576]) l2 (l2.length : Int) (wrap64 (x23_2 + 1))) else (none)))) else (none)) else (none)) = some (r1, r2) := by first | (rw [hji22] at H; exact H) | (simp only [hji22] at H ⊢; exact H)
             have hji22w : (IntKind.i64.wrap (x23_2 - 1)) = ji22 := (i64_w _).trans hji22
             by_cases c23 : 0 ≤ (ji22)
             ·rw [if_pos c23] at H; have c23b0 : decide (0 ≤ (ji22)) = true := decide_eq_true c23; clear c23
              by_cases c24 : (ji22) < (l2.length : Int)
              ·rw [if_pos c24] at H; have c24b0 : decide ((ji22) < (l2.length : Int)) = true := decide_eq_true c24; clear c24; replace H := bindA H; obtain ⟨t576, A25, H⟩ := H; (try dsimp only at H)
               by_cases c26 : t576 < 0
               ·rw [if_pos c26] at H; have c26b0 : decide (t576 < 0) = true := decide_eq_true c26; clear c26; simp only [Option.some.injEq, Prod.mk.injEq] at H; obtain ⟨rfl, rfl⟩ := H; have p575 : 0 ≤ ((ji22) : Int) := of_decide_eq_true (qR8); have q575 : (ji22) < (l2.length : Int) := of_decide_eq_true (qR8); obtain ⟨ad575, e575, hx575_0⟩ := Kd.at_int HR2.out (ji22) p575 q575; obtain rfl : ad571 = ad575 := (by injection e575); replace hx575_0 := (HB.out.cell (World.block_lt_of_cell? w _ hx575_0)).trans hx575_0; replace p575 := eq_true p575; replace q575 := eq_true q575
                go_wp2_with (first | ((with_reducible refine gate_callee (f := 37) rfl ?_); refine goesL_ (some 48) rfl rfl Try.func37 (by kernel_rfl) rfl #[.slice A0 l0.length c0, .slice A1 l1.length c1, .int .i64 (rd l2 (ji22)), .int .i64 (rd l2 x23_2)] rfl (qR56) ?_; (with_reducible refine (impl_between.calls kj12 _ _ l0 _ _ l1 (rd l2 (ji22)) (rd l2 x23_2) t576 _ ?s1 ?s2 ?s3 ?s4 A25.out).mono ?_); (case s1 => exact (qR14 HR0.out)); (case s2 => exact HC0.out); (case s3 => exact (qR14 HR1.out)); (case s4 => exact HC1.out); rintro e w27 ⟨rfl, hb⟩; refine ⟨_, rfl, ?_⟩; replace HO_8 := Aside0.mk (qR64 HO_8.out); replace HB := Aside0.mk (qR62); clear hb))
                go_ret2
                exact ⟨_, (by first | rfl | (simp [errW_none, errW_some] <;> rfl) | (simp only [← hji22]; first | rfl | (simp [errW_none, errW_some] <;> rfl)) | (simp [*, errW_none, errW_some] <;> rfl)), by first | exact Kd.R_nil _ _ _ _ _ | exact Kd.N_nil _ _ _ _ _ | exact Kd.V_nil _ _ _ _ _ | exact Kd.Q_nil _ _ _ _ _ | exact Kd.S_nil _ _ _ _ _, (qR0)⟩
               ·rw [if_neg c26] at H; have c26b0 : decide (t576 < 0) = false := decide_eq_false c26; clear c26
                by_cases c28 : x8_2.length < 17592186044416
                ·rw [if_pos c28] at H; have LMc28 := Aside0.mk c28; clear c28; obtain ⟨y577, hy577⟩ : ∃ y_ : List Int, y_ = (x8_2 ++ [t576]) := ⟨_, rfl⟩; replace H : (impl_routeLegs.l0 kj12 l0 l1 l2 y577 l2 (l2.length : Int) (wrap64 (x23_2 + 1))) = some (r1, r2) := (qR6 hy577); have Ny577 := Aside0.mk hy577; clear hy577; have H' := Aside0.mk H; clear H; have p575 : 0 ≤ ((ji22) : Int) := of_decide_eq_true (qR8); have q575 : (ji22) < (l2.length : Int) := of_decide_eq_true (qR8); obtain ⟨ad575, e575, hx575_0⟩ := Kd.at_int HR2.out (ji22) p575 q575; obtain rfl : ad571 = ad575 := (by injection e575); replace hx575_0 := (HB.out.cell (World.block_lt_of_cell? w _ hx575_0)).trans hx575_0; replace p575 := eq_true p575; replace q575 := eq_true q575
                 go_wp2_with (first | ((with_reducible refine gate_callee (f := 37) rfl ?_); refine goesL_ (some 48) rfl rfl Try.func37 (by kernel_rfl) rfl #[.slice A0 l0.length c0, .slice A1 l1.length c1, .int .i64 (rd l2 (ji22)), .int .i64 (rd l2 x23_2)] rfl (qR56) ?_; (with_reducible refine (impl_between.calls kj12 _ _ l0 _ _ l1 (rd l2 (ji22)) (rd l2 x23_2) t576 _ ?s1 ?s2 ?s3 ?s4 A25.out).mono ?_); (case s1 => exact (qR14 HR0.out)); (case s2 => exact HC0.out); (case s3 => exact (qR14 HR1.out)); (case s4 => exact HC1.out); rintro e w29 ⟨rfl, hb⟩; refine ⟨_, rfl, ?_⟩; replace HO_8 := Aside0.mk (qR64 HO_8.out); replace HB := Aside0.mk (qR62); clear hb) | ((with_reducible refine gate_builtin (b := .append) (xs := #[.tmp 51, .tmp 53]) rfl ?_); (try (refine gate_guard (by rfl) ?_; dsimp only)); at_builtin; refine Kd.R_append (Kd.int .i64) (w0 := w) w.heap.size rfl (.tmp 51) (.tmp 53) 25 3 (.int .i64 0) 8 rfl Try.underlying25 info3 rfl (by decide) (by omega) u8 x8_2 t576 [.int .i64 t576] (fun _ => True) (fun _ => False) rfl rfl ?aP (fun _ hk => hk.elim) ?aF ?aO ?aB ?aS ?aL ?_; (case aP => exact rfl); (case aB => exact (qR0)); (case aF => exact (fun _ _ => trivial)); (case aO => exact (qR1 HO_8.out)); (case aS => exact (qR84)); (case aL => have := LMc28.out; omega); intro v578 w30 ho hb hg hat; rw [← Ny577.out] at ho; replace HB := Aside0.mk (hb); have HO579 := Aside0.mk (ho); clear HO_8; clear ho hb hg hat))
                 go_roundg kj12
                 case measure => have := HJ3.out; have := HK2.out; have := HJ12.out; omega
                 case rel => exact ⟨(y577), (wrap64 (x23_2 + 1)), (qR12), H', ⟨by have := HJ3.out; have := HK2.out; have := HJ12.out; omega⟩, ⟨(qR1 HO579.out)⟩, ⟨(qR0)⟩⟩
                ·rw [if_neg c28] at H
                 exact absurd H (by simp)
              ·rw [if_neg c24] at H
               exact absurd H (by simp)
             ·rw [if_neg c23] at H
              exact absurd H (by simp)
            ·rw [if_neg c21] at H; have c21b0 : decide (0 < x23_2) = false := decide_eq_false c21; clear c21; have H' := Aside0.mk H; clear H
             go_wp2
             go_roundg kj12
             case measure => have := HJ3.out; have := HK2.out; have := HJ12.out; omega
             case rel => exact ⟨(x8_2), (wrap64 (x23_2 + 1)), (qR12), H', ⟨by have := HJ3.out; have := HK2.out; have := HJ12.out; omega⟩, ⟨(qR1 HO_8.out)⟩, ⟨(qR0)⟩⟩
        ·rw [if_neg c12] at H
         exact absurd H (by simp)
       ·rw [if_neg c11] at H
        exact absurd H (by simp)
      ·rw [if_neg c10] at H; have c10b0 : decide (x23_2 < (l2.length : Int)) = false := decide_eq_false c10; clear c10; simp only [Option.some.injEq, Prod.mk.injEq] at H; obtain ⟨rfl, rfl⟩ := H
       go_wp2
       go_ret2
       exact ⟨_, (qR10), (qR1 HO_8.out), (qR0)⟩

/-! ### impl_RouteWidth: function 14 -/
def impl_RouteWidth.l0 : Nat → List Int → Int → List Int → Int → Int → Option (Int × Bool)
 | 0, _, _, _, _, _ => none
 | k + 1, x1, x10, x22, x23, x24 => if x24 < x23 then (if 0 ≤ x24 then (if x24 < (x22.length : Int) then (if 0 ≤ (rd x22 x24) then (if (rd x22 x24) < (x1.length : Int) then (impl_RouteWidth.l0 k x1 (mn x10 (rd x1 (rd x22 x24))) x22 x23 (wrap64 (x24 + 1))) else (none)) else (none)) else (none)) else (none)) else (some (x10, true))
def impl_RouteWidth.f (k : Nat) (l0 : List (S58)) (l1 : List Int) (l2 : List Int) : Option (Int × Bool) := (impl_routeLegs.f k l0 l1 l2).bind fun bt580 => (if bt580.2 = true then (impl_RouteWidth.l0 k l1 200 bt580.1 (bt580.1.length : Int) 0) else (some (0, false)))
theorem impl_RouteWidth.mono_l : ∀ k, (∀ y0 y1 y2 y3 y4, LeO (impl_RouteWidth.l0 k y0 y1 y2 y3 y4) (impl_RouteWidth.l0 (k + 1) y0 y1 y2 y3 y4))
 | 0 => fun _ _ _ _ _ r h => by simp [impl_RouteWidth.l0] at h
 | k + 1 => by
  have ih0 := impl_RouteWidth.mono_l k
  ·intro y0 y1 y2 y3 y4
   unfold impl_RouteWidth.l0
   have m0 := @impl_routeLegs.mono
   exact qmono
theorem impl_RouteWidth.mono : ∀ a0 a1 a2 k, LeO (impl_RouteWidth.f k a0 a1 a2) (impl_RouteWidth.f (k + 1) a0 a1 a2) := by
 intro a0 a1 a2 k; have ih0 := impl_RouteWidth.mono_l k
 unfold impl_RouteWidth.f
 have m0 := @impl_routeLegs.mono
 exact qmono
theorem impl_RouteWidth.calls (k : Nat) (A0 : Option Addr) (c0 : Nat) (l0 : List (S58)) (A1 : Option Addr) (c1 : Nat) (l1 : List Int) (A2 : Option Addr) (c2 : Nat) (l2 : List Int) (r1 : Int) (r2 : Bool) (w : World) (hr0 : Kd.C k58 w A0 l0.length l0) (hc0 : l0.length ≤ c0) (hr1 : Kd.C (Kd.int .i64) w A1 l1.length l1) (hc1 : l1.length ≤ c1) (hr2 : Kd.C (Kd.int .i64) w A2 l2.length l2) (hc2 : l2.length ≤ c2) (h : impl_RouteWidth.f k l0 l1 l2 = some (r1, r2)) :
  Calls Try.prog 14 #[.slice A0 l0.length c0, .slice A1 l1.length c1, .slice A2 l2.length c2] w fun e w' => e = .returned (.tuple #[.int .i64 r1, .bool r2]) ∧ Below w.heap.size w w' := by
 have HR0 := Aside0.mk hr0; have HC0 := Aside0.mk hc0; clear hr0 hc0; have HR1 := Aside0.mk hr1; have HC1 := Aside0.mk hc1; clear hr1 hc1; have HR2 := Aside0.mk hr2; have HC2 := Aside0.mk hc2; clear hr2 hc2; have HB := Aside0.mk (Below.refl w.heap.size w); have H : ((impl_routeLegs.f k l0 l1 l2).bind fun bt580 => (if bt580.2 = true then (impl_RouteWidth.l0 k l1 200 bt580.1 (bt580.1.length : Int) 0) else (some (0, false)))) = some (r1, r2) := h; clear h; replace H := bindA H; obtain ⟨⟨t580, t581⟩, A4, H⟩ := H; (try dsimp only at H)
 by_cases c5 : t581 = true
 ·subst c5; rw [if_pos rfl] at H; have H' := Aside0.mk H; clear H
  go_enter Try.func14, Try.ntmps14
  go_wp2_with (first | ((with_reducible refine gate_callee (f := 48) rfl ?_); refine goesL_ (some 17) rfl rfl Try.func48 (by kernel_rfl) rfl #[.slice A0 l0.length c0, .slice A1 l1.length c1, .slice A2 l2.length c2] rfl (qR2) ?_; (with_reducible refine (impl_routeLegs.calls k _ _ l0 _ _ l1 _ _ l2 t580 true _ ?s1 ?s2 ?s3 ?s4 ?s5 ?s6 A4.out).mono ?_); (case s1 => exact (qR11 HR0.out)); (case s2 => exact HC0.out); (case s3 => exact (qR11 HR1.out)); (case s4 => exact HC1.out); (case s5 => exact (qR11 HR2.out)); (case s6 => exact HC2.out); rintro e w6 ⟨v582, rfl, ho0, hb⟩; refine ⟨_, rfl, ?_⟩; have HO583 := Aside0.mk (qR70 ho0); replace HB := Aside0.mk (qR62); clear hb ho0; obtain ⟨Ao7, co7, eo7⟩ := Kd.R_slice HO583.out; subst eo7))
  go_loopg [10, 24] k (fun kq v10 v24 w' => ∃ (x10_1 : Int) (x24_1 : Int), v10 = .int .i64 x10_1 ∧ v24 = .int .i64 x24_1 ∧ Aside0 (impl_RouteWidth.l0 kq l1 x10_1 t580 (t580.length : Int) x24_1 = some (r1, r2)) ∧ Aside0 (kq ≤ k) ∧ Aside0 (Kd.R (Kd.int .i64) 3 w' w.heap.size (fun _ => True) (.slice Ao7 t580.length co7) t580) ∧ Aside0 (Below w.heap.size w w'))
  case atStart => exact ⟨(200), (0), (qR12), (qR12), H', ⟨Nat.le_refl _⟩, ⟨(qR1 HO583.out)⟩, ⟨(qR0)⟩⟩
  case round =>
   clear H'; (try clear c1); (try clear c2); (try clear p2); (try clear c4); (try clear c5); obtain ⟨x10_1, x24_1, rfl, rfl, HA, HK1, HO_22, HB⟩ := hrel
   cases gk with
   | zero => exact absurd HA.out (by simp [impl_RouteWidth.l0])
   | succ k1 =>
    have H := HA.out; clear HA; simp only [impl_RouteWidth.l0] at H
    by_cases c8 : x24_1 < (t580.length : Int)
    ·rw [if_pos c8] at H; have c8b0 : decide (x24_1 < (t580.length : Int)) = true := decide_eq_true c8; clear c8
     by_cases c9 : 0 ≤ x24_1
     ·rw [if_pos c9] at H; have c9b0 : decide (0 ≤ x24_1) = true := decide_eq_true c9; clear c9
      by_cases c10 : x24_1 < (t580.length : Int)
      ·rw [if_pos c10] at H; have c10b0 : decide (x24_1 < (t580.length : Int)) = true := decide_eq_true c10; clear c10
       by_cases c11 : 0 ≤ (rd t580 x24_1)
       ·rw [if_pos c11] at H; have c11b0 : decide (0 ≤ (rd t580 x24_1)) = true := decide_eq_true c11; clear c11
        by_cases c12 : (rd t580 x24_1) < (l1.length : Int)
        ·rw [if_pos c12] at H; have c12b0 : decide ((rd t580 x24_1) < (l1.length : Int)) = true := decide_eq_true c12; clear c12; obtain ⟨ji13, hji13⟩ : ∃ j_ : Int, (mn x10_1 (rd l1 (rd t580 x24_1))) = j_ := ⟨_, rfl⟩
         replace H : (impl_RouteWidth.l0 k1 l1 ji13 t580 (t580.length : Int) (wrap64 (x24_1 + 1))) = some (r1, r2) := by first | (rw [hji13] at H; exact H) | (simp only [hji13] at H ⊢; exact H)
         have hji13_ : (if (rd l1 (rd t580 x24_1)) < x10_1 then (rd l1 (rd t580 x24_1)) else x10_1) = ji13 := hji13; have H' := Aside0.mk H; clear H; have p584 : 0 ≤ (x24_1 : Int) := of_decide_eq_true (qR8); have q584 : x24_1 < (t580.length : Int) := of_decide_eq_true (qR8); obtain ⟨ad584, e584, hx584_0⟩ := Kd.at_int (Kd.R_reads' HO_22.out).2.2 x24_1 p584 q584; cases e584; replace p584 := eq_true p584; replace q584 := eq_true q584; have p585 : 0 ≤ ((rd t580 x24_1) : Int) := of_decide_eq_true (qR8); have q585 : (rd t580 x24_1) < (l1.length : Int) := of_decide_eq_true (qR8); obtain ⟨ad585, e585, hx585_0⟩ := Kd.at_int HR1.out (rd t580 x24_1) p585 q585; cases e585; replace hx585_0 := (HB.out.cell (World.block_lt_of_cell? w _ hx585_0)).trans hx585_0; replace p585 := eq_true p585; replace q585 := eq_true q585
         go_wp2
         go_roundg k1
         case measure => have := HK1.out; omega
         case rel => exact ⟨(ji13), (wrap64 (x24_1 + 1)), (by first | rfl | (simp; done) | (simp only [← hji13] <;> (first | rfl | simp)) | (simp [*]; done)), (qR12), H', ⟨by have := HK1.out; omega⟩, ⟨(qR1 HO_22.out)⟩, ⟨(qR0)⟩⟩
        ·rw [if_neg c12] at H
         exact absurd H (by simp)
       ·rw [if_neg c11] at H
        exact absurd H (by simp)
      ·rw [if_neg c10] at H
       exact absurd H (by simp)
     ·rw [if_neg c9] at H
      exact absurd H (by simp)
    ·rw [if_neg c8] at H; have c8b0 : decide (x24_1 < (t580.length : Int)) = false := decide_eq_false c8; clear c8; simp only [Option.some.injEq, Prod.mk.injEq] at H; obtain ⟨rfl, rfl⟩ := H
     go_wp2
     go_ret2
     exact ⟨(qR10), (qR0)⟩
 ·replace c5 := Bool.eq_false_iff.mpr c5; subst c5; rw [if_neg (show ¬ (false = true) by decide)] at H; simp only [Option.some.injEq, Prod.mk.injEq] at H; obtain ⟨rfl, rfl⟩ := H
  go_enter Try.func14, Try.ntmps14
  go_wp2_with (first | ((with_reducible refine gate_callee (f := 48) rfl ?_); refine goesL_ (some 17) rfl rfl Try.func48 (by kernel_rfl) rfl #[.slice A0 l0.length c0, .slice A1 l1.length c1, .slice A2 l2.length c2] rfl (qR2) ?_; (with_reducible refine (impl_routeLegs.calls k _ _ l0 _ _ l1 _ _ l2 t580 false _ ?s1 ?s2 ?s3 ?s4 ?s5 ?s6 A4.out).mono ?_); (case s1 => exact (qR11 HR0.out)); (case s2 => exact HC0.out); (case s3 => exact (qR11 HR1.out)); (case s4 => exact HC1.out); (case s5 => exact (qR11 HR2.out)); (case s6 => exact HC2.out); rintro e w14 ⟨v582, rfl, ho0, hb⟩; refine ⟨_, rfl, ?_⟩; have HO583 := Aside0.mk (qR70 ho0); replace HB := Aside0.mk (qR62); clear hb ho0))
  go_ret2
  exact ⟨(qR10), (qR0)⟩

/-! ### impl_RouteLength: function 15 -/
def impl_RouteLength.l0 : Nat → List (S58) → Int → List Int → Int → Int → Option (Int × Bool)
 | 0, _, _, _, _, _ => none
 | k + 1, x0, x10, x22, x23, x24 => if x24 < x23 then (if 0 ≤ x24 then (if x24 < (x22.length : Int) then (if 0 ≤ (rd x22 x24) then (if (rd x22 x24) < (x0.length : Int) then (impl_RouteLength.l0 k x0 (wrap64 (x10 + ((rd_T58 x0 (rd x22 x24)).f2))) x22 x23 (wrap64 (x24 + 1))) else (none)) else (none)) else (none)) else (none)) else (some (x10, true))
def impl_RouteLength.f (k : Nat) (l0 : List (S58)) (l1 : List Int) (l2 : List Int) : Option (Int × Bool) := (impl_routeLegs.f k l0 l1 l2).bind fun bt586 => (if bt586.2 = true then (impl_RouteLength.l0 k l0 0 bt586.1 (bt586.1.length : Int) 0) else (some (0, false)))
theorem impl_RouteLength.mono_l : ∀ k, (∀ y0 y1 y2 y3 y4, LeO (impl_RouteLength.l0 k y0 y1 y2 y3 y4) (impl_RouteLength.l0 (k + 1) y0 y1 y2 y3 y4))
 | 0 => fun _ _ _ _ _ r h => by simp [impl_RouteLength.l0] at h
 | k + 1 => by
  have ih0 := impl_RouteLength.mono_l k
  ·intro y0 y1 y2 y3 y4
   unfold impl_RouteLength.l0
   have m0 := @impl_routeLegs.mono
   exact qmono
theorem impl_RouteLength.mono : ∀ a0 a1 a2 k, LeO (impl_RouteLength.f k a0 a1 a2) (impl_RouteLength.f (k + 1) a0 a1 a2) := by
 intro a0 a1 a2 k; have ih0 := impl_RouteLength.mono_l k
 unfold impl_RouteLength.f
 have m0 := @impl_routeLegs.mono
 exact qmono
theorem impl_RouteLength.calls (k : Nat) (A0 : Option Addr) (c0 : Nat) (l0 : List (S58)) (A1 : Option Addr) (c1 : Nat) (l1 : List Int) (A2 : Option Addr) (c2 : Nat) (l2 : List Int) (r1 : Int) (r2 : Bool) (w : World) (hr0 : Kd.C k58 w A0 l0.length l0) (hc0 : l0.length ≤ c0) (hr1 : Kd.C (Kd.int .i64) w A1 l1.length l1) (hc1 : l1.length ≤ c1) (hr2 : Kd.C (Kd.int .i64) w A2 l2.length l2) (hc2 : l2.length ≤ c2) (h : impl_RouteLength.f k l0 l1 l2 = some (r1, r2)) :
  Calls Try.prog 15 #[.slice A0 l0.length c0, .slice A1 l1.length c1, .slice A2 l2.length c2] w fun e w' => e = .returned (.tuple #[.int .i64 r1, .bool r2]) ∧ Below w.heap.size w w' := by
 have HR0 := Aside0.mk hr0; have HC0 := Aside0.mk hc0; clear hr0 hc0; have HR1 := Aside0.mk hr1; have HC1 := Aside0.mk hc1; clear hr1 hc1; have HR2 := Aside0.mk hr2; have HC2 := Aside0.mk hc2; clear hr2 hc2; have HB := Aside0.mk (Below.refl w.heap.size w); have H : ((impl_routeLegs.f k l0 l1 l2).bind fun bt586 => (if bt586.2 = true then (impl_RouteLength.l0 k l0 0 bt586.1 (bt586.1.length : Int) 0) else (some (0, false)))) = some (r1, r2) := h; clear h; replace H := bindA H; obtain ⟨⟨t586, t587⟩, A4, H⟩ := H; (try dsimp only at H)
 by_cases c5 : t587 = true
 ·subst c5; rw [if_pos rfl] at H; have H' := Aside0.mk H; clear H
  go_enter Try.func15, Try.ntmps15
  go_wp2_with (first | ((with_reducible refine gate_callee (f := 48) rfl ?_); refine goesL_ (some 17) rfl rfl Try.func48 (by kernel_rfl) rfl #[.slice A0 l0.length c0, .slice A1 l1.length c1, .slice A2 l2.length c2] rfl (qR2) ?_; (with_reducible refine (impl_routeLegs.calls k _ _ l0 _ _ l1 _ _ l2 t586 true _ ?s1 ?s2 ?s3 ?s4 ?s5 ?s6 A4.out).mono ?_); (case s1 => exact (qR11 HR0.out)); (case s2 => exact HC0.out); (case s3 => exact (qR11 HR1.out)); (case s4 => exact HC1.out); (case s5 => exact (qR11 HR2.out)); (case s6 => exact HC2.out); rintro e w6 ⟨v588, rfl, ho0, hb⟩; refine ⟨_, rfl, ?_⟩; have HO589 := Aside0.mk (qR70 ho0); replace HB := Aside0.mk (qR62); clear hb ho0; obtain ⟨Ao7, co7, eo7⟩ := Kd.R_slice HO589.out; subst eo7))
  go_loopg [10, 24] k (fun kq v10 v24 w' => ∃ (x10_1 : Int) (x24_1 : Int), v10 = .int .i64 x10_1 ∧ v24 = .int .i64 x24_1 ∧ Aside0 (impl_RouteLength.l0 kq l0 x10_1 t586 (t586.length : Int) x24_1 = some (r1, r2)) ∧ Aside0 (kq ≤ k) ∧ Aside0 (Kd.R (Kd.int .i64) 3 w' w.heap.size (fun _ => True) (.slice Ao7 t586.length co7) t586) ∧ Aside0 (Below w.heap.size w w'))
  case atStart => exact ⟨(0), (0), (qR12), (qR12), H', ⟨Nat.le_refl _⟩, ⟨(qR1 HO589.out)⟩, ⟨(qR0)⟩⟩
  case round =>
   clear H'; (try clear c1); (try clear c2); (try clear p2); (try clear c4); (try clear c5); obtain ⟨x10_1, x24_1, rfl, rfl, HA, HK1, HO_22, HB⟩ := hrel
   cases gk with
   | zero => exact absurd HA.out (by simp [impl_RouteLength.l0])
   | succ k1 =>
    have H := HA.out; clear HA; simp only [impl_RouteLength.l0] at H
    by_cases c8 : x24_1 < (t586.length : Int)
    ·rw [if_pos c8] at H; have c8b0 : decide (x24_1 < (t586.length : Int)) = true := decide_eq_true c8; clear c8
     by_cases c9 : 0 ≤ x24_1
     ·rw [if_pos c9] at H; have c9b0 : decide (0 ≤ x24_1) = true := decide_eq_true c9; clear c9
      by_cases c10 : x24_1 < (t586.length : Int)
      ·rw [if_pos c10] at H; have c10b0 : decide (x24_1 < (t586.length : Int)) = true := decide_eq_true c10; clear c10
       by_cases c11 : 0 ≤ (rd t586 x24_1)
       ·rw [if_pos c11] at H; have c11b0 : decide (0 ≤ (rd t586 x24_1)) = true := decide_eq_true c11; clear c11
        by_cases c12 : (rd t586 x24_1) < (l0.length : Int)
        ·rw [if_pos c12] at H; have c12b0 : decide ((rd t586 x24_1) < (l0.length : Int)) = true := decide_eq_true c12; clear c12; have H' := Aside0.mk H; clear H; have p590 : 0 ≤ (x24_1 : Int) := of_decide_eq_true (qR8); have q590 : x24_1 < (t586.length : Int) := of_decide_eq_true (qR8); obtain ⟨ad590, e590, hx590_0⟩ := Kd.at_int (Kd.R_reads' HO_22.out).2.2 x24_1 p590 q590; cases e590; replace p590 := eq_true p590; replace q590 := eq_true q590; have p591 : 0 ≤ ((rd t586 x24_1) : Int) := of_decide_eq_true (qR8); have q591 : (rd t586 x24_1) < (l0.length : Int) := of_decide_eq_true (qR8); obtain ⟨ad591, e591, hx591_0, hx591_1, hx591_2, hx591_3, hx591_4⟩ := at_T58 HR0.out (rd t586 x24_1) p591 q591; cases e591; replace hx591_0 := (HB.out.cell (World.block_lt_of_cell? w _ hx591_0)).trans hx591_0; replace hx591_1 := (HB.out.cell (World.block_lt_of_cell? w _ hx591_1)).trans hx591_1; replace hx591_2 := (HB.out.cell (World.block_lt_of_cell? w _ hx591_2)).trans hx591_2; replace hx591_3 := (HB.out.cell (World.block_lt_of_cell? w _ hx591_3)).trans hx591_3; replace hx591_4 := (HB.out.cell (World.block_lt_of_cell? w _ hx591_4)).trans hx591_4; replace p591 := eq_true p591; replace q591 := eq_true q591
         go_wp2
         go_roundg k1
         case measure => have := HK1.out; omega
         case rel => exact ⟨(wrap64 (x10_1 + ((rd_T58 l0 (rd t586 x24_1)).f2))), (wrap64 (x24_1 + 1)), (qR12), (qR12), H', ⟨by have := HK1.out; omega⟩, ⟨(qR1 HO_22.out)⟩, ⟨(qR0)⟩⟩
        ·rw [if_neg c12] at H
         exact absurd H (by simp)
       ·rw [if_neg c11] at H
        exact absurd H (by simp)
      ·rw [if_neg c10] at H
       exact absurd H (by simp)
     ·rw [if_neg c9] at H
      exact absurd H (by simp)
    ·rw [if_neg c8] at H; have c8b0 : decide (x24_1 < (t586.length : Int)) = false := decide_eq_false c8; clear c8; simp only [Option.some.injEq, Prod.mk.injEq] at H; obtain ⟨rfl, rfl⟩ := H
     go_wp2
     go_ret2
     exact ⟨(qR10), (qR0)⟩
 ·replace c5 := Bool.eq_false_iff.mpr c5; subst c5; rw [if_neg (show ¬ (false = true) by decide)] at H; simp only [Option.some.injEq, Prod.mk.injEq] at H; obtain ⟨rfl, rfl⟩ := H
  go_enter Try.func15, Try.ntmps15
  go_wp2_with (first | ((with_reducible refine gate_callee (f := 48) rfl ?_); refine goesL_ (some 17) rfl rfl Try.func48 (by kernel_rfl) rfl #[.slice A0 l0.length c0, .slice A1 l1.length c1, .slice A2 l2.length c2] rfl (qR2) ?_; (with_reducible refine (impl_routeLegs.calls k _ _ l0 _ _ l1 _ _ l2 t586 false _ ?s1 ?s2 ?s3 ?s4 ?s5 ?s6 A4.out).mono ?_); (case s1 => exact (qR11 HR0.out)); (case s2 => exact HC0.out); (case s3 => exact (qR11 HR1.out)); (case s4 => exact HC1.out); (case s5 => exact (qR11 HR2.out)); (case s6 => exact HC2.out); rintro e w13 ⟨v588, rfl, ho0, hb⟩; refine ⟨_, rfl, ?_⟩; have HO589 := Aside0.mk (qR70 ho0); replace HB := Aside0.mk (qR62); clear hb ho0))
  go_ret2
  exact ⟨(qR10), (qR0)⟩

end Go.Proofs.Ytoljdjgndogegaa.MR
