-- Written by a program of this session (wip/drv.py, wip/tight.py).
import Derived.Test.YtfjpbochanekoaaMJx0
import Derived.Test.YtfjpbochanekoaaMJx1
import Derived.Test.YtfjpbochanekoaaMJx3
import Derived.Test.YtfjpbochanekoaaMJx4
import Derived.Test.YtfjpbochanekoaaMJx8
import Derived.Test.YtfjpbochanekoaaMJx12
namespace Go.Proofs.Ytfjpbochanekoaa.MJ
open Go.RowKit Go.Proofs.YtfjpbochanekoaaW.PrintWords Go.Proofs.YtfjpbochanekoaaW.PrintLast Go.Proofs.YtfjpbochanekoaaW.PrintMore
set_option maxHeartbeats 8000000
set_option maxRecDepth 100000
theorem qJ13_0 {p : Prop} (h : p := by repeat (first | (with_reducible first | exact HB.out | apply below_alloc | apply pw_below_drewN | apply below_drew1) | exact HB.out)) : p := h
theorem qJ13_1 {p : Prop} (h : p := by (try simp only [List.map_toArray, List.map_cons, List.map_nil]); first | done | rfl | (simp only [List.length_drop, List.length_take]; rfl)) : p := h
theorem qJ13_2 {p : Prop} (h : p := by first | rfl | (simp; done) | (simp [*]; done)) : p := h
theorem qJ13_3 {p : Prop} (h : p := by repeat (first | exact HR0.out | (with_reducible refine Kd.C_alloc ?_ _) | (with_reducible refine Kd.C_drewN ?_ _) | (with_reducible refine Kd.C_drew ?_))) : p := h
theorem qJ13_4 {p : Prop} (h : p := by repeat (first | exact HR1.out | (with_reducible refine Kd.C_alloc ?_ _) | (with_reducible refine Kd.C_drewN ?_ _) | (with_reducible refine Kd.C_drew ?_))) : p := h
theorem qJ13_5 {p : Prop} (h : p := by first | rfl | (simp [errW_none, errW_some] <;> rfl) | (simp [*, errW_none, errW_some] <;> rfl)) : p := h
theorem qJ13_6 {p : Prop} (h : p := by repeat (first | exact (Kd.C_below HR0.out HB.out) | (with_reducible refine Kd.C_alloc ?_ _) | (with_reducible refine Kd.C_drewN ?_ _) | (with_reducible refine Kd.C_drew ?_))) : p := h
theorem qJ13_7 {p : Prop} (h : p := by first | (with_reducible assumption) | assumption) : p := h
theorem qJ13_8 {p : Prop} (h : p := by repeat (first | exact (Kd.C_below HR1.out HB.out) | (with_reducible refine Kd.C_alloc ?_ _) | (with_reducible refine Kd.C_drewN ?_ _) | (with_reducible refine Kd.C_drew ?_))) : p := h
theorem qJ13_9 {p : Prop} (h : p := by repeat (first | exact Drawn0.refl _ | apply Drawn0.step)) : p := h
attribute [local go_sem] max2_int min2_int max_two min_two max_three min_three max_four min_four   -- for this text's walks alone
set_option linter.unusedVariables false
set_option linter.unusedSimpArgs false

/-! ### spec_IsRigging: function 27 -/
def spec_IsRigging.f (k : Nat) (l0 : List (S36)) (l1 : List Int) (l2 : List Int) : Option (Bool × Bool) := (spec_l16Asked.f k l0 l1).bind fun t408 => (if t408 = true then ((spec_l16Rigging.f k l0 l1 l2).bind fun t409 => (some (t409, true))) else (some (false, false)))
theorem spec_IsRigging.mono : ∀ a0 a1 a2 k, LeO (spec_IsRigging.f k a0 a1 a2) (spec_IsRigging.f (k + 1) a0 a1 a2) := by
 intro a0 a1 a2 k
 unfold spec_IsRigging.f
 repeat' first
   | (with_reducible exact spec_l16Asked.mono _ _ _)
   | (with_reducible exact spec_l16Rigging.mono _ _ _ _)
   | (with_reducible exact LeO.refl _)
   | (with_reducible exact LeO.none _)
   | (with_reducible refine LeO.ite ?_ ?_)
   | (with_reducible refine LeO.bind ?_ (fun _ => ?_))
   | exact spec_l16Asked.mono _ _ _
   | exact spec_l16Rigging.mono _ _ _ _
   | exact LeO.none _
   | refine LeO.ite ?_ ?_
   | refine LeO.bind ?_ (fun _ => ?_)
theorem spec_IsRigging.calls (k : Nat) (A0 : Option Addr) (c0 : Nat) (l0 : List (S36)) (A1 : Option Addr) (c1 : Nat) (l1 : List Int) (A2 : Option Addr) (c2 : Nat) (l2 : List Int) (r1 : Bool) (r2 : Bool) (w : World) (hr0 : Kd.C k36 w A0 l0.length l0) (hc0 : l0.length ≤ c0) (hr1 : Kd.C (Kd.int .i64) w A1 l1.length l1) (hc1 : l1.length ≤ c1) (hr2 : Kd.C (Kd.int .i64) w A2 l2.length l2) (hc2 : l2.length ≤ c2) (h : spec_IsRigging.f k l0 l1 l2 = some (r1, r2)) :
  Calls Try.prog 27 #[.slice A0 l0.length c0, .slice A1 l1.length c1, .slice A2 l2.length c2] w fun e w' => e = .returned (.tuple #[.bool r1, .bool r2]) ∧ Below w.heap.size w w' := by
 have HR0 := Aside0.mk hr0; have HC0 := Aside0.mk hc0; clear hr0 hc0; have HR1 := Aside0.mk hr1; have HC1 := Aside0.mk hc1; clear hr1 hc1; have HR2 := Aside0.mk hr2; have HC2 := Aside0.mk hc2; clear hr2 hc2
 have HB := Aside0.mk (Below.refl w.heap.size w)
 have H : ((spec_l16Asked.f k l0 l1).bind fun t408 => (if t408 = true then ((spec_l16Rigging.f k l0 l1 l2).bind fun t409 => (some (t409, true))) else (some (false, false)))) = some (r1, r2) := h
 clear h; replace H := Option.bind_eq_some_iff.mp H; obtain ⟨t408, A40, H⟩ := H
 try dsimp only at H
 have A4 := Aside0.mk A40; clear A40
 by_cases c5 : t408 = true
 ·subst c5
  have H1 : ((spec_l16Rigging.f k l0 l1 l2).bind fun t409 => (some (t409, true))) = some (r1, r2) := by rw [if_pos rfl] at H; exact H
  clear H; have H := H1; clear H1; replace H := Option.bind_eq_some_iff.mp H; obtain ⟨t409, A60, H⟩ := H
  replace H : (some (t409, true)) = some (r1, r2) := H
  have A6 := Aside0.mk A60; clear A60
  simp only [Option.some.injEq, Prod.mk.injEq] at H
  obtain ⟨rfl, rfl⟩ := H
  go_enter Try.func27, Try.ntmps27
  go_wp2_with (first | ((with_reducible refine gate_callee (f := 36) rfl ?_); refine goesL_ (some 10) rfl rfl Try.func36 (by kernel_rfl) rfl #[.slice A0 l0.length c0, .slice A1 l1.length c1] rfl (qJ13_1) ?_; (with_reducible refine (spec_l16Asked.calls k _ _ l0 _ _ l1 true _ ?side1 ?side2 ?side3 ?side4 A4.out).mono ?_); (case side1 => exact (qJ13_3)); (case side2 => exact HC0.out); (case side3 => exact (qJ13_4)); (case side4 => exact HC1.out); rintro e w7 ⟨rfl, hb⟩; refine ⟨_, rfl, ?_⟩; have n0_ := Aside0.mk (below_step (qJ13_0) hb); clear HB; have HB := n0_; clear n0_; (try clear hb); (try clear hb2); (try clear hk); (try clear hi)) | ((with_reducible refine gate_callee (f := 59) rfl ?_); refine goesL_ (some 15) rfl rfl Try.func59 (by kernel_rfl) rfl #[.slice A0 l0.length c0, .slice A1 l1.length c1, .slice A2 l2.length c2] rfl (qJ13_1) ?_; (with_reducible refine (spec_l16Rigging.calls k _ _ l0 _ _ l1 _ _ l2 t409 _ ?side1 ?side2 ?side3 ?side4 ?side5 ?side6 A6.out).mono ?_); (case side1 => exact (qJ13_6)); (case side2 => exact HC0.out); (case side3 => exact (qJ13_8)); (case side4 => exact HC1.out); (case side5 => exact (by repeat (first | exact (Kd.C_below HR2.out HB.out) | (with_reducible refine Kd.C_alloc ?_ _) | (with_reducible refine Kd.C_drewN ?_ _) | (with_reducible refine Kd.C_drew ?_)))); (case side6 => exact HC2.out); rintro e w8 ⟨rfl, hb⟩; refine ⟨_, rfl, ?_⟩; have n0_ := Aside0.mk (below_step (qJ13_0) hb); clear HB; have HB := n0_; clear n0_; (try clear hb); (try clear hb2); (try clear hk); (try clear hi)))
  go_ret2
  exact ⟨(qJ13_5), (qJ13_0)⟩
 ·replace c5 := Bool.eq_false_iff.mpr c5
  subst c5
  have H1 : (some (false, false)) = some (r1, r2) := by rw [if_neg (show ¬ (false = true) by decide)] at H; exact H
  clear H; have H := H1; clear H1
  simp only [Option.some.injEq, Prod.mk.injEq] at H
  obtain ⟨rfl, rfl⟩ := H
  go_enter Try.func27, Try.ntmps27
  go_wp2_with (first | ((with_reducible refine gate_callee (f := 36) rfl ?_); refine goesL_ (some 10) rfl rfl Try.func36 (by kernel_rfl) rfl #[.slice A0 l0.length c0, .slice A1 l1.length c1] rfl (qJ13_1) ?_; (with_reducible refine (spec_l16Asked.calls k _ _ l0 _ _ l1 false _ ?side1 ?side2 ?side3 ?side4 A4.out).mono ?_); (case side1 => exact (qJ13_3)); (case side2 => exact HC0.out); (case side3 => exact (qJ13_4)); (case side4 => exact HC1.out); rintro e w9 ⟨rfl, hb⟩; refine ⟨_, rfl, ?_⟩; have n0_ := Aside0.mk (below_step (qJ13_0) hb); clear HB; have HB := n0_; clear n0_; (try clear hb); (try clear hb2); (try clear hk); (try clear hi)))
  go_ret2
  exact ⟨(qJ13_5), (qJ13_0)⟩

/-! ### impl_BestRigging: function 30 -/
def impl_BestRigging.j0 : Nat → List (S36) → List Int → Bool → Option (List Int × Int × Bool)
 | 0, _, _, _ => none
 | k + 1, x0, x1, x17 => if x17 = true then (some (([] : List Int), 0, false)) else ((impl_bestRigging.f x0 x1).bind fun bt412 => (if bt412.2.2 = true then (some (bt412.1, bt412.2.1, true)) else (some (([] : List Int), 0, false))))
def impl_BestRigging.f (k : Nat) (l0 : List (S36)) (l1 : List Int) : Option (List Int × Int × Bool) := (impl_ArePitches.f l0).bind fun t410 => (if t410 = true then ((impl_AreRopes.f l1).bind fun t411 => (impl_BestRigging.j0 k l0 l1 (!t411))) else (impl_BestRigging.j0 k l0 l1 true))
theorem impl_BestRigging.mono_l : ∀ k, (∀ y0 y1 y2, LeO (impl_BestRigging.j0 k y0 y1 y2) (impl_BestRigging.j0 (k + 1) y0 y1 y2))
 | 0 => fun _ _ _ r h => by simp [impl_BestRigging.j0] at h
 | k + 1 => by
  have ih0 := impl_BestRigging.mono_l k
  ·intro y0 y1 y2
   unfold impl_BestRigging.j0
   repeat' first
   | (with_reducible exact ih0 _ _ _)
   | (with_reducible exact LeO.refl _)
   | (with_reducible exact LeO.none _)
   | (with_reducible refine LeO.ite ?_ ?_)
   | (with_reducible refine LeO.bind ?_ (fun _ => ?_))
   | exact ih0 _ _ _
   | exact LeO.none _
   | refine LeO.ite ?_ ?_
   | refine LeO.bind ?_ (fun _ => ?_)
theorem impl_BestRigging.mono : ∀ a0 a1 k, LeO (impl_BestRigging.f k a0 a1) (impl_BestRigging.f (k + 1) a0 a1) := by
 intro a0 a1 k
 have ih0 := impl_BestRigging.mono_l k
 unfold impl_BestRigging.f
 repeat' first
   | (with_reducible exact ih0 _ _ _)
   | (with_reducible exact LeO.refl _)
   | (with_reducible exact LeO.none _)
   | (with_reducible refine LeO.ite ?_ ?_)
   | (with_reducible refine LeO.bind ?_ (fun _ => ?_))
   | exact ih0 _ _ _
   | exact LeO.none _
   | refine LeO.ite ?_ ?_
   | refine LeO.bind ?_ (fun _ => ?_)
theorem impl_BestRigging.calls (k : Nat) (A0 : Option Addr) (c0 : Nat) (l0 : List (S36)) (A1 : Option Addr) (c1 : Nat) (l1 : List Int) (r1 : List Int) (r2 : Int) (r3 : Bool) (w : World) (hr0 : Kd.C k36 w A0 l0.length l0) (hc0 : l0.length ≤ c0) (hr1 : Kd.C (Kd.int .i64) w A1 l1.length l1) (hc1 : l1.length ≤ c1) (h : impl_BestRigging.f k l0 l1 = some (r1, r2, r3)) :
  Calls Try.prog 30 #[.slice A0 l0.length c0, .slice A1 l1.length c1] w fun e w' => ∃ v0_ : Value, e = .returned (.tuple #[v0_, .int .i64 r2, .bool r3]) ∧ Kd.R (Kd.int .i64) 3 w' w.heap.size (fun _ => True) v0_ r1 ∧ Below w.heap.size w w' := by
 have HR0 := Aside0.mk hr0; have HC0 := Aside0.mk hc0; clear hr0 hc0; have HR1 := Aside0.mk hr1; have HC1 := Aside0.mk hc1; clear hr1 hc1
 have HB := Aside0.mk (Below.refl w.heap.size w)
 have H : ((impl_ArePitches.f l0).bind fun t410 => (if t410 = true then ((impl_AreRopes.f l1).bind fun t411 => (impl_BestRigging.j0 k l0 l1 (!t411))) else (impl_BestRigging.j0 k l0 l1 true))) = some (r1, r2, r3) := h
 clear h; have HC3 := Aside0.mk H; clear H
 go_enter Try.func30, Try.ntmps30
 go_upto_region 1 with (fail)
 go_cut [17] (fun v17 wc => ∃ (kq : Nat) (x17_2 : Bool), v17 = .bool x17_2 ∧ Aside0 (impl_BestRigging.j0 kq l0 l1 x17_2 = some (r1, r2, r3)) ∧ Aside0 (kq ≤ k) ∧ Aside0 (Below w.heap.size w wc))
 case first =>
  have H := HC3.out
  clear HC3; replace H := Option.bind_eq_some_iff.mp H; obtain ⟨t410, A40, H⟩ := H
  try dsimp only at H
  have A4 := Aside0.mk A40; clear A40
  by_cases c5 : t410 = true
  ·subst c5
   have H1 : ((impl_AreRopes.f l1).bind fun t411 => (impl_BestRigging.j0 k l0 l1 (!t411))) = some (r1, r2, r3) := by rw [if_pos rfl] at H; exact H
   clear H; have H := H1; clear H1; replace H := Option.bind_eq_some_iff.mp H; obtain ⟨t411, A60, H⟩ := H
   replace H : (impl_BestRigging.j0 k l0 l1 (!t411)) = some (r1, r2, r3) := H
   have A6 := Aside0.mk A60; clear A60
   have H' := Aside0.mk H
   clear H
   go_wp2_with (first | ((with_reducible refine gate_callee (f := 28) rfl ?_); refine goesL_ (some 11) rfl rfl Try.func28 (by kernel_rfl) rfl #[.slice A0 l0.length c0] rfl (qJ13_1) ?_; (with_reducible refine (impl_ArePitches.calls _ _ l0 true _ ?side1 ?side2 A4.out).mono ?_); (case side1 => exact (qJ13_6)); (case side2 => exact HC0.out); rintro e w7 ⟨rfl, hb⟩; refine ⟨_, rfl, ?_⟩; have n0_ := Aside0.mk (below_step (qJ13_0) hb); clear HB; have HB := n0_; clear n0_; (try clear hb); (try clear hb2); (try clear hk); (try clear hi)) | (go_at_call 29; (with_reducible refine (impl_AreRopes.calls _ _ l1 t411 _ ?side1 ?side2 A6.out).mono ?_); (case side1 => exact (qJ13_8)); (case side2 => exact HC1.out); rintro e w8 ⟨rfl, hb⟩; have n0_ := Aside0.mk (below_step (qJ13_0) hb); clear HB; have HB := n0_; clear n0_; (try clear hb); (try clear hb2); (try clear hk); (try clear hi)))
   go_meet
   case rel => exact ⟨_, (!t411), (qJ13_2), H', ⟨by first | omega | exact Nat.le_refl _⟩, ⟨(qJ13_0)⟩⟩
  ·replace c5 := Bool.eq_false_iff.mpr c5
   subst c5
   have H1 : (impl_BestRigging.j0 k l0 l1 true) = some (r1, r2, r3) := by rw [if_neg (show ¬ (false = true) by decide)] at H; exact H
   clear H; have H := H1; clear H1
   have H' := Aside0.mk H
   clear H
   go_wp2_with (first | ((with_reducible refine gate_callee (f := 28) rfl ?_); refine goesL_ (some 11) rfl rfl Try.func28 (by kernel_rfl) rfl #[.slice A0 l0.length c0] rfl (qJ13_1) ?_; (with_reducible refine (impl_ArePitches.calls _ _ l0 false _ ?side1 ?side2 A4.out).mono ?_); (case side1 => exact (qJ13_6)); (case side2 => exact HC0.out); rintro e w9 ⟨rfl, hb⟩; refine ⟨_, rfl, ?_⟩; have n0_ := Aside0.mk (below_step (qJ13_0) hb); clear HB; have HB := n0_; clear n0_; (try clear hb); (try clear hb2); (try clear hk); (try clear hi)))
   go_meet
   case rel => exact ⟨_, (true), (qJ13_2), H', ⟨by first | omega | exact Nat.le_refl _⟩, ⟨(qJ13_0)⟩⟩
 case rest =>
  clear HC3
  try clear c1
  try clear c2
  try clear p2
  try clear c3
  try clear c5
  obtain ⟨kq, x17_2, rfl, HA, HJ2, HB⟩ := hcut
  cases kq with
  | zero => exact absurd HA.out (by simp [impl_BestRigging.j0])
  | succ kj2 =>
   have H := HA.out
   clear HA
   simp only [impl_BestRigging.j0] at H
   by_cases c10 : x17_2 = true
   ·subst c10
    have H1 : (some (([] : List Int), 0, false)) = some (r1, r2, r3) := by rw [if_pos rfl] at H; exact H
    clear H; have H := H1; clear H1
    simp only [Option.some.injEq, Prod.mk.injEq] at H
    obtain ⟨rfl, rfl, rfl⟩ := H
    go_wp2
    go_ret3
    exact ⟨_, (qJ13_5), by first | exact Kd.R_nil _ _ _ _ _ | exact Kd.N_nil _ _ _ _ _ | exact Kd.V_nil _ _ _ _ _ | exact Kd.Q_nil _ _ _ _ _ | exact Kd.S_nil _ _ _ _ _, (qJ13_0)⟩
   ·replace c10 := Bool.eq_false_iff.mpr c10
    subst c10
    have H1 : ((impl_bestRigging.f l0 l1).bind fun bt412 => (if bt412.2.2 = true then (some (bt412.1, bt412.2.1, true)) else (some (([] : List Int), 0, false)))) = some (r1, r2, r3) := by rw [if_neg (show ¬ (false = true) by decide)] at H; exact H
    clear H; have H := H1; clear H1; replace H := Option.bind_eq_some_iff.mp H; obtain ⟨⟨t412, t413, t414⟩, A110, H⟩ := H
    try dsimp only at H
    have A11 := Aside0.mk A110; clear A110
    by_cases c12 : t414 = true
    ·subst c12
     have H1 : (some (t412, t413, true)) = some (r1, r2, r3) := by rw [if_pos rfl] at H; exact H
     clear H; have H := H1; clear H1
     simp only [Option.some.injEq, Prod.mk.injEq] at H
     obtain ⟨rfl, rfl, rfl⟩ := H
     go_wp2_with (first | ((with_reducible refine gate_callee (f := 39) rfl ?_); refine goesL_ (some 21) rfl rfl Try.func39 (by kernel_rfl) rfl #[.slice A0 l0.length c0, .slice A1 l1.length c1] rfl (qJ13_1) ?_; (with_reducible refine (impl_bestRigging.calls _ _ l0 _ _ l1 t412 t413 true _ ?side1 ?side2 ?side3 ?side4 A11.out).mono ?_); (case side1 => exact (qJ13_6)); (case side2 => exact HC0.out); (case side3 => exact (qJ13_8)); (case side4 => exact HC1.out); rintro e w13 ⟨v415, rfl, ho0, hb⟩; refine ⟨_, rfl, ?_⟩; have n0_ := Aside0.mk (Kd.R_lower ho0 (below_size (qJ13_0))); have n1_ := Aside0.mk (below_step (qJ13_0) hb); clear HB; have HO416 := n0_; have HB := n1_; clear n0_ n1_; (try clear hb); (try clear hb2); (try clear hk); (try clear hi); (try clear ho0)))
     go_ret3
     exact ⟨_, (qJ13_5), (by (with_reducible repeat (first | apply Kd.R_alloc | apply Kd.R_drewN | apply Kd.R_drew)); exact HO416.out), (qJ13_0)⟩
    ·replace c12 := Bool.eq_false_iff.mpr c12
     subst c12
     have H1 : (some (([] : List Int), 0, false)) = some (r1, r2, r3) := by rw [if_neg (show ¬ (false = true) by decide)] at H; exact H
     clear H; have H := H1; clear H1
     simp only [Option.some.injEq, Prod.mk.injEq] at H
     obtain ⟨rfl, rfl, rfl⟩ := H
     go_wp2_with (first | ((with_reducible refine gate_callee (f := 39) rfl ?_); refine goesL_ (some 21) rfl rfl Try.func39 (by kernel_rfl) rfl #[.slice A0 l0.length c0, .slice A1 l1.length c1] rfl (qJ13_1) ?_; (with_reducible refine (impl_bestRigging.calls _ _ l0 _ _ l1 t412 t413 false _ ?side1 ?side2 ?side3 ?side4 A11.out).mono ?_); (case side1 => exact (qJ13_6)); (case side2 => exact HC0.out); (case side3 => exact (qJ13_8)); (case side4 => exact HC1.out); rintro e w14 ⟨v415, rfl, ho0, hb⟩; refine ⟨_, rfl, ?_⟩; have n0_ := Aside0.mk (Kd.R_lower ho0 (below_size (qJ13_0))); have n1_ := Aside0.mk (below_step (qJ13_0) hb); clear HB; have HO416 := n0_; have HB := n1_; clear n0_ n1_; (try clear hb); (try clear hb2); (try clear hk); (try clear hi); (try clear ho0)))
     go_ret3
     exact ⟨_, (qJ13_5), by first | exact Kd.R_nil _ _ _ _ _ | exact Kd.N_nil _ _ _ _ _ | exact Kd.V_nil _ _ _ _ _ | exact Kd.Q_nil _ _ _ _ _ | exact Kd.S_nil _ _ _ _ _, (qJ13_0)⟩

/-! ### laws_rInts: function 32 -/
def laws_rInts.l0 : Nat → List Int → List Int → Int → Option (Bool)
 | 0, _, _, _ => none
 | k + 1, x0, x1, x5 => if x5 < (x0.length : Int) then (if 0 ≤ x5 then (if x5 < (x1.length : Int) then (if (rd x0 x5) = (rd x1 x5) then (laws_rInts.l0 k x0 x1 (wrap64 (x5 + 1))) else (some false)) else (none)) else (none)) else (some true)
def laws_rInts.f (k : Nat) (l0 : List Int) (l1 : List Int) : Option (Bool) := if (l0.length : Int) = (l1.length : Int) then (laws_rInts.l0 k l0 l1 0) else (some false)
theorem laws_rInts.mono_l : ∀ k, (∀ y0 y1 y2, LeO (laws_rInts.l0 k y0 y1 y2) (laws_rInts.l0 (k + 1) y0 y1 y2))
 | 0 => fun _ _ _ r h => by simp [laws_rInts.l0] at h
 | k + 1 => by
  have ih0 := laws_rInts.mono_l k
  ·intro y0 y1 y2
   unfold laws_rInts.l0
   repeat' first
   | (with_reducible exact ih0 _ _ _)
   | (with_reducible exact LeO.refl _)
   | (with_reducible exact LeO.none _)
   | (with_reducible refine LeO.ite ?_ ?_)
   | (with_reducible refine LeO.bind ?_ (fun _ => ?_))
   | exact ih0 _ _ _
   | exact LeO.none _
   | refine LeO.ite ?_ ?_
   | refine LeO.bind ?_ (fun _ => ?_)
theorem laws_rInts.mono : ∀ a0 a1 k, LeO (laws_rInts.f k a0 a1) (laws_rInts.f (k + 1) a0 a1) := by
 intro a0 a1 k
 have ih0 := laws_rInts.mono_l k
 unfold laws_rInts.f
 repeat' first
   | (with_reducible exact ih0 _ _ _)
   | (with_reducible exact LeO.refl _)
   | (with_reducible exact LeO.none _)
   | (with_reducible refine LeO.ite ?_ ?_)
   | (with_reducible refine LeO.bind ?_ (fun _ => ?_))
   | exact ih0 _ _ _
   | exact LeO.none _
   | refine LeO.ite ?_ ?_
   | refine LeO.bind ?_ (fun _ => ?_)
theorem laws_rInts.calls (k : Nat) (A0 : Option Addr) (c0 : Nat) (l0 : List Int) (A1 : Option Addr) (c1 : Nat) (l1 : List Int) (r : Bool) (w : World) (hr0 : Kd.C (Kd.int .i64) w A0 l0.length l0) (hc0 : l0.length ≤ c0) (hr1 : Kd.C (Kd.int .i64) w A1 l1.length l1) (hc1 : l1.length ≤ c1) (h : laws_rInts.f k l0 l1 = some r) :
  Calls Try.prog 32 #[.slice A0 l0.length c0, .slice A1 l1.length c1] w fun e w' => e = .returned (.bool r) ∧ Drawn0 w w' := by
 have HR0 := Aside0.mk hr0; have HC0 := Aside0.mk hc0; clear hr0 hc0; have HR1 := Aside0.mk hr1; have HC1 := Aside0.mk hc1; clear hr1 hc1
 have H : (if (l0.length : Int) = (l1.length : Int) then (laws_rInts.l0 k l0 l1 0) else (some false)) = some r := h
 clear h
 by_cases c3 : (l0.length : Int) = (l1.length : Int)
 ·rw [if_pos c3] at H
  have c3b0 : ((l0.length : Int) == (l1.length : Int)) = true := beq_iff_eq.mpr c3
  have c3b1 : ((l0.length : Int) != (l1.length : Int)) = false := bne_eq_false_iff_eq.mpr c3
  have c3b2 : (l0.length == l1.length) = true := by first | simpa using c3 | (simp at c3 ⊢; omega)
  clear c3
  have H' := Aside0.mk H
  clear H
  go_enter Try.func32, Try.ntmps32
  go_wp2
  repeat (go_quiet (fail); try go_wp2)
  go_loopg [5] k (fun kq v5 w' => ∃ (x5_1 : Int), v5 = .int .i64 x5_1 ∧ Aside0 (laws_rInts.l0 kq l0 l1 x5_1 = some r) ∧ Aside0 (kq ≤ k) ∧ Drawn0 w w')
  case atStart => exact ⟨(0), (qJ13_2), H', ⟨Nat.le_refl _⟩, (qJ13_9)⟩
  case round =>
   clear H'
   try clear c1
   try clear p2
   try clear c3
   try clear c3b0
   try clear c3b1
   try clear c3b2
   obtain ⟨x5_1, rfl, HA, HK1, ⟨m1, rfl⟩⟩ := hrel
   cases gk with
   | zero => exact absurd HA.out (by simp [laws_rInts.l0])
   | succ k1 =>
    have H := HA.out
    clear HA
    simp only [laws_rInts.l0] at H
    by_cases c4 : x5_1 < (l0.length : Int)
    ·rw [if_pos c4] at H
     have c4b0 : decide (x5_1 < (l0.length : Int)) = true := decide_eq_true c4
     clear c4
     by_cases c5 : 0 ≤ x5_1
     ·rw [if_pos c5] at H
      have c5b0 : decide (0 ≤ x5_1) = true := decide_eq_true c5
      clear c5
      by_cases c6 : x5_1 < (l1.length : Int)
      ·rw [if_pos c6] at H
       have c6b0 : decide (x5_1 < (l1.length : Int)) = true := decide_eq_true c6
       clear c6
       by_cases c7 : (rd l0 x5_1) = (rd l1 x5_1)
       ·rw [if_pos c7] at H
        have c7b0 : ((rd l0 x5_1) == (rd l1 x5_1)) = true := beq_iff_eq.mpr c7
        have c7b1 : ((rd l0 x5_1) != (rd l1 x5_1)) = false := bne_eq_false_iff_eq.mpr c7
        clear c7
        have H' := Aside0.mk H
        clear H
        have p417 : 0 ≤ (x5_1 : Int) := of_decide_eq_true (qJ13_7)
        have q417 : x5_1 < (l0.length : Int) := of_decide_eq_true (qJ13_7)
        obtain ⟨ad417, e417, hx417_0⟩ := Kd.at_int HR0.out x5_1 p417 q417
        cases e417
        replace p417 := eq_true p417
        replace q417 := eq_true q417
        have p418 : 0 ≤ (x5_1 : Int) := of_decide_eq_true (qJ13_7)
        have q418 : x5_1 < (l1.length : Int) := of_decide_eq_true (qJ13_7)
        obtain ⟨ad418, e418, hx418_0⟩ := Kd.at_int HR1.out x5_1 p418 q418
        cases e418
        replace p418 := eq_true p418
        replace q418 := eq_true q418
        go_wp2
        repeat (go_quiet (fail); try go_wp2)
        go_roundg k1
        case measure => have := HK1.out; omega
        case rel => exact ⟨(wrap64 (x5_1 + 1)), (qJ13_2), H', ⟨by have := HK1.out; omega⟩, (qJ13_9)⟩
       ·rw [if_neg c7] at H
        have c7b0 : ((rd l0 x5_1) == (rd l1 x5_1)) = false := beq_eq_false_iff_ne.mpr c7
        have c7b1 : ((rd l0 x5_1) != (rd l1 x5_1)) = true := bne_iff_ne.mpr c7
        obtain rfl := Option.some.inj H
        have p417 : 0 ≤ (x5_1 : Int) := of_decide_eq_true (qJ13_7)
        have q417 : x5_1 < (l0.length : Int) := of_decide_eq_true (qJ13_7)
        obtain ⟨ad417, e417, hx417_0⟩ := Kd.at_int HR0.out x5_1 p417 q417
        cases e417
        replace p417 := eq_true p417
        replace q417 := eq_true q417
        have p418 : 0 ≤ (x5_1 : Int) := of_decide_eq_true (qJ13_7)
        have q418 : x5_1 < (l1.length : Int) := of_decide_eq_true (qJ13_7)
        obtain ⟨ad418, e418, hx418_0⟩ := Kd.at_int HR1.out x5_1 p418 q418
        cases e418
        replace p418 := eq_true p418
        replace q418 := eq_true q418
        go_wp2
        repeat (go_quiet (fail); try go_wp2)
        go_ret
        exact ⟨(qJ13_2), (qJ13_9)⟩
      ·rw [if_neg c6] at H
       exact absurd H (by simp)
     ·rw [if_neg c5] at H
      exact absurd H (by simp)
    ·rw [if_neg c4] at H
     have c4b0 : decide (x5_1 < (l0.length : Int)) = false := decide_eq_false c4
     clear c4; obtain rfl := Option.some.inj H
     go_wp2
     repeat (go_quiet (fail); try go_wp2)
     go_ret
     exact ⟨(qJ13_2), (qJ13_9)⟩
 ·rw [if_neg c3] at H
  have c3b0 : ((l0.length : Int) == (l1.length : Int)) = false := beq_eq_false_iff_ne.mpr c3
  have c3b1 : ((l0.length : Int) != (l1.length : Int)) = true := bne_iff_ne.mpr c3
  have c3b2 : (l0.length == l1.length) = false := by first | simpa using c3 | (simp at c3 ⊢; omega)
  obtain rfl := Option.some.inj H
  go_enter Try.func32, Try.ntmps32
  go_wp2
  repeat (go_quiet (fail); try go_wp2)
  go_ret
  exact ⟨(qJ13_2), (qJ13_9)⟩

/-! ### impl_SpareRope: function 33 -/
def impl_SpareRope.l0 : Nat → Int → List Int → Int → Int → Option (Int × Bool)
 | 0, _, _, _, _ => none
 | k + 1, x9, x23, x24, x25 => if x25 < x24 then (if 0 ≤ x25 then (if x25 < (x23.length : Int) then (impl_SpareRope.l0 k (wrap64 (x9 + (rd x23 x25))) x23 x24 (wrap64 (x25 + 1))) else (none)) else (none)) else (some (x9, true))
def impl_SpareRope.f (k : Nat) (l0 : List (S36)) (l1 : List Int) : Option (Int × Bool) := (impl_BestRigging.f k l0 l1).bind fun bt419 => (if bt419.2.2 = true then (impl_SpareRope.l0 k (wrap64 (-bt419.2.1)) l1 (l1.length : Int) 0) else (some (0, false)))
theorem impl_SpareRope.mono_l : ∀ k, (∀ y0 y1 y2 y3, LeO (impl_SpareRope.l0 k y0 y1 y2 y3) (impl_SpareRope.l0 (k + 1) y0 y1 y2 y3))
 | 0 => fun _ _ _ _ r h => by simp [impl_SpareRope.l0] at h
 | k + 1 => by
  have ih0 := impl_SpareRope.mono_l k
  ·intro y0 y1 y2 y3
   unfold impl_SpareRope.l0
   repeat' first
   | (with_reducible exact ih0 _ _ _ _)
   | (with_reducible exact impl_BestRigging.mono _ _ _)
   | (with_reducible exact LeO.refl _)
   | (with_reducible exact LeO.none _)
   | (with_reducible refine LeO.ite ?_ ?_)
   | (with_reducible refine LeO.bind ?_ (fun _ => ?_))
   | exact ih0 _ _ _ _
   | exact impl_BestRigging.mono _ _ _
   | exact LeO.none _
   | refine LeO.ite ?_ ?_
   | refine LeO.bind ?_ (fun _ => ?_)
theorem impl_SpareRope.mono : ∀ a0 a1 k, LeO (impl_SpareRope.f k a0 a1) (impl_SpareRope.f (k + 1) a0 a1) := by
 intro a0 a1 k
 have ih0 := impl_SpareRope.mono_l k
 unfold impl_SpareRope.f
 repeat' first
   | (with_reducible exact ih0 _ _ _ _)
   | (with_reducible exact impl_BestRigging.mono _ _ _)
   | (with_reducible exact LeO.refl _)
   | (with_reducible exact LeO.none _)
   | (with_reducible refine LeO.ite ?_ ?_)
   | (with_reducible refine LeO.bind ?_ (fun _ => ?_))
   | exact ih0 _ _ _ _
   | exact impl_BestRigging.mono _ _ _
   | exact LeO.none _
   | refine LeO.ite ?_ ?_
   | refine LeO.bind ?_ (fun _ => ?_)
theorem impl_SpareRope.calls (k : Nat) (A0 : Option Addr) (c0 : Nat) (l0 : List (S36)) (A1 : Option Addr) (c1 : Nat) (l1 : List Int) (r1 : Int) (r2 : Bool) (w : World) (hr0 : Kd.C k36 w A0 l0.length l0) (hc0 : l0.length ≤ c0) (hr1 : Kd.C (Kd.int .i64) w A1 l1.length l1) (hc1 : l1.length ≤ c1) (h : impl_SpareRope.f k l0 l1 = some (r1, r2)) :
  Calls Try.prog 33 #[.slice A0 l0.length c0, .slice A1 l1.length c1] w fun e w' => e = .returned (.tuple #[.int .i64 r1, .bool r2]) ∧ Below w.heap.size w w' := by
 have HR0 := Aside0.mk hr0; have HC0 := Aside0.mk hc0; clear hr0 hc0; have HR1 := Aside0.mk hr1; have HC1 := Aside0.mk hc1; clear hr1 hc1
 have HB := Aside0.mk (Below.refl w.heap.size w)
 have H : ((impl_BestRigging.f k l0 l1).bind fun bt419 => (if bt419.2.2 = true then (impl_SpareRope.l0 k (wrap64 (-bt419.2.1)) l1 (l1.length : Int) 0) else (some (0, false)))) = some (r1, r2) := h
 clear h; replace H := Option.bind_eq_some_iff.mp H; obtain ⟨⟨t419, t420, t421⟩, A30, H⟩ := H
 try dsimp only at H
 have A3 := Aside0.mk A30; clear A30
 by_cases c4 : t421 = true
 ·subst c4
  have H1 : (impl_SpareRope.l0 k (wrap64 (-t420)) l1 (l1.length : Int) 0) = some (r1, r2) := by rw [if_pos rfl] at H; exact H
  clear H; have H := H1; clear H1
  have H' := Aside0.mk H
  clear H
  go_enter Try.func33, Try.ntmps33
  go_wp2_with (first | ((with_reducible refine gate_callee (f := 30) rfl ?_); refine goesL_ (some 15) rfl rfl Try.func30 (by kernel_rfl) rfl #[.slice A0 l0.length c0, .slice A1 l1.length c1] rfl (qJ13_1) ?_; (with_reducible refine (impl_BestRigging.calls k _ _ l0 _ _ l1 t419 t420 true _ ?side1 ?side2 ?side3 ?side4 A3.out).mono ?_); (case side1 => exact (qJ13_3)); (case side2 => exact HC0.out); (case side3 => exact (qJ13_4)); (case side4 => exact HC1.out); rintro e w5 ⟨v422, rfl, ho0, hb⟩; refine ⟨_, rfl, ?_⟩; have n0_ := Aside0.mk (Kd.R_lower ho0 (below_size (qJ13_0))); have n1_ := Aside0.mk (below_step (qJ13_0) hb); clear HB; have HO423 := n0_; have HB := n1_; clear n0_ n1_; (try clear hb); (try clear hb2); (try clear hk); (try clear hi); (try clear ho0)))
  go_loopg [9, 25] k (fun kq v9 v25 w' => ∃ (x9_1 : Int) (x25_1 : Int), v9 = .int .i64 x9_1 ∧ v25 = .int .i64 x25_1 ∧ Aside0 (impl_SpareRope.l0 kq x9_1 l1 (l1.length : Int) x25_1 = some (r1, r2)) ∧ Aside0 (kq ≤ k) ∧ Aside0 (Below w.heap.size w w'))
  case atStart => exact ⟨(wrap64 (-t420)), (0), (qJ13_2), (qJ13_2), H', ⟨Nat.le_refl _⟩, ⟨(qJ13_0)⟩⟩
  case round =>
   clear H'
   try clear c1
   try clear p2
   try clear c3
   try clear c4
   obtain ⟨x9_1, x25_1, rfl, rfl, HA, HK1, HB⟩ := hrel
   cases gk with
   | zero => exact absurd HA.out (by simp [impl_SpareRope.l0])
   | succ k1 =>
    have H := HA.out
    clear HA
    simp only [impl_SpareRope.l0] at H
    by_cases c6 : x25_1 < (l1.length : Int)
    ·rw [if_pos c6] at H
     have c6b0 : decide (x25_1 < (l1.length : Int)) = true := decide_eq_true c6
     clear c6
     by_cases c7 : 0 ≤ x25_1
     ·rw [if_pos c7] at H
      have c7b0 : decide (0 ≤ x25_1) = true := decide_eq_true c7
      clear c7
      by_cases c8 : x25_1 < (l1.length : Int)
      ·rw [if_pos c8] at H
       have c8b0 : decide (x25_1 < (l1.length : Int)) = true := decide_eq_true c8
       clear c8
       have H' := Aside0.mk H
       clear H
       have p424 : 0 ≤ (x25_1 : Int) := of_decide_eq_true (qJ13_7)
       have q424 : x25_1 < (l1.length : Int) := of_decide_eq_true (qJ13_7)
       obtain ⟨ad424, e424, hx424_0⟩ := Kd.at_int HR1.out x25_1 p424 q424
       cases e424
       replace hx424_0 := (HB.out.cell (World.block_lt_of_cell? w _ hx424_0)).trans hx424_0
       replace p424 := eq_true p424
       replace q424 := eq_true q424
       go_wp2
       go_roundg k1
       case measure => have := HK1.out; omega
       case rel => exact ⟨(wrap64 (x9_1 + (rd l1 x25_1))), (wrap64 (x25_1 + 1)), (qJ13_2), (qJ13_2), H', ⟨by have := HK1.out; omega⟩, ⟨(qJ13_0)⟩⟩
      ·rw [if_neg c8] at H
       exact absurd H (by simp)
     ·rw [if_neg c7] at H
      exact absurd H (by simp)
    ·rw [if_neg c6] at H
     have c6b0 : decide (x25_1 < (l1.length : Int)) = false := decide_eq_false c6
     clear c6
     simp only [Option.some.injEq, Prod.mk.injEq] at H
     obtain ⟨rfl, rfl⟩ := H
     go_wp2
     go_ret2
     exact ⟨(qJ13_5), (qJ13_0)⟩
 ·replace c4 := Bool.eq_false_iff.mpr c4
  subst c4
  have H1 : (some (0, false)) = some (r1, r2) := by rw [if_neg (show ¬ (false = true) by decide)] at H; exact H
  clear H; have H := H1; clear H1
  simp only [Option.some.injEq, Prod.mk.injEq] at H
  obtain ⟨rfl, rfl⟩ := H
  go_enter Try.func33, Try.ntmps33
  go_wp2_with (first | ((with_reducible refine gate_callee (f := 30) rfl ?_); refine goesL_ (some 15) rfl rfl Try.func30 (by kernel_rfl) rfl #[.slice A0 l0.length c0, .slice A1 l1.length c1] rfl (qJ13_1) ?_; (with_reducible refine (impl_BestRigging.calls k _ _ l0 _ _ l1 t419 t420 false _ ?side1 ?side2 ?side3 ?side4 A3.out).mono ?_); (case side1 => exact (qJ13_3)); (case side2 => exact HC0.out); (case side3 => exact (qJ13_4)); (case side4 => exact HC1.out); rintro e w9 ⟨v422, rfl, ho0, hb⟩; refine ⟨_, rfl, ?_⟩; have n0_ := Aside0.mk (Kd.R_lower ho0 (below_size (qJ13_0))); have n1_ := Aside0.mk (below_step (qJ13_0) hb); clear HB; have HO423 := n0_; have HB := n1_; clear n0_ n1_; (try clear hb); (try clear hb2); (try clear hk); (try clear hi); (try clear ho0)))
  go_ret2
  exact ⟨(qJ13_5), (qJ13_0)⟩

/-! ### spec_SpareRope: function 34 -/
def spec_SpareRope.l0 : Nat → List Int → Int → Int → Int → Option (Int × Bool)
 | 0, _, _, _, _ => none
 | k + 1, x1, x7, x9, x10 => if x10 < (x1.length : Int) then (if 0 ≤ x10 then (spec_SpareRope.l0 k x1 x7 (wrap64 (x9 + (rd x1 x10))) (wrap64 (x10 + 1))) else (none)) else (some (wrap64 (x9 - x7), true))
def spec_SpareRope.f (k : Nat) (l0 : List (S36)) (l1 : List Int) : Option (Int × Bool) := (spec_BestRigging.f k l0 l1).bind fun bt425 => (if bt425.2.2 = true then (spec_SpareRope.l0 k l1 bt425.2.1 0 0) else (some (0, false)))
theorem spec_SpareRope.mono_l : ∀ k, (∀ y0 y1 y2 y3, LeO (spec_SpareRope.l0 k y0 y1 y2 y3) (spec_SpareRope.l0 (k + 1) y0 y1 y2 y3))
 | 0 => fun _ _ _ _ r h => by simp [spec_SpareRope.l0] at h
 | k + 1 => by
  have ih0 := spec_SpareRope.mono_l k
  ·intro y0 y1 y2 y3
   unfold spec_SpareRope.l0
   repeat' first
   | (with_reducible exact ih0 _ _ _ _)
   | (with_reducible exact spec_BestRigging.mono _ _ _)
   | (with_reducible exact LeO.refl _)
   | (with_reducible exact LeO.none _)
   | (with_reducible refine LeO.ite ?_ ?_)
   | (with_reducible refine LeO.bind ?_ (fun _ => ?_))
   | exact ih0 _ _ _ _
   | exact spec_BestRigging.mono _ _ _
   | exact LeO.none _
   | refine LeO.ite ?_ ?_
   | refine LeO.bind ?_ (fun _ => ?_)
theorem spec_SpareRope.mono : ∀ a0 a1 k, LeO (spec_SpareRope.f k a0 a1) (spec_SpareRope.f (k + 1) a0 a1) := by
 intro a0 a1 k
 have ih0 := spec_SpareRope.mono_l k
 unfold spec_SpareRope.f
 repeat' first
   | (with_reducible exact ih0 _ _ _ _)
   | (with_reducible exact spec_BestRigging.mono _ _ _)
   | (with_reducible exact LeO.refl _)
   | (with_reducible exact LeO.none _)
   | (with_reducible refine LeO.ite ?_ ?_)
   | (with_reducible refine LeO.bind ?_ (fun _ => ?_))
   | exact ih0 _ _ _ _
   | exact spec_BestRigging.mono _ _ _
   | exact LeO.none _
   | refine LeO.ite ?_ ?_
   | refine LeO.bind ?_ (fun _ => ?_)
theorem spec_SpareRope.calls (k : Nat) (A0 : Option Addr) (c0 : Nat) (l0 : List (S36)) (A1 : Option Addr) (c1 : Nat) (l1 : List Int) (r1 : Int) (r2 : Bool) (w : World) (hr0 : Kd.C k36 w A0 l0.length l0) (hc0 : l0.length ≤ c0) (hr1 : Kd.C (Kd.int .i64) w A1 l1.length l1) (hc1 : l1.length ≤ c1) (h : spec_SpareRope.f k l0 l1 = some (r1, r2)) :
  Calls Try.prog 34 #[.slice A0 l0.length c0, .slice A1 l1.length c1] w fun e w' => e = .returned (.tuple #[.int .i64 r1, .bool r2]) ∧ Below w.heap.size w w' := by
 have HR0 := Aside0.mk hr0; have HC0 := Aside0.mk hc0; clear hr0 hc0; have HR1 := Aside0.mk hr1; have HC1 := Aside0.mk hc1; clear hr1 hc1
 have HB := Aside0.mk (Below.refl w.heap.size w)
 have H : ((spec_BestRigging.f k l0 l1).bind fun bt425 => (if bt425.2.2 = true then (spec_SpareRope.l0 k l1 bt425.2.1 0 0) else (some (0, false)))) = some (r1, r2) := h
 clear h; replace H := Option.bind_eq_some_iff.mp H; obtain ⟨⟨t425, t426, t427⟩, A30, H⟩ := H
 try dsimp only at H
 have A3 := Aside0.mk A30; clear A30
 by_cases c4 : t427 = true
 ·subst c4
  have H1 : (spec_SpareRope.l0 k l1 t426 0 0) = some (r1, r2) := by rw [if_pos rfl] at H; exact H
  clear H; have H := H1; clear H1
  have H' := Aside0.mk H
  clear H
  go_enter Try.func34, Try.ntmps34
  go_wp2_with (first | ((with_reducible refine gate_callee (f := 31) rfl ?_); refine goesL_ (some 14) rfl rfl Try.func31 (by kernel_rfl) rfl #[.slice A0 l0.length c0, .slice A1 l1.length c1] rfl (qJ13_1) ?_; (with_reducible refine (spec_BestRigging.calls k _ _ l0 _ _ l1 t425 t426 true _ ?side1 ?side2 ?side3 ?side4 A3.out).mono ?_); (case side1 => exact (qJ13_3)); (case side2 => exact HC0.out); (case side3 => exact (qJ13_4)); (case side4 => exact HC1.out); rintro e w5 ⟨v428, rfl, ho0, hb⟩; refine ⟨_, rfl, ?_⟩; have n0_ := Aside0.mk (Kd.R_lower ho0 (below_size (qJ13_0))); have n1_ := Aside0.mk (below_step (qJ13_0) hb); clear HB; have HO429 := n0_; have HB := n1_; clear n0_ n1_; (try clear hb); (try clear hb2); (try clear hk); (try clear hi); (try clear ho0)))
  go_loopg [9, 10] k (fun kq v9 v10 w' => ∃ (x9_1 : Int) (x10_1 : Int), v9 = .int .i64 x9_1 ∧ v10 = .int .i64 x10_1 ∧ Aside0 (spec_SpareRope.l0 kq l1 t426 x9_1 x10_1 = some (r1, r2)) ∧ Aside0 (kq ≤ k) ∧ Aside0 (Below w.heap.size w w'))
  case atStart => exact ⟨(0), (0), (qJ13_2), (qJ13_2), H', ⟨Nat.le_refl _⟩, ⟨(qJ13_0)⟩⟩
  case round =>
   clear H'
   try clear c1
   try clear p2
   try clear c3
   try clear c4
   obtain ⟨x9_1, x10_1, rfl, rfl, HA, HK1, HB⟩ := hrel
   cases gk with
   | zero => exact absurd HA.out (by simp [spec_SpareRope.l0])
   | succ k1 =>
    have H := HA.out
    clear HA
    simp only [spec_SpareRope.l0] at H
    by_cases c6 : x10_1 < (l1.length : Int)
    ·rw [if_pos c6] at H
     have c6b0 : decide (x10_1 < (l1.length : Int)) = true := decide_eq_true c6
     clear c6
     by_cases c7 : 0 ≤ x10_1
     ·rw [if_pos c7] at H
      have c7b0 : decide (0 ≤ x10_1) = true := decide_eq_true c7
      clear c7
      have H' := Aside0.mk H
      clear H
      have p430 : 0 ≤ (x10_1 : Int) := of_decide_eq_true (qJ13_7)
      have q430 : x10_1 < (l1.length : Int) := of_decide_eq_true (qJ13_7)
      obtain ⟨ad430, e430, hx430_0⟩ := Kd.at_int HR1.out x10_1 p430 q430
      cases e430
      replace hx430_0 := (HB.out.cell (World.block_lt_of_cell? w _ hx430_0)).trans hx430_0
      replace p430 := eq_true p430
      replace q430 := eq_true q430
      go_wp2
      go_roundg k1
      case measure => have := HK1.out; omega
      case rel => exact ⟨(wrap64 (x9_1 + (rd l1 x10_1))), (wrap64 (x10_1 + 1)), (qJ13_2), (qJ13_2), H', ⟨by have := HK1.out; omega⟩, ⟨(qJ13_0)⟩⟩
     ·rw [if_neg c7] at H
      exact absurd H (by simp)
    ·rw [if_neg c6] at H
     have c6b0 : decide (x10_1 < (l1.length : Int)) = false := decide_eq_false c6
     clear c6
     simp only [Option.some.injEq, Prod.mk.injEq] at H
     obtain ⟨rfl, rfl⟩ := H
     go_wp2
     go_ret2
     exact ⟨(qJ13_5), (qJ13_0)⟩
 ·replace c4 := Bool.eq_false_iff.mpr c4
  subst c4
  have H1 : (some (0, false)) = some (r1, r2) := by rw [if_neg (show ¬ (false = true) by decide)] at H; exact H
  clear H; have H := H1; clear H1
  simp only [Option.some.injEq, Prod.mk.injEq] at H
  obtain ⟨rfl, rfl⟩ := H
  go_enter Try.func34, Try.ntmps34
  go_wp2_with (first | ((with_reducible refine gate_callee (f := 31) rfl ?_); refine goesL_ (some 14) rfl rfl Try.func31 (by kernel_rfl) rfl #[.slice A0 l0.length c0, .slice A1 l1.length c1] rfl (qJ13_1) ?_; (with_reducible refine (spec_BestRigging.calls k _ _ l0 _ _ l1 t425 t426 false _ ?side1 ?side2 ?side3 ?side4 A3.out).mono ?_); (case side1 => exact (qJ13_3)); (case side2 => exact HC0.out); (case side3 => exact (qJ13_4)); (case side4 => exact HC1.out); rintro e w8 ⟨v428, rfl, ho0, hb⟩; refine ⟨_, rfl, ?_⟩; have n0_ := Aside0.mk (Kd.R_lower ho0 (below_size (qJ13_0))); have n1_ := Aside0.mk (below_step (qJ13_0) hb); clear HB; have HO429 := n0_; have HB := n1_; clear n0_ n1_; (try clear hb); (try clear hb2); (try clear hk); (try clear hi); (try clear ho0)))
  go_ret2
  exact ⟨(qJ13_5), (qJ13_0)⟩

/-! ### laws_rSum: function 35 -/
def laws_rSum.l0 : Nat → List Int → Int → Int → Option (Int)
 | 0, _, _, _ => none
 | k + 1, x0, x3, x4 => if x4 < (x0.length : Int) then (if 0 ≤ x4 then (laws_rSum.l0 k x0 (wrap64 (x3 + (rd x0 x4))) (wrap64 (x4 + 1))) else (none)) else (some x3)
def laws_rSum.f (k : Nat) (l0 : List Int) : Option (Int) := laws_rSum.l0 k l0 0 0
theorem laws_rSum.mono_l : ∀ k, (∀ y0 y1 y2, LeO (laws_rSum.l0 k y0 y1 y2) (laws_rSum.l0 (k + 1) y0 y1 y2))
 | 0 => fun _ _ _ r h => by simp [laws_rSum.l0] at h
 | k + 1 => by
  have ih0 := laws_rSum.mono_l k
  ·intro y0 y1 y2
   unfold laws_rSum.l0
   repeat' first
   | (with_reducible exact ih0 _ _ _)
   | (with_reducible exact LeO.refl _)
   | (with_reducible exact LeO.none _)
   | (with_reducible refine LeO.ite ?_ ?_)
   | (with_reducible refine LeO.bind ?_ (fun _ => ?_))
   | exact ih0 _ _ _
   | exact LeO.none _
   | refine LeO.ite ?_ ?_
   | refine LeO.bind ?_ (fun _ => ?_)
theorem laws_rSum.mono : ∀ a0 k, LeO (laws_rSum.f k a0) (laws_rSum.f (k + 1) a0) := by
 intro a0 k
 have ih0 := laws_rSum.mono_l k
 unfold laws_rSum.f
 repeat' first
   | (with_reducible exact ih0 _ _ _)
   | (with_reducible exact LeO.refl _)
   | (with_reducible exact LeO.none _)
   | (with_reducible refine LeO.ite ?_ ?_)
   | (with_reducible refine LeO.bind ?_ (fun _ => ?_))
   | exact ih0 _ _ _
   | exact LeO.none _
   | refine LeO.ite ?_ ?_
   | refine LeO.bind ?_ (fun _ => ?_)
theorem laws_rSum.calls (k : Nat) (A0 : Option Addr) (c0 : Nat) (l0 : List Int) (r : Int) (w : World) (hr0 : Kd.C (Kd.int .i64) w A0 l0.length l0) (hc0 : l0.length ≤ c0) (h : laws_rSum.f k l0 = some r) :
  Calls Try.prog 35 #[.slice A0 l0.length c0] w fun e w' => e = .returned (.int .i64 r) ∧ Drawn0 w w' := by
 have HR0 := Aside0.mk hr0; have HC0 := Aside0.mk hc0; clear hr0 hc0
 have H : (laws_rSum.l0 k l0 0 0) = some r := h
 clear h
 have H' := Aside0.mk H
 clear H
 go_enter Try.func35, Try.ntmps35
 go_wp2
 go_loopg [3, 4] k (fun kq v3 v4 w' => ∃ (x3_1 : Int) (x4_1 : Int), v3 = .int .i64 x3_1 ∧ v4 = .int .i64 x4_1 ∧ Aside0 (laws_rSum.l0 kq l0 x3_1 x4_1 = some r) ∧ Aside0 (kq ≤ k) ∧ Drawn0 w w')
 case atStart => exact ⟨(0), (0), (qJ13_2), (qJ13_2), H', ⟨Nat.le_refl _⟩, (qJ13_9)⟩
 case round =>
  clear H'
  obtain ⟨x3_1, x4_1, rfl, rfl, HA, HK1, ⟨m1, rfl⟩⟩ := hrel
  cases gk with
  | zero => exact absurd HA.out (by simp [laws_rSum.l0])
  | succ k1 =>
   have H := HA.out
   clear HA
   simp only [laws_rSum.l0] at H
   by_cases c2 : x4_1 < (l0.length : Int)
   ·rw [if_pos c2] at H
    have c2b0 : decide (x4_1 < (l0.length : Int)) = true := decide_eq_true c2
    clear c2
    by_cases c3 : 0 ≤ x4_1
    ·rw [if_pos c3] at H
     have c3b0 : decide (0 ≤ x4_1) = true := decide_eq_true c3
     clear c3
     have H' := Aside0.mk H
     clear H
     have p431 : 0 ≤ (x4_1 : Int) := of_decide_eq_true (qJ13_7)
     have q431 : x4_1 < (l0.length : Int) := of_decide_eq_true (qJ13_7)
     obtain ⟨ad431, e431, hx431_0⟩ := Kd.at_int HR0.out x4_1 p431 q431
     cases e431
     replace p431 := eq_true p431
     replace q431 := eq_true q431
     go_wp2
     go_roundg k1
     case measure => have := HK1.out; omega
     case rel => exact ⟨(wrap64 (x3_1 + (rd l0 x4_1))), (wrap64 (x4_1 + 1)), (qJ13_2), (qJ13_2), H', ⟨by have := HK1.out; omega⟩, (qJ13_9)⟩
    ·rw [if_neg c3] at H
     exact absurd H (by simp)
   ·rw [if_neg c2] at H
    have c2b0 : decide (x4_1 < (l0.length : Int)) = false := decide_eq_false c2
    clear c2; obtain rfl := Option.some.inj H
    go_wp2
    go_ret
    exact ⟨(qJ13_2), (qJ13_9)⟩

end Go.Proofs.Ytfjpbochanekoaa.MJ
