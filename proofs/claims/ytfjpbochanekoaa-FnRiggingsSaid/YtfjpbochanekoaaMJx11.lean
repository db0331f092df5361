-- Written by a program of this session (wip/drv.py, wip/tight.py).
import Derived.Test.YtfjpbochanekoaaMJx0
import Derived.Test.YtfjpbochanekoaaMJx3
import Derived.Test.YtfjpbochanekoaaMJx4
namespace Go.Proofs.Ytfjpbochanekoaa.MJ
open Go.RowKit Go.Proofs.YtfjpbochanekoaaW.PrintWords Go.Proofs.YtfjpbochanekoaaW.PrintLast Go.Proofs.YtfjpbochanekoaaW.PrintMore
theorem qJ11_0 {p : Prop} (h : p := by exact any_of HT_.out (by kernel_rfl)) : p := h
theorem qJ11_1 {p : Prop} (h : p := by repeat (first | (with_reducible first | exact HB.out | apply below_alloc | apply pw_below_drewN | apply below_drew1) | exact HB.out)) : p := h
theorem qJ11_2 {p : Prop} (h : p := by first | (with_reducible assumption) | assumption) : p := h
theorem qJ11_3 {p : Prop} (h : p := by (try simp only [List.map_toArray, List.map_cons, List.map_nil]); first | done | rfl | (simp only [List.length_drop, List.length_take]; rfl)) : p := h
theorem qJ11_4 {p : Prop} (h : p := by (try simp only [List.map_toArray, List.map_cons, List.map_nil]); first | done | (rw [show (l2.take (x25_2 : Int).toNat).length = x25_2.toNat from (by rw [List.length_take]; have h_ : (x25_2 : Int) ≤ (l2.length : Int) := of_decide_eq_true (qJ11_2); omega)] <;> rfl) | rfl | (simp only [List.length_drop, List.length_take]; rfl)) : p := h
theorem qJ11_5 {p : Prop} (h : p := by first | rfl | (simp [errW_none, errW_some] <;> rfl) | (simp [*, errW_none, errW_some] <;> rfl)) : p := h
theorem qJ11_6 {p : Prop} (h : p := by repeat (first | exact (Kd.C_below HR394.out (qJ11_1)) | (with_reducible refine Kd.C_alloc ?_ _) | (with_reducible refine Kd.C_drewN ?_ _) | (with_reducible refine Kd.C_drew ?_))) : p := h
theorem qJ11_7 {p : Prop} (h : p := by exact one_of HT_.out (by kernel_rfl)) : p := h
theorem qJ11_8 {p : Prop} (h : p := by repeat (first | exact (Kd.C_below HR0.out HB.out) | (with_reducible refine Kd.C_alloc ?_ _) | (with_reducible refine Kd.C_drewN ?_ _) | (with_reducible refine Kd.C_drew ?_))) : p := h
theorem qJ11_9 {p : Prop} (h : p := by first | rfl | (simp; done) | (simp [*]; done)) : p := h
theorem qJ11_10 {p : Prop} (h : p := by exact done_of HT_.out (by kernel_rfl)) : p := h
theorem qJ11_c0 {p : Prop} (h : p := by
  simp only [Act.put, List.setIfInBounds_toArray, List.set_cons_zero, List.set_cons_succ, i64_w, i32_w]
  rfl) : p := h
theorem qJ11_c1 {p : Prop} (h : p := by
  intro w'
  go_simp
  with_reducible rfl) : p := h
theorem qJ11_c2 {p : Prop} (h : p := by
  show Act.put _ (some 34) _ = _
  simp only [Act.put, List.setIfInBounds_toArray, List.set_cons_zero, List.set_cons_succ, i64_w, i32_w]
  rfl) : p := h
theorem qJ11_c3 {p : Prop} (h : p := by
  show Act.put _ (some 41) _ = _
  simp only [Act.put, List.setIfInBounds_toArray, List.set_cons_zero, List.set_cons_succ, i64_w, i32_w]
  rfl) : p := h
abbrev qJ11_b0 : Array Bool := #[false, false, false, false, false, false, false, false, false, false, false, false, false, false, false, false, false, false, false, false, false, false, false, false, false]
abbrev qJ11_b1 : Array Bool := #[true, false, false, false, false, false, false, false, false, false, false, false, false, false, false, false, false, false, false, false, false, false, false, false, false]
abbrev qJ11_b2 : Array Bool := #[true, true, false, false, false, false, false, false, false, false, false, false, false, false, false, false, false, false, false, false, false, false, false, false, false]
abbrev qJ11_b3 : Array Bool := #[true, true, true, false, false, false, false, false, false, false, false, false, false, false, false, false, false, false, false, false, false, false, false, false, false]
abbrev qJ11_b4 : Array Bool := #[true, true, true, true, false, false, false, false, false, false, false, false, false, false, false, false, false, false, false, false, false, false, false, false, false]
abbrev qJ11_b5 : Array Bool := #[true, true, true, true, true, false, false, false, false, false, false, false, false, false, false, false, false, false, false, false, false, false, false, false, false]
abbrev qJ11_b6 : Array Bool := #[true, true, true, true, true, true, false, false, false, false, false, false, false, false, false, false, false, false, false, false, false, false, false, false, false]
abbrev qJ11_b7 : Array Bool := #[true, true, true, true, true, true, true, false, false, false, false, false, false, false, false, false, false, false, false, false, false, false, false, false, false]
abbrev qJ11_b8 : Array Bool := #[true, true, true, true, true, true, true, true, false, false, false, false, false, false, false, false, false, false, false, false, false, false, false, false, false]
abbrev qJ11_b9 : Array Bool := #[true, true, true, true, true, true, true, true, true, false, false, false, false, false, false, false, false, false, false, false, false, false, false, false, false]
abbrev qJ11_b10 : Array Bool := #[true, true, true, true, true, true, true, true, true, true, false, false, false, false, false, false, false, false, false, false, false, false, false, false, false]
abbrev qJ11_b11 : Array Bool := #[true, true, true, true, true, true, true, true, true, true, true, false, false, false, false, false, false, false, false, false, false, false, false, false, false]
abbrev qJ11_b12 : Array Bool := #[true, true, true, true, true, true, true, true, true, true, true, true, false, false, false, false, false, false, false, false, false, false, false, false, false]
abbrev qJ11_b13 : Array Bool := #[true, true, true, true, true, true, true, true, true, true, true, true, true, false, false, false, false, false, false, false, false, false, false, false, false]
abbrev qJ11_b14 : Array Bool := #[true, true, true, true, true, true, true, true, true, true, true, true, true, true, false, false, false, false, false, false, false, false, false, false, false]
abbrev qJ11_b15 : Array Bool := #[true, true, true, true, true, true, true, true, true, true, true, true, true, true, true, false, false, false, false, false, false, false, false, false, false]
abbrev qJ11_b16 : Array Bool := #[true, true, true, true, true, true, true, true, true, true, true, true, true, true, true, true, false, false, false, false, false, false, false, false, false]
abbrev qJ11_b17 : Array Bool := #[true, true, true, true, true, true, true, true, true, true, true, true, true, true, true, true, true, false, false, false, false, false, false, false, false]
abbrev qJ11_b18 : Array Bool := #[true, true, true, true, true, true, true, true, true, true, true, true, true, true, true, true, true, true, false, false, false, false, false, false, false]
abbrev qJ11_b19 : Array Bool := #[true, true, true, true, true, true, true, true, true, true, true, true, true, true, true, true, true, true, true, false, false, false, false, false, false]
abbrev qJ11_b20 : Array Bool := #[true, true, true, true, true, true, true, true, true, true, true, true, true, true, true, true, true, true, true, true, false, false, false, false, false]
abbrev qJ11_b21 : Array Bool := #[true, true, true, true, true, true, true, true, true, true, true, true, true, true, true, true, true, true, true, true, true, false, false, false, false]
abbrev qJ11_b22 : Array Bool := #[true, true, true, true, true, true, true, true, true, true, true, true, true, true, true, true, true, true, true, true, true, true, false, false, false]
abbrev qJ11_b23 : Array Bool := #[true, true, true, true, true, true, true, true, true, true, true, true, true, true, true, true, true, true, true, true, true, true, true, false, false]
abbrev qJ11_b24 : Array Bool := #[true, true, true, true, true, true, true, true, true, true, true, true, true, true, true, true, true, true, true, true, true, true, true, true, false]
abbrev qJ11_b25 : Array Bool := #[true, true, true, true, true, true, true, true, true, true, true, true, true, true, true, true, true, true, true, true, true, true, true, true, true]
abbrev qJ11_b26 : Array Bool := #[true, true, true, true, true, true, true, true, true, true, true, true, true, true, true, true, true, false, true, false, false, false, false, false, false]
abbrev qJ11_b27 : Array Bool := #[true, true, true, true, true, true, true, true, true, true, true, true, true, true, true, true, true, false, true, true, false, false, false, false, false]
abbrev qJ11_b28 : Array Bool := #[true, true, true, true, true, true, true, true, true, true, true, true, true, true, true, true, true, false, true, true, true, false, false, false, false]
attribute [local go_sem] max2_int min2_int max_two min_two max_three min_three max_four min_four   -- for this text's walks alone
set_option linter.unusedVariables false
set_option linter.unusedSimpArgs false

/-! ### impl_IsRigging: function 26 -/
mutual
def impl_IsRigging.j0 : Nat → List (S36) → List Int → List Int → Bool → Option (Bool × Bool)
 | 0, _, _, _, _ => none
 | k + 1, x0, x1, x2, x17 => if x17 = true then (some (false, false)) else (if (x2.length : Int) = (x0.length : Int) then (impl_IsRigging.l0 k x0 x1 x2 x2 (x2.length : Int) 0) else (some (false, true)))
def impl_IsRigging.l0 : Nat → List (S36) → List Int → List Int → List Int → Int → Int → Option (Bool × Bool)
 | 0, _, _, _, _, _, _ => none
 | k + 1, x0, x1, x2, x23, x24, x25 => if x25 < x24 then (if 0 ≤ x25 then (if x25 < (x23.length : Int) then ((impl_within.f (rd x23 x25) 0 (wrap64 ((x1.length : Int) - 1))).bind fun t393 => (if t393 = true then (if x25 ≤ (x2.length : Int) then ((impl_has.f k (x2.take (x25 : Int).toNat) (rd x23 x25)).bind fun t395 => (if t395 = true then (some (false, true)) else (if 0 ≤ (rd x23 x25) then (if (rd x23 x25) < (x1.length : Int) then (if x25 < (x0.length : Int) then ((impl_Pitch_need.f ((rd_T36 x0 x25).f0) ((rd_T36 x0 x25).f1)).bind fun t398 => (if (rd x1 (rd x23 x25)) < t398 then (some (false, true)) else (impl_IsRigging.l0 k x0 x1 x2 x23 x24 (wrap64 (x25 + 1))))) else (none)) else (none)) else (none)))) else (none)) else (some (false, true)))) else (none)) else (none)) else (some (true, true))
end
def impl_IsRigging.f (k : Nat) (l0 : List (S36)) (l1 : List Int) (l2 : List Int) : Option (Bool × Bool) := (impl_ArePitches.f l0).bind fun t390 => (if t390 = true then ((impl_AreRopes.f l1).bind fun t391 => (impl_IsRigging.j0 k l0 l1 l2 (!t391))) else (impl_IsRigging.j0 k l0 l1 l2 true))
theorem impl_IsRigging.mono_l : ∀ k, (∀ y0 y1 y2 y3, LeO (impl_IsRigging.j0 k y0 y1 y2 y3) (impl_IsRigging.j0 (k + 1) y0 y1 y2 y3)) ∧ (∀ y0 y1 y2 y3 y4 y5, LeO (impl_IsRigging.l0 k y0 y1 y2 y3 y4 y5) (impl_IsRigging.l0 (k + 1) y0 y1 y2 y3 y4 y5))
 | 0 => ⟨fun _ _ _ _ r h => by simp [impl_IsRigging.j0] at h, fun _ _ _ _ _ _ r h => by simp [impl_IsRigging.l0] at h⟩
 | k + 1 => by
  obtain ⟨ih0, ih1⟩ := impl_IsRigging.mono_l k
  refine ⟨?_, ?_⟩
  ·intro y0 y1 y2 y3
   unfold impl_IsRigging.j0
   repeat' first
   | (with_reducible exact ih0 _ _ _ _)
   | (with_reducible exact ih1 _ _ _ _ _ _)
   | (with_reducible exact impl_has.mono _ _ _)
   | (with_reducible exact LeO.refl _)
   | (with_reducible exact LeO.none _)
   | (with_reducible refine LeO.ite ?_ ?_)
   | (with_reducible refine LeO.bind ?_ (fun _ => ?_))
   | exact ih0 _ _ _ _
   | exact ih1 _ _ _ _ _ _
   | exact impl_has.mono _ _ _
   | exact LeO.none _
   | refine LeO.ite ?_ ?_
   | refine LeO.bind ?_ (fun _ => ?_)
  ·intro y0 y1 y2 y3 y4 y5
   unfold impl_IsRigging.l0
   repeat' first
   | (with_reducible exact ih0 _ _ _ _)
   | (with_reducible exact ih1 _ _ _ _ _ _)
   | (with_reducible exact impl_has.mono _ _ _)
   | (with_reducible exact LeO.refl _)
   | (with_reducible exact LeO.none _)
   | (with_reducible refine LeO.ite ?_ ?_)
   | (with_reducible refine LeO.bind ?_ (fun _ => ?_))
   | exact ih0 _ _ _ _
   | exact ih1 _ _ _ _ _ _
   | exact impl_has.mono _ _ _
   | exact LeO.none _
   | refine LeO.ite ?_ ?_
   | refine LeO.bind ?_ (fun _ => ?_)
theorem impl_IsRigging.mono : ∀ a0 a1 a2 k, LeO (impl_IsRigging.f k a0 a1 a2) (impl_IsRigging.f (k + 1) a0 a1 a2) := by
 intro a0 a1 a2 k
 obtain ⟨ih0, ih1⟩ := impl_IsRigging.mono_l k
 unfold impl_IsRigging.f
 repeat' first
   | (with_reducible exact ih0 _ _ _ _)
   | (with_reducible exact ih1 _ _ _ _ _ _)
   | (with_reducible exact impl_has.mono _ _ _)
   | (with_reducible exact LeO.refl _)
   | (with_reducible exact LeO.none _)
   | (with_reducible refine LeO.ite ?_ ?_)
   | (with_reducible refine LeO.bind ?_ (fun _ => ?_))
   | exact ih0 _ _ _ _
   | exact ih1 _ _ _ _ _ _
   | exact impl_has.mono _ _ _
   | exact LeO.none _
   | refine LeO.ite ?_ ?_
   | refine LeO.bind ?_ (fun _ => ?_)
def impl_IsRigging.T8 : Bool × List (List Nat × List Nat) := (true, [([], []), ([], []), ([1], [1]), ([2], [2]), ([0, 3], [0, 3]), ([4], [4]), ([5, 4], [5]), ([6], [6]), ([6], [6]), ([7, 8, 6], [6, 7, 8]), ([6], [6]), ([9, 10, 6, 6], [6, 9, 10]), ([6, 11], [6, 11]), ([12, 11], [12]), ([13], [13]), ([13], [13]), ([14, 15, 13], [13, 14, 15]), ([16, 13], [13, 16]), ([13], [13]), ([13], [13]), ([18, 19, 13], [13, 18, 19]), ([20, 13], [13, 20]), ([21, 13, 13], [13, 21]), ([17, 22, 13], [13, 17, 22]), ([13, 23], [13, 23])])
def impl_IsRigging.B8 : List Nat := [0, 0, 2, 6, 15, 31, 63, 127, 127, 511, 127, 2047, 4095, 8191, 16383, 16383, 65535, 131071, 16383, 16383, 802815, 1851391, 3948543, 8388607, 16777215]
theorem impl_IsRigging.tab8 : rtab .any (opsOf Try.f26 8) = impl_IsRigging.T8 := by kernel_rfl
theorem impl_IsRigging.bits8 : waitsOk impl_IsRigging.T8.2 impl_IsRigging.B8 = true := by kernel_rfl
set_option maxHeartbeats 8000000 in
set_option maxRecDepth 100000 in
theorem impl_IsRigging.calls (k : Nat) (A0 : Option Addr) (c0 : Nat) (l0 : List (S36)) (A1 : Option Addr) (c1 : Nat) (l1 : List Int) (A2 : Option Addr) (c2 : Nat) (l2 : List Int) (r1 : Bool) (r2 : Bool) (w : World) (hr0 : Kd.C k36 w A0 l0.length l0) (hc0 : l0.length ≤ c0) (hr1 : Kd.C (Kd.int .i64) w A1 l1.length l1) (hc1 : l1.length ≤ c1) (hr2 : Kd.C (Kd.int .i64) w A2 l2.length l2) (hc2 : l2.length ≤ c2) (h : impl_IsRigging.f k l0 l1 l2 = some (r1, r2)) :
  Calls Try.prog 26 #[.slice A0 l0.length c0, .slice A1 l1.length c1, .slice A2 l2.length c2] w fun e w' => e = .returned (.tuple #[.bool r1, .bool r2]) ∧ Below w.heap.size w w' := by
 have hu36 := Try.underlying36
 have HR0 := Aside0.mk hr0; have HC0 := Aside0.mk hc0; clear hr0 hc0; have HR1 := Aside0.mk hr1; have HC1 := Aside0.mk hc1; clear hr1 hc1; have HR2 := Aside0.mk hr2; have HC2 := Aside0.mk hc2; clear hr2 hc2
 have HB := Aside0.mk (Below.refl w.heap.size w)
 have H : ((impl_ArePitches.f l0).bind fun t390 => (if t390 = true then ((impl_AreRopes.f l1).bind fun t391 => (impl_IsRigging.j0 k l0 l1 l2 (!t391))) else (impl_IsRigging.j0 k l0 l1 l2 true))) = some (r1, r2) := h
 clear h; have HC4 := Aside0.mk H; clear H
 go_enter Try.func26, Try.ntmps26
 go_upto_region 1 with (fail)
 go_cut [17] (fun v17 wc => ∃ (kq : Nat) (x17_3 : Bool), v17 = .bool x17_3 ∧ Aside0 (impl_IsRigging.j0 kq l0 l1 l2 x17_3 = some (r1, r2)) ∧ Aside0 (kq ≤ k) ∧ Aside0 (Below w.heap.size w wc))
 case first =>
  have H := HC4.out
  clear HC4; replace H := Option.bind_eq_some_iff.mp H; obtain ⟨t390, A50, H⟩ := H
  try dsimp only at H
  have A5 := Aside0.mk A50; clear A50
  by_cases c6 : t390 = true
  ·subst c6
   have H1 : ((impl_AreRopes.f l1).bind fun t391 => (impl_IsRigging.j0 k l0 l1 l2 (!t391))) = some (r1, r2) := by rw [if_pos rfl] at H; exact H
   clear H; have H := H1; clear H1; replace H := Option.bind_eq_some_iff.mp H; obtain ⟨t391, A70, H⟩ := H
   replace H : (impl_IsRigging.j0 k l0 l1 l2 (!t391)) = some (r1, r2) := H
   have A7 := Aside0.mk A70; clear A70
   have H' := Aside0.mk H
   clear H
   go_wp2_with (first | ((with_reducible refine gate_callee (f := 28) rfl ?_); refine goesL_ (some 11) rfl rfl Try.func28 (by kernel_rfl) rfl #[.slice A0 l0.length c0] rfl (qJ11_3) ?_; (with_reducible refine (impl_ArePitches.calls _ _ l0 true _ ?side1 ?side2 A5.out).mono ?_); (case side1 => exact (qJ11_8)); (case side2 => exact HC0.out); rintro e w8 ⟨rfl, hb⟩; refine ⟨_, rfl, ?_⟩; have n0_ := Aside0.mk (below_step (qJ11_1) hb); clear HB; have HB := n0_; clear n0_; (try clear hb); (try clear hb2); (try clear hk); (try clear hi)) | (go_at_call 29; (with_reducible refine (impl_AreRopes.calls _ _ l1 t391 _ ?side1 ?side2 A7.out).mono ?_); (case side1 => exact (by repeat (first | exact (Kd.C_below HR1.out HB.out) | (with_reducible refine Kd.C_alloc ?_ _) | (with_reducible refine Kd.C_drewN ?_ _) | (with_reducible refine Kd.C_drew ?_)))); (case side2 => exact HC1.out); rintro e w9 ⟨rfl, hb⟩; have n0_ := Aside0.mk (below_step (qJ11_1) hb); clear HB; have HB := n0_; clear n0_; (try clear hb); (try clear hb2); (try clear hk); (try clear hi)))
   go_meet
   case rel => exact ⟨_, (!t391), (qJ11_9), H', ⟨by first | omega | exact Nat.le_refl _⟩, ⟨(qJ11_1)⟩⟩
  ·replace c6 := Bool.eq_false_iff.mpr c6
   subst c6
   have H1 : (impl_IsRigging.j0 k l0 l1 l2 true) = some (r1, r2) := by rw [if_neg (show ¬ (false = true) by decide)] at H; exact H
   clear H; have H := H1; clear H1
   have H' := Aside0.mk H
   clear H
   go_wp2_with (first | ((with_reducible refine gate_callee (f := 28) rfl ?_); refine goesL_ (some 11) rfl rfl Try.func28 (by kernel_rfl) rfl #[.slice A0 l0.length c0] rfl (qJ11_3) ?_; (with_reducible refine (impl_ArePitches.calls _ _ l0 false _ ?side1 ?side2 A5.out).mono ?_); (case side1 => exact (qJ11_8)); (case side2 => exact HC0.out); rintro e w10 ⟨rfl, hb⟩; refine ⟨_, rfl, ?_⟩; have n0_ := Aside0.mk (below_step (qJ11_1) hb); clear HB; have HB := n0_; clear n0_; (try clear hb); (try clear hb2); (try clear hk); (try clear hi)))
   go_meet
   case rel => exact ⟨_, (true), (qJ11_9), H', ⟨by first | omega | exact Nat.le_refl _⟩, ⟨(qJ11_1)⟩⟩
 case rest =>
  clear HC4
  try clear c1
  try clear c2
  try clear p2
  try clear c6
  obtain ⟨kq, x17_3, rfl, HA, HJ3, HB⟩ := hcut
  cases kq with
  | zero => exact absurd HA.out (by simp [impl_IsRigging.j0])
  | succ kj3 =>
   have H := HA.out
   clear HA
   simp only [impl_IsRigging.j0] at H
   by_cases c11 : x17_3 = true
   ·subst c11
    have H1 : (some (false, false)) = some (r1, r2) := by rw [if_pos rfl] at H; exact H
    clear H; have H := H1; clear H1
    simp only [Option.some.injEq, Prod.mk.injEq] at H
    obtain ⟨rfl, rfl⟩ := H
    go_wp2
    go_ret2
    exact ⟨(qJ11_5), (qJ11_1)⟩
   ·replace c11 := Bool.eq_false_iff.mpr c11
    subst c11
    have H1 : (if (l2.length : Int) = (l0.length : Int) then (impl_IsRigging.l0 kj3 l0 l1 l2 l2 (l2.length : Int) 0) else (some (false, true))) = some (r1, r2) := by rw [if_neg (show ¬ (false = true) by decide)] at H; exact H
    clear H; have H := H1; clear H1
    by_cases c12 : (l2.length : Int) = (l0.length : Int)
    ·rw [if_pos c12] at H
     have c12b0 : ((l2.length : Int) == (l0.length : Int)) = true := beq_iff_eq.mpr c12
     have c12b1 : ((l2.length : Int) != (l0.length : Int)) = false := bne_eq_false_iff_eq.mpr c12
     have c12b2 : (l2.length == l0.length) = true := by first | simpa using c12 | (simp at c12 ⊢; omega)
     clear c12
     have H' := Aside0.mk H
     clear H
     go_wp2
     go_loopg [25] kj3 (fun kq v25 w' => ∃ (x25_2 : Int), v25 = .int .i64 x25_2 ∧ Aside0 (impl_IsRigging.l0 kq l0 l1 l2 l2 (l2.length : Int) x25_2 = some (r1, r2)) ∧ Aside0 (kq ≤ kj3) ∧ Aside0 (Below w.heap.size w w'))
     case atStart => exact ⟨(0), (qJ11_9), H', ⟨Nat.le_refl _⟩, ⟨(qJ11_1)⟩⟩
     case round =>
      clear H'
      try clear c1
      try clear c2
      try clear p2
      try clear c6
      try clear c11
      try clear c12
      try clear c12b0
      try clear c12b1
      try clear c12b2
      try clear p2
      obtain ⟨x25_2, rfl, HA, HK2, HB⟩ := hrel
      cases gk with
      | zero => exact absurd HA.out (by simp [impl_IsRigging.l0])
      | succ k2 =>
       have H := HA.out
       clear HA
       simp only [impl_IsRigging.l0] at H
       by_cases c13 : x25_2 < (l2.length : Int)
       ·rw [if_pos c13] at H
        have c13b0 : decide (x25_2 < (l2.length : Int)) = true := decide_eq_true c13
        clear c13
        by_cases c14 : 0 ≤ x25_2
        ·rw [if_pos c14] at H
         have c14b0 : decide (0 ≤ x25_2) = true := decide_eq_true c14
         clear c14
         by_cases c15 : x25_2 < (l2.length : Int)
         ·rw [if_pos c15] at H
          have c15b0 : decide (x25_2 < (l2.length : Int)) = true := decide_eq_true c15
          clear c15; replace H := Option.bind_eq_some_iff.mp H; obtain ⟨t393, A160, H⟩ := H
          try dsimp only at H
          have A16 := Aside0.mk A160; clear A160
          by_cases c17 : t393 = true
          ·subst c17
           have H1 : (if x25_2 ≤ (l2.length : Int) then ((impl_has.f k2 (l2.take (x25_2 : Int).toNat) (rd l2 x25_2)).bind fun t395 => (if t395 = true then (some (false, true)) else (if 0 ≤ (rd l2 x25_2) then (if (rd l2 x25_2) < (l1.length : Int) then (if x25_2 < (l0.length : Int) then ((impl_Pitch_need.f ((rd_T36 l0 x25_2).f0) ((rd_T36 l0 x25_2).f1)).bind fun t398 => (if (rd l1 (rd l2 x25_2)) < t398 then (some (false, true)) else (impl_IsRigging.l0 k2 l0 l1 l2 l2 (l2.length : Int) (wrap64 (x25_2 + 1))))) else (none)) else (none)) else (none)))) else (none)) = some (r1, r2) := by rw [if_pos rfl] at H; exact H
           clear H; have H := H1; clear H1
           have c18b0 := eq_true (of_decide_eq_true (qJ11_2) : 0 ≤ x25_2)
           by_cases c19 : x25_2 ≤ (l2.length : Int)
           ·rw [if_pos c19] at H
            have c19b0 := eq_true c19
            have c19b1 : decide (x25_2 ≤ (l2.length : Int)) = true := decide_eq_true c19
            clear c19; replace H := Option.bind_eq_some_iff.mp H; obtain ⟨t395, A200, H⟩ := H
            try dsimp only at H
            have A20 := Aside0.mk A200; clear A200
            by_cases c21 : t395 = true
            ·subst c21
             have H1 : (some (false, true)) = some (r1, r2) := by rw [if_pos rfl] at H; exact H
             clear H; have H := H1; clear H1
             simp only [Option.some.injEq, Prod.mk.injEq] at H
             obtain ⟨rfl, rfl⟩ := H
             have p392 : 0 ≤ (x25_2 : Int) := of_decide_eq_true (qJ11_2)
             have q392 : x25_2 < (l2.length : Int) := of_decide_eq_true (qJ11_2)
             obtain ⟨ad392, e392, hx392_0⟩ := Kd.at_int HR2.out x25_2 p392 q392
             cases e392
             replace hx392_0 := (HB.out.cell (World.block_lt_of_cell? w _ hx392_0)).trans hx392_0
             replace p392 := eq_true p392
             replace q392 := eq_true q392
             try go_wp2
             have n0_ := Aside0.mk (below_drew1 HB.out)
             clear HB
             have HB := n0_
             clear n0_
             refine start_ (n := 25) (S := fun w' => True) (ds := []) qJ11_b0 (by kernel_rfl) rfl rfl trivial (fun hHeld => ?_); refine with_tabW impl_IsRigging.tab8 impl_IsRigging.bits8 (fun HT_ HW_ => ?_)
             generalize wr.drew = w22 at HB hHeld ⊢
             refine pure_ (i := 0) (N := some 30) (v := ?_) (a' := ?_) qJ11_b1 rfl rfl (qJ11_0) (fun _ _ _ h => h) (Or.inl ⟨by rfl, ?_⟩) ?_ ?_
             rotate_left; exact qJ11_c1; rotate_left; exact qJ11_c0
             refine pure_ (i := 1) (N := some 31) (v := ?_) (a' := ?_) qJ11_b2 rfl rfl (qJ11_0) (fun _ _ _ h => h) (Or.inl ⟨by rfl, ?_⟩) ?_ ?_
             rotate_left; exact qJ11_c1; rotate_left; exact qJ11_c0
             refine pure_ (i := 2) (N := some 32) (v := ?_) (a' := ?_) qJ11_b3 rfl rfl (qJ11_0) (fun _ _ _ h => h) (Or.inl ⟨by rfl, ?_⟩) ?_ ?_
             rotate_left; exact qJ11_c1; rotate_left; exact qJ11_c0
             refine pure_ (i := 3) (N := some 33) (v := ?_) (a' := ?_) qJ11_b4 rfl rfl (qJ11_0) (fun _ _ _ h => h) (Or.inl ⟨by rfl, ?_⟩) ?_ ?_
             rotate_left; exact qJ11_c1; rotate_left; exact qJ11_c0
             refine one_ (i := 4) (N := some 34) qJ11_b5 rfl rfl (qJ11_7) (by decide) (fun K hK => ?_)
             refine goes_ Try.func57 (by kernel_rfl) rfl #[.int .i64 (rd l2 x25_2), .int .i64 0, .int .i64 (wrap64 ((l1.length : Int) - 1))] (by rfl) rfl rfl (qJ11_3) ?_
             with_reducible refine (impl_within.calls (rd l2 x25_2) 0 (wrap64 ((l1.length : Int) - 1)) true _ A16.out).mono ?_
             rintro e w' ⟨rfl, ⟨nd, rfl⟩⟩
             refine ⟨_, rfl, ?_⟩
             obtain ⟨i023, hi023, _, hsz23, _⟩ := info_parts info3
             obtain ⟨hcut23, hA23, hC23⟩ := print_take_of (P := Try.prog) (Value.int .i64) 0 23 3 .i64 Try.underlying23 hi023 hsz23 (some ad392) c2 l2 x25_2 (of_decide_eq_true (qJ11_2)) (of_decide_eq_true (qJ11_2)) HC2.out
             have HR394 := Aside0.mk (Kd.C_of_reads (h1 := fun _ => rfl) (hA23 _ (Kd.reads_of_C HR2.out)))
             have HC394 := Aside0.mk hC23; clear hA23 hC23 hi023 hsz23
             refine hK.out _ _ trivial (fun hHeld => ?_)
             clear hK K
             refine norm_ (a' := ?_) ?_ ?_
             rotate_left
             ·exact qJ11_c2
             refine pure_ (i := 5) (N := some 35) (v := ?_) (a' := ?_) qJ11_b6 rfl rfl (qJ11_0) (fun _ _ _ h => h) (Or.inl ⟨by rfl, ?_⟩) ?_ ?_
             rotate_left; exact qJ11_c1; rotate_left; exact qJ11_c0
             refine pure_ (i := 6) (N := some 36) (v := ?_) (a' := ?_) qJ11_b7 rfl rfl (qJ11_0) (fun _ _ _ h => h) (Or.inl ⟨by rfl, ?_⟩) ?_ ?_
             rotate_left; exact qJ11_c1; rotate_left; exact qJ11_c0
             refine pure_ (i := 7) (N := some 37) (v := ?_) (a' := ?_) qJ11_b8 rfl rfl (qJ11_0) (fun _ _ _ h => h) (Or.inl ⟨by rfl, ?_⟩) ?_ ?_
             rotate_left; exact qJ11_c1; rotate_left; exact qJ11_c0
             refine pure_ (i := 8) (N := some 38) (v := ?_) (a' := ?_) qJ11_b9 rfl rfl (qJ11_0) (fun _ _ _ h => h) (Or.inl ⟨by rfl, ?_⟩) ?_ ?_
             rotate_left; exact qJ11_c1; rotate_left; exact qJ11_c0
             refine pure_ (i := 9) (N := some 39) (v := ?_) (a' := ?_) qJ11_b10 rfl rfl (qJ11_0) (fun _ _ _ h => h) (Or.inl ⟨by rfl, ?_⟩) ?_ ?_
             rotate_left; exact qJ11_c1; rotate_left; exact qJ11_c0
             refine pure_ (i := 10) (N := some 40) (v := ?_) (a' := ?_) qJ11_b11 rfl rfl (qJ11_0) (fun _ _ _ h => h) (Or.inl ⟨by rfl, ?_⟩) ?_ ?_
             rotate_left; exact qJ11_c1; rotate_left; exact qJ11_c0
             refine one_ (i := 11) (N := some 41) qJ11_b12 rfl rfl (qJ11_7) (by decide) (fun K hK => ?_)
             refine goes_ Try.func58 (by kernel_rfl) rfl #[.slice (some ad392) (l2.take (x25_2 : Int).toNat).length c2, .int .i64 (rd l2 x25_2)] (by rfl) rfl rfl (qJ11_4) ?_
             with_reducible refine (impl_has.calls k2 _ _ (l2.take (x25_2 : Int).toNat) (rd l2 x25_2) true _ ?side1 ?side2 A20.out).mono ?_
             (case side1 => exact (qJ11_6))
             (case side2 => exact HC394.out)
             rintro e w' ⟨rfl, ⟨nd, rfl⟩⟩
             refine ⟨_, rfl, ?_⟩
             refine hK.out _ _ trivial (fun hHeld => ?_)
             clear hK K
             refine norm_ (a' := ?_) ?_ ?_
             rotate_left
             ·exact qJ11_c3
             refine pure_ (i := 12) (N := some 42) (v := ?_) (a' := ?_) qJ11_b13 rfl rfl (qJ11_0) (fun _ _ _ h => h) (Or.inl ⟨by rfl, ?_⟩) ?_ ?_
             rotate_left; exact qJ11_c1; rotate_left; exact qJ11_c0
             refine pure_ (i := 13) (N := some 43) (v := ?_) (a' := ?_) qJ11_b14 rfl rfl (qJ11_0) (fun _ _ _ h => h) (Or.inl ⟨by rfl, ?_⟩) ?_ ?_
             rotate_left; exact qJ11_c1; rotate_left; exact qJ11_c0
             refine pure_ (i := 14) (N := some 44) (v := undef) (a' := ?_) qJ11_b15 rfl rfl (qJ11_0) (fun _ _ _ h => h) (Or.inr ⟨by rfl, rfl⟩) ?_ ?_
             rotate_left
             ·exact qJ11_c0
             refine pure_ (i := 15) (N := some 45) (v := undef) (a' := ?_) qJ11_b16 rfl rfl (qJ11_0) (fun _ _ _ h => h) (Or.inr ⟨by rfl, rfl⟩) ?_ ?_
             rotate_left
             ·exact qJ11_c0
             refine pure_ (i := 16) (N := some 46) (v := undef) (a' := ?_) qJ11_b17 rfl rfl (qJ11_0) (fun _ _ _ h => h) (Or.inr ⟨by rfl, rfl⟩) ?_ ?_
             rotate_left
             ·exact qJ11_c0
             refine pure_ (i := 17) (N := some 47) (v := undef) (a' := ?_) qJ11_b18 rfl rfl (qJ11_0) (fun _ _ _ h => h) (Or.inr ⟨by rfl, rfl⟩) ?_ ?_
             rotate_left
             ·exact qJ11_c0
             refine pure_ (i := 18) (N := some 48) (v := undef) (a' := ?_) qJ11_b19 rfl rfl (qJ11_0) (fun _ _ _ h => h) (Or.inr ⟨by rfl, rfl⟩) ?_ ?_
             rotate_left
             ·exact qJ11_c0
             refine pure_ (i := 19) (N := some 49) (v := undef) (a' := ?_) qJ11_b20 rfl rfl (qJ11_0) (fun _ _ _ h => h) (Or.inr ⟨by rfl, rfl⟩) ?_ ?_
             rotate_left
             ·exact qJ11_c0
             refine pure_ (i := 20) (N := some 50) (v := undef) (a' := ?_) qJ11_b21 rfl rfl (qJ11_0) (fun _ _ _ h => h) (Or.inr ⟨by rfl, rfl⟩) ?_ ?_
             rotate_left
             ·exact qJ11_c0
             refine pure_ (i := 21) (N := some 51) (v := undef) (a' := ?_) qJ11_b22 rfl rfl (qJ11_0) (fun _ _ _ h => h) (Or.inr ⟨by rfl, rfl⟩) ?_ ?_
             rotate_left
             ·exact qJ11_c0
             refine pure_ (i := 22) (N := some 52) (v := undef) (a' := ?_) qJ11_b23 rfl rfl (qJ11_0) (fun _ _ _ h => h) (Or.inr ⟨by rfl, rfl⟩) ?_ ?_
             rotate_left
             ·exact qJ11_c0
             refine pure_ (i := 23) (N := some 53) (v := undef) (a' := ?_) qJ11_b24 rfl rfl (qJ11_0) (fun _ _ _ h => h) (Or.inr ⟨by rfl, rfl⟩) ?_ ?_
             rotate_left
             ·exact qJ11_c0
             refine pure_ (i := 24) (N := some 54) (v := ?_) (a' := ?_) qJ11_b25 rfl rfl (qJ11_0) (fun _ _ _ h => h) (Or.inl ⟨by rfl, ?_⟩) ?_ ?_
             rotate_left; exact qJ11_c1; rotate_left; exact qJ11_c0
             refine done_ (qJ11_10) ?_
             try go_wp2
             go_ret2
             exact ⟨(qJ11_5), (qJ11_1)⟩
            ·replace c21 := Bool.eq_false_iff.mpr c21
             subst c21
             have H1 : (if 0 ≤ (rd l2 x25_2) then (if (rd l2 x25_2) < (l1.length : Int) then (if x25_2 < (l0.length : Int) then ((impl_Pitch_need.f ((rd_T36 l0 x25_2).f0) ((rd_T36 l0 x25_2).f1)).bind fun t398 => (if (rd l1 (rd l2 x25_2)) < t398 then (some (false, true)) else (impl_IsRigging.l0 k2 l0 l1 l2 l2 (l2.length : Int) (wrap64 (x25_2 + 1))))) else (none)) else (none)) else (none)) = some (r1, r2) := by rw [if_neg (show ¬ (false = true) by decide)] at H; exact H
             clear H; have H := H1; clear H1
             by_cases c24 : 0 ≤ (rd l2 x25_2)
             ·rw [if_pos c24] at H
              have c24b0 : decide (0 ≤ (rd l2 x25_2)) = true := decide_eq_true c24
              clear c24
              by_cases c25 : (rd l2 x25_2) < (l1.length : Int)
              ·rw [if_pos c25] at H
               have c25b0 : decide ((rd l2 x25_2) < (l1.length : Int)) = true := decide_eq_true c25
               clear c25
               by_cases c26 : x25_2 < (l0.length : Int)
               ·rw [if_pos c26] at H
                have c26b0 : decide (x25_2 < (l0.length : Int)) = true := decide_eq_true c26
                clear c26; replace H := Option.bind_eq_some_iff.mp H; obtain ⟨t398, A270, H⟩ := H
                try dsimp only at H
                have A27 := Aside0.mk A270; clear A270
                by_cases c28 : (rd l1 (rd l2 x25_2)) < t398
                ·rw [if_pos c28] at H
                 have c28b0 : decide ((rd l1 (rd l2 x25_2)) < t398) = true := decide_eq_true c28
                 clear c28
                 simp only [Option.some.injEq, Prod.mk.injEq] at H
                 obtain ⟨rfl, rfl⟩ := H
                 have p392 : 0 ≤ (x25_2 : Int) := of_decide_eq_true (qJ11_2)
                 have q392 : x25_2 < (l2.length : Int) := of_decide_eq_true (qJ11_2)
                 obtain ⟨ad392, e392, hx392_0⟩ := Kd.at_int HR2.out x25_2 p392 q392
                 cases e392
                 replace hx392_0 := (HB.out.cell (World.block_lt_of_cell? w _ hx392_0)).trans hx392_0
                 replace p392 := eq_true p392
                 replace q392 := eq_true q392
                 try go_wp2
                 have n0_ := Aside0.mk (below_drew1 HB.out)
                 clear HB
                 have HB := n0_
                 clear n0_
                 have p396 : 0 ≤ ((rd l2 x25_2) : Int) := of_decide_eq_true (qJ11_2)
                 have q396 : (rd l2 x25_2) < (l1.length : Int) := of_decide_eq_true (qJ11_2)
                 obtain ⟨ad396, e396, hx396_0⟩ := Kd.at_int HR1.out (rd l2 x25_2) p396 q396
                 have hw396_0 := hx396_0
                 cases e396
                 replace hx396_0 := (HB.out.cell (World.block_lt_of_cell? w _ hx396_0)).trans hx396_0
                 replace p396 := eq_true p396
                 replace q396 := eq_true q396
                 have p397 : 0 ≤ (x25_2 : Int) := of_decide_eq_true (qJ11_2)
                 have q397 : x25_2 < (l0.length : Int) := of_decide_eq_true (qJ11_2)
                 obtain ⟨ad397, e397, hx397_0, hx397_1⟩ := at_T36 HR0.out x25_2 p397 q397
                 have hw397_1 := hx397_1
                 have hw397_0 := hx397_0
                 cases e397
                 replace hx397_0 := (HB.out.cell (World.block_lt_of_cell? w _ hx397_0)).trans hx397_0
                 replace hx397_1 := (HB.out.cell (World.block_lt_of_cell? w _ hx397_1)).trans hx397_1
                 replace p397 := eq_true p397
                 replace q397 := eq_true q397
                 refine start_ (n := 25) (S := fun w' => w'.cell? (ad396.add ((rd l2 x25_2)).toNat) = some (.int .i64 (rd l1 (rd l2 x25_2))) ∧ w'.cell? (ad397.add ((x25_2).toNat * 2)) = some (.int .i64 ((rd_T36 l0 x25_2).f0)) ∧ w'.cell? ⟨(ad397.add ((x25_2).toNat * 2)).block, (ad397.add ((x25_2).toNat * 2)).off + 1, none⟩ = some (.int .i64 ((rd_T36 l0 x25_2).f1))) (ds := []) qJ11_b0 (by kernel_rfl) rfl rfl ⟨((HB.out.cell (World.block_lt_of_cell? w _ hw396_0)).trans hw396_0), ((HB.out.cell (World.block_lt_of_cell? w _ hw397_0)).trans hw397_0), ((HB.out.cell (World.block_lt_of_cell? w _ hw397_1)).trans hw397_1)⟩ (fun hHeld => ?_); refine with_tabW impl_IsRigging.tab8 impl_IsRigging.bits8 (fun HT_ HW_ => ?_)
                 generalize wr.drew = w29 at HB hx396_0 hx397_0 hx397_1 hHeld ⊢
                 refine pure_ (i := 0) (N := some 30) (v := ?_) (a' := ?_) qJ11_b1 rfl rfl (qJ11_0) (fun _ _ _ h => h) (Or.inl ⟨by rfl, ?_⟩) ?_ ?_
                 rotate_left; exact qJ11_c1; rotate_left; exact qJ11_c0
                 refine pure_ (i := 1) (N := some 31) (v := ?_) (a' := ?_) qJ11_b2 rfl rfl (qJ11_0) (fun _ _ _ h => h) (Or.inl ⟨by rfl, ?_⟩) ?_ ?_
                 rotate_left; exact qJ11_c1; rotate_left; exact qJ11_c0
                 refine pure_ (i := 2) (N := some 32) (v := ?_) (a' := ?_) qJ11_b3 rfl rfl (qJ11_0) (fun _ _ _ h => h) (Or.inl ⟨by rfl, ?_⟩) ?_ ?_
                 rotate_left; exact qJ11_c1; rotate_left; exact qJ11_c0
                 refine pure_ (i := 3) (N := some 33) (v := ?_) (a' := ?_) qJ11_b4 rfl rfl (qJ11_0) (fun _ _ _ h => h) (Or.inl ⟨by rfl, ?_⟩) ?_ ?_
                 rotate_left; exact qJ11_c1; rotate_left; exact qJ11_c0
                 refine one_ (i := 4) (N := some 34) qJ11_b5 rfl rfl (qJ11_7) (by decide) (fun K hK => ?_)
                 refine goes_ Try.func57 (by kernel_rfl) rfl #[.int .i64 (rd l2 x25_2), .int .i64 0, .int .i64 (wrap64 ((l1.length : Int) - 1))] (by rfl) rfl rfl (qJ11_3) ?_
                 with_reducible refine (impl_within.calls (rd l2 x25_2) 0 (wrap64 ((l1.length : Int) - 1)) true _ A16.out).mono ?_
                 rintro e w' ⟨rfl, ⟨nd, rfl⟩⟩
                 refine ⟨_, rfl, ?_⟩
                 obtain ⟨i030, hi030, _, hsz30, _⟩ := info_parts info3
                 obtain ⟨hcut30, hA30, hC30⟩ := print_take_of (P := Try.prog) (Value.int .i64) 0 23 3 .i64 Try.underlying23 hi030 hsz30 (some ad392) c2 l2 x25_2 (of_decide_eq_true (qJ11_2)) (of_decide_eq_true (qJ11_2)) HC2.out
                 have HR394 := Aside0.mk (Kd.C_of_reads (h1 := fun _ => rfl) (hA30 _ (Kd.reads_of_C HR2.out)))
                 have HC394 := Aside0.mk hC30; clear hA30 hC30 hi030 hsz30
                 refine hK.out _ _ ⟨((HB.out.cell (World.block_lt_of_cell? w _ hw396_0)).trans hw396_0), ((HB.out.cell (World.block_lt_of_cell? w _ hw397_0)).trans hw397_0), ((HB.out.cell (World.block_lt_of_cell? w _ hw397_1)).trans hw397_1)⟩ (fun hHeld => ?_)
                 clear hK K
                 refine norm_ (a' := ?_) ?_ ?_
                 rotate_left
                 ·exact qJ11_c2
                 refine pure_ (i := 5) (N := some 35) (v := ?_) (a' := ?_) qJ11_b6 rfl rfl (qJ11_0) (fun _ _ _ h => h) (Or.inl ⟨by rfl, ?_⟩) ?_ ?_
                 rotate_left; exact qJ11_c1; rotate_left; exact qJ11_c0
                 refine pure_ (i := 6) (N := some 36) (v := ?_) (a' := ?_) qJ11_b7 rfl rfl (qJ11_0) (fun _ _ _ h => h) (Or.inl ⟨by rfl, ?_⟩) ?_ ?_
                 rotate_left; exact qJ11_c1; rotate_left; exact qJ11_c0
                 refine pure_ (i := 7) (N := some 37) (v := ?_) (a' := ?_) qJ11_b8 rfl rfl (qJ11_0) (fun _ _ _ h => h) (Or.inl ⟨by rfl, ?_⟩) ?_ ?_
                 rotate_left; exact qJ11_c1; rotate_left; exact qJ11_c0
                 refine pure_ (i := 8) (N := some 38) (v := ?_) (a' := ?_) qJ11_b9 rfl rfl (qJ11_0) (fun _ _ _ h => h) (Or.inl ⟨by rfl, ?_⟩) ?_ ?_
                 rotate_left; exact qJ11_c1; rotate_left; exact qJ11_c0
                 refine pure_ (i := 9) (N := some 39) (v := ?_) (a' := ?_) qJ11_b10 rfl rfl (qJ11_0) (fun _ _ _ h => h) (Or.inl ⟨by rfl, ?_⟩) ?_ ?_
                 rotate_left; exact qJ11_c1; rotate_left; exact qJ11_c0
                 refine pure_ (i := 10) (N := some 40) (v := ?_) (a' := ?_) qJ11_b11 rfl rfl (qJ11_0) (fun _ _ _ h => h) (Or.inl ⟨by rfl, ?_⟩) ?_ ?_
                 rotate_left; exact qJ11_c1; rotate_left; exact qJ11_c0
                 refine one_ (i := 11) (N := some 41) qJ11_b12 rfl rfl (qJ11_7) (by decide) (fun K hK => ?_)
                 refine goes_ Try.func58 (by kernel_rfl) rfl #[.slice (some ad392) (l2.take (x25_2 : Int).toNat).length c2, .int .i64 (rd l2 x25_2)] (by rfl) rfl rfl (qJ11_4) ?_
                 with_reducible refine (impl_has.calls k2 _ _ (l2.take (x25_2 : Int).toNat) (rd l2 x25_2) false _ ?side1 ?side2 A20.out).mono ?_
                 (case side1 => exact (qJ11_6))
                 (case side2 => exact HC394.out)
                 rintro e w' ⟨rfl, ⟨nd, rfl⟩⟩
                 refine ⟨_, rfl, ?_⟩
                 refine hK.out _ _ ⟨((HB.out.cell (World.block_lt_of_cell? w _ hw396_0)).trans hw396_0), ((HB.out.cell (World.block_lt_of_cell? w _ hw397_0)).trans hw397_0), ((HB.out.cell (World.block_lt_of_cell? w _ hw397_1)).trans hw397_1)⟩ (fun hHeld => ?_)
                 clear hK K
                 refine norm_ (a' := ?_) ?_ ?_
                 rotate_left
                 ·exact qJ11_c3
                 refine pure_ (i := 12) (N := some 42) (v := ?_) (a' := ?_) qJ11_b13 rfl rfl (qJ11_0) (fun _ _ _ h => h) (Or.inl ⟨by rfl, ?_⟩) ?_ ?_
                 rotate_left; exact qJ11_c1; rotate_left; exact qJ11_c0
                 refine pure_ (i := 13) (N := some 43) (v := ?_) (a' := ?_) qJ11_b14 rfl rfl (qJ11_0) (fun _ _ _ h => h) (Or.inl ⟨by rfl, ?_⟩) ?_ ?_
                 rotate_left; exact qJ11_c1; rotate_left; exact qJ11_c0
                 refine pure_ (i := 14) (N := some 44) (v := ?_) (a' := ?_) qJ11_b15 rfl rfl (qJ11_0) (fun _ _ _ h => h) (Or.inl ⟨by rfl, ?_⟩) ?_ ?_
                 rotate_left; exact qJ11_c1; rotate_left; exact qJ11_c0
                 refine pure_ (i := 15) (N := some 45) (v := ?_) (a' := ?_) qJ11_b16 rfl rfl (qJ11_0) (fun _ _ _ h => h) (Or.inl ⟨by rfl, ?_⟩) ?_ ?_
                 rotate_left; exact qJ11_c1; rotate_left; exact qJ11_c0
                 refine pure_ (i := 16) (N := some 46) (v := ?_) (a' := ?_) qJ11_b17 rfl rfl (qJ11_0) (fun _ _ _ h => h) (Or.inl ⟨by rfl, ?_⟩) ?_ ?_
                 rotate_left; exact qJ11_c1; rotate_left; exact qJ11_c0
                 refine pure_ (i := 18) (N := some 48) (v := ?_) (a' := ?_) qJ11_b26 rfl rfl (qJ11_0) (fun _ _ _ h => h) (Or.inl ⟨by rfl, ?_⟩) ?_ ?_
                 rotate_left; exact qJ11_c1; rotate_left; exact qJ11_c0
                 refine pure_ (i := 19) (N := some 49) (v := ?_) (a' := ?_) qJ11_b27 rfl rfl (qJ11_0) (fun _ _ _ h => h) (Or.inl ⟨by rfl, ?_⟩) ?_ ?_
                 rotate_left; exact qJ11_c1; rotate_left; exact qJ11_c0
                 refine pure_ (i := 20) (N := some 50) (v := ?_) (a' := ?_) qJ11_b28 rfl rfl (qJ11_0) (fun _ _ _ h => h) (Or.inl ⟨by rfl, ?_⟩) ?_ ?_
                 rotate_left; exact qJ11_c1; rotate_left; exact qJ11_c0
                 refine take_ (i := 17) (N := some 47) (v := ?_) (a' := ?_) qJ11_b21 rfl rfl (take_ofW HT_.out HW_.out (by kernel_rfl)) (fun _ _ _ h => h) (Or.inl ⟨by rfl, ?_⟩) hHeld ?_ ?_
                 rotate_left
                 ·rintro w' ⟨s0, s1, s2⟩
                  go_simp
                  with_reducible rfl
                 rotate_left
                 ·exact qJ11_c0
                 refine take_ (i := 21) (N := some 51) (v := ?_) (a' := ?_) qJ11_b22 rfl rfl (take_ofW HT_.out HW_.out (by kernel_rfl)) (fun _ _ _ h => h) (Or.inl ⟨by rfl, ?_⟩) hHeld ?_ ?_
                 rotate_left
                 ·rintro w' ⟨s0, s1, s2⟩
                  go_simp
                  with_reducible rfl
                 rotate_left
                 ·exact qJ11_c0
                 refine one_ (i := 22) (N := some 52) qJ11_b23 rfl rfl (qJ11_7) (by decide) (fun K hK => ?_)
                 refine goes_ Try.func44 (by kernel_rfl) rfl #[.agg #[.int .i64 ((rd_T36 l0 x25_2).f0), .int .i64 ((rd_T36 l0 x25_2).f1)]] (by rfl) rfl rfl (qJ11_3) ?_
                 with_reducible refine (impl_Pitch_need.calls ((rd_T36 l0 x25_2).f0) ((rd_T36 l0 x25_2).f1) t398 _ A27.out).mono ?_
                 rintro e w31 ⟨rfl, hb⟩
                 refine ⟨_, rfl, ?_⟩
                 have n0_ := Aside0.mk (below_step (qJ11_1) hb)
                 clear HB
                 have HB := n0_
                 clear n0_
                 (try clear hb)
                 (try clear hb2)
                 (try clear hk)
                 (try clear hi)
                 refine hK.out _ _ ⟨((HB.out.cell (World.block_lt_of_cell? w _ hw396_0)).trans hw396_0), ((HB.out.cell (World.block_lt_of_cell? w _ hw397_0)).trans hw397_0), ((HB.out.cell (World.block_lt_of_cell? w _ hw397_1)).trans hw397_1)⟩ (fun hHeld => ?_)
                 clear hK K
                 refine norm_ (a' := ?_) ?_ ?_
                 rotate_left
                 ·show Act.put _ (some 52) _ = _
                  simp only [Act.put, List.setIfInBounds_toArray, List.set_cons_zero, List.set_cons_succ, i64_w, i32_w]
                  rfl
                 refine pure_ (i := 23) (N := some 53) (v := ?_) (a' := ?_) qJ11_b24 rfl rfl (qJ11_0) (fun _ _ _ h => h) (Or.inl ⟨by rfl, ?_⟩) ?_ ?_
                 rotate_left; exact qJ11_c1; rotate_left; exact qJ11_c0
                 refine pure_ (i := 24) (N := some 54) (v := ?_) (a' := ?_) qJ11_b25 rfl rfl (qJ11_0) (fun _ _ _ h => h) (Or.inl ⟨by rfl, ?_⟩) ?_ ?_
                 rotate_left; exact qJ11_c1; rotate_left; exact qJ11_c0
                 refine done_ (qJ11_10) ?_
                 try go_wp2
                 go_ret2
                 exact ⟨(qJ11_5), (qJ11_1)⟩
                ·rw [if_neg c28] at H
                 have c28b0 : decide ((rd l1 (rd l2 x25_2)) < t398) = false := decide_eq_false c28
                 clear c28
                 have H' := Aside0.mk H
                 clear H
                 have p392 : 0 ≤ (x25_2 : Int) := of_decide_eq_true (qJ11_2)
                 have q392 : x25_2 < (l2.length : Int) := of_decide_eq_true (qJ11_2)
                 obtain ⟨ad392, e392, hx392_0⟩ := Kd.at_int HR2.out x25_2 p392 q392
                 cases e392
                 replace hx392_0 := (HB.out.cell (World.block_lt_of_cell? w _ hx392_0)).trans hx392_0
                 replace p392 := eq_true p392
                 replace q392 := eq_true q392
                 try go_wp2
                 have n0_ := Aside0.mk (below_drew1 HB.out)
                 clear HB
                 have HB := n0_
                 clear n0_
                 have p396 : 0 ≤ ((rd l2 x25_2) : Int) := of_decide_eq_true (qJ11_2)
                 have q396 : (rd l2 x25_2) < (l1.length : Int) := of_decide_eq_true (qJ11_2)
                 obtain ⟨ad396, e396, hx396_0⟩ := Kd.at_int HR1.out (rd l2 x25_2) p396 q396
                 have hw396_0 := hx396_0
                 cases e396
                 replace hx396_0 := (HB.out.cell (World.block_lt_of_cell? w _ hx396_0)).trans hx396_0
                 replace p396 := eq_true p396
                 replace q396 := eq_true q396
                 have p397 : 0 ≤ (x25_2 : Int) := of_decide_eq_true (qJ11_2)
                 have q397 : x25_2 < (l0.length : Int) := of_decide_eq_true (qJ11_2)
                 obtain ⟨ad397, e397, hx397_0, hx397_1⟩ := at_T36 HR0.out x25_2 p397 q397
                 have hw397_1 := hx397_1
                 have hw397_0 := hx397_0
                 cases e397
                 replace hx397_0 := (HB.out.cell (World.block_lt_of_cell? w _ hx397_0)).trans hx397_0
                 replace hx397_1 := (HB.out.cell (World.block_lt_of_cell? w _ hx397_1)).trans hx397_1
                 replace p397 := eq_true p397
                 replace q397 := eq_true q397
                 refine start_ (n := 25) (S := fun w' => w'.cell? (ad396.add ((rd l2 x25_2)).toNat) = some (.int .i64 (rd l1 (rd l2 x25_2))) ∧ w'.cell? (ad397.add ((x25_2).toNat * 2)) = some (.int .i64 ((rd_T36 l0 x25_2).f0)) ∧ w'.cell? ⟨(ad397.add ((x25_2).toNat * 2)).block, (ad397.add ((x25_2).toNat * 2)).off + 1, none⟩ = some (.int .i64 ((rd_T36 l0 x25_2).f1))) (ds := []) qJ11_b0 (by kernel_rfl) rfl rfl ⟨((HB.out.cell (World.block_lt_of_cell? w _ hw396_0)).trans hw396_0), ((HB.out.cell (World.block_lt_of_cell? w _ hw397_0)).trans hw397_0), ((HB.out.cell (World.block_lt_of_cell? w _ hw397_1)).trans hw397_1)⟩ (fun hHeld => ?_); refine with_tabW impl_IsRigging.tab8 impl_IsRigging.bits8 (fun HT_ HW_ => ?_)
                 generalize wr.drew = w32 at HB hx396_0 hx397_0 hx397_1 hHeld ⊢
                 refine pure_ (i := 0) (N := some 30) (v := ?_) (a' := ?_) qJ11_b1 rfl rfl (qJ11_0) (fun _ _ _ h => h) (Or.inl ⟨by rfl, ?_⟩) ?_ ?_
                 rotate_left; exact qJ11_c1; rotate_left; exact qJ11_c0
                 refine pure_ (i := 1) (N := some 31) (v := ?_) (a' := ?_) qJ11_b2 rfl rfl (qJ11_0) (fun _ _ _ h => h) (Or.inl ⟨by rfl, ?_⟩) ?_ ?_
                 rotate_left; exact qJ11_c1; rotate_left; exact qJ11_c0
                 refine pure_ (i := 2) (N := some 32) (v := ?_) (a' := ?_) qJ11_b3 rfl rfl (qJ11_0) (fun _ _ _ h => h) (Or.inl ⟨by rfl, ?_⟩) ?_ ?_
                 rotate_left; exact qJ11_c1; rotate_left; exact qJ11_c0
                 refine pure_ (i := 3) (N := some 33) (v := ?_) (a' := ?_) qJ11_b4 rfl rfl (qJ11_0) (fun _ _ _ h => h) (Or.inl ⟨by rfl, ?_⟩) ?_ ?_
                 rotate_left; exact qJ11_c1; rotate_left; exact qJ11_c0
                 refine one_ (i := 4) (N := some 34) qJ11_b5 rfl rfl (qJ11_7) (by decide) (fun K hK => ?_)
                 refine goes_ Try.func57 (by kernel_rfl) rfl #[.int .i64 (rd l2 x25_2), .int .i64 0, .int .i64 (wrap64 ((l1.length : Int) - 1))] (by rfl) rfl rfl (qJ11_3) ?_
                 with_reducible refine (impl_within.calls (rd l2 x25_2) 0 (wrap64 ((l1.length : Int) - 1)) true _ A16.out).mono ?_
                 rintro e w' ⟨rfl, ⟨nd, rfl⟩⟩
                 refine ⟨_, rfl, ?_⟩
                 obtain ⟨i033, hi033, _, hsz33, _⟩ := info_parts info3
                 obtain ⟨hcut33, hA33, hC33⟩ := print_take_of (P := Try.prog) (Value.int .i64) 0 23 3 .i64 Try.underlying23 hi033 hsz33 (some ad392) c2 l2 x25_2 (of_decide_eq_true (qJ11_2)) (of_decide_eq_true (qJ11_2)) HC2.out
                 have HR394 := Aside0.mk (Kd.C_of_reads (h1 := fun _ => rfl) (hA33 _ (Kd.reads_of_C HR2.out)))
                 have HC394 := Aside0.mk hC33; clear hA33 hC33 hi033 hsz33
                 refine hK.out _ _ ⟨((HB.out.cell (World.block_lt_of_cell? w _ hw396_0)).trans hw396_0), ((HB.out.cell (World.block_lt_of_cell? w _ hw397_0)).trans hw397_0), ((HB.out.cell (World.block_lt_of_cell? w _ hw397_1)).trans hw397_1)⟩ (fun hHeld => ?_)
                 clear hK K
                 refine norm_ (a' := ?_) ?_ ?_
                 rotate_left
                 ·exact qJ11_c2
                 refine pure_ (i := 5) (N := some 35) (v := ?_) (a' := ?_) qJ11_b6 rfl rfl (qJ11_0) (fun _ _ _ h => h) (Or.inl ⟨by rfl, ?_⟩) ?_ ?_
                 rotate_left; exact qJ11_c1; rotate_left; exact qJ11_c0
                 refine pure_ (i := 6) (N := some 36) (v := ?_) (a' := ?_) qJ11_b7 rfl rfl (qJ11_0) (fun _ _ _ h => h) (Or.inl ⟨by rfl, ?_⟩) ?_ ?_
                 rotate_left; exact qJ11_c1; rotate_left; exact qJ11_c0
                 refine pure_ (i := 7) (N := some 37) (v := ?_) (a' := ?_) qJ11_b8 rfl rfl (qJ11_0) (fun _ _ _ h => h) (Or.inl ⟨by rfl, ?_⟩) ?_ ?_
                 rotate_left; exact qJ11_c1; rotate_left; exact qJ11_c0
                 refine pure_ (i := 8) (N := some 38) (v := ?_) (a' := ?_) qJ11_b9 rfl rfl (qJ11_0) (fun _ _ _ h => h) (Or.inl ⟨by rfl, ?_⟩) ?_ ?_
                 rotate_left; exact qJ11_c1; rotate_left; exact qJ11_c0
                 refine pure_ (i := 9) (N := some 39) (v := ?_) (a' := ?_) qJ11_b10 rfl rfl (qJ11_0) (fun _ _ _ h => h) (Or.inl ⟨by rfl, ?_⟩) ?_ ?_
                 rotate_left; exact qJ11_c1; rotate_left; exact qJ11_c0
                 refine pure_ (i := 10) (N := some 40) (v := ?_) (a' := ?_) qJ11_b11 rfl rfl (qJ11_0) (fun _ _ _ h => h) (Or.inl ⟨by rfl, ?_⟩) ?_ ?_
                 rotate_left; exact qJ11_c1; rotate_left; exact qJ11_c0
                 refine one_ (i := 11) (N := some 41) qJ11_b12 rfl rfl (qJ11_7) (by decide) (fun K hK => ?_)
                 refine goes_ Try.func58 (by kernel_rfl) rfl #[.slice (some ad392) (l2.take (x25_2 : Int).toNat).length c2, .int .i64 (rd l2 x25_2)] (by rfl) rfl rfl (qJ11_4) ?_
                 with_reducible refine (impl_has.calls k2 _ _ (l2.take (x25_2 : Int).toNat) (rd l2 x25_2) false _ ?side1 ?side2 A20.out).mono ?_
                 (case side1 => exact (qJ11_6))
                 (case side2 => exact HC394.out)
                 rintro e w' ⟨rfl, ⟨nd, rfl⟩⟩
                 refine ⟨_, rfl, ?_⟩
                 refine hK.out _ _ ⟨((HB.out.cell (World.block_lt_of_cell? w _ hw396_0)).trans hw396_0), ((HB.out.cell (World.block_lt_of_cell? w _ hw397_0)).trans hw397_0), ((HB.out.cell (World.block_lt_of_cell? w _ hw397_1)).trans hw397_1)⟩ (fun hHeld => ?_)
                 clear hK K
                 refine norm_ (a' := ?_) ?_ ?_
                 rotate_left
                 ·exact qJ11_c3
                 refine pure_ (i := 12) (N := some 42) (v := ?_) (a' := ?_) qJ11_b13 rfl rfl (qJ11_0) (fun _ _ _ h => h) (Or.inl ⟨by rfl, ?_⟩) ?_ ?_
                 rotate_left; exact qJ11_c1; rotate_left; exact qJ11_c0
                 refine pure_ (i := 13) (N := some 43) (v := ?_) (a' := ?_) qJ11_b14 rfl rfl (qJ11_0) (fun _ _ _ h => h) (Or.inl ⟨by rfl, ?_⟩) ?_ ?_
                 rotate_left; exact qJ11_c1; rotate_left; exact qJ11_c0
                 refine pure_ (i := 14) (N := some 44) (v := ?_) (a' := ?_) qJ11_b15 rfl rfl (qJ11_0) (fun _ _ _ h => h) (Or.inl ⟨by rfl, ?_⟩) ?_ ?_
                 rotate_left; exact qJ11_c1; rotate_left; exact qJ11_c0
                 refine pure_ (i := 15) (N := some 45) (v := ?_) (a' := ?_) qJ11_b16 rfl rfl (qJ11_0) (fun _ _ _ h => h) (Or.inl ⟨by rfl, ?_⟩) ?_ ?_
                 rotate_left; exact qJ11_c1; rotate_left; exact qJ11_c0
                 refine pure_ (i := 16) (N := some 46) (v := ?_) (a' := ?_) qJ11_b17 rfl rfl (qJ11_0) (fun _ _ _ h => h) (Or.inl ⟨by rfl, ?_⟩) ?_ ?_
                 rotate_left; exact qJ11_c1; rotate_left; exact qJ11_c0
                 refine pure_ (i := 18) (N := some 48) (v := ?_) (a' := ?_) qJ11_b26 rfl rfl (qJ11_0) (fun _ _ _ h => h) (Or.inl ⟨by rfl, ?_⟩) ?_ ?_
                 rotate_left; exact qJ11_c1; rotate_left; exact qJ11_c0
                 refine pure_ (i := 19) (N := some 49) (v := ?_) (a' := ?_) qJ11_b27 rfl rfl (qJ11_0) (fun _ _ _ h => h) (Or.inl ⟨by rfl, ?_⟩) ?_ ?_
                 rotate_left; exact qJ11_c1; rotate_left; exact qJ11_c0
                 refine pure_ (i := 20) (N := some 50) (v := ?_) (a' := ?_) qJ11_b28 rfl rfl (qJ11_0) (fun _ _ _ h => h) (Or.inl ⟨by rfl, ?_⟩) ?_ ?_
                 rotate_left; exact qJ11_c1; rotate_left; exact qJ11_c0
                 refine take_ (i := 17) (N := some 47) (v := ?_) (a' := ?_) qJ11_b21 rfl rfl (take_ofW HT_.out HW_.out (by kernel_rfl)) (fun _ _ _ h => h) (Or.inl ⟨by rfl, ?_⟩) hHeld ?_ ?_
                 rotate_left
                 ·rintro w' ⟨s0, s1, s2⟩
                  go_simp
                  with_reducible rfl
                 rotate_left
                 ·exact qJ11_c0
                 refine take_ (i := 21) (N := some 51) (v := ?_) (a' := ?_) qJ11_b22 rfl rfl (take_ofW HT_.out HW_.out (by kernel_rfl)) (fun _ _ _ h => h) (Or.inl ⟨by rfl, ?_⟩) hHeld ?_ ?_
                 rotate_left
                 ·rintro w' ⟨s0, s1, s2⟩
                  go_simp
                  with_reducible rfl
                 rotate_left
                 ·exact qJ11_c0
                 refine one_ (i := 22) (N := some 52) qJ11_b23 rfl rfl (qJ11_7) (by decide) (fun K hK => ?_)
                 refine goes_ Try.func44 (by kernel_rfl) rfl #[.agg #[.int .i64 ((rd_T36 l0 x25_2).f0), .int .i64 ((rd_T36 l0 x25_2).f1)]] (by rfl) rfl rfl (qJ11_3) ?_
                 with_reducible refine (impl_Pitch_need.calls ((rd_T36 l0 x25_2).f0) ((rd_T36 l0 x25_2).f1) t398 _ A27.out).mono ?_
                 rintro e w34 ⟨rfl, hb⟩
                 refine ⟨_, rfl, ?_⟩
                 have n0_ := Aside0.mk (below_step (qJ11_1) hb)
                 clear HB
                 have HB := n0_
                 clear n0_
                 (try clear hb)
                 (try clear hb2)
                 (try clear hk)
                 (try clear hi)
                 refine hK.out _ _ ⟨((HB.out.cell (World.block_lt_of_cell? w _ hw396_0)).trans hw396_0), ((HB.out.cell (World.block_lt_of_cell? w _ hw397_0)).trans hw397_0), ((HB.out.cell (World.block_lt_of_cell? w _ hw397_1)).trans hw397_1)⟩ (fun hHeld => ?_)
                 clear hK K
                 refine norm_ (a' := ?_) ?_ ?_
                 rotate_left
                 ·show Act.put _ (some 52) _ = _
                  simp only [Act.put, List.setIfInBounds_toArray, List.set_cons_zero, List.set_cons_succ, i64_w, i32_w]
                  rfl
                 refine pure_ (i := 23) (N := some 53) (v := ?_) (a' := ?_) qJ11_b24 rfl rfl (qJ11_0) (fun _ _ _ h => h) (Or.inl ⟨by rfl, ?_⟩) ?_ ?_
                 rotate_left; exact qJ11_c1; rotate_left; exact qJ11_c0
                 refine pure_ (i := 24) (N := some 54) (v := ?_) (a' := ?_) qJ11_b25 rfl rfl (qJ11_0) (fun _ _ _ h => h) (Or.inl ⟨by rfl, ?_⟩) ?_ ?_
                 rotate_left; exact qJ11_c1; rotate_left; exact qJ11_c0
                 refine done_ (qJ11_10) ?_
                 try go_wp2
                 go_roundg k2
                 case measure => have := HJ3.out; have := HK2.out; omega
                 case rel => exact ⟨(wrap64 (x25_2 + 1)), (qJ11_9), H', ⟨by have := HJ3.out; have := HK2.out; omega⟩, ⟨(qJ11_1)⟩⟩
               ·rw [if_neg c26] at H
                exact absurd H (by simp)
              ·rw [if_neg c25] at H
               exact absurd H (by simp)
             ·rw [if_neg c24] at H
              exact absurd H (by simp)
           ·rw [if_neg c19] at H
            exact absurd H (by simp)
          ·replace c17 := Bool.eq_false_iff.mpr c17
           subst c17
           have H1 : (some (false, true)) = some (r1, r2) := by rw [if_neg (show ¬ (false = true) by decide)] at H; exact H
           clear H; have H := H1; clear H1
           simp only [Option.some.injEq, Prod.mk.injEq] at H
           obtain ⟨rfl, rfl⟩ := H
           have p392 : 0 ≤ (x25_2 : Int) := of_decide_eq_true (qJ11_2)
           have q392 : x25_2 < (l2.length : Int) := of_decide_eq_true (qJ11_2)
           obtain ⟨ad392, e392, hx392_0⟩ := Kd.at_int HR2.out x25_2 p392 q392
           cases e392
           replace hx392_0 := (HB.out.cell (World.block_lt_of_cell? w _ hx392_0)).trans hx392_0
           replace p392 := eq_true p392
           replace q392 := eq_true q392
           try go_wp2
           have n0_ := Aside0.mk (below_drew1 HB.out)
           clear HB
           have HB := n0_
           clear n0_
           refine start_ (n := 25) (S := fun w' => True) (ds := []) qJ11_b0 (by kernel_rfl) rfl rfl trivial (fun hHeld => ?_); refine with_tabW impl_IsRigging.tab8 impl_IsRigging.bits8 (fun HT_ HW_ => ?_)
           generalize wr.drew = w35 at HB hHeld ⊢
           refine pure_ (i := 0) (N := some 30) (v := ?_) (a' := ?_) qJ11_b1 rfl rfl (qJ11_0) (fun _ _ _ h => h) (Or.inl ⟨by rfl, ?_⟩) ?_ ?_
           rotate_left; exact qJ11_c1; rotate_left; exact qJ11_c0
           refine pure_ (i := 1) (N := some 31) (v := ?_) (a' := ?_) qJ11_b2 rfl rfl (qJ11_0) (fun _ _ _ h => h) (Or.inl ⟨by rfl, ?_⟩) ?_ ?_
           rotate_left; exact qJ11_c1; rotate_left; exact qJ11_c0
           refine pure_ (i := 2) (N := some 32) (v := ?_) (a' := ?_) qJ11_b3 rfl rfl (qJ11_0) (fun _ _ _ h => h) (Or.inl ⟨by rfl, ?_⟩) ?_ ?_
           rotate_left; exact qJ11_c1; rotate_left; exact qJ11_c0
           refine pure_ (i := 3) (N := some 33) (v := ?_) (a' := ?_) qJ11_b4 rfl rfl (qJ11_0) (fun _ _ _ h => h) (Or.inl ⟨by rfl, ?_⟩) ?_ ?_
           rotate_left; exact qJ11_c1; rotate_left; exact qJ11_c0
           refine one_ (i := 4) (N := some 34) qJ11_b5 rfl rfl (qJ11_7) (by decide) (fun K hK => ?_)
           refine goes_ Try.func57 (by kernel_rfl) rfl #[.int .i64 (rd l2 x25_2), .int .i64 0, .int .i64 (wrap64 ((l1.length : Int) - 1))] (by rfl) rfl rfl (qJ11_3) ?_
           with_reducible refine (impl_within.calls (rd l2 x25_2) 0 (wrap64 ((l1.length : Int) - 1)) false _ A16.out).mono ?_
           rintro e w' ⟨rfl, ⟨nd, rfl⟩⟩
           refine ⟨_, rfl, ?_⟩
           refine hK.out _ _ trivial (fun hHeld => ?_)
           clear hK K
           refine norm_ (a' := ?_) ?_ ?_
           rotate_left
           ·exact qJ11_c2
           refine pure_ (i := 5) (N := some 35) (v := ?_) (a' := ?_) qJ11_b6 rfl rfl (qJ11_0) (fun _ _ _ h => h) (Or.inl ⟨by rfl, ?_⟩) ?_ ?_
           rotate_left; exact qJ11_c1; rotate_left; exact qJ11_c0
           refine pure_ (i := 6) (N := some 36) (v := ?_) (a' := ?_) qJ11_b7 rfl rfl (qJ11_0) (fun _ _ _ h => h) (Or.inl ⟨by rfl, ?_⟩) ?_ ?_
           rotate_left; exact qJ11_c1; rotate_left; exact qJ11_c0
           refine pure_ (i := 7) (N := some 37) (v := undef) (a' := ?_) qJ11_b8 rfl rfl (qJ11_0) (fun _ _ _ h => h) (Or.inr ⟨by rfl, rfl⟩) ?_ ?_
           rotate_left
           ·exact qJ11_c0
           refine pure_ (i := 8) (N := some 38) (v := undef) (a' := ?_) qJ11_b9 rfl rfl (qJ11_0) (fun _ _ _ h => h) (Or.inr ⟨by rfl, rfl⟩) ?_ ?_
           rotate_left
           ·exact qJ11_c0
           refine pure_ (i := 9) (N := some 39) (v := undef) (a' := ?_) qJ11_b10 rfl rfl (qJ11_0) (fun _ _ _ h => h) (Or.inr ⟨by rfl, rfl⟩) ?_ ?_
           rotate_left
           ·exact qJ11_c0
           refine pure_ (i := 10) (N := some 40) (v := undef) (a' := ?_) qJ11_b11 rfl rfl (qJ11_0) (fun _ _ _ h => h) (Or.inr ⟨by rfl, rfl⟩) ?_ ?_
           rotate_left
           ·exact qJ11_c0
           refine pure_ (i := 11) (N := some 41) (v := undef) (a' := ?_) qJ11_b12 rfl rfl (qJ11_0) (fun _ _ _ h => h) (Or.inr ⟨by rfl, rfl⟩) ?_ ?_
           rotate_left
           ·exact qJ11_c0
           refine pure_ (i := 12) (N := some 42) (v := ?_) (a' := ?_) qJ11_b13 rfl rfl (qJ11_0) (fun _ _ _ h => h) (Or.inl ⟨by rfl, ?_⟩) ?_ ?_
           rotate_left; exact qJ11_c1; rotate_left; exact qJ11_c0
           refine pure_ (i := 13) (N := some 43) (v := ?_) (a' := ?_) qJ11_b14 rfl rfl (qJ11_0) (fun _ _ _ h => h) (Or.inl ⟨by rfl, ?_⟩) ?_ ?_
           rotate_left; exact qJ11_c1; rotate_left; exact qJ11_c0
           refine pure_ (i := 14) (N := some 44) (v := undef) (a' := ?_) qJ11_b15 rfl rfl (qJ11_0) (fun _ _ _ h => h) (Or.inr ⟨by rfl, rfl⟩) ?_ ?_
           rotate_left
           ·exact qJ11_c0
           refine pure_ (i := 15) (N := some 45) (v := undef) (a' := ?_) qJ11_b16 rfl rfl (qJ11_0) (fun _ _ _ h => h) (Or.inr ⟨by rfl, rfl⟩) ?_ ?_
           rotate_left
           ·exact qJ11_c0
           refine pure_ (i := 16) (N := some 46) (v := undef) (a' := ?_) qJ11_b17 rfl rfl (qJ11_0) (fun _ _ _ h => h) (Or.inr ⟨by rfl, rfl⟩) ?_ ?_
           rotate_left
           ·exact qJ11_c0
           refine pure_ (i := 17) (N := some 47) (v := undef) (a' := ?_) qJ11_b18 rfl rfl (qJ11_0) (fun _ _ _ h => h) (Or.inr ⟨by rfl, rfl⟩) ?_ ?_
           rotate_left
           ·exact qJ11_c0
           refine pure_ (i := 18) (N := some 48) (v := undef) (a' := ?_) qJ11_b19 rfl rfl (qJ11_0) (fun _ _ _ h => h) (Or.inr ⟨by rfl, rfl⟩) ?_ ?_
           rotate_left
           ·exact qJ11_c0
           refine pure_ (i := 19) (N := some 49) (v := undef) (a' := ?_) qJ11_b20 rfl rfl (qJ11_0) (fun _ _ _ h => h) (Or.inr ⟨by rfl, rfl⟩) ?_ ?_
           rotate_left
           ·exact qJ11_c0
           refine pure_ (i := 20) (N := some 50) (v := undef) (a' := ?_) qJ11_b21 rfl rfl (qJ11_0) (fun _ _ _ h => h) (Or.inr ⟨by rfl, rfl⟩) ?_ ?_
           rotate_left
           ·exact qJ11_c0
           refine pure_ (i := 21) (N := some 51) (v := undef) (a' := ?_) qJ11_b22 rfl rfl (qJ11_0) (fun _ _ _ h => h) (Or.inr ⟨by rfl, rfl⟩) ?_ ?_
           rotate_left
           ·exact qJ11_c0
           refine pure_ (i := 22) (N := some 52) (v := undef) (a' := ?_) qJ11_b23 rfl rfl (qJ11_0) (fun _ _ _ h => h) (Or.inr ⟨by rfl, rfl⟩) ?_ ?_
           rotate_left
           ·exact qJ11_c0
           refine pure_ (i := 23) (N := some 53) (v := undef) (a' := ?_) qJ11_b24 rfl rfl (qJ11_0) (fun _ _ _ h => h) (Or.inr ⟨by rfl, rfl⟩) ?_ ?_
           rotate_left
           ·exact qJ11_c0
           refine pure_ (i := 24) (N := some 54) (v := ?_) (a' := ?_) qJ11_b25 rfl rfl (qJ11_0) (fun _ _ _ h => h) (Or.inl ⟨by rfl, ?_⟩) ?_ ?_
           rotate_left; exact qJ11_c1; rotate_left; exact qJ11_c0
           refine done_ (qJ11_10) ?_
           try go_wp2
           go_ret2
           exact ⟨(qJ11_5), (qJ11_1)⟩
         ·rw [if_neg c15] at H
          exact absurd H (by simp)
        ·rw [if_neg c14] at H
         exact absurd H (by simp)
       ·rw [if_neg c13] at H
        have c13b0 : decide (x25_2 < (l2.length : Int)) = false := decide_eq_false c13
        clear c13
        simp only [Option.some.injEq, Prod.mk.injEq] at H
        obtain ⟨rfl, rfl⟩ := H
        go_wp2
        go_ret2
        exact ⟨(qJ11_5), (qJ11_1)⟩
    ·rw [if_neg c12] at H
     have c12b0 : ((l2.length : Int) == (l0.length : Int)) = false := beq_eq_false_iff_ne.mpr c12
     have c12b1 : ((l2.length : Int) != (l0.length : Int)) = true := bne_iff_ne.mpr c12
     have c12b2 : (l2.length == l0.length) = false := by first | simpa using c12 | (simp at c12 ⊢; omega)
     simp only [Option.some.injEq, Prod.mk.injEq] at H
     obtain ⟨rfl, rfl⟩ := H
     go_wp2
     go_ret2
     exact ⟨(qJ11_5), (qJ11_1)⟩

end Go.Proofs.Ytfjpbochanekoaa.MJ
