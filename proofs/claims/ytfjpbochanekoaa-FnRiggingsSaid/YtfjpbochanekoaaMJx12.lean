-- Written by a program of this session (wip/drv.py, wip/tight.py).
import Derived.Test.YtfjpbochanekoaaMJx0
import Derived.Test.YtfjpbochanekoaaMJx1
import Derived.Test.YtfjpbochanekoaaMJx6
namespace Go.Proofs.Ytfjpbochanekoaa.MJ
open Go.RowKit Go.Proofs.YtfjpbochanekoaaW.PrintWords Go.Proofs.YtfjpbochanekoaaW.PrintLast Go.Proofs.YtfjpbochanekoaaW.PrintMore
theorem qJ12_0 {p : Prop} (h : p := by exact any_of HT_.out (by kernel_rfl)) : p := h
theorem qJ12_1 {p : Prop} (h : p := by first | (with_reducible assumption) | assumption) : p := h
theorem qJ12_2 {p : Prop} (h : p := by repeat (first | (with_reducible first | exact HB.out | apply below_alloc | apply pw_below_drewN | apply below_drew1) | exact HB.out)) : p := h
theorem qJ12_3 {p : Prop} (h : p := by (try simp only [List.map_toArray, List.map_cons, List.map_nil]); first | done | rfl | (simp only [List.length_drop, List.length_take]; rfl)) : p := h
theorem qJ12_4 {p : Prop} (h : p := by (try simp only [List.map_toArray, List.map_cons, List.map_nil]); first | done | (rw [show (l2.take (x7_1 : Int).toNat).length = x7_1.toNat from (by rw [List.length_take]; have h_ : (x7_1 : Int) ≤ (l2.length : Int) := of_decide_eq_true (qJ12_1); omega)] <;> rfl) | rfl | (simp only [List.length_drop, List.length_take]; rfl)) : p := h
theorem qJ12_5 {p : Prop} (h : p := by first | rfl | (simp [errW_none, errW_some] <;> rfl) | (simp [*, errW_none, errW_some] <;> rfl)) : p := h
theorem qJ12_6 {p : Prop} (h : p := by repeat (first | exact (Kd.C_below HR401.out (qJ12_2)) | (with_reducible refine Kd.C_alloc ?_ _) | (with_reducible refine Kd.C_drewN ?_ _) | (with_reducible refine Kd.C_drew ?_))) : p := h
theorem qJ12_7 {p : Prop} (h : p := by exact one_of HT_.out (by kernel_rfl)) : p := h
theorem qJ12_8 {p : Prop} (h : p := by exact done_of HT_.out (by kernel_rfl)) : p := h
theorem qJ12_c0 {p : Prop} (h : p := by
  simp only [Act.put, List.setIfInBounds_toArray, List.set_cons_zero, List.set_cons_succ, i64_w, i32_w]
  rfl) : p := h
theorem qJ12_c1 {p : Prop} (h : p := by
  intro w'
  go_simp
  with_reducible rfl) : p := h
theorem qJ12_c2 {p : Prop} (h : p := by
  rintro w' ⟨s0, s1, s2, s3, s4, s5⟩
  go_simp
  with_reducible rfl) : p := h
theorem qJ12_c3 {p : Prop} (h : p := by
  show Act.put _ (some 26) _ = _
  simp only [Act.put, List.setIfInBounds_toArray, List.set_cons_zero, List.set_cons_succ, i64_w, i32_w]
  rfl) : p := h
theorem qJ12_c4 {p : Prop} (h : p := by
  show Act.put _ (some 36) _ = _
  simp only [Act.put, List.setIfInBounds_toArray, List.set_cons_zero, List.set_cons_succ, i64_w, i32_w]
  rfl) : p := h
abbrev qJ12_b0 : Array Bool := #[false, false, false, false, false, false, false, false, false, false, false, false, false, false, false, false, false, false, false, false, false, false, false, false, false, false, false, false, false, false, false, false, false, false]
abbrev qJ12_b1 : Array Bool := #[true, false, false, false, false, false, false, false, false, false, false, false, false, false, false, false, false, false, false, false, false, false, false, false, false, false, false, false, false, false, false, false, false, false]
abbrev qJ12_b2 : Array Bool := #[true, true, false, false, false, false, false, false, false, false, false, false, false, false, false, false, false, false, false, false, false, false, false, false, false, false, false, false, false, false, false, false, false, false]
abbrev qJ12_b3 : Array Bool := #[true, true, true, false, false, false, false, false, false, false, false, false, false, false, false, false, false, false, false, false, false, false, false, false, false, false, false, false, false, false, false, false, false, false]
abbrev qJ12_b4 : Array Bool := #[true, true, true, false, true, false, false, false, false, false, false, false, false, false, false, false, false, false, false, false, false, false, false, false, false, false, false, false, false, false, false, false, false, false]
abbrev qJ12_b5 : Array Bool := #[true, true, true, false, true, true, false, false, false, false, false, false, false, false, false, false, false, false, false, false, false, false, false, false, false, false, false, false, false, false, false, false, false, false]
abbrev qJ12_b6 : Array Bool := #[true, true, true, false, true, true, true, false, false, false, false, false, false, false, false, false, false, false, false, false, false, false, false, false, false, false, false, false, false, false, false, false, false, false]
abbrev qJ12_b7 : Array Bool := #[true, true, true, true, true, true, true, false, false, false, false, false, false, false, false, false, false, false, false, false, false, false, false, false, false, false, false, false, false, false, false, false, false, false]
abbrev qJ12_b8 : Array Bool := #[true, true, true, true, true, true, true, true, false, false, false, false, false, false, false, false, false, false, false, false, false, false, false, false, false, false, false, false, false, false, false, false, false, false]
abbrev qJ12_b9 : Array Bool := #[true, true, true, true, true, true, true, true, true, false, false, false, false, false, false, false, false, false, false, false, false, false, false, false, false, false, false, false, false, false, false, false, false, false]
abbrev qJ12_b10 : Array Bool := #[true, true, true, true, true, true, true, true, true, true, false, false, false, false, false, false, false, false, false, false, false, false, false, false, false, false, false, false, false, false, false, false, false, false]
abbrev qJ12_b11 : Array Bool := #[true, true, true, true, true, true, true, true, true, true, true, false, false, false, false, false, false, false, false, false, false, false, false, false, false, false, false, false, false, false, false, false, false, false]
abbrev qJ12_b12 : Array Bool := #[true, true, true, true, true, true, true, true, true, true, true, true, false, false, false, false, false, false, false, false, false, false, false, false, false, false, false, false, false, false, false, false, false, false]
abbrev qJ12_b13 : Array Bool := #[true, true, true, true, true, true, true, true, true, true, true, true, true, false, false, false, false, false, false, false, false, false, false, false, false, false, false, false, false, false, false, false, false, false]
abbrev qJ12_b14 : Array Bool := #[true, true, true, true, true, true, true, true, true, true, true, true, true, true, false, false, false, false, false, false, false, false, false, false, false, false, false, false, false, false, false, false, false, false]
abbrev qJ12_b15 : Array Bool := #[true, true, true, true, true, true, true, true, true, true, true, true, true, true, true, false, false, false, false, false, false, false, false, false, false, false, false, false, false, false, false, false, false, false]
abbrev qJ12_b16 : Array Bool := #[true, true, true, true, true, true, true, true, true, true, true, true, true, true, true, true, false, false, false, false, false, false, false, false, false, false, false, false, false, false, false, false, false, false]
abbrev qJ12_b17 : Array Bool := #[true, true, true, true, true, true, true, true, true, true, true, true, true, true, true, true, true, false, false, false, false, false, false, false, false, false, false, false, false, false, false, false, false, false]
abbrev qJ12_b18 : Array Bool := #[true, true, true, true, true, true, true, true, true, true, true, true, true, true, true, true, true, true, false, false, false, false, false, false, false, false, false, false, false, false, false, false, false, false]
abbrev qJ12_b19 : Array Bool := #[true, true, true, true, true, true, true, true, true, true, true, true, true, true, true, true, true, true, true, false, false, false, false, false, false, false, false, false, false, false, false, false, false, false]
abbrev qJ12_b20 : Array Bool := #[true, true, true, true, true, true, true, true, true, true, true, true, true, true, true, true, true, true, true, true, false, false, false, false, false, false, false, false, false, false, false, false, false, false]
abbrev qJ12_b21 : Array Bool := #[true, true, true, true, true, true, true, true, true, true, true, true, true, true, true, true, true, true, true, true, true, false, false, false, false, false, false, false, false, false, false, false, false, false]
abbrev qJ12_b22 : Array Bool := #[true, true, true, true, true, true, true, true, true, true, true, true, true, true, true, true, true, true, true, true, true, true, false, false, false, false, false, false, false, false, false, false, false, false]
abbrev qJ12_b23 : Array Bool := #[true, true, true, true, true, true, true, true, true, true, true, true, true, true, true, true, true, true, true, true, true, true, true, false, false, false, false, false, false, false, false, false, false, false]
abbrev qJ12_b24 : Array Bool := #[true, true, true, true, true, true, true, true, true, true, true, true, true, true, true, true, true, true, true, true, true, true, true, true, false, false, false, false, false, false, false, false, false, false]
abbrev qJ12_b25 : Array Bool := #[true, true, true, true, true, true, true, true, true, true, true, true, true, true, true, true, true, true, true, true, true, true, true, true, true, false, false, false, false, false, false, false, false, false]
abbrev qJ12_b26 : Array Bool := #[true, true, true, true, true, true, true, true, true, true, true, true, true, true, true, true, true, true, true, true, true, true, true, true, true, true, false, false, false, false, false, false, false, false]
abbrev qJ12_b27 : Array Bool := #[true, true, true, true, true, true, true, true, true, true, true, true, true, true, true, true, true, true, true, true, true, true, true, true, true, true, true, false, false, false, false, false, false, false]
abbrev qJ12_b28 : Array Bool := #[true, true, true, true, true, true, true, true, true, true, true, true, true, true, true, true, true, true, true, true, true, true, true, true, true, true, true, true, false, false, false, false, false, false]
abbrev qJ12_b29 : Array Bool := #[true, true, true, true, true, true, true, true, true, true, true, true, true, true, true, true, true, true, true, true, true, true, true, true, true, true, true, true, true, false, false, false, false, false]
abbrev qJ12_b30 : Array Bool := #[true, true, true, true, true, true, true, true, true, true, true, true, true, true, true, true, true, true, true, true, true, true, true, true, true, true, true, true, true, true, false, false, false, false]
abbrev qJ12_b31 : Array Bool := #[true, true, true, true, true, true, true, true, true, true, true, true, true, true, true, true, true, true, true, true, true, true, true, true, true, true, true, true, true, true, true, false, false, false]
abbrev qJ12_b32 : Array Bool := #[true, true, true, true, true, true, true, true, true, true, true, true, true, true, true, true, true, true, true, true, true, true, true, true, true, true, true, true, true, true, true, true, false, false]
abbrev qJ12_b33 : Array Bool := #[true, true, true, true, true, true, true, true, true, true, true, true, true, true, true, true, true, true, true, true, true, true, true, true, true, true, true, true, true, true, true, true, true, false]
abbrev qJ12_b34 : Array Bool := #[true, true, true, true, true, true, true, true, true, true, true, true, true, true, true, true, true, true, true, true, true, true, true, true, true, true, true, true, true, true, true, true, true, true]
abbrev qJ12_b35 : Array Bool := #[true, true, true, true, true, true, true, true, true, true, true, true, true, true, true, true, true, true, true, true, true, true, true, true, false, false, false, true, false, false, false, false, false, false]
abbrev qJ12_b36 : Array Bool := #[true, true, true, true, true, true, true, true, true, true, true, true, true, true, true, true, true, true, true, true, true, true, true, true, false, false, false, true, true, false, false, false, false, false]
abbrev qJ12_b37 : Array Bool := #[true, true, true, true, true, true, true, true, true, true, true, true, true, true, true, true, true, true, true, true, true, true, true, true, false, false, false, true, true, true, false, false, false, false]
abbrev qJ12_b38 : Array Bool := #[true, true, true, true, true, true, true, true, true, true, true, true, true, true, true, true, true, true, true, true, true, true, true, true, true, false, false, true, true, true, false, false, false, false]
abbrev qJ12_b39 : Array Bool := #[true, true, true, true, true, true, true, true, true, true, true, true, true, true, true, true, true, true, true, true, true, true, true, true, true, true, false, true, true, true, false, false, false, false]
attribute [local go_sem] max2_int min2_int max_two min_two max_three min_three max_four min_four   -- for this text's walks alone
set_option linter.unusedVariables false
set_option linter.unusedSimpArgs false

/-! ### spec_l16Rigging: function 59 -/
def spec_l16Rigging.l0 : Nat → List (S36) → List Int → List Int → Int → Option (Bool)
 | 0, _, _, _, _ => none
 | k + 1, x0, x1, x2, x7 => if x7 < (x2.length : Int) then (if 0 ≤ x7 then ((spec_l1In.f (rd x2 x7) 0 (wrap64 ((x1.length : Int) - 1))).bind fun t400 => (if t400 = true then (if x7 ≤ (x2.length : Int) then ((spec_l1Has.f k (x2.take (x7 : Int).toNat) (rd x2 x7)).bind fun t403 => (if t403 = true then (some false) else (if 0 ≤ (rd x2 x7) then (if (rd x2 x7) < (x1.length : Int) then (if x7 < (x0.length : Int) then ((spec_l16Need.f ((rd_T36 x0 x7).f0) ((rd_T36 x0 x7).f1)).bind fun t407 => (if (rd x1 (rd x2 x7)) < t407 then (some false) else (spec_l16Rigging.l0 k x0 x1 x2 (wrap64 (x7 + 1))))) else (none)) else (none)) else (none)))) else (none)) else (some false))) else (none)) else (some true)
def spec_l16Rigging.f (k : Nat) (l0 : List (S36)) (l1 : List Int) (l2 : List Int) : Option (Bool) := if (l2.length : Int) = (l0.length : Int) then (spec_l16Rigging.l0 k l0 l1 l2 0) else (some false)
theorem spec_l16Rigging.mono_l : ∀ k, (∀ y0 y1 y2 y3, LeO (spec_l16Rigging.l0 k y0 y1 y2 y3) (spec_l16Rigging.l0 (k + 1) y0 y1 y2 y3))
 | 0 => fun _ _ _ _ r h => by simp [spec_l16Rigging.l0] at h
 | k + 1 => by
  have ih0 := spec_l16Rigging.mono_l k
  ·intro y0 y1 y2 y3
   unfold spec_l16Rigging.l0
   repeat' first
   | (with_reducible exact ih0 _ _ _ _)
   | (with_reducible exact spec_l1Has.mono _ _ _)
   | (with_reducible exact LeO.refl _)
   | (with_reducible exact LeO.none _)
   | (with_reducible refine LeO.ite ?_ ?_)
   | (with_reducible refine LeO.bind ?_ (fun _ => ?_))
   | exact ih0 _ _ _ _
   | exact spec_l1Has.mono _ _ _
   | exact LeO.none _
   | refine LeO.ite ?_ ?_
   | refine LeO.bind ?_ (fun _ => ?_)
theorem spec_l16Rigging.mono : ∀ a0 a1 a2 k, LeO (spec_l16Rigging.f k a0 a1 a2) (spec_l16Rigging.f (k + 1) a0 a1 a2) := by
 intro a0 a1 a2 k
 have ih0 := spec_l16Rigging.mono_l k
 unfold spec_l16Rigging.f
 repeat' first
   | (with_reducible exact ih0 _ _ _ _)
   | (with_reducible exact spec_l1Has.mono _ _ _)
   | (with_reducible exact LeO.refl _)
   | (with_reducible exact LeO.none _)
   | (with_reducible refine LeO.ite ?_ ?_)
   | (with_reducible refine LeO.bind ?_ (fun _ => ?_))
   | exact ih0 _ _ _ _
   | exact spec_l1Has.mono _ _ _
   | exact LeO.none _
   | refine LeO.ite ?_ ?_
   | refine LeO.bind ?_ (fun _ => ?_)
def spec_l16Rigging.T6 : Bool × List (List Nat × List Nat) := (true, [([], []), ([], []), ([0, 1], [0, 1]), ([2], [2]), ([], []), ([4], [4]), ([5], [5]), ([3, 6], [3, 6]), ([7], [7]), ([8, 7], [8]), ([9], [9]), ([9], [9]), ([10, 11, 9], [9, 10, 11]), ([9], [9]), ([9], [9]), ([13, 14, 9], [9, 13, 14]), ([15, 9], [9, 15]), ([12, 16, 9, 9], [9, 12, 16]), ([9, 17], [9, 17]), ([18, 17], [18]), ([19], [19]), ([19], [19]), ([19], [19]), ([21, 22, 19], [19, 21, 22]), ([23, 19], [19, 23]), ([20, 24, 19], [19, 20, 24]), ([25, 19], [19, 25]), ([19], [19]), ([19], [19]), ([27, 28, 19], [19, 27, 28]), ([29, 19], [19, 29]), ([30, 19, 19], [19, 30]), ([26, 31, 19], [19, 26, 31]), ([19, 32], [19, 32])])
def spec_l16Rigging.B6 : List Nat := [0, 0, 3, 7, 0, 16, 48, 127, 255, 511, 1023, 1023, 4095, 1023, 1023, 25599, 58367, 131071, 262143, 524287, 1048575, 1048575, 1048575, 7340031, 15728639, 33554431, 67108863, 1048575, 1048575, 403701759, 940572671, 2014314495, 4294967295, 8589934591]
theorem spec_l16Rigging.tab6 : rtab .any (opsOf Try.f59 6) = spec_l16Rigging.T6 := by kernel_rfl
theorem spec_l16Rigging.bits6 : waitsOk spec_l16Rigging.T6.2 spec_l16Rigging.B6 = true := by kernel_rfl
set_option maxHeartbeats 8000000 in
set_option maxRecDepth 100000 in
theorem spec_l16Rigging.calls (k : Nat) (A0 : Option Addr) (c0 : Nat) (l0 : List (S36)) (A1 : Option Addr) (c1 : Nat) (l1 : List Int) (A2 : Option Addr) (c2 : Nat) (l2 : List Int) (r : Bool) (w : World) (hr0 : Kd.C k36 w A0 l0.length l0) (hc0 : l0.length ≤ c0) (hr1 : Kd.C (Kd.int .i64) w A1 l1.length l1) (hc1 : l1.length ≤ c1) (hr2 : Kd.C (Kd.int .i64) w A2 l2.length l2) (hc2 : l2.length ≤ c2) (h : spec_l16Rigging.f k l0 l1 l2 = some r) :
  Calls Try.prog 59 #[.slice A0 l0.length c0, .slice A1 l1.length c1, .slice A2 l2.length c2] w fun e w' => e = .returned (.bool r) ∧ Below w.heap.size w w' := by
 have hu36 := Try.underlying36
 have HR0 := Aside0.mk hr0; have HC0 := Aside0.mk hc0; clear hr0 hc0; have HR1 := Aside0.mk hr1; have HC1 := Aside0.mk hc1; clear hr1 hc1; have HR2 := Aside0.mk hr2; have HC2 := Aside0.mk hc2; clear hr2 hc2
 have HB := Aside0.mk (Below.refl w.heap.size w)
 have H : (if (l2.length : Int) = (l0.length : Int) then (spec_l16Rigging.l0 k l0 l1 l2 0) else (some false)) = some r := h
 clear h
 by_cases c4 : (l2.length : Int) = (l0.length : Int)
 ·rw [if_pos c4] at H
  have c4b0 : ((l2.length : Int) == (l0.length : Int)) = true := beq_iff_eq.mpr c4
  have c4b1 : ((l2.length : Int) != (l0.length : Int)) = false := bne_eq_false_iff_eq.mpr c4
  have c4b2 : (l2.length == l0.length) = true := by first | simpa using c4 | (simp at c4 ⊢; omega)
  clear c4
  have H' := Aside0.mk H
  clear H
  go_enter Try.func59, Try.ntmps59
  go_wp2
  go_loopg [7] k (fun kq v7 w' => ∃ (x7_1 : Int), v7 = .int .i64 x7_1 ∧ Aside0 (spec_l16Rigging.l0 kq l0 l1 l2 x7_1 = some r) ∧ Aside0 (kq ≤ k) ∧ Aside0 (Below w.heap.size w w'))
  case atStart => exact ⟨(0), (by first | rfl | (simp; done) | (simp [*]; done)), H', ⟨Nat.le_refl _⟩, ⟨(qJ12_2)⟩⟩
  case round =>
   clear H'
   try clear c1
   try clear c2
   try clear p2
   try clear c4
   try clear c4b0
   try clear c4b1
   try clear c4b2
   obtain ⟨x7_1, rfl, HA, HK1, HB⟩ := hrel
   cases gk with
   | zero => exact absurd HA.out (by simp [spec_l16Rigging.l0])
   | succ k1 =>
    have H := HA.out
    clear HA
    simp only [spec_l16Rigging.l0] at H
    by_cases c5 : x7_1 < (l2.length : Int)
    ·rw [if_pos c5] at H
     have c5b0 : decide (x7_1 < (l2.length : Int)) = true := decide_eq_true c5
     clear c5
     by_cases c6 : 0 ≤ x7_1
     ·rw [if_pos c6] at H
      have c6b0 : decide (0 ≤ x7_1) = true := decide_eq_true c6
      clear c6; replace H := Option.bind_eq_some_iff.mp H; obtain ⟨t400, A70, H⟩ := H
      try dsimp only at H
      have A7 := Aside0.mk A70; clear A70
      by_cases c8 : t400 = true
      ·subst c8
       have H1 : (if x7_1 ≤ (l2.length : Int) then ((spec_l1Has.f k1 (l2.take (x7_1 : Int).toNat) (rd l2 x7_1)).bind fun t403 => (if t403 = true then (some false) else (if 0 ≤ (rd l2 x7_1) then (if (rd l2 x7_1) < (l1.length : Int) then (if x7_1 < (l0.length : Int) then ((spec_l16Need.f ((rd_T36 l0 x7_1).f0) ((rd_T36 l0 x7_1).f1)).bind fun t407 => (if (rd l1 (rd l2 x7_1)) < t407 then (some false) else (spec_l16Rigging.l0 k1 l0 l1 l2 (wrap64 (x7_1 + 1))))) else (none)) else (none)) else (none)))) else (none)) = some r := by rw [if_pos rfl] at H; exact H
       clear H; have H := H1; clear H1
       have c9b0 := eq_true (of_decide_eq_true (qJ12_1) : 0 ≤ x7_1)
       by_cases c10 : x7_1 ≤ (l2.length : Int)
       ·rw [if_pos c10] at H
        have c10b0 := eq_true c10
        have c10b1 : decide (x7_1 ≤ (l2.length : Int)) = true := decide_eq_true c10
        clear c10; replace H := Option.bind_eq_some_iff.mp H; obtain ⟨t403, A110, H⟩ := H
        try dsimp only at H
        have A11 := Aside0.mk A110; clear A110
        by_cases c12 : t403 = true
        ·subst c12
         have H1 : (some false) = some r := by rw [if_pos rfl] at H; exact H
         clear H; have H := H1; clear H1; obtain rfl := Option.some.inj H
         try go_wp2
         have n0_ := Aside0.mk (below_drew1 HB.out)
         clear HB
         have HB := n0_
         clear n0_
         have p399 : 0 ≤ (x7_1 : Int) := of_decide_eq_true (qJ12_1)
         have q399 : x7_1 < (l2.length : Int) := of_decide_eq_true (qJ12_1)
         obtain ⟨ad399, e399, hx399_0⟩ := Kd.at_int HR2.out x7_1 p399 q399
         have hw399_0 := hx399_0
         cases e399
         replace hx399_0 := (HB.out.cell (World.block_lt_of_cell? w _ hx399_0)).trans hx399_0
         replace p399 := eq_true p399
         replace q399 := eq_true q399
         have p402 : 0 ≤ (x7_1 : Int) := of_decide_eq_true (qJ12_1)
         have q402 : x7_1 < (l2.length : Int) := of_decide_eq_true (qJ12_1)
         obtain ⟨ad402, e402, hx402_0⟩ := Kd.at_int HR2.out x7_1 p402 q402
         have hw402_0 := hx402_0
         obtain rfl : ad399 = ad402 := (by injection e402)
         replace hx402_0 := (HB.out.cell (World.block_lt_of_cell? w _ hx402_0)).trans hx402_0
         replace p402 := eq_true p402
         replace q402 := eq_true q402
         refine start_ (n := 34) (S := fun w' => w'.cell? (ad399.add (x7_1).toNat) = some (.int .i64 (rd l2 x7_1)) ∧ w'.cell? (ad399.add (x7_1).toNat) = some (.int .i64 (rd l2 x7_1))) (ds := []) qJ12_b0 (by kernel_rfl) rfl rfl ⟨((HB.out.cell (World.block_lt_of_cell? w _ hw399_0)).trans hw399_0), ((HB.out.cell (World.block_lt_of_cell? w _ hw402_0)).trans hw402_0)⟩ (fun hHeld => ?_); refine with_tabW spec_l16Rigging.tab6 spec_l16Rigging.bits6 (fun HT_ HW_ => ?_)
         generalize wr.drew = w13 at HB hx399_0 hx402_0 hHeld ⊢
         refine pure_ (i := 0) (N := some 19) (v := ?_) (a' := ?_) qJ12_b1 rfl rfl (qJ12_0) (fun _ _ _ h => h) (Or.inl ⟨by rfl, ?_⟩) ?_ ?_
         rotate_left; exact qJ12_c1; rotate_left; exact qJ12_c0
         refine pure_ (i := 1) (N := some 20) (v := ?_) (a' := ?_) qJ12_b2 rfl rfl (qJ12_0) (fun _ _ _ h => h) (Or.inl ⟨by rfl, ?_⟩) ?_ ?_
         rotate_left; exact qJ12_c1; rotate_left; exact qJ12_c0
         refine pure_ (i := 2) (N := some 21) (v := ?_) (a' := ?_) qJ12_b3 rfl rfl (qJ12_0) (fun _ _ _ h => h) (Or.inl ⟨by rfl, ?_⟩) ?_ ?_
         rotate_left; exact qJ12_c1; rotate_left; exact qJ12_c0
         refine pure_ (i := 4) (N := some 23) (v := ?_) (a' := ?_) qJ12_b4 rfl rfl (qJ12_0) (fun _ _ _ h => h) (Or.inl ⟨by rfl, ?_⟩) ?_ ?_
         rotate_left; exact qJ12_c1; rotate_left; exact qJ12_c0
         refine pure_ (i := 5) (N := some 24) (v := ?_) (a' := ?_) qJ12_b5 rfl rfl (qJ12_0) (fun _ _ _ h => h) (Or.inl ⟨by rfl, ?_⟩) ?_ ?_
         rotate_left; exact qJ12_c1; rotate_left; exact qJ12_c0
         refine pure_ (i := 6) (N := some 25) (v := ?_) (a' := ?_) qJ12_b6 rfl rfl (qJ12_0) (fun _ _ _ h => h) (Or.inl ⟨by rfl, ?_⟩) ?_ ?_
         rotate_left; exact qJ12_c1; rotate_left; exact qJ12_c0
         refine take_ (i := 3) (N := some 22) (v := ?_) (a' := ?_) qJ12_b7 rfl rfl (take_ofW HT_.out HW_.out (by kernel_rfl)) (fun _ _ _ h => h) (Or.inl ⟨by rfl, ?_⟩) hHeld ?_ ?_
         rotate_left
         ·rintro w' ⟨s0, s1⟩
          go_simp
          with_reducible rfl
         rotate_left
         ·exact qJ12_c0
         refine one_ (i := 7) (N := some 26) qJ12_b8 rfl rfl (qJ12_7) (by decide) (fun K hK => ?_)
         refine goes_ Try.func68 (by kernel_rfl) rfl #[.int .i64 (rd l2 x7_1), .int .i64 0, .int .i64 (wrap64 ((l1.length : Int) - 1))] (by rfl) rfl rfl (qJ12_3) ?_
         with_reducible refine (spec_l1In.calls (rd l2 x7_1) 0 (wrap64 ((l1.length : Int) - 1)) true _ A7.out).mono ?_
         rintro e w' ⟨rfl, ⟨nd, rfl⟩⟩
         refine ⟨_, rfl, ?_⟩
         obtain ⟨i014, hi014, _, hsz14, _⟩ := info_parts info3
         obtain ⟨hcut14, hA14, hC14⟩ := print_take_of (P := Try.prog) (Value.int .i64) 0 23 3 .i64 Try.underlying23 hi014 hsz14 (some ad399) c2 l2 x7_1 (of_decide_eq_true (qJ12_1)) (of_decide_eq_true (qJ12_1)) HC2.out
         have HR401 := Aside0.mk (Kd.C_of_reads (h1 := fun _ => rfl) (hA14 _ (Kd.reads_of_C HR2.out)))
         have HC401 := Aside0.mk hC14; clear hA14 hC14 hi014 hsz14
         refine hK.out _ _ ⟨((HB.out.cell (World.block_lt_of_cell? w _ hw399_0)).trans hw399_0), ((HB.out.cell (World.block_lt_of_cell? w _ hw402_0)).trans hw402_0)⟩ (fun hHeld => ?_)
         clear hK K
         refine norm_ (a' := ?_) ?_ ?_
         rotate_left
         ·exact qJ12_c3
         refine pure_ (i := 8) (N := some 27) (v := ?_) (a' := ?_) qJ12_b9 rfl rfl (qJ12_0) (fun _ _ _ h => h) (Or.inl ⟨by rfl, ?_⟩) ?_ ?_
         rotate_left; exact qJ12_c1; rotate_left; exact qJ12_c0
         refine pure_ (i := 9) (N := some 28) (v := ?_) (a' := ?_) qJ12_b10 rfl rfl (qJ12_0) (fun _ _ _ h => h) (Or.inl ⟨by rfl, ?_⟩) ?_ ?_
         rotate_left; exact qJ12_c1; rotate_left; exact qJ12_c0
         refine pure_ (i := 10) (N := some 29) (v := ?_) (a' := ?_) qJ12_b11 rfl rfl (qJ12_0) (fun _ _ _ h => h) (Or.inl ⟨by rfl, ?_⟩) ?_ ?_
         rotate_left; exact qJ12_c1; rotate_left; exact qJ12_c0
         refine pure_ (i := 11) (N := some 30) (v := ?_) (a' := ?_) qJ12_b12 rfl rfl (qJ12_0) (fun _ _ _ h => h) (Or.inl ⟨by rfl, ?_⟩) ?_ ?_
         rotate_left; exact qJ12_c1; rotate_left; exact qJ12_c0
         refine pure_ (i := 12) (N := some 31) (v := ?_) (a' := ?_) qJ12_b13 rfl rfl (qJ12_0) (fun _ _ _ h => h) (Or.inl ⟨by rfl, ?_⟩) ?_ ?_
         rotate_left; exact qJ12_c1; rotate_left; exact qJ12_c0
         refine pure_ (i := 13) (N := some 32) (v := ?_) (a' := ?_) qJ12_b14 rfl rfl (qJ12_0) (fun _ _ _ h => h) (Or.inl ⟨by rfl, ?_⟩) ?_ ?_
         rotate_left; exact qJ12_c1; rotate_left; exact qJ12_c0
         refine pure_ (i := 14) (N := some 33) (v := ?_) (a' := ?_) qJ12_b15 rfl rfl (qJ12_0) (fun _ _ _ h => h) (Or.inl ⟨by rfl, ?_⟩) ?_ ?_
         rotate_left; exact qJ12_c1; rotate_left; exact qJ12_c0
         refine pure_ (i := 15) (N := some 34) (v := ?_) (a' := ?_) qJ12_b16 rfl rfl (qJ12_0) (fun _ _ _ h => h) (Or.inl ⟨by rfl, ?_⟩) ?_ ?_
         rotate_left; exact qJ12_c1; rotate_left; exact qJ12_c0
         refine take_ (i := 16) (N := some 35) (v := ?_) (a' := ?_) qJ12_b17 rfl rfl (take_ofW HT_.out HW_.out (by kernel_rfl)) (fun _ _ _ h => h) (Or.inl ⟨by rfl, ?_⟩) hHeld ?_ ?_
         rotate_left
         ·rintro w' ⟨s0, s1⟩
          go_simp
          with_reducible rfl
         rotate_left
         ·exact qJ12_c0
         refine one_ (i := 17) (N := some 36) qJ12_b18 rfl rfl (qJ12_7) (by decide) (fun K hK => ?_)
         refine goes_ Try.func71 (by kernel_rfl) rfl #[.slice (some ad399) (l2.take (x7_1 : Int).toNat).length c2, .int .i64 (rd l2 x7_1)] (by rfl) rfl rfl (qJ12_4) ?_
         with_reducible refine (spec_l1Has.calls k1 _ _ (l2.take (x7_1 : Int).toNat) (rd l2 x7_1) true _ ?side1 ?side2 A11.out).mono ?_
         (case side1 => exact (qJ12_6))
         (case side2 => exact HC401.out)
         rintro e w' ⟨rfl, ⟨nd, rfl⟩⟩
         refine ⟨_, rfl, ?_⟩
         refine hK.out _ _ ⟨((HB.out.cell (World.block_lt_of_cell? w _ hw399_0)).trans hw399_0), ((HB.out.cell (World.block_lt_of_cell? w _ hw402_0)).trans hw402_0)⟩ (fun hHeld => ?_)
         clear hK K
         refine norm_ (a' := ?_) ?_ ?_
         rotate_left
         ·exact qJ12_c4
         refine pure_ (i := 18) (N := some 37) (v := ?_) (a' := ?_) qJ12_b19 rfl rfl (qJ12_0) (fun _ _ _ h => h) (Or.inl ⟨by rfl, ?_⟩) ?_ ?_
         rotate_left; exact qJ12_c1; rotate_left; exact qJ12_c0
         refine pure_ (i := 19) (N := some 38) (v := ?_) (a' := ?_) qJ12_b20 rfl rfl (qJ12_0) (fun _ _ _ h => h) (Or.inl ⟨by rfl, ?_⟩) ?_ ?_
         rotate_left; exact qJ12_c1; rotate_left; exact qJ12_c0
         refine pure_ (i := 20) (N := some 39) (v := undef) (a' := ?_) qJ12_b21 rfl rfl (qJ12_0) (fun _ _ _ h => h) (Or.inr ⟨by rfl, rfl⟩) ?_ ?_
         rotate_left
         ·exact qJ12_c0
         refine pure_ (i := 21) (N := some 40) (v := undef) (a' := ?_) qJ12_b22 rfl rfl (qJ12_0) (fun _ _ _ h => h) (Or.inr ⟨by rfl, rfl⟩) ?_ ?_
         rotate_left
         ·exact qJ12_c0
         refine pure_ (i := 22) (N := some 41) (v := undef) (a' := ?_) qJ12_b23 rfl rfl (qJ12_0) (fun _ _ _ h => h) (Or.inr ⟨by rfl, rfl⟩) ?_ ?_
         rotate_left
         ·exact qJ12_c0
         refine pure_ (i := 23) (N := some 42) (v := undef) (a' := ?_) qJ12_b24 rfl rfl (qJ12_0) (fun _ _ _ h => h) (Or.inr ⟨by rfl, rfl⟩) ?_ ?_
         rotate_left
         ·exact qJ12_c0
         refine pure_ (i := 24) (N := some 43) (v := undef) (a' := ?_) qJ12_b25 rfl rfl (qJ12_0) (fun _ _ _ h => h) (Or.inr ⟨by rfl, rfl⟩) ?_ ?_
         rotate_left
         ·exact qJ12_c0
         refine pure_ (i := 25) (N := some 44) (v := undef) (a' := ?_) qJ12_b26 rfl rfl (qJ12_0) (fun _ _ _ h => h) (Or.inr ⟨by rfl, rfl⟩) ?_ ?_
         rotate_left
         ·exact qJ12_c0
         refine pure_ (i := 26) (N := some 45) (v := undef) (a' := ?_) qJ12_b27 rfl rfl (qJ12_0) (fun _ _ _ h => h) (Or.inr ⟨by rfl, rfl⟩) ?_ ?_
         rotate_left
         ·exact qJ12_c0
         refine pure_ (i := 27) (N := some 46) (v := undef) (a' := ?_) qJ12_b28 rfl rfl (qJ12_0) (fun _ _ _ h => h) (Or.inr ⟨by rfl, rfl⟩) ?_ ?_
         rotate_left
         ·exact qJ12_c0
         refine pure_ (i := 28) (N := some 47) (v := undef) (a' := ?_) qJ12_b29 rfl rfl (qJ12_0) (fun _ _ _ h => h) (Or.inr ⟨by rfl, rfl⟩) ?_ ?_
         rotate_left
         ·exact qJ12_c0
         refine pure_ (i := 29) (N := some 48) (v := undef) (a' := ?_) qJ12_b30 rfl rfl (qJ12_0) (fun _ _ _ h => h) (Or.inr ⟨by rfl, rfl⟩) ?_ ?_
         rotate_left
         ·exact qJ12_c0
         refine pure_ (i := 30) (N := some 49) (v := undef) (a' := ?_) qJ12_b31 rfl rfl (qJ12_0) (fun _ _ _ h => h) (Or.inr ⟨by rfl, rfl⟩) ?_ ?_
         rotate_left
         ·exact qJ12_c0
         refine pure_ (i := 31) (N := some 50) (v := undef) (a' := ?_) qJ12_b32 rfl rfl (qJ12_0) (fun _ _ _ h => h) (Or.inr ⟨by rfl, rfl⟩) ?_ ?_
         rotate_left
         ·exact qJ12_c0
         refine pure_ (i := 32) (N := some 51) (v := undef) (a' := ?_) qJ12_b33 rfl rfl (qJ12_0) (fun _ _ _ h => h) (Or.inr ⟨by rfl, rfl⟩) ?_ ?_
         rotate_left
         ·exact qJ12_c0
         refine pure_ (i := 33) (N := some 52) (v := ?_) (a' := ?_) qJ12_b34 rfl rfl (qJ12_0) (fun _ _ _ h => h) (Or.inl ⟨by rfl, ?_⟩) ?_ ?_
         rotate_left; exact qJ12_c1; rotate_left; exact qJ12_c0
         refine done_ (qJ12_8) ?_
         try go_wp2
         go_ret
         exact ⟨(qJ12_5), (qJ12_2)⟩
        ·replace c12 := Bool.eq_false_iff.mpr c12
         subst c12
         have H1 : (if 0 ≤ (rd l2 x7_1) then (if (rd l2 x7_1) < (l1.length : Int) then (if x7_1 < (l0.length : Int) then ((spec_l16Need.f ((rd_T36 l0 x7_1).f0) ((rd_T36 l0 x7_1).f1)).bind fun t407 => (if (rd l1 (rd l2 x7_1)) < t407 then (some false) else (spec_l16Rigging.l0 k1 l0 l1 l2 (wrap64 (x7_1 + 1))))) else (none)) else (none)) else (none)) = some r := by rw [if_neg (show ¬ (false = true) by decide)] at H; exact H
         clear H; have H := H1; clear H1
         by_cases c15 : 0 ≤ (rd l2 x7_1)
         ·rw [if_pos c15] at H
          have c15b0 : decide (0 ≤ (rd l2 x7_1)) = true := decide_eq_true c15
          clear c15
          by_cases c16 : (rd l2 x7_1) < (l1.length : Int)
          ·rw [if_pos c16] at H
           have c16b0 : decide ((rd l2 x7_1) < (l1.length : Int)) = true := decide_eq_true c16
           clear c16
           by_cases c17 : x7_1 < (l0.length : Int)
           ·rw [if_pos c17] at H
            have c17b0 : decide (x7_1 < (l0.length : Int)) = true := decide_eq_true c17
            clear c17; replace H := Option.bind_eq_some_iff.mp H; obtain ⟨t407, A180, H⟩ := H
            try dsimp only at H
            have A18 := Aside0.mk A180; clear A180
            by_cases c19 : (rd l1 (rd l2 x7_1)) < t407
            ·rw [if_pos c19] at H
             have c19b0 : decide ((rd l1 (rd l2 x7_1)) < t407) = true := decide_eq_true c19
             clear c19; obtain rfl := Option.some.inj H
             try go_wp2
             have n0_ := Aside0.mk (below_drew1 HB.out)
             clear HB
             have HB := n0_
             clear n0_
             have p399 : 0 ≤ (x7_1 : Int) := of_decide_eq_true (qJ12_1)
             have q399 : x7_1 < (l2.length : Int) := of_decide_eq_true (qJ12_1)
             obtain ⟨ad399, e399, hx399_0⟩ := Kd.at_int HR2.out x7_1 p399 q399
             have hw399_0 := hx399_0
             cases e399
             replace hx399_0 := (HB.out.cell (World.block_lt_of_cell? w _ hx399_0)).trans hx399_0
             replace p399 := eq_true p399
             replace q399 := eq_true q399
             have p402 : 0 ≤ (x7_1 : Int) := of_decide_eq_true (qJ12_1)
             have q402 : x7_1 < (l2.length : Int) := of_decide_eq_true (qJ12_1)
             obtain ⟨ad402, e402, hx402_0⟩ := Kd.at_int HR2.out x7_1 p402 q402
             have hw402_0 := hx402_0
             obtain rfl : ad399 = ad402 := (by injection e402)
             replace hx402_0 := (HB.out.cell (World.block_lt_of_cell? w _ hx402_0)).trans hx402_0
             replace p402 := eq_true p402
             replace q402 := eq_true q402
             have p404 : 0 ≤ (x7_1 : Int) := of_decide_eq_true (qJ12_1)
             have q404 : x7_1 < (l2.length : Int) := of_decide_eq_true (qJ12_1)
             obtain ⟨ad404, e404, hx404_0⟩ := Kd.at_int HR2.out x7_1 p404 q404
             have hw404_0 := hx404_0
             obtain rfl : ad399 = ad404 := (by injection e404)
             replace hx404_0 := (HB.out.cell (World.block_lt_of_cell? w _ hx404_0)).trans hx404_0
             replace p404 := eq_true p404
             replace q404 := eq_true q404
             have p405 : 0 ≤ ((rd l2 x7_1) : Int) := of_decide_eq_true (qJ12_1)
             have q405 : (rd l2 x7_1) < (l1.length : Int) := of_decide_eq_true (qJ12_1)
             obtain ⟨ad405, e405, hx405_0⟩ := Kd.at_int HR1.out (rd l2 x7_1) p405 q405
             have hw405_0 := hx405_0
             cases e405
             replace hx405_0 := (HB.out.cell (World.block_lt_of_cell? w _ hx405_0)).trans hx405_0
             replace p405 := eq_true p405
             replace q405 := eq_true q405
             have p406 : 0 ≤ (x7_1 : Int) := of_decide_eq_true (qJ12_1)
             have q406 : x7_1 < (l0.length : Int) := of_decide_eq_true (qJ12_1)
             obtain ⟨ad406, e406, hx406_0, hx406_1⟩ := at_T36 HR0.out x7_1 p406 q406
             have hw406_1 := hx406_1
             have hw406_0 := hx406_0
             cases e406
             replace hx406_0 := (HB.out.cell (World.block_lt_of_cell? w _ hx406_0)).trans hx406_0
             replace hx406_1 := (HB.out.cell (World.block_lt_of_cell? w _ hx406_1)).trans hx406_1
             replace p406 := eq_true p406
             replace q406 := eq_true q406
             refine start_ (n := 34) (S := fun w' => w'.cell? (ad399.add (x7_1).toNat) = some (.int .i64 (rd l2 x7_1)) ∧ w'.cell? (ad399.add (x7_1).toNat) = some (.int .i64 (rd l2 x7_1)) ∧ w'.cell? (ad399.add (x7_1).toNat) = some (.int .i64 (rd l2 x7_1)) ∧ w'.cell? (ad405.add ((rd l2 x7_1)).toNat) = some (.int .i64 (rd l1 (rd l2 x7_1))) ∧ w'.cell? (ad406.add ((x7_1).toNat * 2)) = some (.int .i64 ((rd_T36 l0 x7_1).f0)) ∧ w'.cell? ⟨(ad406.add ((x7_1).toNat * 2)).block, (ad406.add ((x7_1).toNat * 2)).off + 1, none⟩ = some (.int .i64 ((rd_T36 l0 x7_1).f1))) (ds := []) qJ12_b0 (by kernel_rfl) rfl rfl ⟨((HB.out.cell (World.block_lt_of_cell? w _ hw399_0)).trans hw399_0), ((HB.out.cell (World.block_lt_of_cell? w _ hw402_0)).trans hw402_0), ((HB.out.cell (World.block_lt_of_cell? w _ hw404_0)).trans hw404_0), ((HB.out.cell (World.block_lt_of_cell? w _ hw405_0)).trans hw405_0), ((HB.out.cell (World.block_lt_of_cell? w _ hw406_0)).trans hw406_0), ((HB.out.cell (World.block_lt_of_cell? w _ hw406_1)).trans hw406_1)⟩ (fun hHeld => ?_); refine with_tabW spec_l16Rigging.tab6 spec_l16Rigging.bits6 (fun HT_ HW_ => ?_)
             generalize wr.drew = w20 at HB hx399_0 hx402_0 hx404_0 hx405_0 hx406_0 hx406_1 hHeld ⊢
             refine pure_ (i := 0) (N := some 19) (v := ?_) (a' := ?_) qJ12_b1 rfl rfl (qJ12_0) (fun _ _ _ h => h) (Or.inl ⟨by rfl, ?_⟩) ?_ ?_
             rotate_left; exact qJ12_c1; rotate_left; exact qJ12_c0
             refine pure_ (i := 1) (N := some 20) (v := ?_) (a' := ?_) qJ12_b2 rfl rfl (qJ12_0) (fun _ _ _ h => h) (Or.inl ⟨by rfl, ?_⟩) ?_ ?_
             rotate_left; exact qJ12_c1; rotate_left; exact qJ12_c0
             refine pure_ (i := 2) (N := some 21) (v := ?_) (a' := ?_) qJ12_b3 rfl rfl (qJ12_0) (fun _ _ _ h => h) (Or.inl ⟨by rfl, ?_⟩) ?_ ?_
             rotate_left; exact qJ12_c1; rotate_left; exact qJ12_c0
             refine pure_ (i := 4) (N := some 23) (v := ?_) (a' := ?_) qJ12_b4 rfl rfl (qJ12_0) (fun _ _ _ h => h) (Or.inl ⟨by rfl, ?_⟩) ?_ ?_
             rotate_left; exact qJ12_c1; rotate_left; exact qJ12_c0
             refine pure_ (i := 5) (N := some 24) (v := ?_) (a' := ?_) qJ12_b5 rfl rfl (qJ12_0) (fun _ _ _ h => h) (Or.inl ⟨by rfl, ?_⟩) ?_ ?_
             rotate_left; exact qJ12_c1; rotate_left; exact qJ12_c0
             refine pure_ (i := 6) (N := some 25) (v := ?_) (a' := ?_) qJ12_b6 rfl rfl (qJ12_0) (fun _ _ _ h => h) (Or.inl ⟨by rfl, ?_⟩) ?_ ?_
             rotate_left; exact qJ12_c1; rotate_left; exact qJ12_c0
             refine take_ (i := 3) (N := some 22) (v := ?_) (a' := ?_) qJ12_b7 rfl rfl (take_ofW HT_.out HW_.out (by kernel_rfl)) (fun _ _ _ h => h) (Or.inl ⟨by rfl, ?_⟩) hHeld ?_ ?_
             rotate_left; exact qJ12_c2; rotate_left; exact qJ12_c0
             refine one_ (i := 7) (N := some 26) qJ12_b8 rfl rfl (qJ12_7) (by decide) (fun K hK => ?_)
             refine goes_ Try.func68 (by kernel_rfl) rfl #[.int .i64 (rd l2 x7_1), .int .i64 0, .int .i64 (wrap64 ((l1.length : Int) - 1))] (by rfl) rfl rfl (qJ12_3) ?_
             with_reducible refine (spec_l1In.calls (rd l2 x7_1) 0 (wrap64 ((l1.length : Int) - 1)) true _ A7.out).mono ?_
             rintro e w' ⟨rfl, ⟨nd, rfl⟩⟩
             refine ⟨_, rfl, ?_⟩
             obtain ⟨i021, hi021, _, hsz21, _⟩ := info_parts info3
             obtain ⟨hcut21, hA21, hC21⟩ := print_take_of (P := Try.prog) (Value.int .i64) 0 23 3 .i64 Try.underlying23 hi021 hsz21 (some ad399) c2 l2 x7_1 (of_decide_eq_true (qJ12_1)) (of_decide_eq_true (qJ12_1)) HC2.out
             have HR401 := Aside0.mk (Kd.C_of_reads (h1 := fun _ => rfl) (hA21 _ (Kd.reads_of_C HR2.out)))
             have HC401 := Aside0.mk hC21; clear hA21 hC21 hi021 hsz21
             refine hK.out _ _ ⟨((HB.out.cell (World.block_lt_of_cell? w _ hw399_0)).trans hw399_0), ((HB.out.cell (World.block_lt_of_cell? w _ hw402_0)).trans hw402_0), ((HB.out.cell (World.block_lt_of_cell? w _ hw404_0)).trans hw404_0), ((HB.out.cell (World.block_lt_of_cell? w _ hw405_0)).trans hw405_0), ((HB.out.cell (World.block_lt_of_cell? w _ hw406_0)).trans hw406_0), ((HB.out.cell (World.block_lt_of_cell? w _ hw406_1)).trans hw406_1)⟩ (fun hHeld => ?_)
             clear hK K
             refine norm_ (a' := ?_) ?_ ?_
             rotate_left
             ·exact qJ12_c3
             refine pure_ (i := 8) (N := some 27) (v := ?_) (a' := ?_) qJ12_b9 rfl rfl (qJ12_0) (fun _ _ _ h => h) (Or.inl ⟨by rfl, ?_⟩) ?_ ?_
             rotate_left; exact qJ12_c1; rotate_left; exact qJ12_c0
             refine pure_ (i := 9) (N := some 28) (v := ?_) (a' := ?_) qJ12_b10 rfl rfl (qJ12_0) (fun _ _ _ h => h) (Or.inl ⟨by rfl, ?_⟩) ?_ ?_
             rotate_left; exact qJ12_c1; rotate_left; exact qJ12_c0
             refine pure_ (i := 10) (N := some 29) (v := ?_) (a' := ?_) qJ12_b11 rfl rfl (qJ12_0) (fun _ _ _ h => h) (Or.inl ⟨by rfl, ?_⟩) ?_ ?_
             rotate_left; exact qJ12_c1; rotate_left; exact qJ12_c0
             refine pure_ (i := 11) (N := some 30) (v := ?_) (a' := ?_) qJ12_b12 rfl rfl (qJ12_0) (fun _ _ _ h => h) (Or.inl ⟨by rfl, ?_⟩) ?_ ?_
             rotate_left; exact qJ12_c1; rotate_left; exact qJ12_c0
             refine pure_ (i := 12) (N := some 31) (v := ?_) (a' := ?_) qJ12_b13 rfl rfl (qJ12_0) (fun _ _ _ h => h) (Or.inl ⟨by rfl, ?_⟩) ?_ ?_
             rotate_left; exact qJ12_c1; rotate_left; exact qJ12_c0
             refine pure_ (i := 13) (N := some 32) (v := ?_) (a' := ?_) qJ12_b14 rfl rfl (qJ12_0) (fun _ _ _ h => h) (Or.inl ⟨by rfl, ?_⟩) ?_ ?_
             rotate_left; exact qJ12_c1; rotate_left; exact qJ12_c0
             refine pure_ (i := 14) (N := some 33) (v := ?_) (a' := ?_) qJ12_b15 rfl rfl (qJ12_0) (fun _ _ _ h => h) (Or.inl ⟨by rfl, ?_⟩) ?_ ?_
             rotate_left; exact qJ12_c1; rotate_left; exact qJ12_c0
             refine pure_ (i := 15) (N := some 34) (v := ?_) (a' := ?_) qJ12_b16 rfl rfl (qJ12_0) (fun _ _ _ h => h) (Or.inl ⟨by rfl, ?_⟩) ?_ ?_
             rotate_left; exact qJ12_c1; rotate_left; exact qJ12_c0
             refine take_ (i := 16) (N := some 35) (v := ?_) (a' := ?_) qJ12_b17 rfl rfl (take_ofW HT_.out HW_.out (by kernel_rfl)) (fun _ _ _ h => h) (Or.inl ⟨by rfl, ?_⟩) hHeld ?_ ?_
             rotate_left; exact qJ12_c2; rotate_left; exact qJ12_c0
             refine one_ (i := 17) (N := some 36) qJ12_b18 rfl rfl (qJ12_7) (by decide) (fun K hK => ?_)
             refine goes_ Try.func71 (by kernel_rfl) rfl #[.slice (some ad399) (l2.take (x7_1 : Int).toNat).length c2, .int .i64 (rd l2 x7_1)] (by rfl) rfl rfl (qJ12_4) ?_
             with_reducible refine (spec_l1Has.calls k1 _ _ (l2.take (x7_1 : Int).toNat) (rd l2 x7_1) false _ ?side1 ?side2 A11.out).mono ?_
             (case side1 => exact (qJ12_6))
             (case side2 => exact HC401.out)
             rintro e w' ⟨rfl, ⟨nd, rfl⟩⟩
             refine ⟨_, rfl, ?_⟩
             refine hK.out _ _ ⟨((HB.out.cell (World.block_lt_of_cell? w _ hw399_0)).trans hw399_0), ((HB.out.cell (World.block_lt_of_cell? w _ hw402_0)).trans hw402_0), ((HB.out.cell (World.block_lt_of_cell? w _ hw404_0)).trans hw404_0), ((HB.out.cell (World.block_lt_of_cell? w _ hw405_0)).trans hw405_0), ((HB.out.cell (World.block_lt_of_cell? w _ hw406_0)).trans hw406_0), ((HB.out.cell (World.block_lt_of_cell? w _ hw406_1)).trans hw406_1)⟩ (fun hHeld => ?_)
             clear hK K
             refine norm_ (a' := ?_) ?_ ?_
             rotate_left
             ·exact qJ12_c4
             refine pure_ (i := 18) (N := some 37) (v := ?_) (a' := ?_) qJ12_b19 rfl rfl (qJ12_0) (fun _ _ _ h => h) (Or.inl ⟨by rfl, ?_⟩) ?_ ?_
             rotate_left; exact qJ12_c1; rotate_left; exact qJ12_c0
             refine pure_ (i := 19) (N := some 38) (v := ?_) (a' := ?_) qJ12_b20 rfl rfl (qJ12_0) (fun _ _ _ h => h) (Or.inl ⟨by rfl, ?_⟩) ?_ ?_
             rotate_left; exact qJ12_c1; rotate_left; exact qJ12_c0
             refine pure_ (i := 20) (N := some 39) (v := ?_) (a' := ?_) qJ12_b21 rfl rfl (qJ12_0) (fun _ _ _ h => h) (Or.inl ⟨by rfl, ?_⟩) ?_ ?_
             rotate_left; exact qJ12_c1; rotate_left; exact qJ12_c0
             refine pure_ (i := 21) (N := some 40) (v := ?_) (a' := ?_) qJ12_b22 rfl rfl (qJ12_0) (fun _ _ _ h => h) (Or.inl ⟨by rfl, ?_⟩) ?_ ?_
             rotate_left; exact qJ12_c1; rotate_left; exact qJ12_c0
             refine pure_ (i := 22) (N := some 41) (v := ?_) (a' := ?_) qJ12_b23 rfl rfl (qJ12_0) (fun _ _ _ h => h) (Or.inl ⟨by rfl, ?_⟩) ?_ ?_
             rotate_left; exact qJ12_c1; rotate_left; exact qJ12_c0
             refine pure_ (i := 23) (N := some 42) (v := ?_) (a' := ?_) qJ12_b24 rfl rfl (qJ12_0) (fun _ _ _ h => h) (Or.inl ⟨by rfl, ?_⟩) ?_ ?_
             rotate_left; exact qJ12_c1; rotate_left; exact qJ12_c0
             refine pure_ (i := 27) (N := some 46) (v := ?_) (a' := ?_) qJ12_b35 rfl rfl (qJ12_0) (fun _ _ _ h => h) (Or.inl ⟨by rfl, ?_⟩) ?_ ?_
             rotate_left; exact qJ12_c1; rotate_left; exact qJ12_c0
             refine pure_ (i := 28) (N := some 47) (v := ?_) (a' := ?_) qJ12_b36 rfl rfl (qJ12_0) (fun _ _ _ h => h) (Or.inl ⟨by rfl, ?_⟩) ?_ ?_
             rotate_left; exact qJ12_c1; rotate_left; exact qJ12_c0
             refine pure_ (i := 29) (N := some 48) (v := ?_) (a' := ?_) qJ12_b37 rfl rfl (qJ12_0) (fun _ _ _ h => h) (Or.inl ⟨by rfl, ?_⟩) ?_ ?_
             rotate_left; exact qJ12_c1; rotate_left; exact qJ12_c0
             refine take_ (i := 24) (N := some 43) (v := ?_) (a' := ?_) qJ12_b38 rfl rfl (take_ofW HT_.out HW_.out (by kernel_rfl)) (fun _ _ _ h => h) (Or.inl ⟨by rfl, ?_⟩) hHeld ?_ ?_
             rotate_left; exact qJ12_c2; rotate_left; exact qJ12_c0
             refine pure_ (i := 25) (N := some 44) (v := ?_) (a' := ?_) qJ12_b39 rfl rfl (qJ12_0) (fun _ _ _ h => h) (Or.inl ⟨by rfl, ?_⟩) ?_ ?_
             rotate_left; exact qJ12_c1; rotate_left; exact qJ12_c0
             refine take_ (i := 26) (N := some 45) (v := ?_) (a' := ?_) qJ12_b30 rfl rfl (take_ofW HT_.out HW_.out (by kernel_rfl)) (fun _ _ _ h => h) (Or.inl ⟨by rfl, ?_⟩) hHeld ?_ ?_
             rotate_left; exact qJ12_c2; rotate_left; exact qJ12_c0
             refine take_ (i := 30) (N := some 49) (v := ?_) (a' := ?_) qJ12_b31 rfl rfl (take_ofW HT_.out HW_.out (by kernel_rfl)) (fun _ _ _ h => h) (Or.inl ⟨by rfl, ?_⟩) hHeld ?_ ?_
             rotate_left; exact qJ12_c2; rotate_left; exact qJ12_c0
             refine one_ (i := 31) (N := some 50) qJ12_b32 rfl rfl (qJ12_7) (by decide) (fun K hK => ?_)
             refine goes_ Try.func47 (by kernel_rfl) rfl #[.agg #[.int .i64 ((rd_T36 l0 x7_1).f0), .int .i64 ((rd_T36 l0 x7_1).f1)]] (by rfl) rfl rfl (qJ12_3) ?_
             with_reducible refine (spec_l16Need.calls ((rd_T36 l0 x7_1).f0) ((rd_T36 l0 x7_1).f1) t407 _ A18.out).mono ?_
             rintro e w22 ⟨rfl, hb⟩
             refine ⟨_, rfl, ?_⟩
             have n0_ := Aside0.mk (below_step (qJ12_2) hb)
             clear HB
             have HB := n0_
             clear n0_
             (try clear hb)
             (try clear hb2)
             (try clear hk)
             (try clear hi)
             refine hK.out _ _ ⟨((HB.out.cell (World.block_lt_of_cell? w _ hw399_0)).trans hw399_0), ((HB.out.cell (World.block_lt_of_cell? w _ hw402_0)).trans hw402_0), ((HB.out.cell (World.block_lt_of_cell? w _ hw404_0)).trans hw404_0), ((HB.out.cell (World.block_lt_of_cell? w _ hw405_0)).trans hw405_0), ((HB.out.cell (World.block_lt_of_cell? w _ hw406_0)).trans hw406_0), ((HB.out.cell (World.block_lt_of_cell? w _ hw406_1)).trans hw406_1)⟩ (fun hHeld => ?_)
             clear hK K
             refine norm_ (a' := ?_) ?_ ?_
             rotate_left
             ·show Act.put _ (some 50) _ = _
              simp only [Act.put, List.setIfInBounds_toArray, List.set_cons_zero, List.set_cons_succ, i64_w, i32_w]
              rfl
             refine pure_ (i := 32) (N := some 51) (v := ?_) (a' := ?_) qJ12_b33 rfl rfl (qJ12_0) (fun _ _ _ h => h) (Or.inl ⟨by rfl, ?_⟩) ?_ ?_
             rotate_left; exact qJ12_c1; rotate_left; exact qJ12_c0
             refine pure_ (i := 33) (N := some 52) (v := ?_) (a' := ?_) qJ12_b34 rfl rfl (qJ12_0) (fun _ _ _ h => h) (Or.inl ⟨by rfl, ?_⟩) ?_ ?_
             rotate_left; exact qJ12_c1; rotate_left; exact qJ12_c0
             refine done_ (qJ12_8) ?_
             try go_wp2
             go_ret
             exact ⟨(qJ12_5), (qJ12_2)⟩
            ·rw [if_neg c19] at H
             have c19b0 : decide ((rd l1 (rd l2 x7_1)) < t407) = false := decide_eq_false c19
             clear c19
             have H' := Aside0.mk H
             clear H
             try go_wp2
             have n0_ := Aside0.mk (below_drew1 HB.out)
             clear HB
             have HB := n0_
             clear n0_
             have p399 : 0 ≤ (x7_1 : Int) := of_decide_eq_true (qJ12_1)
             have q399 : x7_1 < (l2.length : Int) := of_decide_eq_true (qJ12_1)
             obtain ⟨ad399, e399, hx399_0⟩ := Kd.at_int HR2.out x7_1 p399 q399
             have hw399_0 := hx399_0
             cases e399
             replace hx399_0 := (HB.out.cell (World.block_lt_of_cell? w _ hx399_0)).trans hx399_0
             replace p399 := eq_true p399
             replace q399 := eq_true q399
             have p402 : 0 ≤ (x7_1 : Int) := of_decide_eq_true (qJ12_1)
             have q402 : x7_1 < (l2.length : Int) := of_decide_eq_true (qJ12_1)
             obtain ⟨ad402, e402, hx402_0⟩ := Kd.at_int HR2.out x7_1 p402 q402
             have hw402_0 := hx402_0
             obtain rfl : ad399 = ad402 := (by injection e402)
             replace hx402_0 := (HB.out.cell (World.block_lt_of_cell? w _ hx402_0)).trans hx402_0
             replace p402 := eq_true p402
             replace q402 := eq_true q402
             have p404 : 0 ≤ (x7_1 : Int) := of_decide_eq_true (qJ12_1)
             have q404 : x7_1 < (l2.length : Int) := of_decide_eq_true (qJ12_1)
             obtain ⟨ad404, e404, hx404_0⟩ := Kd.at_int HR2.out x7_1 p404 q404
             have hw404_0 := hx404_0
             obtain rfl : ad399 = ad404 := (by injection e404)
             replace hx404_0 := (HB.out.cell (World.block_lt_of_cell? w _ hx404_0)).trans hx404_0
             replace p404 := eq_true p404
             replace q404 := eq_true q404
             have p405 : 0 ≤ ((rd l2 x7_1) : Int) := of_decide_eq_true (qJ12_1)
             have q405 : (rd l2 x7_1) < (l1.length : Int) := of_decide_eq_true (qJ12_1)
             obtain ⟨ad405, e405, hx405_0⟩ := Kd.at_int HR1.out (rd l2 x7_1) p405 q405
             have hw405_0 := hx405_0
             cases e405
             replace hx405_0 := (HB.out.cell (World.block_lt_of_cell? w _ hx405_0)).trans hx405_0
             replace p405 := eq_true p405
             replace q405 := eq_true q405
             have p406 : 0 ≤ (x7_1 : Int) := of_decide_eq_true (qJ12_1)
             have q406 : x7_1 < (l0.length : Int) := of_decide_eq_true (qJ12_1)
             obtain ⟨ad406, e406, hx406_0, hx406_1⟩ := at_T36 HR0.out x7_1 p406 q406
             have hw406_1 := hx406_1
             have hw406_0 := hx406_0
             cases e406
             replace hx406_0 := (HB.out.cell (World.block_lt_of_cell? w _ hx406_0)).trans hx406_0
             replace hx406_1 := (HB.out.cell (World.block_lt_of_cell? w _ hx406_1)).trans hx406_1
             replace p406 := eq_true p406
             replace q406 := eq_true q406
             refine start_ (n := 34) (S := fun w' => w'.cell? (ad399.add (x7_1).toNat) = some (.int .i64 (rd l2 x7_1)) ∧ w'.cell? (ad399.add (x7_1).toNat) = some (.int .i64 (rd l2 x7_1)) ∧ w'.cell? (ad399.add (x7_1).toNat) = some (.int .i64 (rd l2 x7_1)) ∧ w'.cell? (ad405.add ((rd l2 x7_1)).toNat) = some (.int .i64 (rd l1 (rd l2 x7_1))) ∧ w'.cell? (ad406.add ((x7_1).toNat * 2)) = some (.int .i64 ((rd_T36 l0 x7_1).f0)) ∧ w'.cell? ⟨(ad406.add ((x7_1).toNat * 2)).block, (ad406.add ((x7_1).toNat * 2)).off + 1, none⟩ = some (.int .i64 ((rd_T36 l0 x7_1).f1))) (ds := []) qJ12_b0 (by kernel_rfl) rfl rfl ⟨((HB.out.cell (World.block_lt_of_cell? w _ hw399_0)).trans hw399_0), ((HB.out.cell (World.block_lt_of_cell? w _ hw402_0)).trans hw402_0), ((HB.out.cell (World.block_lt_of_cell? w _ hw404_0)).trans hw404_0), ((HB.out.cell (World.block_lt_of_cell? w _ hw405_0)).trans hw405_0), ((HB.out.cell (World.block_lt_of_cell? w _ hw406_0)).trans hw406_0), ((HB.out.cell (World.block_lt_of_cell? w _ hw406_1)).trans hw406_1)⟩ (fun hHeld => ?_); refine with_tabW spec_l16Rigging.tab6 spec_l16Rigging.bits6 (fun HT_ HW_ => ?_)
             generalize wr.drew = w23 at HB hx399_0 hx402_0 hx404_0 hx405_0 hx406_0 hx406_1 hHeld ⊢
             refine pure_ (i := 0) (N := some 19) (v := ?_) (a' := ?_) qJ12_b1 rfl rfl (qJ12_0) (fun _ _ _ h => h) (Or.inl ⟨by rfl, ?_⟩) ?_ ?_
             rotate_left; exact qJ12_c1; rotate_left; exact qJ12_c0
             refine pure_ (i := 1) (N := some 20) (v := ?_) (a' := ?_) qJ12_b2 rfl rfl (qJ12_0) (fun _ _ _ h => h) (Or.inl ⟨by rfl, ?_⟩) ?_ ?_
             rotate_left; exact qJ12_c1; rotate_left; exact qJ12_c0
             refine pure_ (i := 2) (N := some 21) (v := ?_) (a' := ?_) qJ12_b3 rfl rfl (qJ12_0) (fun _ _ _ h => h) (Or.inl ⟨by rfl, ?_⟩) ?_ ?_
             rotate_left; exact qJ12_c1; rotate_left; exact qJ12_c0
             refine pure_ (i := 4) (N := some 23) (v := ?_) (a' := ?_) qJ12_b4 rfl rfl (qJ12_0) (fun _ _ _ h => h) (Or.inl ⟨by rfl, ?_⟩) ?_ ?_
             rotate_left; exact qJ12_c1; rotate_left; exact qJ12_c0
             refine pure_ (i := 5) (N := some 24) (v := ?_) (a' := ?_) qJ12_b5 rfl rfl (qJ12_0) (fun _ _ _ h => h) (Or.inl ⟨by rfl, ?_⟩) ?_ ?_
             rotate_left; exact qJ12_c1; rotate_left; exact qJ12_c0
             refine pure_ (i := 6) (N := some 25) (v := ?_) (a' := ?_) qJ12_b6 rfl rfl (qJ12_0) (fun _ _ _ h => h) (Or.inl ⟨by rfl, ?_⟩) ?_ ?_
             rotate_left; exact qJ12_c1; rotate_left; exact qJ12_c0
             refine take_ (i := 3) (N := some 22) (v := ?_) (a' := ?_) qJ12_b7 rfl rfl (take_ofW HT_.out HW_.out (by kernel_rfl)) (fun _ _ _ h => h) (Or.inl ⟨by rfl, ?_⟩) hHeld ?_ ?_
             rotate_left; exact qJ12_c2; rotate_left; exact qJ12_c0
             refine one_ (i := 7) (N := some 26) qJ12_b8 rfl rfl (qJ12_7) (by decide) (fun K hK => ?_)
             refine goes_ Try.func68 (by kernel_rfl) rfl #[.int .i64 (rd l2 x7_1), .int .i64 0, .int .i64 (wrap64 ((l1.length : Int) - 1))] (by rfl) rfl rfl (qJ12_3) ?_
             with_reducible refine (spec_l1In.calls (rd l2 x7_1) 0 (wrap64 ((l1.length : Int) - 1)) true _ A7.out).mono ?_
             rintro e w' ⟨rfl, ⟨nd, rfl⟩⟩
             refine ⟨_, rfl, ?_⟩
             obtain ⟨i024, hi024, _, hsz24, _⟩ := info_parts info3
             obtain ⟨hcut24, hA24, hC24⟩ := print_take_of (P := Try.prog) (Value.int .i64) 0 23 3 .i64 Try.underlying23 hi024 hsz24 (some ad399) c2 l2 x7_1 (of_decide_eq_true (qJ12_1)) (of_decide_eq_true (qJ12_1)) HC2.out
             have HR401 := Aside0.mk (Kd.C_of_reads (h1 := fun _ => rfl) (hA24 _ (Kd.reads_of_C HR2.out)))
             have HC401 := Aside0.mk hC24; clear hA24 hC24 hi024 hsz24
             refine hK.out _ _ ⟨((HB.out.cell (World.block_lt_of_cell? w _ hw399_0)).trans hw399_0), ((HB.out.cell (World.block_lt_of_cell? w _ hw402_0)).trans hw402_0), ((HB.out.cell (World.block_lt_of_cell? w _ hw404_0)).trans hw404_0), ((HB.out.cell (World.block_lt_of_cell? w _ hw405_0)).trans hw405_0), ((HB.out.cell (World.block_lt_of_cell? w _ hw406_0)).trans hw406_0), ((HB.out.cell (World.block_lt_of_cell? w _ hw406_1)).trans hw406_1)⟩ (fun hHeld => ?_)
             clear hK K
             refine norm_ (a' := ?_) ?_ ?_
             rotate_left
             ·exact qJ12_c3
             refine pure_ (i := 8) (N := some 27) (v := ?_) (a' := ?_) qJ12_b9 rfl rfl (qJ12_0) (fun _ _ _ h => h) (Or.inl ⟨by rfl, ?_⟩) ?_ ?_
             rotate_left; exact qJ12_c1; rotate_left; exact qJ12_c0
             refine pure_ (i := 9) (N := some 28) (v := ?_) (a' := ?_) qJ12_b10 rfl rfl (qJ12_0) (fun _ _ _ h => h) (Or.inl ⟨by rfl, ?_⟩) ?_ ?_
             rotate_left; exact qJ12_c1; rotate_left; exact qJ12_c0
             refine pure_ (i := 10) (N := some 29) (v := ?_) (a' := ?_) qJ12_b11 rfl rfl (qJ12_0) (fun _ _ _ h => h) (Or.inl ⟨by rfl, ?_⟩) ?_ ?_
             rotate_left; exact qJ12_c1; rotate_left; exact qJ12_c0
             refine pure_ (i := 11) (N := some 30) (v := ?_) (a' := ?_) qJ12_b12 rfl rfl (qJ12_0) (fun _ _ _ h => h) (Or.inl ⟨by rfl, ?_⟩) ?_ ?_
             rotate_left; exact qJ12_c1; rotate_left; exact qJ12_c0
             refine pure_ (i := 12) (N := some 31) (v := ?_) (a' := ?_) qJ12_b13 rfl rfl (qJ12_0) (fun _ _ _ h => h) (Or.inl ⟨by rfl, ?_⟩) ?_ ?_
             rotate_left; exact qJ12_c1; rotate_left; exact qJ12_c0
             refine pure_ (i := 13) (N := some 32) (v := ?_) (a' := ?_) qJ12_b14 rfl rfl (qJ12_0) (fun _ _ _ h => h) (Or.inl ⟨by rfl, ?_⟩) ?_ ?_
             rotate_left; exact qJ12_c1; rotate_left; exact qJ12_c0
             refine pure_ (i := 14) (N := some 33) (v := ?_) (a' := ?_) qJ12_b15 rfl rfl (qJ12_0) (fun _ _ _ h => h) (Or.inl ⟨by rfl, ?_⟩) ?_ ?_
             rotate_left; exact qJ12_c1; rotate_left; exact qJ12_c0
             refine pure_ (i := 15) (N := some 34) (v := ?_) (a' := ?_) qJ12_b16 rfl rfl (qJ12_0) (fun _ _ _ h => h) (Or.inl ⟨by rfl, ?_⟩) ?_ ?_
             rotate_left; exact qJ12_c1; rotate_left; exact qJ12_c0
             refine take_ (i := 16) (N := some 35) (v := ?_) (a' := ?_) qJ12_b17 rfl rfl (take_ofW HT_.out HW_.out (by kernel_rfl)) (fun _ _ _ h => h) (Or.inl ⟨by rfl, ?_⟩) hHeld ?_ ?_
             rotate_left; exact qJ12_c2; rotate_left; exact qJ12_c0
             refine one_ (i := 17) (N := some 36) qJ12_b18 rfl rfl (qJ12_7) (by decide) (fun K hK => ?_)
             refine goes_ Try.func71 (by kernel_rfl) rfl #[.slice (some ad399) (l2.take (x7_1 : Int).toNat).length c2, .int .i64 (rd l2 x7_1)] (by rfl) rfl rfl (qJ12_4) ?_
             with_reducible refine (spec_l1Has.calls k1 _ _ (l2.take (x7_1 : Int).toNat) (rd l2 x7_1) false _ ?side1 ?side2 A11.out).mono ?_
             (case side1 => exact (qJ12_6))
             (case side2 => exact HC401.out)
             rintro e w' ⟨rfl, ⟨nd, rfl⟩⟩
             refine ⟨_, rfl, ?_⟩
             refine hK.out _ _ ⟨((HB.out.cell (World.block_lt_of_cell? w _ hw399_0)).trans hw399_0), ((HB.out.cell (World.block_lt_of_cell? w _ hw402_0)).trans hw402_0), ((HB.out.cell (World.block_lt_of_cell? w _ hw404_0)).trans hw404_0), ((HB.out.cell (World.block_lt_of_cell? w _ hw405_0)).trans hw405_0), ((HB.out.cell (World.block_lt_of_cell? w _ hw406_0)).trans hw406_0), ((HB.out.cell (World.block_lt_of_cell? w _ hw406_1)).trans hw406_1)⟩ (fun hHeld => ?_)
             clear hK K
             refine norm_ (a' := ?_) ?_ ?_
             rotate_left
             ·exact qJ12_c4
             refine pure_ (i := 18) (N := some 37) (v := ?_) (a' := ?_) qJ12_b19 rfl rfl (qJ12_0) (fun _ _ _ h => h) (Or.inl ⟨by rfl, ?_⟩) ?_ ?_
             rotate_left; exact qJ12_c1; rotate_left; exact qJ12_c0
             refine pure_ (i := 19) (N := some 38) (v := ?_) (a' := ?_) qJ12_b20 rfl rfl (qJ12_0) (fun _ _ _ h => h) (Or.inl ⟨by rfl, ?_⟩) ?_ ?_
             rotate_left; exact qJ12_c1; rotate_left; exact qJ12_c0
             refine pure_ (i := 20) (N := some 39) (v := ?_) (a' := ?_) qJ12_b21 rfl rfl (qJ12_0) (fun _ _ _ h => h) (Or.inl ⟨by rfl, ?_⟩) ?_ ?_
             rotate_left; exact qJ12_c1; rotate_left; exact qJ12_c0
             refine pure_ (i := 21) (N := some 40) (v := ?_) (a' := ?_) qJ12_b22 rfl rfl (qJ12_0) (fun _ _ _ h => h) (Or.inl ⟨by rfl, ?_⟩) ?_ ?_
             rotate_left; exact qJ12_c1; rotate_left; exact qJ12_c0
             refine pure_ (i := 22) (N := some 41) (v := ?_) (a' := ?_) qJ12_b23 rfl rfl (qJ12_0) (fun _ _ _ h => h) (Or.inl ⟨by rfl, ?_⟩) ?_ ?_
             rotate_left; exact qJ12_c1; rotate_left; exact qJ12_c0
             refine pure_ (i := 23) (N := some 42) (v := ?_) (a' := ?_) qJ12_b24 rfl rfl (qJ12_0) (fun _ _ _ h => h) (Or.inl ⟨by rfl, ?_⟩) ?_ ?_
             rotate_left; exact qJ12_c1; rotate_left; exact qJ12_c0
             refine pure_ (i := 27) (N := some 46) (v := ?_) (a' := ?_) qJ12_b35 rfl rfl (qJ12_0) (fun _ _ _ h => h) (Or.inl ⟨by rfl, ?_⟩) ?_ ?_
             rotate_left; exact qJ12_c1; rotate_left; exact qJ12_c0
             refine pure_ (i := 28) (N := some 47) (v := ?_) (a' := ?_) qJ12_b36 rfl rfl (qJ12_0) (fun _ _ _ h => h) (Or.inl ⟨by rfl, ?_⟩) ?_ ?_
             rotate_left; exact qJ12_c1; rotate_left; exact qJ12_c0
             refine pure_ (i := 29) (N := some 48) (v := ?_) (a' := ?_) qJ12_b37 rfl rfl (qJ12_0) (fun _ _ _ h => h) (Or.inl ⟨by rfl, ?_⟩) ?_ ?_
             rotate_left; exact qJ12_c1; rotate_left; exact qJ12_c0
             refine take_ (i := 24) (N := some 43) (v := ?_) (a' := ?_) qJ12_b38 rfl rfl (take_ofW HT_.out HW_.out (by kernel_rfl)) (fun _ _ _ h => h) (Or.inl ⟨by rfl, ?_⟩) hHeld ?_ ?_
             rotate_left; exact qJ12_c2; rotate_left; exact qJ12_c0
             refine pure_ (i := 25) (N := some 44) (v := ?_) (a' := ?_) qJ12_b39 rfl rfl (qJ12_0) (fun _ _ _ h => h) (Or.inl ⟨by rfl, ?_⟩) ?_ ?_
             rotate_left; exact qJ12_c1; rotate_left; exact qJ12_c0
             refine take_ (i := 26) (N := some 45) (v := ?_) (a' := ?_) qJ12_b30 rfl rfl (take_ofW HT_.out HW_.out (by kernel_rfl)) (fun _ _ _ h => h) (Or.inl ⟨by rfl, ?_⟩) hHeld ?_ ?_
             rotate_left; exact qJ12_c2; rotate_left; exact qJ12_c0
             refine take_ (i := 30) (N := some 49) (v := ?_) (a' := ?_) qJ12_b31 rfl rfl (take_ofW HT_.out HW_.out (by kernel_rfl)) (fun _ _ _ h => h) (Or.inl ⟨by rfl, ?_⟩) hHeld ?_ ?_
             rotate_left; exact qJ12_c2; rotate_left; exact qJ12_c0
             refine one_ (i := 31) (N := some 50) qJ12_b32 rfl rfl (qJ12_7) (by decide) (fun K hK => ?_)
             refine goes_ Try.func47 (by kernel_rfl) rfl #[.agg #[.int .i64 ((rd_T36 l0 x7_1).f0), .int .i64 ((rd_T36 l0 x7_1).f1)]] (by rfl) rfl rfl (qJ12_3) ?_
             with_reducible refine (spec_l16Need.calls ((rd_T36 l0 x7_1).f0) ((rd_T36 l0 x7_1).f1) t407 _ A18.out).mono ?_
             rintro e w25 ⟨rfl, hb⟩
             refine ⟨_, rfl, ?_⟩
             have n0_ := Aside0.mk (below_step (qJ12_2) hb)
             clear HB
             have HB := n0_
             clear n0_
             (try clear hb)
             (try clear hb2)
             (try clear hk)
             (try clear hi)
             refine hK.out _ _ ⟨((HB.out.cell (World.block_lt_of_cell? w _ hw399_0)).trans hw399_0), ((HB.out.cell (World.block_lt_of_cell? w _ hw402_0)).trans hw402_0), ((HB.out.cell (World.block_lt_of_cell? w _ hw404_0)).trans hw404_0), ((HB.out.cell (World.block_lt_of_cell? w _ hw405_0)).trans hw405_0), ((HB.out.cell (World.block_lt_of_cell? w _ hw406_0)).trans hw406_0), ((HB.out.cell (World.block_lt_of_cell? w _ hw406_1)).trans hw406_1)⟩ (fun hHeld => ?_)
             clear hK K
             refine norm_ (a' := ?_) ?_ ?_
             rotate_left
             ·show Act.put _ (some 50) _ = _
              simp only [Act.put, List.setIfInBounds_toArray, List.set_cons_zero, List.set_cons_succ, i64_w, i32_w]
              rfl
             refine pure_ (i := 32) (N := some 51) (v := ?_) (a' := ?_) qJ12_b33 rfl rfl (qJ12_0) (fun _ _ _ h => h) (Or.inl ⟨by rfl, ?_⟩) ?_ ?_
             rotate_left; exact qJ12_c1; rotate_left; exact qJ12_c0
             refine pure_ (i := 33) (N := some 52) (v := ?_) (a' := ?_) qJ12_b34 rfl rfl (qJ12_0) (fun _ _ _ h => h) (Or.inl ⟨by rfl, ?_⟩) ?_ ?_
             rotate_left; exact qJ12_c1; rotate_left; exact qJ12_c0
             refine done_ (qJ12_8) ?_
             try go_wp2
             go_roundg k1
             case measure => have := HK1.out; omega
             case rel => exact ⟨(wrap64 (x7_1 + 1)), (by first | rfl | (simp; done) | (simp [*]; done)), H', ⟨by have := HK1.out; omega⟩, ⟨(qJ12_2)⟩⟩
           ·rw [if_neg c17] at H
            exact absurd H (by simp)
          ·rw [if_neg c16] at H
           exact absurd H (by simp)
         ·rw [if_neg c15] at H
          exact absurd H (by simp)
       ·rw [if_neg c10] at H
        exact absurd H (by simp)
      ·replace c8 := Bool.eq_false_iff.mpr c8
       subst c8
       have H1 : (some false) = some r := by rw [if_neg (show ¬ (false = true) by decide)] at H; exact H
       clear H; have H := H1; clear H1; obtain rfl := Option.some.inj H
       try go_wp2
       have n0_ := Aside0.mk (below_drew1 HB.out)
       clear HB
       have HB := n0_
       clear n0_
       have p399 : 0 ≤ (x7_1 : Int) := of_decide_eq_true (qJ12_1)
       have q399 : x7_1 < (l2.length : Int) := of_decide_eq_true (qJ12_1)
       obtain ⟨ad399, e399, hx399_0⟩ := Kd.at_int HR2.out x7_1 p399 q399
       have hw399_0 := hx399_0
       cases e399
       replace hx399_0 := (HB.out.cell (World.block_lt_of_cell? w _ hx399_0)).trans hx399_0
       replace p399 := eq_true p399
       replace q399 := eq_true q399
       refine start_ (n := 34) (S := fun w' => w'.cell? (ad399.add (x7_1).toNat) = some (.int .i64 (rd l2 x7_1))) (ds := []) qJ12_b0 (by kernel_rfl) rfl rfl (((HB.out.cell (World.block_lt_of_cell? w _ hw399_0)).trans hw399_0)) (fun hHeld => ?_); refine with_tabW spec_l16Rigging.tab6 spec_l16Rigging.bits6 (fun HT_ HW_ => ?_)
       generalize wr.drew = w26 at HB hx399_0 hHeld ⊢
       refine pure_ (i := 0) (N := some 19) (v := ?_) (a' := ?_) qJ12_b1 rfl rfl (qJ12_0) (fun _ _ _ h => h) (Or.inl ⟨by rfl, ?_⟩) ?_ ?_
       rotate_left; exact qJ12_c1; rotate_left; exact qJ12_c0
       refine pure_ (i := 1) (N := some 20) (v := ?_) (a' := ?_) qJ12_b2 rfl rfl (qJ12_0) (fun _ _ _ h => h) (Or.inl ⟨by rfl, ?_⟩) ?_ ?_
       rotate_left; exact qJ12_c1; rotate_left; exact qJ12_c0
       refine pure_ (i := 2) (N := some 21) (v := ?_) (a' := ?_) qJ12_b3 rfl rfl (qJ12_0) (fun _ _ _ h => h) (Or.inl ⟨by rfl, ?_⟩) ?_ ?_
       rotate_left; exact qJ12_c1; rotate_left; exact qJ12_c0
       refine pure_ (i := 4) (N := some 23) (v := ?_) (a' := ?_) qJ12_b4 rfl rfl (qJ12_0) (fun _ _ _ h => h) (Or.inl ⟨by rfl, ?_⟩) ?_ ?_
       rotate_left; exact qJ12_c1; rotate_left; exact qJ12_c0
       refine pure_ (i := 5) (N := some 24) (v := ?_) (a' := ?_) qJ12_b5 rfl rfl (qJ12_0) (fun _ _ _ h => h) (Or.inl ⟨by rfl, ?_⟩) ?_ ?_
       rotate_left; exact qJ12_c1; rotate_left; exact qJ12_c0
       refine pure_ (i := 6) (N := some 25) (v := ?_) (a' := ?_) qJ12_b6 rfl rfl (qJ12_0) (fun _ _ _ h => h) (Or.inl ⟨by rfl, ?_⟩) ?_ ?_
       rotate_left; exact qJ12_c1; rotate_left; exact qJ12_c0
       refine take_ (i := 3) (N := some 22) (v := ?_) (a' := ?_) qJ12_b7 rfl rfl (take_ofW HT_.out HW_.out (by kernel_rfl)) (fun _ _ _ h => h) (Or.inl ⟨by rfl, ?_⟩) hHeld ?_ ?_
       rotate_left
       ·intro w' s0
        go_simp
        with_reducible rfl
       rotate_left
       ·exact qJ12_c0
       refine one_ (i := 7) (N := some 26) qJ12_b8 rfl rfl (qJ12_7) (by decide) (fun K hK => ?_)
       refine goes_ Try.func68 (by kernel_rfl) rfl #[.int .i64 (rd l2 x7_1), .int .i64 0, .int .i64 (wrap64 ((l1.length : Int) - 1))] (by rfl) rfl rfl (qJ12_3) ?_
       with_reducible refine (spec_l1In.calls (rd l2 x7_1) 0 (wrap64 ((l1.length : Int) - 1)) false _ A7.out).mono ?_
       rintro e w' ⟨rfl, ⟨nd, rfl⟩⟩
       refine ⟨_, rfl, ?_⟩
       refine hK.out _ _ (((HB.out.cell (World.block_lt_of_cell? w _ hw399_0)).trans hw399_0)) (fun hHeld => ?_)
       clear hK K
       refine norm_ (a' := ?_) ?_ ?_
       rotate_left
       ·exact qJ12_c3
       refine pure_ (i := 8) (N := some 27) (v := ?_) (a' := ?_) qJ12_b9 rfl rfl (qJ12_0) (fun _ _ _ h => h) (Or.inl ⟨by rfl, ?_⟩) ?_ ?_
       rotate_left; exact qJ12_c1; rotate_left; exact qJ12_c0
       refine pure_ (i := 9) (N := some 28) (v := ?_) (a' := ?_) qJ12_b10 rfl rfl (qJ12_0) (fun _ _ _ h => h) (Or.inl ⟨by rfl, ?_⟩) ?_ ?_
       rotate_left; exact qJ12_c1; rotate_left; exact qJ12_c0
       refine pure_ (i := 10) (N := some 29) (v := undef) (a' := ?_) qJ12_b11 rfl rfl (qJ12_0) (fun _ _ _ h => h) (Or.inr ⟨by rfl, rfl⟩) ?_ ?_
       rotate_left
       ·exact qJ12_c0
       refine pure_ (i := 11) (N := some 30) (v := undef) (a' := ?_) qJ12_b12 rfl rfl (qJ12_0) (fun _ _ _ h => h) (Or.inr ⟨by rfl, rfl⟩) ?_ ?_
       rotate_left
       ·exact qJ12_c0
       refine pure_ (i := 12) (N := some 31) (v := undef) (a' := ?_) qJ12_b13 rfl rfl (qJ12_0) (fun _ _ _ h => h) (Or.inr ⟨by rfl, rfl⟩) ?_ ?_
       rotate_left
       ·exact qJ12_c0
       refine pure_ (i := 13) (N := some 32) (v := undef) (a' := ?_) qJ12_b14 rfl rfl (qJ12_0) (fun _ _ _ h => h) (Or.inr ⟨by rfl, rfl⟩) ?_ ?_
       rotate_left
       ·exact qJ12_c0
       refine pure_ (i := 14) (N := some 33) (v := undef) (a' := ?_) qJ12_b15 rfl rfl (qJ12_0) (fun _ _ _ h => h) (Or.inr ⟨by rfl, rfl⟩) ?_ ?_
       rotate_left
       ·exact qJ12_c0
       refine pure_ (i := 15) (N := some 34) (v := undef) (a' := ?_) qJ12_b16 rfl rfl (qJ12_0) (fun _ _ _ h => h) (Or.inr ⟨by rfl, rfl⟩) ?_ ?_
       rotate_left
       ·exact qJ12_c0
       refine pure_ (i := 16) (N := some 35) (v := undef) (a' := ?_) qJ12_b17 rfl rfl (qJ12_0) (fun _ _ _ h => h) (Or.inr ⟨by rfl, rfl⟩) ?_ ?_
       rotate_left
       ·exact qJ12_c0
       refine pure_ (i := 17) (N := some 36) (v := undef) (a' := ?_) qJ12_b18 rfl rfl (qJ12_0) (fun _ _ _ h => h) (Or.inr ⟨by rfl, rfl⟩) ?_ ?_
       rotate_left
       ·exact qJ12_c0
       refine pure_ (i := 18) (N := some 37) (v := ?_) (a' := ?_) qJ12_b19 rfl rfl (qJ12_0) (fun _ _ _ h => h) (Or.inl ⟨by rfl, ?_⟩) ?_ ?_
       rotate_left; exact qJ12_c1; rotate_left; exact qJ12_c0
       refine pure_ (i := 19) (N := some 38) (v := ?_) (a' := ?_) qJ12_b20 rfl rfl (qJ12_0) (fun _ _ _ h => h) (Or.inl ⟨by rfl, ?_⟩) ?_ ?_
       rotate_left; exact qJ12_c1; rotate_left; exact qJ12_c0
       refine pure_ (i := 20) (N := some 39) (v := undef) (a' := ?_) qJ12_b21 rfl rfl (qJ12_0) (fun _ _ _ h => h) (Or.inr ⟨by rfl, rfl⟩) ?_ ?_
       rotate_left
       ·exact qJ12_c0
       refine pure_ (i := 21) (N := some 40) (v := undef) (a' := ?_) qJ12_b22 rfl rfl (qJ12_0) (fun _ _ _ h => h) (Or.inr ⟨by rfl, rfl⟩) ?_ ?_
       rotate_left
       ·exact qJ12_c0
       refine pure_ (i := 22) (N := some 41) (v := undef) (a' := ?_) qJ12_b23 rfl rfl (qJ12_0) (fun _ _ _ h => h) (Or.inr ⟨by rfl, rfl⟩) ?_ ?_
       rotate_left
       ·exact qJ12_c0
       refine pure_ (i := 23) (N := some 42) (v := undef) (a' := ?_) qJ12_b24 rfl rfl (qJ12_0) (fun _ _ _ h => h) (Or.inr ⟨by rfl, rfl⟩) ?_ ?_
       rotate_left
       ·exact qJ12_c0
       refine pure_ (i := 24) (N := some 43) (v := undef) (a' := ?_) qJ12_b25 rfl rfl (qJ12_0) (fun _ _ _ h => h) (Or.inr ⟨by rfl, rfl⟩) ?_ ?_
       rotate_left
       ·exact qJ12_c0
       refine pure_ (i := 25) (N := some 44) (v := undef) (a' := ?_) qJ12_b26 rfl rfl (qJ12_0) (fun _ _ _ h => h) (Or.inr ⟨by rfl, rfl⟩) ?_ ?_
       rotate_left
       ·exact qJ12_c0
       refine pure_ (i := 26) (N := some 45) (v := undef) (a' := ?_) qJ12_b27 rfl rfl (qJ12_0) (fun _ _ _ h => h) (Or.inr ⟨by rfl, rfl⟩) ?_ ?_
       rotate_left
       ·exact qJ12_c0
       refine pure_ (i := 27) (N := some 46) (v := undef) (a' := ?_) qJ12_b28 rfl rfl (qJ12_0) (fun _ _ _ h => h) (Or.inr ⟨by rfl, rfl⟩) ?_ ?_
       rotate_left
       ·exact qJ12_c0
       refine pure_ (i := 28) (N := some 47) (v := undef) (a' := ?_) qJ12_b29 rfl rfl (qJ12_0) (fun _ _ _ h => h) (Or.inr ⟨by rfl, rfl⟩) ?_ ?_
       rotate_left
       ·exact qJ12_c0
       refine pure_ (i := 29) (N := some 48) (v := undef) (a' := ?_) qJ12_b30 rfl rfl (qJ12_0) (fun _ _ _ h => h) (Or.inr ⟨by rfl, rfl⟩) ?_ ?_
       rotate_left
       ·exact qJ12_c0
       refine pure_ (i := 30) (N := some 49) (v := undef) (a' := ?_) qJ12_b31 rfl rfl (qJ12_0) (fun _ _ _ h => h) (Or.inr ⟨by rfl, rfl⟩) ?_ ?_
       rotate_left
       ·exact qJ12_c0
       refine pure_ (i := 31) (N := some 50) (v := undef) (a' := ?_) qJ12_b32 rfl rfl (qJ12_0) (fun _ _ _ h => h) (Or.inr ⟨by rfl, rfl⟩) ?_ ?_
       rotate_left
       ·exact qJ12_c0
       refine pure_ (i := 32) (N := some 51) (v := undef) (a' := ?_) qJ12_b33 rfl rfl (qJ12_0) (fun _ _ _ h => h) (Or.inr ⟨by rfl, rfl⟩) ?_ ?_
       rotate_left
       ·exact qJ12_c0
       refine pure_ (i := 33) (N := some 52) (v := ?_) (a' := ?_) qJ12_b34 rfl rfl (qJ12_0) (fun _ _ _ h => h) (Or.inl ⟨by rfl, ?_⟩) ?_ ?_
       rotate_left; exact qJ12_c1; rotate_left; exact qJ12_c0
       refine done_ (qJ12_8) ?_
       try go_wp2
       go_ret
       exact ⟨(qJ12_5), (qJ12_2)⟩
     ·rw [if_neg c6] at H
      exact absurd H (by simp)
    ·rw [if_neg c5] at H
     have c5b0 : decide (x7_1 < (l2.length : Int)) = false := decide_eq_false c5
     clear c5; obtain rfl := Option.some.inj H
     go_wp2
     go_ret
     exact ⟨(qJ12_5), (qJ12_2)⟩
 ·rw [if_neg c4] at H
  have c4b0 : ((l2.length : Int) == (l0.length : Int)) = false := beq_eq_false_iff_ne.mpr c4
  have c4b1 : ((l2.length : Int) != (l0.length : Int)) = true := bne_iff_ne.mpr c4
  have c4b2 : (l2.length == l0.length) = false := by first | simpa using c4 | (simp at c4 ⊢; omega)
  obtain rfl := Option.some.inj H
  go_enter Try.func59, Try.ntmps59
  go_wp2
  go_ret
  exact ⟨(qJ12_5), (qJ12_2)⟩

end Go.Proofs.Ytfjpbochanekoaa.MJ
