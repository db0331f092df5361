-- Written by a program of this session (wip/drv.py, wip/tight2.py). -- tight2
import Derived.Test.YtffdglecmjbolaaMPx0
import Derived.Test.YtffdglecmjbolaaMPx3
namespace Go.Proofs.Ytffdglecmjbolaa.MP
open Go.RowKit Go.Proofs.YtffdglecmjbolaaW.PrintWords Go.Proofs.YtffdglecmjbolaaW.PrintLast Go.Proofs.YtffdglecmjbolaaW.PrintMore
set_option maxHeartbeats 8000000
set_option maxRecDepth 100000
theorem qP4_c0 {p : Prop} (h : p := by
  simp only [Act.put, List.setIfInBounds_toArray, List.set_cons_zero, List.set_cons_succ, i64_w, i32_w]
  rfl) : p := h
theorem qP4_c1 {p : Prop} (h : p := by
  intro w'
  go_simp
  with_reducible rfl) : p := h
attribute [local go_sem] max2_int min2_int max_two min_two max_three min_three max_four min_four   -- for this text's walks alone
set_option linter.unusedVariables false
set_option linter.unusedSimpArgs false

/-! ### impl_gcd: function 48 -/
def impl_gcd.l0 : Nat → Int → Int → Option (Int)
 | 0, _, _ => none
 | k + 1, x0, x1 => if x1 = 0 then ((impl_absolute.f x0).bind fun t286 => (some t286)) else (impl_gcd.l0 k x1 (Int.tmod x0 x1))
def impl_gcd.f (k : Nat) (a0 : Int) (a1 : Int) : Option (Int) := impl_gcd.l0 k a0 a1
theorem impl_gcd.mono_l : ∀ k, (∀ y0 y1, LeO (impl_gcd.l0 k y0 y1) (impl_gcd.l0 (k + 1) y0 y1))
 | 0 => fun _ _ r h => by simp [impl_gcd.l0] at h
 | k + 1 => by
  have ih0 := impl_gcd.mono_l k
  ·intro y0 y1
   unfold impl_gcd.l0
   exact qmono
theorem impl_gcd.mono : ∀ a0 a1 k, LeO (impl_gcd.f k a0 a1) (impl_gcd.f (k + 1) a0 a1) := by
 intro a0 a1 k; have ih0 := impl_gcd.mono_l k
 unfold impl_gcd.f
 exact qmono
theorem impl_gcd.calls (k : Nat) (a0 : Int) (a1 : Int) (r : Int) (w : World) (h : impl_gcd.f k a0 a1 = some r) :
  Calls Try.prog 48 #[.int .i64 a0, .int .i64 a1] w fun e w' => e = .returned (.int .i64 r) ∧ Below w.heap.size w w' := by
 have HB := Aside0.mk (Below.refl w.heap.size w); have H : (impl_gcd.l0 k a0 a1) = some r := h; clear h; have H' := Aside0.mk H; clear H
 go_enter Try.func48, Try.ntmps48
 go_wp2
 repeat (go_quiet (fail); try go_wp2)
 go_loopg [0, 1] k (fun kq v0 v1 w' => ∃ (x0_1 : Int) (x1_1 : Int), v0 = .int .i64 x0_1 ∧ v1 = .int .i64 x1_1 ∧ Aside0 (impl_gcd.l0 kq x0_1 x1_1 = some r) ∧ Aside0 (kq ≤ k) ∧ Aside0 (Below w.heap.size w w'))
 case atStart => exact ⟨(a0), (a1), (qP14), (qP14), H', ⟨Nat.le_refl _⟩, ⟨(qP0)⟩⟩
 case round =>
  clear H'; (try clear p2); obtain ⟨x0_1, x1_1, rfl, rfl, HA, HK1, HB⟩ := hrel
  cases gk with
  | zero => exact absurd HA.out (by simp [impl_gcd.l0])
  | succ k1 =>
   have H := HA.out; clear HA; simp only [impl_gcd.l0] at H
   by_cases c3 : x1_1 = 0
   ·rw [if_pos c3] at H; have c3b0 : (x1_1 == 0) = true := beq_iff_eq.mpr c3; have c3b1 : (x1_1 != 0) = false := bne_eq_false_iff_eq.mpr c3; clear c3; replace H := Option.bind_eq_some_iff.mp H; obtain ⟨t286, A40, H⟩ := H; replace H : (some t286) = some r := H; have A4 := Aside0.mk A40; clear A40; obtain rfl := Option.some.inj H
    go_wp2_with (first | (go_at_call 57; (with_reducible refine (impl_absolute.calls x0_1 t286 _ A4.out).mono ?_); rintro e w5 ⟨rfl, hb⟩; replace HB := Aside0.mk (qP57); clear hb))
    repeat (go_quiet (first | (go_at_call 57; (with_reducible refine (impl_absolute.calls x0_1 t286 _ A4.out).mono ?_); rintro e w5 ⟨rfl, hb⟩; replace HB := Aside0.mk (qP57); clear hb)); try go_wp2_with (first | (go_at_call 57; (with_reducible refine (impl_absolute.calls x0_1 t286 _ A4.out).mono ?_); rintro e w5 ⟨rfl, hb⟩; replace HB := Aside0.mk (qP57); clear hb)))
    go_ret
    exact ⟨(qP8), (qP0)⟩
   ·rw [if_neg c3] at H; have c3b0 : (x1_1 == 0) = false := beq_eq_false_iff_ne.mpr c3; have c3b1 : (x1_1 != 0) = true := bne_iff_ne.mpr c3; have H' := Aside0.mk H; clear H
    go_wp2
    repeat (go_quiet (fail); try go_wp2)
    go_roundg k1
    case measure => have := HK1.out; omega
    case rel => exact ⟨(x1_1), (Int.tmod x0_1 x1_1), (qP14), (qP14), H', ⟨by have := HK1.out; omega⟩, ⟨(qP0)⟩⟩

/-! ### impl_reduced: function 28 -/
def impl_reduced.f (k : Nat) (a0 : Int) (a1 : Int) : Option (Int × Int) := (impl_gcd.f k a0 a1).bind fun t287 => (if t287 = 0 then (none) else (some (wrap64 (Int.tdiv a0 t287), wrap64 (Int.tdiv a1 t287))))
theorem impl_reduced.mono : ∀ a0 a1 k, LeO (impl_reduced.f k a0 a1) (impl_reduced.f (k + 1) a0 a1) := by
 intro a0 a1 k
 unfold impl_reduced.f
 have m0 := @impl_gcd.mono
 exact qmono
theorem impl_reduced.calls (k : Nat) (a0 : Int) (a1 : Int) (r1 : Int) (r2 : Int) (w : World) (h : impl_reduced.f k a0 a1 = some (r1, r2)) :
  Calls Try.prog 28 #[.int .i64 a0, .int .i64 a1] w fun e w' => e = .returned (.tuple #[.int .i64 r1, .int .i64 r2]) ∧ Below w.heap.size w w' := by
 have HB := Aside0.mk (Below.refl w.heap.size w); have H : ((impl_gcd.f k a0 a1).bind fun t287 => (if t287 = 0 then (none) else (some (wrap64 (Int.tdiv a0 t287), wrap64 (Int.tdiv a1 t287))))) = some (r1, r2) := h; clear h; replace H := bindA H; obtain ⟨t287, A3, H⟩ := H; (try dsimp only at H)
 by_cases c4 : t287 = 0
 ·rw [if_pos c4] at H
  exact absurd H (by simp)
 ·rw [if_neg c4] at H; have c4b0 : (t287 == 0) = false := beq_eq_false_iff_ne.mpr c4; have c4b1 : (t287 != 0) = true := bne_iff_ne.mpr c4; simp only [Option.some.injEq, Prod.mk.injEq] at H; obtain ⟨rfl, rfl⟩ := H
  go_enter Try.func28, Try.ntmps28
  go_wp2_with (first | (go_at_call 48; (with_reducible refine (impl_gcd.calls k a0 a1 t287 _ A3.out).mono ?_); rintro e w5 ⟨rfl, hb⟩; replace HB := Aside0.mk (qP57); clear hb))
  repeat (go_quiet (first | (go_at_call 48; (with_reducible refine (impl_gcd.calls k a0 a1 t287 _ A3.out).mono ?_); rintro e w5 ⟨rfl, hb⟩; replace HB := Aside0.mk (qP57); clear hb)); try go_wp2_with (first | (go_at_call 48; (with_reducible refine (impl_gcd.calls k a0 a1 t287 _ A3.out).mono ?_); rintro e w5 ⟨rfl, hb⟩; replace HB := Aside0.mk (qP57); clear hb)))
  go_ret2
  exact ⟨(qP8), (qP0)⟩

/-! ### impl_VolumeOf: function 6 -/
mutual
def impl_VolumeOf.j0 : Nat → List (S60) → List (S55) → Bool → Option (Int × Int × Bool)
 | 0, _, _, _ => none
 | k + 1, x0, x1, x19 => if x19 = true then (some (0, 0, false)) else (impl_VolumeOf.l0 k x0 0 x1 (x1.length : Int) 0)
def impl_VolumeOf.l0 : Nat → List (S60) → Int → List (S55) → Int → Int → Option (Int × Int × Bool)
 | 0, _, _, _, _, _ => none
 | k + 1, x0, x7, x20, x21, x22 => if x22 < x21 then (if 0 ≤ x22 then (if x22 < (x20.length : Int) then ((impl_areaAt.f x0 ((rd_T55 x20 x22).f0)).bind fun t292 => ((impl_areaAt.f x0 ((rd_T55 x20 x22).f1)).bind fun t293 => (impl_VolumeOf.l0 k x0 (wrap64 (x7 + (wrap64 ((wrap64 (t292 + t293)) * ((rd_T55 x20 x22).f2))))) x20 x21 (wrap64 (x22 + 1))))) else (none)) else (none)) else ((impl_reduced.f k x7 2).bind fun bt294 => (some (bt294.1, bt294.2, true)))
end
def impl_VolumeOf.f (k : Nat) (l0 : List (S60)) (l1 : List (S55)) : Option (Int × Int × Bool) := (impl_ArePassages.f k l0).bind fun t288 => (if t288 = true then ((impl_areLegs.f k l1).bind fun t289 => (impl_VolumeOf.j0 k l0 l1 (!t289))) else (impl_VolumeOf.j0 k l0 l1 true))
theorem impl_VolumeOf.mono_l : ∀ k, (∀ y0 y1 y2, LeO (impl_VolumeOf.j0 k y0 y1 y2) (impl_VolumeOf.j0 (k + 1) y0 y1 y2)) ∧ (∀ y0 y1 y2 y3 y4, LeO (impl_VolumeOf.l0 k y0 y1 y2 y3 y4) (impl_VolumeOf.l0 (k + 1) y0 y1 y2 y3 y4))
 | 0 => ⟨fun _ _ _ r h => by simp [impl_VolumeOf.j0] at h, fun _ _ _ _ _ r h => by simp [impl_VolumeOf.l0] at h⟩
 | k + 1 => by
  obtain ⟨ih0, ih1⟩ := impl_VolumeOf.mono_l k
  refine ⟨?_, ?_⟩
  ·intro y0 y1 y2
   unfold impl_VolumeOf.j0
   have m0 := @impl_ArePassages.mono; have m1 := @impl_areLegs.mono; have m2 := @impl_reduced.mono
   exact qmono
  ·intro y0 y1 y2 y3 y4
   unfold impl_VolumeOf.l0
   have m0 := @impl_ArePassages.mono; have m1 := @impl_areLegs.mono; have m2 := @impl_reduced.mono
   exact qmono
theorem impl_VolumeOf.mono : ∀ a0 a1 k, LeO (impl_VolumeOf.f k a0 a1) (impl_VolumeOf.f (k + 1) a0 a1) := by
 intro a0 a1 k; obtain ⟨ih0, ih1⟩ := impl_VolumeOf.mono_l k
 unfold impl_VolumeOf.f
 have m0 := @impl_ArePassages.mono; have m1 := @impl_areLegs.mono; have m2 := @impl_reduced.mono
 exact qmono
def impl_VolumeOf.T7 : Bool × List (List Nat × List Nat) := (true, [([], []), ([], []), ([], []), ([2], [2]), ([1, 3], [1, 3]), ([], []), ([], []), ([6], [6]), ([5, 7, 4], [5, 7]), ([4, 8], [4, 8]), ([], []), ([10], [10]), ([9, 11], [9, 11]), ([0, 12], [0, 12]), ([13, 8, 0, 1, 2, 3, 4, 5, 6, 7, 8, 9, 10, 11, 12, 13], [0, 13])])
def impl_VolumeOf.B7 : List Nat := [0, 0, 0, 4, 14, 0, 0, 64, 254, 510, 0, 1024, 4094, 8191, 16383]
theorem impl_VolumeOf.tab7 : rtab .any (opsOf Try.f6 7) = impl_VolumeOf.T7 := by kernel_rfl
theorem impl_VolumeOf.bits7 : waitsOk impl_VolumeOf.T7.2 impl_VolumeOf.B7 = true := by kernel_rfl
theorem impl_VolumeOf.calls (k : Nat) (A0 : Option Addr) (c0 : Nat) (l0 : List (S60)) (A1 : Option Addr) (c1 : Nat) (l1 : List (S55)) (r1 : Int) (r2 : Int) (r3 : Bool) (w : World) (hr0 : Kd.C k60 w A0 l0.length l0) (hc0 : l0.length ≤ c0) (hr1 : Kd.C k55 w A1 l1.length l1) (hc1 : l1.length ≤ c1) (h : impl_VolumeOf.f k l0 l1 = some (r1, r2, r3)) :
  Calls Try.prog 6 #[.slice A0 l0.length c0, .slice A1 l1.length c1] w fun e w' => e = .returned (.tuple #[.int .i64 r1, .int .i64 r2, .bool r3]) ∧ Below w.heap.size w w' := by
 have hu55 := Try.underlying55; have HR0 := Aside0.mk hr0; have HC0 := Aside0.mk hc0; clear hr0 hc0; have HR1 := Aside0.mk hr1; have HC1 := Aside0.mk hc1; clear hr1 hc1; have HB := Aside0.mk (Below.refl w.heap.size w); have H : ((impl_ArePassages.f k l0).bind fun t288 => (if t288 = true then ((impl_areLegs.f k l1).bind fun t289 => (impl_VolumeOf.j0 k l0 l1 (!t289))) else (impl_VolumeOf.j0 k l0 l1 true))) = some (r1, r2, r3) := h; clear h; have HC3 := Aside0.mk H; clear H
 go_enter Try.func6, Try.ntmps6
 go_upto_region 1 with (fail)
 go_cut [19] (fun v19 wc => ∃ (kq : Nat) (x19_2 : Bool), v19 = .bool x19_2 ∧ Aside0 (impl_VolumeOf.j0 kq l0 l1 x19_2 = some (r1, r2, r3)) ∧ Aside0 (kq ≤ k) ∧ Aside0 (Below w.heap.size w wc))
 case first =>
  have H := HC3.out; clear HC3; replace H := bindA H; obtain ⟨t288, A4, H⟩ := H; (try dsimp only at H)
  by_cases c5 : t288 = true
  ·subst c5; rw [if_pos rfl] at H; replace H := Option.bind_eq_some_iff.mp H; obtain ⟨t289, A60, H⟩ := H; replace H : (impl_VolumeOf.j0 k l0 l1 (!t289)) = some (r1, r2, r3) := H; have A6 := Aside0.mk A60; clear A60; have H' := Aside0.mk H; clear H
   go_wp2_with (first | ((with_reducible refine gate_callee (f := 8) rfl ?_); refine goesL_ (some 13) rfl rfl Try.func8 (by kernel_rfl) rfl #[.slice A0 l0.length c0] rfl (qP2) ?_; (with_reducible refine (impl_ArePassages.calls k _ _ l0 true _ ?s1 ?s2 A4.out).mono ?_); (case s1 => exact (qP13 HR0.out)); (case s2 => exact HC0.out); rintro e w7 ⟨rfl, hb⟩; refine ⟨_, rfl, ?_⟩; replace HB := Aside0.mk (qP57); clear hb) | (go_at_call 26; (with_reducible refine (impl_areLegs.calls k _ _ l1 t289 _ ?s1 ?s2 A6.out).mono ?_); (case s1 => exact (qP13 HR1.out)); (case s2 => exact HC1.out); rintro e w8 ⟨rfl, hb⟩; replace HB := Aside0.mk (qP57); clear hb))
   go_meet
   case rel => exact ⟨_, (!t289), (qP14), H', ⟨by first | omega | exact Nat.le_refl _⟩, ⟨(qP0)⟩⟩
  ·replace c5 := Bool.eq_false_iff.mpr c5; subst c5; rw [if_neg (show ¬ (false = true) by decide)] at H; have H' := Aside0.mk H; clear H
   go_wp2_with (first | ((with_reducible refine gate_callee (f := 8) rfl ?_); refine goesL_ (some 13) rfl rfl Try.func8 (by kernel_rfl) rfl #[.slice A0 l0.length c0] rfl (qP2) ?_; (with_reducible refine (impl_ArePassages.calls k _ _ l0 false _ ?s1 ?s2 A4.out).mono ?_); (case s1 => exact (qP13 HR0.out)); (case s2 => exact HC0.out); rintro e w9 ⟨rfl, hb⟩; refine ⟨_, rfl, ?_⟩; replace HB := Aside0.mk (qP57); clear hb))
   go_meet
   case rel => exact ⟨_, (true), (qP14), H', ⟨by first | omega | exact Nat.le_refl _⟩, ⟨(qP0)⟩⟩
 case rest =>
  clear HC3; (try clear c1); (try clear p2); (try clear c5); (try clear c6); (try clear c8); obtain ⟨kq, x19_2, rfl, HA, HJ2, HB⟩ := hcut
  cases kq with
  | zero => exact absurd HA.out (by simp [impl_VolumeOf.j0])
  | succ kj2 =>
   have H := HA.out; clear HA; simp only [impl_VolumeOf.j0] at H
   by_cases c10 : x19_2 = true
   ·subst c10; rw [if_pos rfl] at H; simp only [Option.some.injEq, Prod.mk.injEq] at H; obtain ⟨rfl, rfl, rfl⟩ := H
    go_wp2
    go_ret3
    exact ⟨(qP8), (qP0)⟩
   ·replace c10 := Bool.eq_false_iff.mpr c10; subst c10; rw [if_neg (show ¬ (false = true) by decide)] at H; have H' := Aside0.mk H; clear H
    go_wp2
    go_loopg [7, 22] kj2 (fun kq v7 v22 w' => ∃ (x7_2 : Int) (x22_2 : Int), v7 = .int .i64 x7_2 ∧ v22 = .int .i64 x22_2 ∧ Aside0 (impl_VolumeOf.l0 kq l0 x7_2 l1 (l1.length : Int) x22_2 = some (r1, r2, r3)) ∧ Aside0 (kq ≤ kj2) ∧ Aside0 (Below w.heap.size w w'))
    case atStart => exact ⟨(0), (0), (qP14), (qP14), H', ⟨Nat.le_refl _⟩, ⟨(qP0)⟩⟩
    case round =>
     clear H'; (try clear c1); (try clear p2); (try clear c5); (try clear c6); (try clear c8); (try clear c10); (try clear p2); obtain ⟨x7_2, x22_2, rfl, rfl, HA, HK2, HB⟩ := hrel
     cases gk with
     | zero => exact absurd HA.out (by simp [impl_VolumeOf.l0])
     | succ k2 =>
      have H := HA.out; clear HA; simp only [impl_VolumeOf.l0] at H
      by_cases c11 : x22_2 < (l1.length : Int)
      ·rw [if_pos c11] at H; have c11b0 : decide (x22_2 < (l1.length : Int)) = true := decide_eq_true c11; clear c11
       by_cases c12 : 0 ≤ x22_2
       ·rw [if_pos c12] at H; have c12b0 : decide (0 ≤ x22_2) = true := decide_eq_true c12; clear c12
        by_cases c13 : x22_2 < (l1.length : Int)
        ·rw [if_pos c13] at H; have c13b0 : decide (x22_2 < (l1.length : Int)) = true := decide_eq_true c13; clear c13; replace H := bindA H; obtain ⟨t292, A14, H⟩ := H; (try dsimp only at H); replace H := bindA H; obtain ⟨t293, A15, H⟩ := H; (try dsimp only at H); have H' := Aside0.mk H; clear H; have p290 : 0 ≤ (x22_2 : Int) := of_decide_eq_true (qP12); have q290 : x22_2 < (l1.length : Int) := of_decide_eq_true (qP12); obtain ⟨ad290, e290, hx290_0, hx290_1, hx290_2, hx290_3, hx290_4⟩ := at_T55 HR1.out x22_2 p290 q290; cases e290; replace hx290_0 := (HB.out.cell (World.block_lt_of_cell? w _ hx290_0)).trans hx290_0; replace hx290_1 := (HB.out.cell (World.block_lt_of_cell? w _ hx290_1)).trans hx290_1; replace hx290_2 := (HB.out.cell (World.block_lt_of_cell? w _ hx290_2)).trans hx290_2; replace hx290_3 := (HB.out.cell (World.block_lt_of_cell? w _ hx290_3)).trans hx290_3; replace hx290_4 := (HB.out.cell (World.block_lt_of_cell? w _ hx290_4)).trans hx290_4; replace p290 := eq_true p290; replace q290 := eq_true q290
         try go_wp2_with (first | ((with_reducible refine gate_dst (N := 9) rfl ?_); refine box_event ?hg (N := 9) ?hd (cs := #[.int .i64 0, .int .i64 0, .int .i64 0, .int .i64 0, .int .i64 0]) (t := 55) ?hr ?_; (case hd => rfl); (case hg => rfl); (case hr => exact (qP23)); intro gb291 hg w16 hbox hb; have BK291 := Aside0.mk (hbox); have GW291 := Aside0.mk (by exact (by rw [hg]; exact (below_size (qP0)) : w.heap.size ≤ gb291)); have GE291 := Aside0.mk (by exact (by rw [hg]; exact (below_size (qP0)) : w.heap.size ≤ gb291)); replace HB := Aside0.mk (qP57); clear hb hbox hg; have hcz17_0 : w16.cell? ⟨gb291, 0, none⟩ = some (.int .i64 0) := (blk_cell BK291.out 0).trans rfl; have hcz17_1 : w16.cell? ⟨gb291, 1, none⟩ = some (.int .i64 0) := (blk_cell BK291.out 1).trans rfl; have hcz17_2 : w16.cell? ⟨gb291, 2, none⟩ = some (.int .i64 0) := (blk_cell BK291.out 2).trans rfl; have hcz17_3 : w16.cell? ⟨gb291, 3, none⟩ = some (.int .i64 0) := (blk_cell BK291.out 3).trans rfl; have hcz17_4 : w16.cell? ⟨gb291, 4, none⟩ = some (.int .i64 0) := (blk_cell BK291.out 4).trans rfl; have hfz17_0 := blk_frozen BK291.out 0; have hfz17_1 := blk_frozen BK291.out 1; have hfz17_2 := blk_frozen BK291.out 2; have hfz17_3 := blk_frozen BK291.out 3; have hfz17_4 := blk_frozen BK291.out 4))
         have n0_ : Aside0 ((((((w16.setCell ⟨gb291, 0, none⟩ (.int .i64 ((rd_T55 l1 x22_2).f0))).setCell ⟨gb291, 1, none⟩ (.int .i64 ((rd_T55 l1 x22_2).f1))).setCell ⟨gb291, 2, none⟩ (.int .i64 ((rd_T55 l1 x22_2).f2))).setCell ⟨gb291, 3, none⟩ (.int .i64 ((rd_T55 l1 x22_2).f3))).setCell ⟨gb291, 4, none⟩ (.int .i64 ((rd_T55 l1 x22_2).f4))).heap[gb291]? = some (.cells #[.int .i64 ((rd_T55 l1 x22_2).f0), .int .i64 ((rd_T55 l1 x22_2).f1), .int .i64 ((rd_T55 l1 x22_2).f2), .int .i64 ((rd_T55 l1 x22_2).f3), .int .i64 ((rd_T55 l1 x22_2).f4)] 55 (0, 0))) := ⟨(by (with_reducible repeat (first | refine blk_drewN ?_ _ | refine blk_drew ?_ | refine blk_alloc ?_ _)); refine blk_put (cs := #[.int .i64 ((rd_T55 l1 x22_2).f0), .int .i64 ((rd_T55 l1 x22_2).f1), .int .i64 ((rd_T55 l1 x22_2).f2), .int .i64 ((rd_T55 l1 x22_2).f3), .int .i64 0]) ?_ 4 _ rfl; (with_reducible repeat (first | refine blk_drewN ?_ _ | refine blk_drew ?_ | refine blk_alloc ?_ _)); refine blk_put (cs := #[.int .i64 ((rd_T55 l1 x22_2).f0), .int .i64 ((rd_T55 l1 x22_2).f1), .int .i64 ((rd_T55 l1 x22_2).f2), .int .i64 0, .int .i64 0]) ?_ 3 _ rfl; (with_reducible repeat (first | refine blk_drewN ?_ _ | refine blk_drew ?_ | refine blk_alloc ?_ _)); refine blk_put (cs := #[.int .i64 ((rd_T55 l1 x22_2).f0), .int .i64 ((rd_T55 l1 x22_2).f1), .int .i64 0, .int .i64 0, .int .i64 0]) ?_ 2 _ rfl; (with_reducible repeat (first | refine blk_drewN ?_ _ | refine blk_drew ?_ | refine blk_alloc ?_ _)); refine blk_put (cs := #[.int .i64 ((rd_T55 l1 x22_2).f0), .int .i64 0, .int .i64 0, .int .i64 0, .int .i64 0]) ?_ 1 _ rfl; (with_reducible repeat (first | refine blk_drewN ?_ _ | refine blk_drew ?_ | refine blk_alloc ?_ _)); refine blk_put (cs := #[.int .i64 0, .int .i64 0, .int .i64 0, .int .i64 0, .int .i64 0]) ?_ 0 _ rfl; (with_reducible repeat (first | refine blk_drewN ?_ _ | refine blk_drew ?_ | refine blk_alloc ?_ _)); exact BK291.out)⟩
         have n1_ : Aside0 (Below w.heap.size w (((((w16.setCell ⟨gb291, 0, none⟩ (.int .i64 ((rd_T55 l1 x22_2).f0))).setCell ⟨gb291, 1, none⟩ (.int .i64 ((rd_T55 l1 x22_2).f1))).setCell ⟨gb291, 2, none⟩ (.int .i64 ((rd_T55 l1 x22_2).f2))).setCell ⟨gb291, 3, none⟩ (.int .i64 ((rd_T55 l1 x22_2).f3))).setCell ⟨gb291, 4, none⟩ (.int .i64 ((rd_T55 l1 x22_2).f4)))) := ⟨(qP5 GE291.out)⟩
         (try clear BK291)
         (try clear HB)
         generalize (((((w16.setCell ⟨gb291, 0, none⟩ (.int .i64 ((rd_T55 l1 x22_2).f0))).setCell ⟨gb291, 1, none⟩ (.int .i64 ((rd_T55 l1 x22_2).f1))).setCell ⟨gb291, 2, none⟩ (.int .i64 ((rd_T55 l1 x22_2).f2))).setCell ⟨gb291, 3, none⟩ (.int .i64 ((rd_T55 l1 x22_2).f3))).setCell ⟨gb291, 4, none⟩ (.int .i64 ((rd_T55 l1 x22_2).f4))) = w18 at n0_ n1_ ⊢
         have BK291 := n0_; have HB := n1_; clear n0_ n1_; replace BK291 := Aside0.mk (blk_drew BK291.out); replace HB := Aside0.mk (below_drew1 HB.out)
         refine start_ (n := 15) (S := fun w' => w'.cell? ⟨gb291, 0, none⟩ = some (.int .i64 ((rd_T55 l1 x22_2).f0)) ∧ w'.cell? ⟨gb291, 1, none⟩ = some (.int .i64 ((rd_T55 l1 x22_2).f1)) ∧ w'.cell? ⟨gb291, 2, none⟩ = some (.int .i64 ((rd_T55 l1 x22_2).f2)) ∧ w'.cell? ⟨gb291, 3, none⟩ = some (.int .i64 ((rd_T55 l1 x22_2).f3)) ∧ w'.cell? ⟨gb291, 4, none⟩ = some (.int .i64 ((rd_T55 l1 x22_2).f4))) (ds := []) #[false, false, false, false, false, false, false, false, false, false, false, false, false, false, false] (by kernel_rfl) rfl rfl ⟨(blk_cell BK291.out 0).trans rfl, (blk_cell BK291.out 1).trans rfl, (blk_cell BK291.out 2).trans rfl, (blk_cell BK291.out 3).trans rfl, (blk_cell BK291.out 4).trans rfl⟩ (fun hHeld => ?_); refine with_tabW impl_VolumeOf.tab7 impl_VolumeOf.bits7 (fun HT_ HW_ => ?_)
         generalize w18.drew = w19 at BK291 HB hHeld ⊢
         refine pure_ (i := 0) (N := some 26) (v := ?_) (a' := ?_) #[true, false, false, false, false, false, false, false, false, false, false, false, false, false, false] rfl rfl (qP11) (fun _ _ _ h => h) (Or.inl ⟨by rfl, ?_⟩) ?_ ?_
         rotate_left; exact qP4_c1; rotate_left; exact qP4_c0
         refine pure_ (i := 1) (N := some 27) (v := ?_) (a' := ?_) #[true, true, false, false, false, false, false, false, false, false, false, false, false, false, false] rfl rfl (qP11) (fun _ _ _ h => h) (Or.inl ⟨by rfl, ?_⟩) ?_ ?_
         rotate_left; exact qP4_c1; rotate_left; exact qP4_c0
         refine pure_ (i := 2) (N := some 28) (v := ?_) (a' := ?_) #[true, true, true, false, false, false, false, false, false, false, false, false, false, false, false] rfl rfl (qP11) (fun _ _ _ h => h) (Or.inl ⟨by rfl, ?_⟩) ?_ ?_
         rotate_left; exact qP4_c1; rotate_left; exact qP4_c0
         refine pure_ (i := 5) (N := some 31) (v := ?_) (a' := ?_) #[true, true, true, false, false, true, false, false, false, false, false, false, false, false, false] rfl rfl (qP11) (fun _ _ _ h => h) (Or.inl ⟨by rfl, ?_⟩) ?_ ?_
         rotate_left; exact qP4_c1; rotate_left; exact qP4_c0
         refine pure_ (i := 6) (N := some 32) (v := ?_) (a' := ?_) #[true, true, true, false, false, true, true, false, false, false, false, false, false, false, false] rfl rfl (qP11) (fun _ _ _ h => h) (Or.inl ⟨by rfl, ?_⟩) ?_ ?_
         rotate_left; exact qP4_c1; rotate_left; exact qP4_c0
         refine pure_ (i := 10) (N := some 36) (v := ?_) (a' := ?_) #[true, true, true, false, false, true, true, false, false, false, true, false, false, false, false] rfl rfl (qP11) (fun _ _ _ h => h) (Or.inl ⟨by rfl, ?_⟩) ?_ ?_
         rotate_left; exact qP4_c1; rotate_left; exact qP4_c0
         refine take_ (i := 3) (N := some 29) (v := ?_) (a' := ?_) #[true, true, true, true, false, true, true, false, false, false, true, false, false, false, false] rfl rfl (take_ofW HT_.out HW_.out (by kernel_rfl)) (fun _ _ _ h => h) (Or.inl ⟨by rfl, ?_⟩) hHeld ?_ ?_
         rotate_left
         ·rintro w' ⟨s0, s1, s2, s3, s4⟩
          go_simp
          with_reducible rfl
         rotate_left
         ·exact qP4_c0
         refine take_ (i := 7) (N := some 33) (v := ?_) (a' := ?_) #[true, true, true, true, false, true, true, true, false, false, true, false, false, false, false] rfl rfl (take_ofW HT_.out HW_.out (by kernel_rfl)) (fun _ _ _ h => h) (Or.inl ⟨by rfl, ?_⟩) hHeld ?_ ?_
         rotate_left
         ·rintro w' ⟨s0, s1, s2, s3, s4⟩
          go_simp
          with_reducible rfl
         rotate_left
         ·exact qP4_c0
         refine take_ (i := 11) (N := some 37) (v := ?_) (a' := ?_) #[true, true, true, true, false, true, true, true, false, false, true, true, false, false, false] rfl rfl (take_ofW HT_.out HW_.out (by kernel_rfl)) (fun _ _ _ h => h) (Or.inl ⟨by rfl, ?_⟩) hHeld ?_ ?_
         rotate_left
         ·rintro w' ⟨s0, s1, s2, s3, s4⟩
          go_simp
          with_reducible rfl
         rotate_left
         ·exact qP4_c0
         refine one_ (i := 4) (N := some 30) #[true, true, true, true, true, true, true, true, false, false, true, true, false, false, false] rfl rfl (qP35) (by decide) (fun K hK => ?_)
         refine goes_ Try.func27 (by kernel_rfl) rfl #[.slice A0 l0.length c0, .int .i64 ((rd_T55 l1 x22_2).f0)] (by rfl) rfl rfl (qP2) ?_
         with_reducible refine (impl_areaAt.calls _ _ l0 ((rd_T55 l1 x22_2).f0) t292 _ ?s1 ?s2 A14.out).mono ?_
         (case s1 => exact (qP13 HR0.out))
         (case s2 => exact HC0.out)
         rintro e w20 ⟨rfl, hb⟩
         refine ⟨_, rfl, ?_⟩
         replace BK291 := Aside0.mk (blk_below (g := gb291) (o := .cells #[.int .i64 ((rd_T55 l1 x22_2).f0), .int .i64 ((rd_T55 l1 x22_2).f1), .int .i64 ((rd_T55 l1 x22_2).f2), .int .i64 ((rd_T55 l1 x22_2).f3), .int .i64 ((rd_T55 l1 x22_2).f4)] 55 (0, 0)) (qP9 BK291.out) hb); replace HB := Aside0.mk (below_step (qP5 GE291.out) hb)
         (try clear hb)
         (try clear hb2)
         (try clear hk)
         (try clear hi)
         refine hK.out _ _ ⟨(blk_cell BK291.out 0).trans rfl, (blk_cell BK291.out 1).trans rfl, (blk_cell BK291.out 2).trans rfl, (blk_cell BK291.out 3).trans rfl, (blk_cell BK291.out 4).trans rfl⟩ (fun hHeld => ?_)
         clear hK K
         refine norm_ (a' := ?_) ?_ ?_
         rotate_left
         ·show Act.put _ (some 30) _ = _
          simp only [Act.put, List.setIfInBounds_toArray, List.set_cons_zero, List.set_cons_succ, i64_w, i32_w]
          rfl
         refine one_ (i := 8) (N := some 34) #[true, true, true, true, true, true, true, true, true, false, true, true, false, false, false] rfl rfl (qP35) (by decide) (fun K hK => ?_)
         refine goes_ Try.func27 (by kernel_rfl) rfl #[.slice A0 l0.length c0, .int .i64 ((rd_T55 l1 x22_2).f1)] (by rfl) rfl rfl (qP2) ?_
         with_reducible refine (impl_areaAt.calls _ _ l0 ((rd_T55 l1 x22_2).f1) t293 _ ?s1 ?s2 A15.out).mono ?_
         (case s1 => exact (qP13 HR0.out))
         (case s2 => exact HC0.out)
         rintro e w21 ⟨rfl, hb⟩
         refine ⟨_, rfl, ?_⟩
         replace BK291 := Aside0.mk (blk_below (g := gb291) (o := .cells #[.int .i64 ((rd_T55 l1 x22_2).f0), .int .i64 ((rd_T55 l1 x22_2).f1), .int .i64 ((rd_T55 l1 x22_2).f2), .int .i64 ((rd_T55 l1 x22_2).f3), .int .i64 ((rd_T55 l1 x22_2).f4)] 55 (0, 0)) (qP9 BK291.out) hb); replace HB := Aside0.mk (below_step (qP5 GE291.out) hb)
         (try clear hb)
         (try clear hb2)
         (try clear hk)
         (try clear hi)
         refine hK.out _ _ ⟨(blk_cell BK291.out 0).trans rfl, (blk_cell BK291.out 1).trans rfl, (blk_cell BK291.out 2).trans rfl, (blk_cell BK291.out 3).trans rfl, (blk_cell BK291.out 4).trans rfl⟩ (fun hHeld => ?_)
         clear hK K
         refine norm_ (a' := ?_) ?_ ?_
         rotate_left
         ·show Act.put _ (some 34) _ = _
          simp only [Act.put, List.setIfInBounds_toArray, List.set_cons_zero, List.set_cons_succ, i64_w, i32_w]
          rfl
         refine pure_ (i := 9) (N := some 35) (v := ?_) (a' := ?_) #[true, true, true, true, true, true, true, true, true, true, true, true, false, false, false] rfl rfl (qP11) (fun _ _ _ h => h) (Or.inl ⟨by rfl, ?_⟩) ?_ ?_
         rotate_left; exact qP4_c1; rotate_left; exact qP4_c0
         refine pure_ (i := 12) (N := some 38) (v := ?_) (a' := ?_) #[true, true, true, true, true, true, true, true, true, true, true, true, true, false, false] rfl rfl (qP11) (fun _ _ _ h => h) (Or.inl ⟨by rfl, ?_⟩) ?_ ?_
         rotate_left; exact qP4_c1; rotate_left; exact qP4_c0
         refine pure_ (i := 13) (N := some 39) (v := ?_) (a' := ?_) #[true, true, true, true, true, true, true, true, true, true, true, true, true, true, false] rfl rfl (qP11) (fun _ _ _ h => h) (Or.inl ⟨by rfl, ?_⟩) ?_ ?_
         rotate_left; exact qP4_c1; rotate_left; exact qP4_c0
         refine pure_ (i := 14) (N := some 7) (v := ?_) (a' := ?_) #[true, true, true, true, true, true, true, true, true, true, true, true, true, true, true] rfl rfl (qP11) (fun _ _ _ h => h) (Or.inl ⟨by rfl, ?_⟩) ?_ ?_
         rotate_left; exact qP4_c1; rotate_left; exact qP4_c0
         refine done_ (qP43) ?_
         try go_wp2
         go_roundg k2
         case measure => have := HJ2.out; have := HK2.out; omega
         case rel => exact ⟨(wrap64 (x7_2 + (wrap64 ((wrap64 (t292 + t293)) * ((rd_T55 l1 x22_2).f2))))), (wrap64 (x22_2 + 1)), (qP14), (qP14), H', ⟨by have := HJ2.out; have := HK2.out; omega⟩, ⟨(qP5 GE291.out)⟩⟩
        ·rw [if_neg c13] at H
         exact absurd H (by simp)
       ·rw [if_neg c12] at H
        exact absurd H (by simp)
      ·rw [if_neg c11] at H; have c11b0 : decide (x22_2 < (l1.length : Int)) = false := decide_eq_false c11; clear c11; replace H := Option.bind_eq_some_iff.mp H; obtain ⟨⟨t294, t295⟩, A220, H⟩ := H; replace H : (some (t294, t295, true)) = some (r1, r2, r3) := H; have A22 := Aside0.mk A220; clear A220; simp only [Option.some.injEq, Prod.mk.injEq] at H; obtain ⟨rfl, rfl, rfl⟩ := H
       go_wp2_with (first | ((with_reducible refine gate_callee (f := 28) rfl ?_); refine goesL_ (some 43) rfl rfl Try.func28 (by kernel_rfl) rfl #[.int .i64 x7_2, .int .i64 2] rfl (qP2) ?_; (with_reducible refine (impl_reduced.calls k2 x7_2 2 t294 t295 _ A22.out).mono ?_); rintro e w23 ⟨rfl, hb⟩; refine ⟨_, rfl, ?_⟩; replace HB := Aside0.mk (qP57); clear hb))
       go_ret3
       exact ⟨(qP8), (qP0)⟩

/-! ### spec_l1In: function 60 -/
def spec_l1In.f (a0 : Int) (a1 : Int) (a2 : Int) : Option (Bool) := if a0 ≥ a1 then (some (decide (a0 ≤ a2))) else (some false)
theorem spec_l1In.calls (a0 : Int) (a1 : Int) (a2 : Int) (r : Bool) (w : World) (h : spec_l1In.f a0 a1 a2 = some r) :
  Calls Try.prog 60 #[.int .i64 a0, .int .i64 a1, .int .i64 a2] w fun e w' => e = .returned (.bool r) ∧ Drawn0 w w' := by
 have H : (if a0 ≥ a1 then (some (decide (a0 ≤ a2))) else (some false)) = some r := h; clear h
 by_cases c4 : a0 ≥ a1
 ·rw [if_pos c4] at H; have c4b0 : decide (a1 ≤ a0) = true := decide_eq_true c4; clear c4; obtain rfl := Option.some.inj H
  go_enter Try.func60, Try.ntmps60
  go_wp2
  go_ret
  exact ⟨(qP14), (qP26)⟩
 ·rw [if_neg c4] at H; have c4b0 : decide (a1 ≤ a0) = false := decide_eq_false c4; clear c4; obtain rfl := Option.some.inj H
  go_enter Try.func60, Try.ntmps60
  go_wp2
  go_ret
  exact ⟨(qP14), (qP26)⟩

/-! ### spec_l4Station: function 58 -/
def spec_l4Station.f (a0 : Int) : Option (Bool) := (spec_l1In.f a0 0 7).bind fun t296 => (some t296)
theorem spec_l4Station.calls (a0 : Int) (r : Bool) (w : World) (h : spec_l4Station.f a0 = some r) :
  Calls Try.prog 58 #[.int .i64 a0] w fun e w' => e = .returned (.bool r) ∧ Drawn0 w w' := by
 have H : ((spec_l1In.f a0 0 7).bind fun t296 => (some t296)) = some r := h; clear h; replace H := Option.bind_eq_some_iff.mp H; obtain ⟨t296, A20, H⟩ := H; replace H : (some t296) = some r := H; have A2 := Aside0.mk A20; clear A20; obtain rfl := Option.some.inj H
 go_enter Try.func58, Try.ntmps58
 go_wp2_with (first | ((with_reducible refine gate_callee (f := 60) rfl ?_); refine goesL_ (some 4) rfl rfl Try.func60 (by kernel_rfl) rfl #[.int .i64 a0, .int .i64 0, .int .i64 7] rfl (qP2) ?_; (with_reducible refine (spec_l1In.calls a0 0 7 t296 _ A2.out).mono ?_); rintro e w' ⟨rfl, ⟨nd, rfl⟩⟩; refine ⟨_, rfl, ?_⟩))
 go_ret
 exact ⟨(qP14), (qP26)⟩

/-! ### spec_l12Far: function 59 -/
def spec_l12Far.f (a0 : Int) : Option (Bool) := (spec_l1In.f a0 0 200).bind fun t297 => (some t297)
theorem spec_l12Far.calls (a0 : Int) (r : Bool) (w : World) (h : spec_l12Far.f a0 = some r) :
  Calls Try.prog 59 #[.int .i64 a0] w fun e w' => e = .returned (.bool r) ∧ Drawn0 w w' := by
 have H : ((spec_l1In.f a0 0 200).bind fun t297 => (some t297)) = some r := h; clear h; replace H := Option.bind_eq_some_iff.mp H; obtain ⟨t297, A20, H⟩ := H; replace H : (some t297) = some r := H; have A2 := Aside0.mk A20; clear A20; obtain rfl := Option.some.inj H
 go_enter Try.func59, Try.ntmps59
 go_wp2_with (first | ((with_reducible refine gate_callee (f := 60) rfl ?_); refine goesL_ (some 4) rfl rfl Try.func60 (by kernel_rfl) rfl #[.int .i64 a0, .int .i64 0, .int .i64 200] rfl (qP2) ?_; (with_reducible refine (spec_l1In.calls a0 0 200 t297 _ A2.out).mono ?_); rintro e w' ⟨rfl, ⟨nd, rfl⟩⟩; refine ⟨_, rfl, ?_⟩))
 go_ret
 exact ⟨(qP14), (qP26)⟩

/-! ### spec_l12One: function 49 -/
def spec_l12One.f (a0_0 : Int) (a0_1 : Int) (a0_2 : Int) (a0_3 : Int) (a0_4 : Int) : Option (Bool) := (spec_l4Station.f a0_0).bind fun t299 => (if t299 = true then ((spec_l12Far.f a0_1).bind fun t300 => (if t300 = true then ((spec_l12Far.f a0_2).bind fun t301 => (if t301 = true then ((spec_l12Far.f a0_3).bind fun t302 => (if t302 = true then ((spec_l12Far.f a0_4).bind fun t303 => (some t303)) else (some false))) else (some false))) else (some false))) else (some false))
theorem spec_l12One.calls (a0_0 : Int) (a0_1 : Int) (a0_2 : Int) (a0_3 : Int) (a0_4 : Int) (r : Bool) (w : World) (h : spec_l12One.f a0_0 a0_1 a0_2 a0_3 a0_4 = some r) :
  Calls Try.prog 49 #[.agg #[.int .i64 a0_0, .int .i64 a0_1, .int .i64 a0_2, .int .i64 a0_3, .int .i64 a0_4]] w fun e w' => e = .returned (.bool r) ∧ Below w.heap.size w w' := by
 have hu60 := Try.underlying60; have HB := Aside0.mk (Below.refl w.heap.size w); have H : ((spec_l4Station.f a0_0).bind fun t299 => (if t299 = true then ((spec_l12Far.f a0_1).bind fun t300 => (if t300 = true then ((spec_l12Far.f a0_2).bind fun t301 => (if t301 = true then ((spec_l12Far.f a0_3).bind fun t302 => (if t302 = true then ((spec_l12Far.f a0_4).bind fun t303 => (some t303)) else (some false))) else (some false))) else (some false))) else (some false))) = some r := h; clear h; replace H := bindA H; obtain ⟨t299, A2, H⟩ := H; (try dsimp only at H)
 by_cases c3 : t299 = true
 ·subst c3; rw [if_pos rfl] at H; replace H := bindA H; obtain ⟨t300, A4, H⟩ := H; (try dsimp only at H)
  by_cases c5 : t300 = true
  ·subst c5; rw [if_pos rfl] at H; replace H := bindA H; obtain ⟨t301, A6, H⟩ := H; (try dsimp only at H)
   by_cases c7 : t301 = true
   ·subst c7; rw [if_pos rfl] at H; replace H := bindA H; obtain ⟨t302, A8, H⟩ := H; (try dsimp only at H)
    by_cases c9 : t302 = true
    ·subst c9; rw [if_pos rfl] at H; replace H := Option.bind_eq_some_iff.mp H; obtain ⟨t303, A100, H⟩ := H; replace H : (some t303) = some r := H; have A10 := Aside0.mk A100; clear A100; obtain rfl := Option.some.inj H
     go_enter Try.func49, Try.ntmps49
     go_wp2_with (first | ((with_reducible refine gate_dst (N := 1) rfl ?_); refine box_event ?hg (N := 1) ?hd (cs := #[.int .i64 a0_0, .int .i64 a0_1, .int .i64 a0_2, .int .i64 a0_3, .int .i64 a0_4]) (t := 60) ?hr ?_; (case hd => rfl); (case hg => rfl); (case hr => exact (qP23)); intro gb298 hg w11 hbox hb; have BK298 := Aside0.mk (hbox); have GW298 := Aside0.mk (qP67); have GE298 := Aside0.mk (qP67); replace HB := Aside0.mk (qP57); clear hb hbox hg; have hcz12_0 : w11.cell? ⟨gb298, 0, none⟩ = some (.int .i64 a0_0) := (blk_cell BK298.out 0).trans rfl; have hcz12_1 : w11.cell? ⟨gb298, 1, none⟩ = some (.int .i64 a0_1) := (blk_cell BK298.out 1).trans rfl; have hcz12_2 : w11.cell? ⟨gb298, 2, none⟩ = some (.int .i64 a0_2) := (blk_cell BK298.out 2).trans rfl; have hcz12_3 : w11.cell? ⟨gb298, 3, none⟩ = some (.int .i64 a0_3) := (blk_cell BK298.out 3).trans rfl; have hcz12_4 : w11.cell? ⟨gb298, 4, none⟩ = some (.int .i64 a0_4) := (blk_cell BK298.out 4).trans rfl; have hfz12_0 := blk_frozen BK298.out 0; have hfz12_1 := blk_frozen BK298.out 1; have hfz12_2 := blk_frozen BK298.out 2; have hfz12_3 := blk_frozen BK298.out 3; have hfz12_4 := blk_frozen BK298.out 4) | ((with_reducible refine gate_callee (f := 58) rfl ?_); refine goesL_ (some 5) rfl rfl Try.func58 (by kernel_rfl) rfl #[.int .i64 a0_0] rfl (qP2) ?_; (with_reducible refine (spec_l4Station.calls a0_0 true _ A2.out).mono ?_); rintro e w' ⟨rfl, ⟨nd, rfl⟩⟩; refine ⟨_, rfl, ?_⟩) | (go_at_call 59; (with_reducible refine (spec_l12Far.calls a0_1 true _ A4.out).mono ?_); rintro e w' ⟨rfl, ⟨nd, rfl⟩⟩) | (go_at_call 59; (with_reducible refine (spec_l12Far.calls a0_2 true _ A6.out).mono ?_); rintro e w' ⟨rfl, ⟨nd, rfl⟩⟩) | (go_at_call 59; (with_reducible refine (spec_l12Far.calls a0_3 true _ A8.out).mono ?_); rintro e w' ⟨rfl, ⟨nd, rfl⟩⟩) | (go_at_call 59; (with_reducible refine (spec_l12Far.calls a0_4 t303 _ A10.out).mono ?_); rintro e w' ⟨rfl, ⟨nd, rfl⟩⟩))
     go_ret
     exact ⟨(qP8), (qP5 GE298.out)⟩
    ·replace c9 := Bool.eq_false_iff.mpr c9; subst c9; rw [if_neg (show ¬ (false = true) by decide)] at H; obtain rfl := Option.some.inj H
     go_enter Try.func49, Try.ntmps49
     go_wp2_with (first | ((with_reducible refine gate_dst (N := 1) rfl ?_); refine box_event ?hg (N := 1) ?hd (cs := #[.int .i64 a0_0, .int .i64 a0_1, .int .i64 a0_2, .int .i64 a0_3, .int .i64 a0_4]) (t := 60) ?hr ?_; (case hd => rfl); (case hg => rfl); (case hr => exact (qP23)); intro gb298 hg w13 hbox hb; have BK298 := Aside0.mk (hbox); have GW298 := Aside0.mk (qP67); have GE298 := Aside0.mk (qP67); replace HB := Aside0.mk (qP57); clear hb hbox hg; have hcz14_0 : w13.cell? ⟨gb298, 0, none⟩ = some (.int .i64 a0_0) := (blk_cell BK298.out 0).trans rfl; have hcz14_1 : w13.cell? ⟨gb298, 1, none⟩ = some (.int .i64 a0_1) := (blk_cell BK298.out 1).trans rfl; have hcz14_2 : w13.cell? ⟨gb298, 2, none⟩ = some (.int .i64 a0_2) := (blk_cell BK298.out 2).trans rfl; have hcz14_3 : w13.cell? ⟨gb298, 3, none⟩ = some (.int .i64 a0_3) := (blk_cell BK298.out 3).trans rfl; have hcz14_4 : w13.cell? ⟨gb298, 4, none⟩ = some (.int .i64 a0_4) := (blk_cell BK298.out 4).trans rfl; have hfz14_0 := blk_frozen BK298.out 0; have hfz14_1 := blk_frozen BK298.out 1; have hfz14_2 := blk_frozen BK298.out 2; have hfz14_3 := blk_frozen BK298.out 3; have hfz14_4 := blk_frozen BK298.out 4) | ((with_reducible refine gate_callee (f := 58) rfl ?_); refine goesL_ (some 5) rfl rfl Try.func58 (by kernel_rfl) rfl #[.int .i64 a0_0] rfl (qP2) ?_; (with_reducible refine (spec_l4Station.calls a0_0 true _ A2.out).mono ?_); rintro e w' ⟨rfl, ⟨nd, rfl⟩⟩; refine ⟨_, rfl, ?_⟩) | (go_at_call 59; (with_reducible refine (spec_l12Far.calls a0_1 true _ A4.out).mono ?_); rintro e w' ⟨rfl, ⟨nd, rfl⟩⟩) | (go_at_call 59; (with_reducible refine (spec_l12Far.calls a0_2 true _ A6.out).mono ?_); rintro e w' ⟨rfl, ⟨nd, rfl⟩⟩) | (go_at_call 59; (with_reducible refine (spec_l12Far.calls a0_3 false _ A8.out).mono ?_); rintro e w' ⟨rfl, ⟨nd, rfl⟩⟩))
     go_ret
     exact ⟨(qP8), (qP5 GE298.out)⟩
   ·replace c7 := Bool.eq_false_iff.mpr c7; subst c7; rw [if_neg (show ¬ (false = true) by decide)] at H; obtain rfl := Option.some.inj H
    go_enter Try.func49, Try.ntmps49
    go_wp2_with (first | ((with_reducible refine gate_dst (N := 1) rfl ?_); refine box_event ?hg (N := 1) ?hd (cs := #[.int .i64 a0_0, .int .i64 a0_1, .int .i64 a0_2, .int .i64 a0_3, .int .i64 a0_4]) (t := 60) ?hr ?_; (case hd => rfl); (case hg => rfl); (case hr => exact (qP23)); intro gb298 hg w15 hbox hb; have BK298 := Aside0.mk (hbox); have GW298 := Aside0.mk (qP67); have GE298 := Aside0.mk (qP67); replace HB := Aside0.mk (qP57); clear hb hbox hg; have hcz16_0 : w15.cell? ⟨gb298, 0, none⟩ = some (.int .i64 a0_0) := (blk_cell BK298.out 0).trans rfl; have hcz16_1 : w15.cell? ⟨gb298, 1, none⟩ = some (.int .i64 a0_1) := (blk_cell BK298.out 1).trans rfl; have hcz16_2 : w15.cell? ⟨gb298, 2, none⟩ = some (.int .i64 a0_2) := (blk_cell BK298.out 2).trans rfl; have hcz16_3 : w15.cell? ⟨gb298, 3, none⟩ = some (.int .i64 a0_3) := (blk_cell BK298.out 3).trans rfl; have hcz16_4 : w15.cell? ⟨gb298, 4, none⟩ = some (.int .i64 a0_4) := (blk_cell BK298.out 4).trans rfl; have hfz16_0 := blk_frozen BK298.out 0; have hfz16_1 := blk_frozen BK298.out 1; have hfz16_2 := blk_frozen BK298.out 2; have hfz16_3 := blk_frozen BK298.out 3; have hfz16_4 := blk_frozen BK298.out 4) | ((with_reducible refine gate_callee (f := 58) rfl ?_); refine goesL_ (some 5) rfl rfl Try.func58 (by kernel_rfl) rfl #[.int .i64 a0_0] rfl (qP2) ?_; (with_reducible refine (spec_l4Station.calls a0_0 true _ A2.out).mono ?_); rintro e w' ⟨rfl, ⟨nd, rfl⟩⟩; refine ⟨_, rfl, ?_⟩) | (go_at_call 59; (with_reducible refine (spec_l12Far.calls a0_1 true _ A4.out).mono ?_); rintro e w' ⟨rfl, ⟨nd, rfl⟩⟩) | (go_at_call 59; (with_reducible refine (spec_l12Far.calls a0_2 false _ A6.out).mono ?_); rintro e w' ⟨rfl, ⟨nd, rfl⟩⟩))
    go_ret
    exact ⟨(qP8), (qP5 GE298.out)⟩
  ·replace c5 := Bool.eq_false_iff.mpr c5; subst c5; rw [if_neg (show ¬ (false = true) by decide)] at H; obtain rfl := Option.some.inj H
   go_enter Try.func49, Try.ntmps49
   go_wp2_with (first | ((with_reducible refine gate_dst (N := 1) rfl ?_); refine box_event ?hg (N := 1) ?hd (cs := #[.int .i64 a0_0, .int .i64 a0_1, .int .i64 a0_2, .int .i64 a0_3, .int .i64 a0_4]) (t := 60) ?hr ?_; (case hd => rfl); (case hg => rfl); (case hr => exact (qP23)); intro gb298 hg w17 hbox hb; have BK298 := Aside0.mk (hbox); have GW298 := Aside0.mk (qP67); have GE298 := Aside0.mk (qP67); replace HB := Aside0.mk (qP57); clear hb hbox hg; have hcz18_0 : w17.cell? ⟨gb298, 0, none⟩ = some (.int .i64 a0_0) := (blk_cell BK298.out 0).trans rfl; have hcz18_1 : w17.cell? ⟨gb298, 1, none⟩ = some (.int .i64 a0_1) := (blk_cell BK298.out 1).trans rfl; have hcz18_2 : w17.cell? ⟨gb298, 2, none⟩ = some (.int .i64 a0_2) := (blk_cell BK298.out 2).trans rfl; have hcz18_3 : w17.cell? ⟨gb298, 3, none⟩ = some (.int .i64 a0_3) := (blk_cell BK298.out 3).trans rfl; have hcz18_4 : w17.cell? ⟨gb298, 4, none⟩ = some (.int .i64 a0_4) := (blk_cell BK298.out 4).trans rfl; have hfz18_0 := blk_frozen BK298.out 0; have hfz18_1 := blk_frozen BK298.out 1; have hfz18_2 := blk_frozen BK298.out 2; have hfz18_3 := blk_frozen BK298.out 3; have hfz18_4 := blk_frozen BK298.out 4) | ((with_reducible refine gate_callee (f := 58) rfl ?_); refine goesL_ (some 5) rfl rfl Try.func58 (by kernel_rfl) rfl #[.int .i64 a0_0] rfl (qP2) ?_; (with_reducible refine (spec_l4Station.calls a0_0 true _ A2.out).mono ?_); rintro e w' ⟨rfl, ⟨nd, rfl⟩⟩; refine ⟨_, rfl, ?_⟩) | (go_at_call 59; (with_reducible refine (spec_l12Far.calls a0_1 false _ A4.out).mono ?_); rintro e w' ⟨rfl, ⟨nd, rfl⟩⟩))
   go_ret
   exact ⟨(qP8), (qP5 GE298.out)⟩
 ·replace c3 := Bool.eq_false_iff.mpr c3; subst c3; rw [if_neg (show ¬ (false = true) by decide)] at H; obtain rfl := Option.some.inj H
  go_enter Try.func49, Try.ntmps49
  go_wp2_with (first | ((with_reducible refine gate_dst (N := 1) rfl ?_); refine box_event ?hg (N := 1) ?hd (cs := #[.int .i64 a0_0, .int .i64 a0_1, .int .i64 a0_2, .int .i64 a0_3, .int .i64 a0_4]) (t := 60) ?hr ?_; (case hd => rfl); (case hg => rfl); (case hr => exact (qP23)); intro gb298 hg w19 hbox hb; have BK298 := Aside0.mk (hbox); have GW298 := Aside0.mk (qP67); have GE298 := Aside0.mk (qP67); replace HB := Aside0.mk (qP57); clear hb hbox hg; have hcz20_0 : w19.cell? ⟨gb298, 0, none⟩ = some (.int .i64 a0_0) := (blk_cell BK298.out 0).trans rfl; have hcz20_1 : w19.cell? ⟨gb298, 1, none⟩ = some (.int .i64 a0_1) := (blk_cell BK298.out 1).trans rfl; have hcz20_2 : w19.cell? ⟨gb298, 2, none⟩ = some (.int .i64 a0_2) := (blk_cell BK298.out 2).trans rfl; have hcz20_3 : w19.cell? ⟨gb298, 3, none⟩ = some (.int .i64 a0_3) := (blk_cell BK298.out 3).trans rfl; have hcz20_4 : w19.cell? ⟨gb298, 4, none⟩ = some (.int .i64 a0_4) := (blk_cell BK298.out 4).trans rfl; have hfz20_0 := blk_frozen BK298.out 0; have hfz20_1 := blk_frozen BK298.out 1; have hfz20_2 := blk_frozen BK298.out 2; have hfz20_3 := blk_frozen BK298.out 3; have hfz20_4 := blk_frozen BK298.out 4) | ((with_reducible refine gate_callee (f := 58) rfl ?_); refine goesL_ (some 5) rfl rfl Try.func58 (by kernel_rfl) rfl #[.int .i64 a0_0] rfl (qP2) ?_; (with_reducible refine (spec_l4Station.calls a0_0 false _ A2.out).mono ?_); rintro e w' ⟨rfl, ⟨nd, rfl⟩⟩; refine ⟨_, rfl, ?_⟩))
  go_ret
  exact ⟨(qP8), (qP5 GE298.out)⟩

end Go.Proofs.Ytffdglecmjbolaa.MP
