-- Written by a program of this session (wip/drv.py, wip/tight2.py). -- tight2
import Derived.Test.YtffdglecmjbolaaMPx0
import Derived.Test.YtffdglecmjbolaaMPx5
namespace Go.Proofs.Ytffdglecmjbolaa.MP
open Go.RowKit Go.Proofs.YtffdglecmjbolaaW.PrintWords Go.Proofs.YtffdglecmjbolaaW.PrintLast Go.Proofs.YtffdglecmjbolaaW.PrintMore
set_option maxHeartbeats 8000000
set_option maxRecDepth 100000
theorem qP6_c0 {p : Prop} (h : p := by
  simp only [Act.put, List.setIfInBounds_toArray, List.set_cons_zero, List.set_cons_succ, i64_w, i32_w]
  rfl) : p := h
theorem qP6_c1 {p : Prop} (h : p := by
  intro w'
  go_simp
  with_reducible rfl) : p := h
attribute [local go_sem] max2_int min2_int max_two min_two max_three min_three max_four min_four   -- for this text's walks alone
set_option linter.unusedVariables false
set_option linter.unusedSimpArgs false

/-! ### spec_l9Reduce: function 32 -/
def spec_l9Reduce.l0 : Nat → Int → Int → Int → Int → Option (Int × Int)
 | 0, _, _, _, _ => none
 | k + 1, x0, x1, x6, x7 => if x7 = 0 then (if x6 = 0 then (none) else (some (wrap64 (Int.tdiv x0 x6), wrap64 (Int.tdiv x1 x6)))) else (spec_l9Reduce.l0 k x0 x1 x7 (Int.tmod x6 x7))
def spec_l9Reduce.f (k : Nat) (a0 : Int) (a1 : Int) : Option (Int × Int) := (spec_l1Most.f a0 (wrap64 (-a0))).bind fun t322 => (spec_l9Reduce.l0 k a0 a1 t322 a1)
theorem spec_l9Reduce.mono_l : ∀ k, (∀ y0 y1 y2 y3, LeO (spec_l9Reduce.l0 k y0 y1 y2 y3) (spec_l9Reduce.l0 (k + 1) y0 y1 y2 y3))
 | 0 => fun _ _ _ _ r h => by simp [spec_l9Reduce.l0] at h
 | k + 1 => by
  have ih0 := spec_l9Reduce.mono_l k
  ·intro y0 y1 y2 y3
   unfold spec_l9Reduce.l0
   exact qmono
theorem spec_l9Reduce.mono : ∀ a0 a1 k, LeO (spec_l9Reduce.f k a0 a1) (spec_l9Reduce.f (k + 1) a0 a1) := by
 intro a0 a1 k; have ih0 := spec_l9Reduce.mono_l k
 unfold spec_l9Reduce.f
 exact qmono
theorem spec_l9Reduce.calls (k : Nat) (a0 : Int) (a1 : Int) (r1 : Int) (r2 : Int) (w : World) (h : spec_l9Reduce.f k a0 a1 = some (r1, r2)) :
  Calls Try.prog 32 #[.int .i64 a0, .int .i64 a1] w fun e w' => e = .returned (.tuple #[.int .i64 r1, .int .i64 r2]) ∧ Drawn0 w w' := by
 have H : ((spec_l1Most.f a0 (wrap64 (-a0))).bind fun t322 => (spec_l9Reduce.l0 k a0 a1 t322 a1)) = some (r1, r2) := h; clear h; replace H := Option.bind_eq_some_iff.mp H; obtain ⟨t322, A30, H⟩ := H; replace H : (spec_l9Reduce.l0 k a0 a1 t322 a1) = some (r1, r2) := H; have A3 := Aside0.mk A30; clear A30; have H' := Aside0.mk H; clear H
 go_enter Try.func32, Try.ntmps32
 go_wp2_with (first | (go_at_call 51; (with_reducible refine (spec_l1Most.calls a0 (wrap64 (-a0)) t322 _ A3.out).mono ?_); rintro e w' ⟨rfl, ⟨nd, rfl⟩⟩; (try first | exact ⟨rfl, _, World.drewN_drewN _ _ _⟩ | exact ⟨rfl, _, Eq.trans (World.drewN_drewN _ _ _) (congrArg (World.drewN _) (Nat.add_assoc _ _ _))⟩)))
 repeat (go_quiet (first | (go_at_call 51; (with_reducible refine (spec_l1Most.calls a0 (wrap64 (-a0)) t322 _ A3.out).mono ?_); rintro e w' ⟨rfl, ⟨nd, rfl⟩⟩; (try first | exact ⟨rfl, _, World.drewN_drewN _ _ _⟩ | exact ⟨rfl, _, Eq.trans (World.drewN_drewN _ _ _) (congrArg (World.drewN _) (Nat.add_assoc _ _ _))⟩))); try go_wp2_with (first | (go_at_call 51; (with_reducible refine (spec_l1Most.calls a0 (wrap64 (-a0)) t322 _ A3.out).mono ?_); rintro e w' ⟨rfl, ⟨nd, rfl⟩⟩; (try first | exact ⟨rfl, _, World.drewN_drewN _ _ _⟩ | exact ⟨rfl, _, Eq.trans (World.drewN_drewN _ _ _) (congrArg (World.drewN _) (Nat.add_assoc _ _ _))⟩))))
 go_loopg [6, 7] k (fun kq v6 v7 w' => ∃ (x6_1 : Int) (x7_1 : Int), v6 = .int .i64 x6_1 ∧ v7 = .int .i64 x7_1 ∧ Aside0 (spec_l9Reduce.l0 kq a0 a1 x6_1 x7_1 = some (r1, r2)) ∧ Aside0 (kq ≤ k) ∧ Drawn0 w w')
 case atStart => exact ⟨(t322), (a1), (qP14), (qP14), H', ⟨Nat.le_refl _⟩, (qP26)⟩
 case round =>
  clear H'; (try clear p2); (try clear c3); obtain ⟨x6_1, x7_1, rfl, rfl, HA, HK1, ⟨m1, rfl⟩⟩ := hrel
  cases gk with
  | zero => exact absurd HA.out (by simp [spec_l9Reduce.l0])
  | succ k1 =>
   have H := HA.out; clear HA; simp only [spec_l9Reduce.l0] at H
   by_cases c4 : x7_1 = 0
   ·rw [if_pos c4] at H; have c4b0 : (x7_1 == 0) = true := beq_iff_eq.mpr c4; have c4b1 : (x7_1 != 0) = false := bne_eq_false_iff_eq.mpr c4; clear c4
    by_cases c5 : x6_1 = 0
    ·rw [if_pos c5] at H
     exact absurd H (by simp)
    ·rw [if_neg c5] at H; have c5b0 : (x6_1 == 0) = false := beq_eq_false_iff_ne.mpr c5; have c5b1 : (x6_1 != 0) = true := bne_iff_ne.mpr c5; simp only [Option.some.injEq, Prod.mk.injEq] at H; obtain ⟨rfl, rfl⟩ := H
     go_wp2
     repeat (go_quiet (fail); try go_wp2)
     go_ret2
     exact ⟨(qP14), (qP26)⟩
   ·rw [if_neg c4] at H; have c4b0 : (x7_1 == 0) = false := beq_eq_false_iff_ne.mpr c4; have c4b1 : (x7_1 != 0) = true := bne_iff_ne.mpr c4; have H' := Aside0.mk H; clear H
    go_wp2
    repeat (go_quiet (fail); try go_wp2)
    go_roundg k1
    case measure => have := HK1.out; omega
    case rel => exact ⟨(x7_1), (Int.tmod x6_1 x7_1), (qP14), (qP14), H', ⟨by have := HK1.out; omega⟩, (qP26)⟩

/-! ### spec_VolumeOf: function 7 -/
mutual
def spec_VolumeOf.j0 : Nat → List (S60) → List (S55) → Bool → Option (Int × Int × Bool)
 | 0, _, _, _ => none
 | k + 1, x0, x1, x18 => if x18 = true then (some (0, 0, false)) else (spec_VolumeOf.l0 k x0 x1 0 0)
def spec_VolumeOf.l0 : Nat → List (S60) → List (S55) → Int → Int → Option (Int × Int × Bool)
 | 0, _, _, _, _ => none
 | k + 1, x0, x1, x7, x8 => if x8 < (x1.length : Int) then (if 0 ≤ x8 then ((spec_l12At.f k x0 ((rd_T55 x1 x8).f0)).bind fun t326 => ((spec_l12At.f k x0 ((rd_T55 x1 x8).f1)).bind fun t328 => (spec_VolumeOf.l0 k x0 x1 (wrap64 (x7 + (wrap64 ((wrap64 (t326 + t328)) * ((rd_T55 x1 x8).f2))))) (wrap64 (x8 + 1))))) else (none)) else ((spec_l9Reduce.f k x7 2).bind fun bt330 => (some (bt330.1, bt330.2, true)))
end
def spec_VolumeOf.f (k : Nat) (l0 : List (S60)) (l1 : List (S55)) : Option (Int × Int × Bool) := (spec_l12Good.f k l0).bind fun t323 => (if t323 = true then ((spec_l4Legs.f k l1).bind fun t324 => (spec_VolumeOf.j0 k l0 l1 (!t324))) else (spec_VolumeOf.j0 k l0 l1 true))
theorem spec_VolumeOf.mono_l : ∀ k, (∀ y0 y1 y2, LeO (spec_VolumeOf.j0 k y0 y1 y2) (spec_VolumeOf.j0 (k + 1) y0 y1 y2)) ∧ (∀ y0 y1 y2 y3, LeO (spec_VolumeOf.l0 k y0 y1 y2 y3) (spec_VolumeOf.l0 (k + 1) y0 y1 y2 y3))
 | 0 => ⟨fun _ _ _ r h => by simp [spec_VolumeOf.j0] at h, fun _ _ _ _ r h => by simp [spec_VolumeOf.l0] at h⟩
 | k + 1 => by
  obtain ⟨ih0, ih1⟩ := spec_VolumeOf.mono_l k
  refine ⟨?_, ?_⟩
  ·intro y0 y1 y2
   unfold spec_VolumeOf.j0
   have m0 := @spec_l12At.mono; have m1 := @spec_l12Good.mono; have m2 := @spec_l4Legs.mono; have m3 := @spec_l9Reduce.mono
   exact qmono
  ·intro y0 y1 y2 y3
   unfold spec_VolumeOf.l0
   have m0 := @spec_l12At.mono; have m1 := @spec_l12Good.mono; have m2 := @spec_l4Legs.mono; have m3 := @spec_l9Reduce.mono
   exact qmono
theorem spec_VolumeOf.mono : ∀ a0 a1 k, LeO (spec_VolumeOf.f k a0 a1) (spec_VolumeOf.f (k + 1) a0 a1) := by
 intro a0 a1 k; obtain ⟨ih0, ih1⟩ := spec_VolumeOf.mono_l k
 unfold spec_VolumeOf.f
 have m0 := @spec_l12At.mono; have m1 := @spec_l12Good.mono; have m2 := @spec_l4Legs.mono; have m3 := @spec_l9Reduce.mono
 exact qmono
def spec_VolumeOf.T7 : Bool × List (List Nat × List Nat) := (true, [([], []), ([], []), ([], []), ([], []), ([2, 3], [2, 3]), ([4], [4]), ([5], [5]), ([1, 6], [1, 6]), ([], []), ([], []), ([], []), ([9, 10], [9, 10]), ([11], [11]), ([12], [12]), ([8, 13, 7], [8, 13]), ([7, 14], [7, 14]), ([], []), ([], []), ([16, 17], [16, 17]), ([18], [18]), ([19], [19]), ([15, 20], [15, 20]), ([0, 21], [0, 21]), ([22, 14, 0, 1, 2, 3, 4, 5, 6, 7, 8, 9, 10, 11, 12, 13, 14, 15, 16, 17, 18, 19, 20, 21, 22], [0, 22])])
def spec_VolumeOf.B7 : List Nat := [0, 0, 0, 0, 12, 28, 60, 126, 0, 0, 0, 1536, 3584, 7680, 16382, 32766, 0, 0, 196608, 458752, 983040, 2097150, 4194303, 8388607]
theorem spec_VolumeOf.tab7 : rtab .any (opsOf Try.f7 7) = spec_VolumeOf.T7 := by kernel_rfl
theorem spec_VolumeOf.bits7 : waitsOk spec_VolumeOf.T7.2 spec_VolumeOf.B7 = true := by kernel_rfl
theorem spec_VolumeOf.calls (k : Nat) (A0 : Option Addr) (c0 : Nat) (l0 : List (S60)) (A1 : Option Addr) (c1 : Nat) (l1 : List (S55)) (r1 : Int) (r2 : Int) (r3 : Bool) (w : World) (hr0 : Kd.C k60 w A0 l0.length l0) (hc0 : l0.length ≤ c0) (hr1 : Kd.C k55 w A1 l1.length l1) (hc1 : l1.length ≤ c1) (h : spec_VolumeOf.f k l0 l1 = some (r1, r2, r3)) :
  Calls Try.prog 7 #[.slice A0 l0.length c0, .slice A1 l1.length c1] w fun e w' => e = .returned (.tuple #[.int .i64 r1, .int .i64 r2, .bool r3]) ∧ Below w.heap.size w w' := by
 have HR0 := Aside0.mk hr0; have HC0 := Aside0.mk hc0; clear hr0 hc0; have HR1 := Aside0.mk hr1; have HC1 := Aside0.mk hc1; clear hr1 hc1; have HB := Aside0.mk (Below.refl w.heap.size w); have H : ((spec_l12Good.f k l0).bind fun t323 => (if t323 = true then ((spec_l4Legs.f k l1).bind fun t324 => (spec_VolumeOf.j0 k l0 l1 (!t324))) else (spec_VolumeOf.j0 k l0 l1 true))) = some (r1, r2, r3) := h; clear h; have HC3 := Aside0.mk H; clear H
 go_enter Try.func7, Try.ntmps7
 go_upto_region 1 with (fail)
 go_cut [18] (fun v18 wc => ∃ (kq : Nat) (x18_2 : Bool), v18 = .bool x18_2 ∧ Aside0 (spec_VolumeOf.j0 kq l0 l1 x18_2 = some (r1, r2, r3)) ∧ Aside0 (kq ≤ k) ∧ Aside0 (Below w.heap.size w wc))
 case first =>
  have H := HC3.out; clear HC3; replace H := bindA H; obtain ⟨t323, A4, H⟩ := H; (try dsimp only at H)
  by_cases c5 : t323 = true
  ·subst c5; rw [if_pos rfl] at H; replace H := Option.bind_eq_some_iff.mp H; obtain ⟨t324, A60, H⟩ := H; replace H : (spec_VolumeOf.j0 k l0 l1 (!t324)) = some (r1, r2, r3) := H; have A6 := Aside0.mk A60; clear A60; have H' := Aside0.mk H; clear H
   go_wp2_with (first | ((with_reducible refine gate_callee (f := 29) rfl ?_); refine goesL_ (some 12) rfl rfl Try.func29 (by kernel_rfl) rfl #[.slice A0 l0.length c0] rfl (qP2) ?_; (with_reducible refine (spec_l12Good.calls k _ _ l0 true _ ?s1 ?s2 A4.out).mono ?_); (case s1 => exact (qP13 HR0.out)); (case s2 => exact HC0.out); rintro e w7 ⟨rfl, hb⟩; refine ⟨_, rfl, ?_⟩; replace HB := Aside0.mk (qP57); clear hb) | (go_at_call 30; (with_reducible refine (spec_l4Legs.calls k _ _ l1 t324 _ ?s1 ?s2 A6.out).mono ?_); (case s1 => exact (qP13 HR1.out)); (case s2 => exact HC1.out); rintro e w8 ⟨rfl, hb⟩; replace HB := Aside0.mk (qP57); clear hb))
   go_meet
   case rel => exact ⟨_, (!t324), (qP14), H', ⟨by first | omega | exact Nat.le_refl _⟩, ⟨(qP0)⟩⟩
  ·replace c5 := Bool.eq_false_iff.mpr c5; subst c5; rw [if_neg (show ¬ (false = true) by decide)] at H; have H' := Aside0.mk H; clear H
   go_wp2_with (first | ((with_reducible refine gate_callee (f := 29) rfl ?_); refine goesL_ (some 12) rfl rfl Try.func29 (by kernel_rfl) rfl #[.slice A0 l0.length c0] rfl (qP2) ?_; (with_reducible refine (spec_l12Good.calls k _ _ l0 false _ ?s1 ?s2 A4.out).mono ?_); (case s1 => exact (qP13 HR0.out)); (case s2 => exact HC0.out); rintro e w9 ⟨rfl, hb⟩; refine ⟨_, rfl, ?_⟩; replace HB := Aside0.mk (qP57); clear hb))
   go_meet
   case rel => exact ⟨_, (true), (qP14), H', ⟨by first | omega | exact Nat.le_refl _⟩, ⟨(qP0)⟩⟩
 case rest =>
  clear HC3; (try clear c1); (try clear c2); (try clear p2); (try clear c5); (try clear c7); obtain ⟨kq, x18_2, rfl, HA, HJ2, HB⟩ := hcut
  cases kq with
  | zero => exact absurd HA.out (by simp [spec_VolumeOf.j0])
  | succ kj2 =>
   have H := HA.out; clear HA; simp only [spec_VolumeOf.j0] at H
   by_cases c10 : x18_2 = true
   ·subst c10; rw [if_pos rfl] at H; simp only [Option.some.injEq, Prod.mk.injEq] at H; obtain ⟨rfl, rfl, rfl⟩ := H
    go_wp2
    go_ret3
    exact ⟨(qP8), (qP0)⟩
   ·replace c10 := Bool.eq_false_iff.mpr c10; subst c10; rw [if_neg (show ¬ (false = true) by decide)] at H; have H' := Aside0.mk H; clear H
    go_wp2
    go_loopg [7, 8] kj2 (fun kq v7 v8 w' => ∃ (x7_2 : Int) (x8_2 : Int), v7 = .int .i64 x7_2 ∧ v8 = .int .i64 x8_2 ∧ Aside0 (spec_VolumeOf.l0 kq l0 l1 x7_2 x8_2 = some (r1, r2, r3)) ∧ Aside0 (kq ≤ kj2) ∧ Aside0 (Below w.heap.size w w'))
    case atStart => exact ⟨(0), (0), (qP14), (qP14), H', ⟨Nat.le_refl _⟩, ⟨(qP0)⟩⟩
    case round =>
     clear H'; (try clear c1); (try clear c2); (try clear p2); (try clear c5); (try clear c7); (try clear c10); (try clear p2); obtain ⟨x7_2, x8_2, rfl, rfl, HA, HK2, HB⟩ := hrel
     cases gk with
     | zero => exact absurd HA.out (by simp [spec_VolumeOf.l0])
     | succ k2 =>
      have H := HA.out; clear HA; simp only [spec_VolumeOf.l0] at H
      by_cases c11 : x8_2 < (l1.length : Int)
      ·rw [if_pos c11] at H; have c11b0 : decide (x8_2 < (l1.length : Int)) = true := decide_eq_true c11; clear c11
       by_cases c12 : 0 ≤ x8_2
       ·rw [if_pos c12] at H; have c12b0 : decide (0 ≤ x8_2) = true := decide_eq_true c12; clear c12; replace H := bindA H; obtain ⟨t326, A13, H⟩ := H; (try dsimp only at H); replace H := bindA H; obtain ⟨t328, A14, H⟩ := H; (try dsimp only at H); have H' := Aside0.mk H; clear H
        try go_wp2
        replace HB := Aside0.mk (below_drew1 HB.out); have p325 : 0 ≤ (x8_2 : Int) := of_decide_eq_true (qP12); have q325 : x8_2 < (l1.length : Int) := of_decide_eq_true (qP12); obtain ⟨ad325, e325, hx325_0, hx325_1, hx325_2, hx325_3, hx325_4⟩ := at_T55 HR1.out x8_2 p325 q325; have hw325_4 := hx325_4; have hw325_3 := hx325_3; have hw325_2 := hx325_2; have hw325_1 := hx325_1; have hw325_0 := hx325_0; cases e325; replace hx325_0 := (HB.out.cell (World.block_lt_of_cell? w _ hx325_0)).trans hx325_0; replace hx325_1 := (HB.out.cell (World.block_lt_of_cell? w _ hx325_1)).trans hx325_1; replace hx325_2 := (HB.out.cell (World.block_lt_of_cell? w _ hx325_2)).trans hx325_2; replace hx325_3 := (HB.out.cell (World.block_lt_of_cell? w _ hx325_3)).trans hx325_3; replace hx325_4 := (HB.out.cell (World.block_lt_of_cell? w _ hx325_4)).trans hx325_4; replace p325 := eq_true p325; replace q325 := eq_true q325; have p327 : 0 ≤ (x8_2 : Int) := of_decide_eq_true (qP12); have q327 : x8_2 < (l1.length : Int) := of_decide_eq_true (qP12); obtain ⟨ad327, e327, hx327_0, hx327_1, hx327_2, hx327_3, hx327_4⟩ := at_T55 HR1.out x8_2 p327 q327; have hw327_4 := hx327_4; have hw327_3 := hx327_3; have hw327_2 := hx327_2; have hw327_1 := hx327_1; have hw327_0 := hx327_0; obtain rfl : ad325 = ad327 := (by injection e327); replace hx327_0 := (HB.out.cell (World.block_lt_of_cell? w _ hx327_0)).trans hx327_0; replace hx327_1 := (HB.out.cell (World.block_lt_of_cell? w _ hx327_1)).trans hx327_1; replace hx327_2 := (HB.out.cell (World.block_lt_of_cell? w _ hx327_2)).trans hx327_2
        replace hx327_3 := (HB.out.cell (World.block_lt_of_cell? w _ hx327_3)).trans hx327_3; replace hx327_4 := (HB.out.cell (World.block_lt_of_cell? w _ hx327_4)).trans hx327_4; replace p327 := eq_true p327; replace q327 := eq_true q327; have p329 : 0 ≤ (x8_2 : Int) := of_decide_eq_true (qP12); have q329 : x8_2 < (l1.length : Int) := of_decide_eq_true (qP12); obtain ⟨ad329, e329, hx329_0, hx329_1, hx329_2, hx329_3, hx329_4⟩ := at_T55 HR1.out x8_2 p329 q329; have hw329_4 := hx329_4; have hw329_3 := hx329_3; have hw329_2 := hx329_2; have hw329_1 := hx329_1; have hw329_0 := hx329_0; obtain rfl : ad325 = ad329 := (by injection e329); replace hx329_0 := (HB.out.cell (World.block_lt_of_cell? w _ hx329_0)).trans hx329_0; replace hx329_1 := (HB.out.cell (World.block_lt_of_cell? w _ hx329_1)).trans hx329_1; replace hx329_2 := (HB.out.cell (World.block_lt_of_cell? w _ hx329_2)).trans hx329_2; replace hx329_3 := (HB.out.cell (World.block_lt_of_cell? w _ hx329_3)).trans hx329_3; replace hx329_4 := (HB.out.cell (World.block_lt_of_cell? w _ hx329_4)).trans hx329_4; replace p329 := eq_true p329; replace q329 := eq_true q329
        refine start_ (n := 24) (S := fun w' => w'.cell? (ad325.add ((x8_2).toNat * 5)) = some (.int .i64 ((rd_T55 l1 x8_2).f0)) ∧ w'.cell? ⟨(ad325.add ((x8_2).toNat * 5)).block, (ad325.add ((x8_2).toNat * 5)).off + 1, none⟩ = some (.int .i64 ((rd_T55 l1 x8_2).f1)) ∧ w'.cell? ⟨(ad325.add ((x8_2).toNat * 5)).block, (ad325.add ((x8_2).toNat * 5)).off + 2, none⟩ = some (.int .i64 ((rd_T55 l1 x8_2).f2)) ∧ w'.cell? ⟨(ad325.add ((x8_2).toNat * 5)).block, (ad325.add ((x8_2).toNat * 5)).off + 3, none⟩ = some (.int .i64 ((rd_T55 l1 x8_2).f3)) ∧ w'.cell? ⟨(ad325.add ((x8_2).toNat * 5)).block, (ad325.add ((x8_2).toNat * 5)).off + 4, none⟩ = some (.int .i64 ((rd_T55 l1 x8_2).f4)) ∧ w'.cell? (ad325.add ((x8_2).toNat * 5)) = some (.int .i64 ((rd_T55 l1 x8_2).f0)) ∧ w'.cell? ⟨(ad325.add ((x8_2).toNat * 5)).block, (ad325.add ((x8_2).toNat * 5)).off + 1, none⟩ = some (.int .i64 ((rd_T55 l1 x8_2).f1)) ∧ w'.cell? ⟨(ad325.add ((x8_2).toNat * 5)).block, (ad325.add ((x8_2).toNat * 5)).off + 2, none⟩ = some (.int .i64 ((rd_T55 l1 x8_2).f2)) ∧ w'.cell? ⟨(ad325.add ((x8_2).toNat * 5)).block, (ad325.add ((x8_2).toNat * 5)).off + 3, none⟩ = some (.int .i64 ((rd_T55 l1 x8_2).f3)) ∧ w'.cell? ⟨(ad325.add ((x8_2).toNat * 5)).block, (ad325.add ((x8_2).toNat * 5)).off + 4, none⟩ = some (.int .i64 ((rd_T55 l1 x8_2).f4)) ∧ w'.cell? (ad325.add ((x8_2).toNat * 5)) = some (.int .i64 ((rd_T55 l1 x8_2).f0)) ∧ w'.cell? ⟨(ad325.add ((x8_2).toNat * 5)).block, (ad325.add ((x8_2).toNat * 5)).off + 1, none⟩ = some (.int .i64 ((rd_T55 l1 x8_2).f1)) ∧ w'.cell? ⟨(ad325.add ((x8_2).toNat * 5)).block, (ad325.add ((x8_2).toNat * 5)).off + 2, none⟩ = some (.int .i64 ((rd_T55 l1 x8_2).f2)) ∧ w'.cell? ⟨(ad325.add ((x8_2).toNat * 5)).block, (ad325.add ((x8_2).toNat * 5)).off + 3, none⟩ = some (.int .i64 ((rd_T55 l1 x8_2).f3)) ∧ w'.cell? ⟨(ad325.add ((x8_2).toNat * 5)).block, (ad325.add ((x8_2).toNat * 5)).off + 4, none⟩ = some (.int .i64 ((rd_T55 l1 x8_2).f4))) (ds := []) qPb20 (by kernel_rfl) rfl rfl ⟨((HB.out.cell (World.block_lt_of_cell? w _ hw325_0)).trans hw325_0), ((HB.out.cell (World.block_lt_of_cell? w _ hw325_1)).trans hw325_1), ((HB.out.cell (World.block_lt_of_cell? w _ hw325_2)).trans hw325_2), ((HB.out.cell (World.block_lt_of_cell? w _ hw325_3)).trans hw325_3), ((HB.out.cell (World.block_lt_of_cell? w _ hw325_4)).trans hw325_4), ((HB.out.cell (World.block_lt_of_cell? w _ hw327_0)).trans hw327_0), ((HB.out.cell (World.block_lt_of_cell? w _ hw327_1)).trans hw327_1), ((HB.out.cell (World.block_lt_of_cell? w _ hw327_2)).trans hw327_2), ((HB.out.cell (World.block_lt_of_cell? w _ hw327_3)).trans hw327_3), ((HB.out.cell (World.block_lt_of_cell? w _ hw327_4)).trans hw327_4), ((HB.out.cell (World.block_lt_of_cell? w _ hw329_0)).trans hw329_0), ((HB.out.cell (World.block_lt_of_cell? w _ hw329_1)).trans hw329_1), ((HB.out.cell (World.block_lt_of_cell? w _ hw329_2)).trans hw329_2), ((HB.out.cell (World.block_lt_of_cell? w _ hw329_3)).trans hw329_3), ((HB.out.cell (World.block_lt_of_cell? w _ hw329_4)).trans hw329_4)⟩ (fun hHeld => ?_); refine with_tabW spec_VolumeOf.tab7 spec_VolumeOf.bits7 (fun HT_ HW_ => ?_)
        generalize wr.drew = w15 at HB hx325_0 hx325_1 hx325_2 hx325_3 hx325_4 hx327_0 hx327_1 hx327_2 hx327_3 hx327_4 hx329_0 hx329_1 hx329_2 hx329_3 hx329_4 hHeld ⊢
        refine pure_ (i := 0) (N := some 25) (v := ?_) (a' := ?_) qPb21 rfl rfl (qP11) (fun _ _ _ h => h) (Or.inl ⟨by rfl, ?_⟩) ?_ ?_
        rotate_left; exact qP6_c1; rotate_left; exact qP6_c0
        refine pure_ (i := 1) (N := some 26) (v := ?_) (a' := ?_) qPb22 rfl rfl (qP11) (fun _ _ _ h => h) (Or.inl ⟨by rfl, ?_⟩) ?_ ?_
        rotate_left; exact qP6_c1; rotate_left; exact qP6_c0
        refine pure_ (i := 2) (N := some 27) (v := ?_) (a' := ?_) qPb23 rfl rfl (qP11) (fun _ _ _ h => h) (Or.inl ⟨by rfl, ?_⟩) ?_ ?_
        rotate_left; exact qP6_c1; rotate_left; exact qP6_c0
        refine pure_ (i := 3) (N := some 28) (v := ?_) (a' := ?_) qPb24 rfl rfl (qP11) (fun _ _ _ h => h) (Or.inl ⟨by rfl, ?_⟩) ?_ ?_
        rotate_left; exact qP6_c1; rotate_left; exact qP6_c0
        refine pure_ (i := 4) (N := some 29) (v := ?_) (a' := ?_) qPb25 rfl rfl (qP11) (fun _ _ _ h => h) (Or.inl ⟨by rfl, ?_⟩) ?_ ?_
        rotate_left; exact qP6_c1; rotate_left; exact qP6_c0
        refine pure_ (i := 5) (N := some 30) (v := ?_) (a' := ?_) qPb26 rfl rfl (qP11) (fun _ _ _ h => h) (Or.inl ⟨by rfl, ?_⟩) ?_ ?_
        rotate_left; exact qP6_c1; rotate_left; exact qP6_c0
        refine pure_ (i := 8) (N := some 33) (v := ?_) (a' := ?_) #[true, true, true, true, true, true, false, false, true, false, false, false, false, false, false, false, false, false, false, false, false, false, false, false] rfl rfl (qP11) (fun _ _ _ h => h) (Or.inl ⟨by rfl, ?_⟩) ?_ ?_
        rotate_left; exact qP6_c1; rotate_left; exact qP6_c0
        refine pure_ (i := 9) (N := some 34) (v := ?_) (a' := ?_) #[true, true, true, true, true, true, false, false, true, true, false, false, false, false, false, false, false, false, false, false, false, false, false, false] rfl rfl (qP11) (fun _ _ _ h => h) (Or.inl ⟨by rfl, ?_⟩) ?_ ?_
        rotate_left; exact qP6_c1; rotate_left; exact qP6_c0
        refine pure_ (i := 10) (N := some 35) (v := ?_) (a' := ?_) #[true, true, true, true, true, true, false, false, true, true, true, false, false, false, false, false, false, false, false, false, false, false, false, false] rfl rfl (qP11) (fun _ _ _ h => h) (Or.inl ⟨by rfl, ?_⟩) ?_ ?_
        rotate_left; exact qP6_c1; rotate_left; exact qP6_c0
        refine pure_ (i := 11) (N := some 36) (v := ?_) (a' := ?_) #[true, true, true, true, true, true, false, false, true, true, true, true, false, false, false, false, false, false, false, false, false, false, false, false] rfl rfl (qP11) (fun _ _ _ h => h) (Or.inl ⟨by rfl, ?_⟩) ?_ ?_
        rotate_left; exact qP6_c1; rotate_left; exact qP6_c0
        refine pure_ (i := 12) (N := some 37) (v := ?_) (a' := ?_) #[true, true, true, true, true, true, false, false, true, true, true, true, true, false, false, false, false, false, false, false, false, false, false, false] rfl rfl (qP11) (fun _ _ _ h => h) (Or.inl ⟨by rfl, ?_⟩) ?_ ?_
        rotate_left; exact qP6_c1; rotate_left; exact qP6_c0
        refine pure_ (i := 16) (N := some 41) (v := ?_) (a' := ?_) #[true, true, true, true, true, true, false, false, true, true, true, true, true, false, false, false, true, false, false, false, false, false, false, false] rfl rfl (qP11) (fun _ _ _ h => h) (Or.inl ⟨by rfl, ?_⟩) ?_ ?_
        rotate_left; exact qP6_c1; rotate_left; exact qP6_c0
        refine pure_ (i := 17) (N := some 42) (v := ?_) (a' := ?_) #[true, true, true, true, true, true, false, false, true, true, true, true, true, false, false, false, true, true, false, false, false, false, false, false] rfl rfl (qP11) (fun _ _ _ h => h) (Or.inl ⟨by rfl, ?_⟩) ?_ ?_
        rotate_left; exact qP6_c1; rotate_left; exact qP6_c0
        refine pure_ (i := 18) (N := some 43) (v := ?_) (a' := ?_) #[true, true, true, true, true, true, false, false, true, true, true, true, true, false, false, false, true, true, true, false, false, false, false, false] rfl rfl (qP11) (fun _ _ _ h => h) (Or.inl ⟨by rfl, ?_⟩) ?_ ?_
        rotate_left; exact qP6_c1; rotate_left; exact qP6_c0
        refine pure_ (i := 19) (N := some 44) (v := ?_) (a' := ?_) #[true, true, true, true, true, true, false, false, true, true, true, true, true, false, false, false, true, true, true, true, false, false, false, false] rfl rfl (qP11) (fun _ _ _ h => h) (Or.inl ⟨by rfl, ?_⟩) ?_ ?_
        rotate_left; exact qP6_c1; rotate_left; exact qP6_c0
        refine take_ (i := 6) (N := some 31) (v := ?_) (a' := ?_) #[true, true, true, true, true, true, true, false, true, true, true, true, true, false, false, false, true, true, true, true, false, false, false, false] rfl rfl (take_ofW HT_.out HW_.out (by kernel_rfl)) (fun _ _ _ h => h) (Or.inl ⟨by rfl, ?_⟩) hHeld ?_ ?_
        rotate_left
        ·rintro w' ⟨s0, s1, s2, s3, s4, s5, s6, s7, s8, s9, s10, s11, s12, s13, s14⟩
         go_simp
         with_reducible rfl
        rotate_left
        ·exact qP6_c0
        refine take_ (i := 13) (N := some 38) (v := ?_) (a' := ?_) #[true, true, true, true, true, true, true, false, true, true, true, true, true, true, false, false, true, true, true, true, false, false, false, false] rfl rfl (take_ofW HT_.out HW_.out (by kernel_rfl)) (fun _ _ _ h => h) (Or.inl ⟨by rfl, ?_⟩) hHeld ?_ ?_
        rotate_left
        ·rintro w' ⟨s0, s1, s2, s3, s4, s5, s6, s7, s8, s9, s10, s11, s12, s13, s14⟩
         go_simp
         with_reducible rfl
        rotate_left
        ·exact qP6_c0
        refine take_ (i := 20) (N := some 45) (v := ?_) (a' := ?_) #[true, true, true, true, true, true, true, false, true, true, true, true, true, true, false, false, true, true, true, true, true, false, false, false] rfl rfl (take_ofW HT_.out HW_.out (by kernel_rfl)) (fun _ _ _ h => h) (Or.inl ⟨by rfl, ?_⟩) hHeld ?_ ?_
        rotate_left
        ·rintro w' ⟨s0, s1, s2, s3, s4, s5, s6, s7, s8, s9, s10, s11, s12, s13, s14⟩
         go_simp
         with_reducible rfl
        rotate_left
        ·exact qP6_c0
        refine one_ (i := 7) (N := some 32) #[true, true, true, true, true, true, true, true, true, true, true, true, true, true, false, false, true, true, true, true, true, false, false, false] rfl rfl (qP35) (by decide) (fun K hK => ?_)
        refine goes_ Try.func31 (by kernel_rfl) rfl #[.slice A0 l0.length c0, .int .i64 ((rd_T55 l1 x8_2).f0)] (by rfl) rfl rfl (qP2) ?_
        with_reducible refine (spec_l12At.calls k2 _ _ l0 ((rd_T55 l1 x8_2).f0) t326 _ ?s1 ?s2 A13.out).mono ?_
        (case s1 => exact (qP13 HR0.out))
        (case s2 => exact HC0.out)
        rintro e w16 ⟨rfl, hb⟩
        refine ⟨_, rfl, ?_⟩
        replace HB := Aside0.mk (qP57)
        (try clear hb)
        (try clear hb2)
        (try clear hk)
        (try clear hi)
        refine hK.out _ _ ⟨((HB.out.cell (World.block_lt_of_cell? w _ hw325_0)).trans hw325_0), ((HB.out.cell (World.block_lt_of_cell? w _ hw325_1)).trans hw325_1), ((HB.out.cell (World.block_lt_of_cell? w _ hw325_2)).trans hw325_2), ((HB.out.cell (World.block_lt_of_cell? w _ hw325_3)).trans hw325_3), ((HB.out.cell (World.block_lt_of_cell? w _ hw325_4)).trans hw325_4), ((HB.out.cell (World.block_lt_of_cell? w _ hw327_0)).trans hw327_0), ((HB.out.cell (World.block_lt_of_cell? w _ hw327_1)).trans hw327_1), ((HB.out.cell (World.block_lt_of_cell? w _ hw327_2)).trans hw327_2), ((HB.out.cell (World.block_lt_of_cell? w _ hw327_3)).trans hw327_3), ((HB.out.cell (World.block_lt_of_cell? w _ hw327_4)).trans hw327_4), ((HB.out.cell (World.block_lt_of_cell? w _ hw329_0)).trans hw329_0), ((HB.out.cell (World.block_lt_of_cell? w _ hw329_1)).trans hw329_1), ((HB.out.cell (World.block_lt_of_cell? w _ hw329_2)).trans hw329_2), ((HB.out.cell (World.block_lt_of_cell? w _ hw329_3)).trans hw329_3), ((HB.out.cell (World.block_lt_of_cell? w _ hw329_4)).trans hw329_4)⟩ (fun hHeld => ?_)
        clear hK K
        refine norm_ (a' := ?_) ?_ ?_
        rotate_left
        ·show Act.put _ (some 32) _ = _
         simp only [Act.put, List.setIfInBounds_toArray, List.set_cons_zero, List.set_cons_succ, i64_w, i32_w]
         rfl
        refine one_ (i := 14) (N := some 39) #[true, true, true, true, true, true, true, true, true, true, true, true, true, true, true, false, true, true, true, true, true, false, false, false] rfl rfl (qP35) (by decide) (fun K hK => ?_)
        refine goes_ Try.func31 (by kernel_rfl) rfl #[.slice A0 l0.length c0, .int .i64 ((rd_T55 l1 x8_2).f1)] (by rfl) rfl rfl (qP2) ?_
        with_reducible refine (spec_l12At.calls k2 _ _ l0 ((rd_T55 l1 x8_2).f1) t328 _ ?s1 ?s2 A14.out).mono ?_
        (case s1 => exact (qP13 HR0.out))
        (case s2 => exact HC0.out)
        rintro e w17 ⟨rfl, hb⟩
        refine ⟨_, rfl, ?_⟩
        replace HB := Aside0.mk (qP57)
        (try clear hb)
        (try clear hb2)
        (try clear hk)
        (try clear hi)
        refine hK.out _ _ ⟨((HB.out.cell (World.block_lt_of_cell? w _ hw325_0)).trans hw325_0), ((HB.out.cell (World.block_lt_of_cell? w _ hw325_1)).trans hw325_1), ((HB.out.cell (World.block_lt_of_cell? w _ hw325_2)).trans hw325_2), ((HB.out.cell (World.block_lt_of_cell? w _ hw325_3)).trans hw325_3), ((HB.out.cell (World.block_lt_of_cell? w _ hw325_4)).trans hw325_4), ((HB.out.cell (World.block_lt_of_cell? w _ hw327_0)).trans hw327_0), ((HB.out.cell (World.block_lt_of_cell? w _ hw327_1)).trans hw327_1), ((HB.out.cell (World.block_lt_of_cell? w _ hw327_2)).trans hw327_2), ((HB.out.cell (World.block_lt_of_cell? w _ hw327_3)).trans hw327_3), ((HB.out.cell (World.block_lt_of_cell? w _ hw327_4)).trans hw327_4), ((HB.out.cell (World.block_lt_of_cell? w _ hw329_0)).trans hw329_0), ((HB.out.cell (World.block_lt_of_cell? w _ hw329_1)).trans hw329_1), ((HB.out.cell (World.block_lt_of_cell? w _ hw329_2)).trans hw329_2), ((HB.out.cell (World.block_lt_of_cell? w _ hw329_3)).trans hw329_3), ((HB.out.cell (World.block_lt_of_cell? w _ hw329_4)).trans hw329_4)⟩ (fun hHeld => ?_)
        clear hK K
        refine norm_ (a' := ?_) ?_ ?_
        rotate_left
        ·show Act.put _ (some 39) _ = _
         simp only [Act.put, List.setIfInBounds_toArray, List.set_cons_zero, List.set_cons_succ, i64_w, i32_w]
         rfl
        refine pure_ (i := 15) (N := some 40) (v := ?_) (a' := ?_) qPb41 rfl rfl (qP11) (fun _ _ _ h => h) (Or.inl ⟨by rfl, ?_⟩) ?_ ?_
        rotate_left; exact qP6_c1; rotate_left; exact qP6_c0
        refine pure_ (i := 21) (N := some 46) (v := ?_) (a' := ?_) qPb42 rfl rfl (qP11) (fun _ _ _ h => h) (Or.inl ⟨by rfl, ?_⟩) ?_ ?_
        rotate_left; exact qP6_c1; rotate_left; exact qP6_c0
        refine pure_ (i := 22) (N := some 47) (v := ?_) (a' := ?_) qPb43 rfl rfl (qP11) (fun _ _ _ h => h) (Or.inl ⟨by rfl, ?_⟩) ?_ ?_
        rotate_left; exact qP6_c1; rotate_left; exact qP6_c0
        refine pure_ (i := 23) (N := some 7) (v := ?_) (a' := ?_) qPb44 rfl rfl (qP11) (fun _ _ _ h => h) (Or.inl ⟨by rfl, ?_⟩) ?_ ?_
        rotate_left; exact qP6_c1; rotate_left; exact qP6_c0
        refine done_ (qP43) ?_
        try go_wp2
        go_roundg k2
        case measure => have := HJ2.out; have := HK2.out; omega
        case rel => exact ⟨(wrap64 (x7_2 + (wrap64 ((wrap64 (t326 + t328)) * ((rd_T55 l1 x8_2).f2))))), (wrap64 (x8_2 + 1)), (qP14), (qP14), H', ⟨by have := HJ2.out; have := HK2.out; omega⟩, ⟨(qP0)⟩⟩
       ·rw [if_neg c12] at H
        exact absurd H (by simp)
      ·rw [if_neg c11] at H; have c11b0 : decide (x8_2 < (l1.length : Int)) = false := decide_eq_false c11; clear c11; replace H := Option.bind_eq_some_iff.mp H; obtain ⟨⟨t330, t331⟩, A180, H⟩ := H; replace H : (some (t330, t331, true)) = some (r1, r2, r3) := H; have A18 := Aside0.mk A180; clear A180; simp only [Option.some.injEq, Prod.mk.injEq] at H; obtain ⟨rfl, rfl, rfl⟩ := H
       go_wp2_with (first | ((with_reducible refine gate_callee (f := 32) rfl ?_); refine goesL_ (some 50) rfl rfl Try.func32 (by kernel_rfl) rfl #[.int .i64 x7_2, .int .i64 2] rfl (qP2) ?_; (with_reducible refine (spec_l9Reduce.calls k2 x7_2 2 t330 t331 _ A18.out).mono ?_); rintro e w' ⟨rfl, ⟨nd, rfl⟩⟩; refine ⟨_, rfl, ?_⟩))
       go_ret3
       exact ⟨(qP8), (qP0)⟩

/-! ### spec_ArePassages: function 9 -/
def spec_ArePassages.f (k : Nat) (l0 : List (S60)) : Option (Bool) := (spec_l12Good.f k l0).bind fun t332 => (some t332)
theorem spec_ArePassages.mono : ∀ a0 k, LeO (spec_ArePassages.f k a0) (spec_ArePassages.f (k + 1) a0) := by
 intro a0 k
 unfold spec_ArePassages.f
 have m0 := @spec_l12Good.mono
 exact qmono
theorem spec_ArePassages.calls (k : Nat) (A0 : Option Addr) (c0 : Nat) (l0 : List (S60)) (r : Bool) (w : World) (hr0 : Kd.C k60 w A0 l0.length l0) (hc0 : l0.length ≤ c0) (h : spec_ArePassages.f k l0 = some r) :
  Calls Try.prog 9 #[.slice A0 l0.length c0] w fun e w' => e = .returned (.bool r) ∧ Below w.heap.size w w' := by
 have HR0 := Aside0.mk hr0; have HC0 := Aside0.mk hc0; clear hr0 hc0; have HB := Aside0.mk (Below.refl w.heap.size w); have H : ((spec_l12Good.f k l0).bind fun t332 => (some t332)) = some r := h; clear h; replace H := Option.bind_eq_some_iff.mp H; obtain ⟨t332, A20, H⟩ := H; replace H : (some t332) = some r := H; have A2 := Aside0.mk A20; clear A20; obtain rfl := Option.some.inj H
 go_enter Try.func9, Try.ntmps9
 go_wp2_with (first | ((with_reducible refine gate_callee (f := 29) rfl ?_); refine goesL_ (some 4) rfl rfl Try.func29 (by kernel_rfl) rfl #[.slice A0 l0.length c0] rfl (qP2) ?_; (with_reducible refine (spec_l12Good.calls k _ _ l0 t332 _ ?s1 ?s2 A2.out).mono ?_); (case s1 => exact (qP28 HR0.out)); (case s2 => exact HC0.out); rintro e w3 ⟨rfl, hb⟩; refine ⟨_, rfl, ?_⟩; replace HB := Aside0.mk (qP57); clear hb))
 go_ret
 exact ⟨(qP8), (qP0)⟩

end Go.Proofs.Ytffdglecmjbolaa.MP
