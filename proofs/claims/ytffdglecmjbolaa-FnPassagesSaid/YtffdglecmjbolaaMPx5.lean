-- Written by a program of this session (wip/drv.py, wip/tight2.py). -- tight2
import Derived.Test.YtffdglecmjbolaaMPx0
import Derived.Test.YtffdglecmjbolaaMPx4
namespace Go.Proofs.Ytffdglecmjbolaa.MP
open Go.RowKit Go.Proofs.YtffdglecmjbolaaW.PrintWords Go.Proofs.YtffdglecmjbolaaW.PrintLast Go.Proofs.YtffdglecmjbolaaW.PrintMore
set_option maxHeartbeats 8000000
set_option maxRecDepth 100000
theorem qP5_c0 {p : Prop} (h : p := by
  simp only [Act.put, List.setIfInBounds_toArray, List.set_cons_zero, List.set_cons_succ, i64_w, i32_w]
  rfl) : p := h
theorem qP5_c1 {p : Prop} (h : p := by
  intro w'
  go_simp
  with_reducible rfl) : p := h
theorem qP5_c2 {p : Prop} (h : p := by
  rintro w' ⟨s0, s1, s2, s3, s4, s5, s6, s7, s8, s9, s10, s11, s12, s13, s14⟩
  go_simp
  with_reducible rfl) : p := h
theorem qP5_c3 {p : Prop} (h : p := by
  show Act.put _ (some 14) _ = _
  simp only [Act.put, List.setIfInBounds_toArray, List.set_cons_zero, List.set_cons_succ, i64_w, i32_w]
  rfl) : p := h
attribute [local go_sem] max2_int min2_int max_two min_two max_three min_three max_four min_four   -- for this text's walks alone
set_option linter.unusedVariables false
set_option linter.unusedSimpArgs false

/-! ### spec_l12Good: function 29 -/
def spec_l12Good.l0 : Nat → List (S60) → Int → Option (Bool)
 | 0, _, _ => none
 | k + 1, x0, x3 => if x3 < (x0.length : Int) then (if 0 ≤ x3 then ((spec_l12One.f ((rd_T60 x0 x3).f0) ((rd_T60 x0 x3).f1) ((rd_T60 x0 x3).f2) ((rd_T60 x0 x3).f3) ((rd_T60 x0 x3).f4)).bind fun t305 => (if t305 = true then (if x3 > 0 then (if 0 ≤ (wrap64 (x3 - 1)) then (if (wrap64 (x3 - 1)) < (x0.length : Int) then (if ((rd_T60 x0 (wrap64 (x3 - 1))).f0) ≥ ((rd_T60 x0 x3).f0) then (some false) else (spec_l12Good.l0 k x0 (wrap64 (x3 + 1)))) else (none)) else (none)) else (spec_l12Good.l0 k x0 (wrap64 (x3 + 1)))) else (some false))) else (none)) else (some true)
def spec_l12Good.f (k : Nat) (l0 : List (S60)) : Option (Bool) := spec_l12Good.l0 k l0 0
theorem spec_l12Good.mono_l : ∀ k, (∀ y0 y1, LeO (spec_l12Good.l0 k y0 y1) (spec_l12Good.l0 (k + 1) y0 y1))
 | 0 => fun _ _ r h => by simp [spec_l12Good.l0] at h
 | k + 1 => by
  have ih0 := spec_l12Good.mono_l k
  ·intro y0 y1
   unfold spec_l12Good.l0
   exact qmono
theorem spec_l12Good.mono : ∀ a0 k, LeO (spec_l12Good.f k a0) (spec_l12Good.f (k + 1) a0) := by
 intro a0 k; have ih0 := spec_l12Good.mono_l k
 unfold spec_l12Good.f
 exact qmono
def spec_l12Good.T4 : Bool × List (List Nat × List Nat) := (true, [([], []), ([], []), ([0, 1], [0, 1]), ([2], [2]), ([3], [3]), ([4], [4]), ([5, 4], [5]), ([6], [6]), ([7, 6], [6, 7]), ([8, 6, 6], [6, 8]), ([9], [9]), ([9], [9]), ([11, 9], [9, 11]), ([10, 12, 9], [9, 10, 12]), ([13, 9], [9, 13]), ([14, 9], [9, 14]), ([9], [9]), ([9], [9]), ([16, 17, 9], [9, 16, 17]), ([18, 9], [9, 18]), ([19, 9], [9, 19]), ([15, 20, 9], [9, 15, 20]), ([9, 21, 6], [6, 9, 21]), ([6, 22], [6, 22])])
def spec_l12Good.B4 : List Nat := [0, 0, 3, 7, 15, 31, 63, 127, 255, 511, 1023, 1023, 3071, 8191, 16383, 32767, 1023, 1023, 197631, 459775, 984063, 2097151, 4194303, 8388607]
theorem spec_l12Good.tab4 : rtab .any (opsOf Try.f29 4) = spec_l12Good.T4 := by kernel_rfl
theorem spec_l12Good.bits4 : waitsOk spec_l12Good.T4.2 spec_l12Good.B4 = true := by kernel_rfl
theorem spec_l12Good.calls (k : Nat) (A0 : Option Addr) (c0 : Nat) (l0 : List (S60)) (r : Bool) (w : World) (hr0 : Kd.C k60 w A0 l0.length l0) (hc0 : l0.length ≤ c0) (h : spec_l12Good.f k l0 = some r) :
  Calls Try.prog 29 #[.slice A0 l0.length c0] w fun e w' => e = .returned (.bool r) ∧ Below w.heap.size w w' := by
 have hu60 := Try.underlying60; have HR0 := Aside0.mk hr0; have HC0 := Aside0.mk hc0; clear hr0 hc0; have HB := Aside0.mk (Below.refl w.heap.size w); have H : (spec_l12Good.l0 k l0 0) = some r := h; clear h; have H' := Aside0.mk H; clear H
 go_enter Try.func29, Try.ntmps29
 go_wp2
 go_loopg [3] k (fun kq v3 w' => ∃ (x3_1 : Int), v3 = .int .i64 x3_1 ∧ Aside0 (spec_l12Good.l0 kq l0 x3_1 = some r) ∧ Aside0 (kq ≤ k) ∧ Aside0 (Below w.heap.size w w'))
 case atStart => exact ⟨(0), (qP14), H', ⟨Nat.le_refl _⟩, ⟨(qP0)⟩⟩
 case round =>
  clear H'; obtain ⟨x3_1, rfl, HA, HK1, HB⟩ := hrel
  cases gk with
  | zero => exact absurd HA.out (by simp [spec_l12Good.l0])
  | succ k1 =>
   have H := HA.out; clear HA; simp only [spec_l12Good.l0] at H
   by_cases c2 : x3_1 < (l0.length : Int)
   ·rw [if_pos c2] at H; have c2b0 : decide (x3_1 < (l0.length : Int)) = true := decide_eq_true c2; clear c2
    by_cases c3 : 0 ≤ x3_1
    ·rw [if_pos c3] at H; have c3b0 : decide (0 ≤ x3_1) = true := decide_eq_true c3; clear c3; replace H := bindA H; obtain ⟨t305, A4, H⟩ := H; (try dsimp only at H)
     by_cases c5 : t305 = true
     ·subst c5; rw [if_pos rfl] at H
      by_cases c6 : x3_1 > 0
      ·rw [if_pos c6] at H; have c6b0 : decide (0 < x3_1) = true := decide_eq_true c6; clear c6; obtain ⟨ji7, hji7⟩ : ∃ j_ : Int, (wrap64 (x3_1 - 1)) = j_ := ⟨_, rfl⟩
       replace H : (if 0 ≤ (ji7) then (if (ji7) < (l0.length : Int) then (if ((rd_T60 l0 (ji7)).f0) ≥ ((rd_T60 l0 x3_1).f0) then (some false) else (spec_l12Good.l0 k1 l0 (wrap64 (x3_1 + 1)))) else (none)) else (none)) = some r := by first | (rw [hji7] at H; exact H) | (simp only [hji7] at H ⊢; exact H)
       (try rw [hji7] at A4); have hji7w : (IntKind.i64.wrap (x3_1 - 1)) = ji7 := (i64_w _).trans hji7
       by_cases c8 : 0 ≤ (ji7)
       ·rw [if_pos c8] at H; have c8b0 : decide (0 ≤ (ji7)) = true := decide_eq_true c8; clear c8
        by_cases c9 : (ji7) < (l0.length : Int)
        ·rw [if_pos c9] at H; have c9b0 : decide ((ji7) < (l0.length : Int)) = true := decide_eq_true c9; clear c9
         by_cases c10 : ((rd_T60 l0 (ji7)).f0) ≥ ((rd_T60 l0 x3_1).f0)
         ·rw [if_pos c10] at H; have c10b0 : decide (((rd_T60 l0 x3_1).f0) ≤ ((rd_T60 l0 (ji7)).f0)) = true := decide_eq_true c10; clear c10; obtain rfl := Option.some.inj H
          try go_wp2
          replace HB := Aside0.mk (below_drew1 HB.out); have p304 : 0 ≤ (x3_1 : Int) := of_decide_eq_true (qP12); have q304 : x3_1 < (l0.length : Int) := of_decide_eq_true (qP12); obtain ⟨ad304, e304, hx304_0, hx304_1, hx304_2, hx304_3, hx304_4⟩ := at_T60 HR0.out x3_1 p304 q304; have hw304_4 := hx304_4; have hw304_3 := hx304_3; have hw304_2 := hx304_2; have hw304_1 := hx304_1; have hw304_0 := hx304_0; cases e304; replace hx304_0 := (HB.out.cell (World.block_lt_of_cell? w _ hx304_0)).trans hx304_0; replace hx304_1 := (HB.out.cell (World.block_lt_of_cell? w _ hx304_1)).trans hx304_1; replace hx304_2 := (HB.out.cell (World.block_lt_of_cell? w _ hx304_2)).trans hx304_2; replace hx304_3 := (HB.out.cell (World.block_lt_of_cell? w _ hx304_3)).trans hx304_3; replace hx304_4 := (HB.out.cell (World.block_lt_of_cell? w _ hx304_4)).trans hx304_4; replace p304 := eq_true p304; replace q304 := eq_true q304; have p306 : 0 ≤ ((ji7) : Int) := of_decide_eq_true (qP12); have q306 : (ji7) < (l0.length : Int) := of_decide_eq_true (qP12); obtain ⟨ad306, e306, hx306_0, hx306_1, hx306_2, hx306_3, hx306_4⟩ := at_T60 HR0.out (ji7) p306 q306; have hw306_4 := hx306_4; have hw306_3 := hx306_3; have hw306_2 := hx306_2; have hw306_1 := hx306_1; have hw306_0 := hx306_0; obtain rfl : ad304 = ad306 := (by injection e306); replace hx306_0 := (HB.out.cell (World.block_lt_of_cell? w _ hx306_0)).trans hx306_0; replace hx306_1 := (HB.out.cell (World.block_lt_of_cell? w _ hx306_1)).trans hx306_1; replace hx306_2 := (HB.out.cell (World.block_lt_of_cell? w _ hx306_2)).trans hx306_2
          replace hx306_3 := (HB.out.cell (World.block_lt_of_cell? w _ hx306_3)).trans hx306_3; replace hx306_4 := (HB.out.cell (World.block_lt_of_cell? w _ hx306_4)).trans hx306_4; replace p306 := eq_true p306; replace q306 := eq_true q306; have p307 : 0 ≤ (x3_1 : Int) := of_decide_eq_true (qP12); have q307 : x3_1 < (l0.length : Int) := of_decide_eq_true (qP12); obtain ⟨ad307, e307, hx307_0, hx307_1, hx307_2, hx307_3, hx307_4⟩ := at_T60 HR0.out x3_1 p307 q307; have hw307_4 := hx307_4; have hw307_3 := hx307_3; have hw307_2 := hx307_2; have hw307_1 := hx307_1; have hw307_0 := hx307_0; obtain rfl : ad304 = ad307 := (by injection e307); replace hx307_0 := (HB.out.cell (World.block_lt_of_cell? w _ hx307_0)).trans hx307_0; replace hx307_1 := (HB.out.cell (World.block_lt_of_cell? w _ hx307_1)).trans hx307_1; replace hx307_2 := (HB.out.cell (World.block_lt_of_cell? w _ hx307_2)).trans hx307_2; replace hx307_3 := (HB.out.cell (World.block_lt_of_cell? w _ hx307_3)).trans hx307_3; replace hx307_4 := (HB.out.cell (World.block_lt_of_cell? w _ hx307_4)).trans hx307_4; replace p307 := eq_true p307; replace q307 := eq_true q307
          refine start_ (n := 24) (S := fun w' => w'.cell? (ad304.add ((x3_1).toNat * 5)) = some (.int .i64 ((rd_T60 l0 x3_1).f0)) ∧ w'.cell? ⟨(ad304.add ((x3_1).toNat * 5)).block, (ad304.add ((x3_1).toNat * 5)).off + 1, none⟩ = some (.int .i64 ((rd_T60 l0 x3_1).f1)) ∧ w'.cell? ⟨(ad304.add ((x3_1).toNat * 5)).block, (ad304.add ((x3_1).toNat * 5)).off + 2, none⟩ = some (.int .i64 ((rd_T60 l0 x3_1).f2)) ∧ w'.cell? ⟨(ad304.add ((x3_1).toNat * 5)).block, (ad304.add ((x3_1).toNat * 5)).off + 3, none⟩ = some (.int .i64 ((rd_T60 l0 x3_1).f3)) ∧ w'.cell? ⟨(ad304.add ((x3_1).toNat * 5)).block, (ad304.add ((x3_1).toNat * 5)).off + 4, none⟩ = some (.int .i64 ((rd_T60 l0 x3_1).f4)) ∧ w'.cell? (ad304.add (((ji7)).toNat * 5)) = some (.int .i64 ((rd_T60 l0 (ji7)).f0)) ∧ w'.cell? ⟨(ad304.add (((ji7)).toNat * 5)).block, (ad304.add (((ji7)).toNat * 5)).off + 1, none⟩ = some (.int .i64 ((rd_T60 l0 (ji7)).f1)) ∧ w'.cell? ⟨(ad304.add (((ji7)).toNat * 5)).block, (ad304.add (((ji7)).toNat * 5)).off + 2, none⟩ = some (.int .i64 ((rd_T60 l0 (ji7)).f2)) ∧ w'.cell? ⟨(ad304.add (((ji7)).toNat * 5)).block, (ad304.add (((ji7)).toNat * 5)).off + 3, none⟩ = some (.int .i64 ((rd_T60 l0 (ji7)).f3)) ∧ w'.cell? ⟨(ad304.add (((ji7)).toNat * 5)).block, (ad304.add (((ji7)).toNat * 5)).off + 4, none⟩ = some (.int .i64 ((rd_T60 l0 (ji7)).f4)) ∧ w'.cell? (ad304.add ((x3_1).toNat * 5)) = some (.int .i64 ((rd_T60 l0 x3_1).f0)) ∧ w'.cell? ⟨(ad304.add ((x3_1).toNat * 5)).block, (ad304.add ((x3_1).toNat * 5)).off + 1, none⟩ = some (.int .i64 ((rd_T60 l0 x3_1).f1)) ∧ w'.cell? ⟨(ad304.add ((x3_1).toNat * 5)).block, (ad304.add ((x3_1).toNat * 5)).off + 2, none⟩ = some (.int .i64 ((rd_T60 l0 x3_1).f2)) ∧ w'.cell? ⟨(ad304.add ((x3_1).toNat * 5)).block, (ad304.add ((x3_1).toNat * 5)).off + 3, none⟩ = some (.int .i64 ((rd_T60 l0 x3_1).f3)) ∧ w'.cell? ⟨(ad304.add ((x3_1).toNat * 5)).block, (ad304.add ((x3_1).toNat * 5)).off + 4, none⟩ = some (.int .i64 ((rd_T60 l0 x3_1).f4))) (ds := []) qPb20 (by kernel_rfl) rfl rfl ⟨((HB.out.cell (World.block_lt_of_cell? w _ hw304_0)).trans hw304_0), ((HB.out.cell (World.block_lt_of_cell? w _ hw304_1)).trans hw304_1), ((HB.out.cell (World.block_lt_of_cell? w _ hw304_2)).trans hw304_2), ((HB.out.cell (World.block_lt_of_cell? w _ hw304_3)).trans hw304_3), ((HB.out.cell (World.block_lt_of_cell? w _ hw304_4)).trans hw304_4), ((HB.out.cell (World.block_lt_of_cell? w _ hw306_0)).trans hw306_0), ((HB.out.cell (World.block_lt_of_cell? w _ hw306_1)).trans hw306_1), ((HB.out.cell (World.block_lt_of_cell? w _ hw306_2)).trans hw306_2), ((HB.out.cell (World.block_lt_of_cell? w _ hw306_3)).trans hw306_3), ((HB.out.cell (World.block_lt_of_cell? w _ hw306_4)).trans hw306_4), ((HB.out.cell (World.block_lt_of_cell? w _ hw307_0)).trans hw307_0), ((HB.out.cell (World.block_lt_of_cell? w _ hw307_1)).trans hw307_1), ((HB.out.cell (World.block_lt_of_cell? w _ hw307_2)).trans hw307_2), ((HB.out.cell (World.block_lt_of_cell? w _ hw307_3)).trans hw307_3), ((HB.out.cell (World.block_lt_of_cell? w _ hw307_4)).trans hw307_4)⟩ (fun hHeld => ?_); refine with_tabW spec_l12Good.tab4 spec_l12Good.bits4 (fun HT_ HW_ => ?_)
          generalize wr.drew = w11 at HB hx304_0 hx304_1 hx304_2 hx304_3 hx304_4 hx306_0 hx306_1 hx306_2 hx306_3 hx306_4 hx307_0 hx307_1 hx307_2 hx307_3 hx307_4 hHeld ⊢
          refine pure_ (i := 0) (N := some 10) (v := ?_) (a' := ?_) qPb21 rfl rfl (qP11) (fun _ _ _ h => h) (Or.inl ⟨by rfl, ?_⟩) ?_ ?_
          rotate_left; exact qP5_c1; rotate_left; exact qP5_c0
          refine pure_ (i := 1) (N := some 11) (v := ?_) (a' := ?_) qPb22 rfl rfl (qP11) (fun _ _ _ h => h) (Or.inl ⟨by rfl, ?_⟩) ?_ ?_
          rotate_left; exact qP5_c1; rotate_left; exact qP5_c0
          refine pure_ (i := 2) (N := some 12) (v := ?_) (a' := ?_) qPb23 rfl rfl (qP11) (fun _ _ _ h => h) (Or.inl ⟨by rfl, ?_⟩) ?_ ?_
          rotate_left; exact qP5_c1; rotate_left; exact qP5_c0
          refine take_ (i := 3) (N := some 13) (v := ?_) (a' := ?_) qPb24 rfl rfl (take_ofW HT_.out HW_.out (by kernel_rfl)) (fun _ _ _ h => h) (Or.inl ⟨by rfl, ?_⟩) hHeld ?_ ?_
          rotate_left; exact qP5_c2; rotate_left; exact qP5_c0
          refine one_ (i := 4) (N := some 14) qPb25 rfl rfl (qP35) (by decide) (fun K hK => ?_)
          refine goes_ Try.func49 (by kernel_rfl) rfl #[.agg #[.int .i64 ((rd_T60 l0 x3_1).f0), .int .i64 ((rd_T60 l0 x3_1).f1), .int .i64 ((rd_T60 l0 x3_1).f2), .int .i64 ((rd_T60 l0 x3_1).f3), .int .i64 ((rd_T60 l0 x3_1).f4)]] (by rfl) rfl rfl (qP2) ?_
          with_reducible refine (spec_l12One.calls ((rd_T60 l0 x3_1).f0) ((rd_T60 l0 x3_1).f1) ((rd_T60 l0 x3_1).f2) ((rd_T60 l0 x3_1).f3) ((rd_T60 l0 x3_1).f4) true _ A4.out).mono ?_
          rintro e w12 ⟨rfl, hb⟩
          refine ⟨_, rfl, ?_⟩
          replace HB := Aside0.mk (qP57)
          (try clear hb)
          (try clear hb2)
          (try clear hk)
          (try clear hi)
          refine hK.out _ _ ⟨((HB.out.cell (World.block_lt_of_cell? w _ hw304_0)).trans hw304_0), ((HB.out.cell (World.block_lt_of_cell? w _ hw304_1)).trans hw304_1), ((HB.out.cell (World.block_lt_of_cell? w _ hw304_2)).trans hw304_2), ((HB.out.cell (World.block_lt_of_cell? w _ hw304_3)).trans hw304_3), ((HB.out.cell (World.block_lt_of_cell? w _ hw304_4)).trans hw304_4), ((HB.out.cell (World.block_lt_of_cell? w _ hw306_0)).trans hw306_0), ((HB.out.cell (World.block_lt_of_cell? w _ hw306_1)).trans hw306_1), ((HB.out.cell (World.block_lt_of_cell? w _ hw306_2)).trans hw306_2), ((HB.out.cell (World.block_lt_of_cell? w _ hw306_3)).trans hw306_3), ((HB.out.cell (World.block_lt_of_cell? w _ hw306_4)).trans hw306_4), ((HB.out.cell (World.block_lt_of_cell? w _ hw307_0)).trans hw307_0), ((HB.out.cell (World.block_lt_of_cell? w _ hw307_1)).trans hw307_1), ((HB.out.cell (World.block_lt_of_cell? w _ hw307_2)).trans hw307_2), ((HB.out.cell (World.block_lt_of_cell? w _ hw307_3)).trans hw307_3), ((HB.out.cell (World.block_lt_of_cell? w _ hw307_4)).trans hw307_4)⟩ (fun hHeld => ?_)
          clear hK K
          refine norm_ (a' := ?_) ?_ ?_
          rotate_left
          ·exact qP5_c3
          refine pure_ (i := 5) (N := some 15) (v := ?_) (a' := ?_) qPb26 rfl rfl (qP11) (fun _ _ _ h => h) (Or.inl ⟨by rfl, ?_⟩) ?_ ?_
          rotate_left; exact qP5_c1; rotate_left; exact qP5_c0
          refine pure_ (i := 6) (N := some 16) (v := ?_) (a' := ?_) qPb27 rfl rfl (qP11) (fun _ _ _ h => h) (Or.inl ⟨by rfl, ?_⟩) ?_ ?_
          rotate_left; exact qP5_c1; rotate_left; exact qP5_c0
          refine pure_ (i := 7) (N := some 17) (v := ?_) (a' := ?_) qPb28 rfl rfl (qP11) (fun _ _ _ h => h) (Or.inl ⟨by rfl, ?_⟩) ?_ ?_
          rotate_left; exact qP5_c1; rotate_left; exact qP5_c0
          refine pure_ (i := 8) (N := some 18) (v := ?_) (a' := ?_) qPb29 rfl rfl (qP11) (fun _ _ _ h => h) (Or.inl ⟨by rfl, ?_⟩) ?_ ?_
          rotate_left; exact qP5_c1; rotate_left; exact qP5_c0
          refine pure_ (i := 9) (N := some 19) (v := ?_) (a' := ?_) qPb30 rfl rfl (qP11) (fun _ _ _ h => h) (Or.inl ⟨by rfl, ?_⟩) ?_ ?_
          rotate_left; exact qP5_c1; rotate_left; exact qP5_c0
          refine pure_ (i := 10) (N := some 20) (v := ?_) (a' := ?_) qPb31 rfl rfl (qP11) (fun _ _ _ h => h) (Or.inl ⟨by rfl, ?_⟩) ?_ ?_
          rotate_left; exact qP5_c1; rotate_left; exact qP5_c0
          refine pure_ (i := 11) (N := some 21) (v := ?_) (a' := ?_) qPb32 rfl rfl (qP11) (fun _ _ _ h => h) (Or.inl ⟨by rfl, ?_⟩) ?_ ?_
          rotate_left; exact qP5_c1; rotate_left; exact qP5_c0
          refine pure_ (i := 12) (N := some 22) (v := ?_) (a' := ?_) qPb33 rfl rfl (qP11) (fun _ _ _ h => h) (Or.inl ⟨by rfl, ?_⟩) ?_ ?_
          rotate_left; exact qP5_c1; rotate_left; exact qP5_c0
          refine pure_ (i := 13) (N := some 23) (v := ?_) (a' := ?_) qPb34 rfl rfl (qP11) (fun _ _ _ h => h) (Or.inl ⟨by rfl, ?_⟩) ?_ ?_
          rotate_left; exact qP5_c1; rotate_left; exact qP5_c0
          refine pure_ (i := 14) (N := some 24) (v := ?_) (a' := ?_) qPb35 rfl rfl (qP11) (fun _ _ _ h => h) (Or.inl ⟨by rfl, ?_⟩) ?_ ?_
          rotate_left; exact qP5_c1; rotate_left; exact qP5_c0
          refine pure_ (i := 16) (N := some 26) (v := ?_) (a' := ?_) qPb36 rfl rfl (qP11) (fun _ _ _ h => h) (Or.inl ⟨by rfl, ?_⟩) ?_ ?_
          rotate_left; exact qP5_c1; rotate_left; exact qP5_c0
          refine pure_ (i := 17) (N := some 27) (v := ?_) (a' := ?_) qPb37 rfl rfl (qP11) (fun _ _ _ h => h) (Or.inl ⟨by rfl, ?_⟩) ?_ ?_
          rotate_left; exact qP5_c1; rotate_left; exact qP5_c0
          refine pure_ (i := 18) (N := some 28) (v := ?_) (a' := ?_) qPb38 rfl rfl (qP11) (fun _ _ _ h => h) (Or.inl ⟨by rfl, ?_⟩) ?_ ?_
          rotate_left; exact qP5_c1; rotate_left; exact qP5_c0
          refine pure_ (i := 19) (N := some 29) (v := ?_) (a' := ?_) qPb39 rfl rfl (qP11) (fun _ _ _ h => h) (Or.inl ⟨by rfl, ?_⟩) ?_ ?_
          rotate_left; exact qP5_c1; rotate_left; exact qP5_c0
          refine take_ (i := 15) (N := some 25) (v := ?_) (a' := ?_) qPb40 rfl rfl (take_ofW HT_.out HW_.out (by kernel_rfl)) (fun _ _ _ h => h) (Or.inl ⟨by rfl, ?_⟩) hHeld ?_ ?_
          rotate_left; exact qP5_c2; rotate_left; exact qP5_c0
          refine take_ (i := 20) (N := some 30) (v := ?_) (a' := ?_) qPb41 rfl rfl (take_ofW HT_.out HW_.out (by kernel_rfl)) (fun _ _ _ h => h) (Or.inl ⟨by rfl, ?_⟩) hHeld ?_ ?_
          rotate_left; exact qP5_c2; rotate_left; exact qP5_c0
          refine pure_ (i := 21) (N := some 31) (v := ?_) (a' := ?_) qPb42 rfl rfl (qP11) (fun _ _ _ h => h) (Or.inl ⟨by rfl, ?_⟩) ?_ ?_
          rotate_left; exact qP5_c1; rotate_left; exact qP5_c0
          refine pure_ (i := 22) (N := some 32) (v := ?_) (a' := ?_) qPb43 rfl rfl (qP11) (fun _ _ _ h => h) (Or.inl ⟨by rfl, ?_⟩) ?_ ?_
          rotate_left; exact qP5_c1; rotate_left; exact qP5_c0
          refine pure_ (i := 23) (N := some 33) (v := ?_) (a' := ?_) qPb44 rfl rfl (qP11) (fun _ _ _ h => h) (Or.inl ⟨by rfl, ?_⟩) ?_ ?_
          rotate_left; exact qP5_c1; rotate_left; exact qP5_c0
          refine done_ (qP43) ?_
          try go_wp2
          go_ret
          exact ⟨(by first | rfl | (simp [errW_none, errW_some] <;> rfl) | (simp only [← hji7]; first | rfl | (simp [errW_none, errW_some] <;> rfl)) | (simp [*, errW_none, errW_some] <;> rfl)), (qP0)⟩
         ·rw [if_neg c10] at H; have c10b0 : decide (((rd_T60 l0 x3_1).f0) ≤ ((rd_T60 l0 (ji7)).f0)) = false := decide_eq_false c10; clear c10; have H' := Aside0.mk H; clear H
          try go_wp2
          replace HB := Aside0.mk (below_drew1 HB.out); have p304 : 0 ≤ (x3_1 : Int) := of_decide_eq_true (qP12); have q304 : x3_1 < (l0.length : Int) := of_decide_eq_true (qP12); obtain ⟨ad304, e304, hx304_0, hx304_1, hx304_2, hx304_3, hx304_4⟩ := at_T60 HR0.out x3_1 p304 q304; have hw304_4 := hx304_4; have hw304_3 := hx304_3; have hw304_2 := hx304_2; have hw304_1 := hx304_1; have hw304_0 := hx304_0; cases e304; replace hx304_0 := (HB.out.cell (World.block_lt_of_cell? w _ hx304_0)).trans hx304_0; replace hx304_1 := (HB.out.cell (World.block_lt_of_cell? w _ hx304_1)).trans hx304_1; replace hx304_2 := (HB.out.cell (World.block_lt_of_cell? w _ hx304_2)).trans hx304_2; replace hx304_3 := (HB.out.cell (World.block_lt_of_cell? w _ hx304_3)).trans hx304_3; replace hx304_4 := (HB.out.cell (World.block_lt_of_cell? w _ hx304_4)).trans hx304_4; replace p304 := eq_true p304; replace q304 := eq_true q304; have p306 : 0 ≤ ((ji7) : Int) := of_decide_eq_true (qP12); have q306 : (ji7) < (l0.length : Int) := of_decide_eq_true (qP12); obtain ⟨ad306, e306, hx306_0, hx306_1, hx306_2, hx306_3, hx306_4⟩ := at_T60 HR0.out (ji7) p306 q306; have hw306_4 := hx306_4; have hw306_3 := hx306_3; have hw306_2 := hx306_2; have hw306_1 := hx306_1; have hw306_0 := hx306_0; obtain rfl : ad304 = ad306 := (by injection e306); replace hx306_0 := (HB.out.cell (World.block_lt_of_cell? w _ hx306_0)).trans hx306_0; replace hx306_1 := (HB.out.cell (World.block_lt_of_cell? w _ hx306_1)).trans hx306_1; replace hx306_2 := (HB.out.cell (World.block_lt_of_cell? w _ hx306_2)).trans hx306_2
          replace hx306_3 := (HB.out.cell (World.block_lt_of_cell? w _ hx306_3)).trans hx306_3; replace hx306_4 := (HB.out.cell (World.block_lt_of_cell? w _ hx306_4)).trans hx306_4; replace p306 := eq_true p306; replace q306 := eq_true q306; have p307 : 0 ≤ (x3_1 : Int) := of_decide_eq_true (qP12); have q307 : x3_1 < (l0.length : Int) := of_decide_eq_true (qP12); obtain ⟨ad307, e307, hx307_0, hx307_1, hx307_2, hx307_3, hx307_4⟩ := at_T60 HR0.out x3_1 p307 q307; have hw307_4 := hx307_4; have hw307_3 := hx307_3; have hw307_2 := hx307_2; have hw307_1 := hx307_1; have hw307_0 := hx307_0; obtain rfl : ad304 = ad307 := (by injection e307); replace hx307_0 := (HB.out.cell (World.block_lt_of_cell? w _ hx307_0)).trans hx307_0; replace hx307_1 := (HB.out.cell (World.block_lt_of_cell? w _ hx307_1)).trans hx307_1; replace hx307_2 := (HB.out.cell (World.block_lt_of_cell? w _ hx307_2)).trans hx307_2; replace hx307_3 := (HB.out.cell (World.block_lt_of_cell? w _ hx307_3)).trans hx307_3; replace hx307_4 := (HB.out.cell (World.block_lt_of_cell? w _ hx307_4)).trans hx307_4; replace p307 := eq_true p307; replace q307 := eq_true q307
          refine start_ (n := 24) (S := fun w' => w'.cell? (ad304.add ((x3_1).toNat * 5)) = some (.int .i64 ((rd_T60 l0 x3_1).f0)) ∧ w'.cell? ⟨(ad304.add ((x3_1).toNat * 5)).block, (ad304.add ((x3_1).toNat * 5)).off + 1, none⟩ = some (.int .i64 ((rd_T60 l0 x3_1).f1)) ∧ w'.cell? ⟨(ad304.add ((x3_1).toNat * 5)).block, (ad304.add ((x3_1).toNat * 5)).off + 2, none⟩ = some (.int .i64 ((rd_T60 l0 x3_1).f2)) ∧ w'.cell? ⟨(ad304.add ((x3_1).toNat * 5)).block, (ad304.add ((x3_1).toNat * 5)).off + 3, none⟩ = some (.int .i64 ((rd_T60 l0 x3_1).f3)) ∧ w'.cell? ⟨(ad304.add ((x3_1).toNat * 5)).block, (ad304.add ((x3_1).toNat * 5)).off + 4, none⟩ = some (.int .i64 ((rd_T60 l0 x3_1).f4)) ∧ w'.cell? (ad304.add (((ji7)).toNat * 5)) = some (.int .i64 ((rd_T60 l0 (ji7)).f0)) ∧ w'.cell? ⟨(ad304.add (((ji7)).toNat * 5)).block, (ad304.add (((ji7)).toNat * 5)).off + 1, none⟩ = some (.int .i64 ((rd_T60 l0 (ji7)).f1)) ∧ w'.cell? ⟨(ad304.add (((ji7)).toNat * 5)).block, (ad304.add (((ji7)).toNat * 5)).off + 2, none⟩ = some (.int .i64 ((rd_T60 l0 (ji7)).f2)) ∧ w'.cell? ⟨(ad304.add (((ji7)).toNat * 5)).block, (ad304.add (((ji7)).toNat * 5)).off + 3, none⟩ = some (.int .i64 ((rd_T60 l0 (ji7)).f3)) ∧ w'.cell? ⟨(ad304.add (((ji7)).toNat * 5)).block, (ad304.add (((ji7)).toNat * 5)).off + 4, none⟩ = some (.int .i64 ((rd_T60 l0 (ji7)).f4)) ∧ w'.cell? (ad304.add ((x3_1).toNat * 5)) = some (.int .i64 ((rd_T60 l0 x3_1).f0)) ∧ w'.cell? ⟨(ad304.add ((x3_1).toNat * 5)).block, (ad304.add ((x3_1).toNat * 5)).off + 1, none⟩ = some (.int .i64 ((rd_T60 l0 x3_1).f1)) ∧ w'.cell? ⟨(ad304.add ((x3_1).toNat * 5)).block, (ad304.add ((x3_1).toNat * 5)).off + 2, none⟩ = some (.int .i64 ((rd_T60 l0 x3_1).f2)) ∧ w'.cell? ⟨(ad304.add ((x3_1).toNat * 5)).block, (ad304.add ((x3_1).toNat * 5)).off + 3, none⟩ = some (.int .i64 ((rd_T60 l0 x3_1).f3)) ∧ w'.cell? ⟨(ad304.add ((x3_1).toNat * 5)).block, (ad304.add ((x3_1).toNat * 5)).off + 4, none⟩ = some (.int .i64 ((rd_T60 l0 x3_1).f4))) (ds := []) qPb20 (by kernel_rfl) rfl rfl ⟨((HB.out.cell (World.block_lt_of_cell? w _ hw304_0)).trans hw304_0), ((HB.out.cell (World.block_lt_of_cell? w _ hw304_1)).trans hw304_1), ((HB.out.cell (World.block_lt_of_cell? w _ hw304_2)).trans hw304_2), ((HB.out.cell (World.block_lt_of_cell? w _ hw304_3)).trans hw304_3), ((HB.out.cell (World.block_lt_of_cell? w _ hw304_4)).trans hw304_4), ((HB.out.cell (World.block_lt_of_cell? w _ hw306_0)).trans hw306_0), ((HB.out.cell (World.block_lt_of_cell? w _ hw306_1)).trans hw306_1), ((HB.out.cell (World.block_lt_of_cell? w _ hw306_2)).trans hw306_2), ((HB.out.cell (World.block_lt_of_cell? w _ hw306_3)).trans hw306_3), ((HB.out.cell (World.block_lt_of_cell? w _ hw306_4)).trans hw306_4), ((HB.out.cell (World.block_lt_of_cell? w _ hw307_0)).trans hw307_0), ((HB.out.cell (World.block_lt_of_cell? w _ hw307_1)).trans hw307_1), ((HB.out.cell (World.block_lt_of_cell? w _ hw307_2)).trans hw307_2), ((HB.out.cell (World.block_lt_of_cell? w _ hw307_3)).trans hw307_3), ((HB.out.cell (World.block_lt_of_cell? w _ hw307_4)).trans hw307_4)⟩ (fun hHeld => ?_); refine with_tabW spec_l12Good.tab4 spec_l12Good.bits4 (fun HT_ HW_ => ?_)
          generalize wr.drew = w13 at HB hx304_0 hx304_1 hx304_2 hx304_3 hx304_4 hx306_0 hx306_1 hx306_2 hx306_3 hx306_4 hx307_0 hx307_1 hx307_2 hx307_3 hx307_4 hHeld ⊢
          refine pure_ (i := 0) (N := some 10) (v := ?_) (a' := ?_) qPb21 rfl rfl (qP11) (fun _ _ _ h => h) (Or.inl ⟨by rfl, ?_⟩) ?_ ?_
          rotate_left; exact qP5_c1; rotate_left; exact qP5_c0
          refine pure_ (i := 1) (N := some 11) (v := ?_) (a' := ?_) qPb22 rfl rfl (qP11) (fun _ _ _ h => h) (Or.inl ⟨by rfl, ?_⟩) ?_ ?_
          rotate_left; exact qP5_c1; rotate_left; exact qP5_c0
          refine pure_ (i := 2) (N := some 12) (v := ?_) (a' := ?_) qPb23 rfl rfl (qP11) (fun _ _ _ h => h) (Or.inl ⟨by rfl, ?_⟩) ?_ ?_
          rotate_left; exact qP5_c1; rotate_left; exact qP5_c0
          refine take_ (i := 3) (N := some 13) (v := ?_) (a' := ?_) qPb24 rfl rfl (take_ofW HT_.out HW_.out (by kernel_rfl)) (fun _ _ _ h => h) (Or.inl ⟨by rfl, ?_⟩) hHeld ?_ ?_
          rotate_left; exact qP5_c2; rotate_left; exact qP5_c0
          refine one_ (i := 4) (N := some 14) qPb25 rfl rfl (qP35) (by decide) (fun K hK => ?_)
          refine goes_ Try.func49 (by kernel_rfl) rfl #[.agg #[.int .i64 ((rd_T60 l0 x3_1).f0), .int .i64 ((rd_T60 l0 x3_1).f1), .int .i64 ((rd_T60 l0 x3_1).f2), .int .i64 ((rd_T60 l0 x3_1).f3), .int .i64 ((rd_T60 l0 x3_1).f4)]] (by rfl) rfl rfl (qP2) ?_
          with_reducible refine (spec_l12One.calls ((rd_T60 l0 x3_1).f0) ((rd_T60 l0 x3_1).f1) ((rd_T60 l0 x3_1).f2) ((rd_T60 l0 x3_1).f3) ((rd_T60 l0 x3_1).f4) true _ A4.out).mono ?_
          rintro e w14 ⟨rfl, hb⟩
          refine ⟨_, rfl, ?_⟩
          replace HB := Aside0.mk (qP57)
          (try clear hb)
          (try clear hb2)
          (try clear hk)
          (try clear hi)
          refine hK.out _ _ ⟨((HB.out.cell (World.block_lt_of_cell? w _ hw304_0)).trans hw304_0), ((HB.out.cell (World.block_lt_of_cell? w _ hw304_1)).trans hw304_1), ((HB.out.cell (World.block_lt_of_cell? w _ hw304_2)).trans hw304_2), ((HB.out.cell (World.block_lt_of_cell? w _ hw304_3)).trans hw304_3), ((HB.out.cell (World.block_lt_of_cell? w _ hw304_4)).trans hw304_4), ((HB.out.cell (World.block_lt_of_cell? w _ hw306_0)).trans hw306_0), ((HB.out.cell (World.block_lt_of_cell? w _ hw306_1)).trans hw306_1), ((HB.out.cell (World.block_lt_of_cell? w _ hw306_2)).trans hw306_2), ((HB.out.cell (World.block_lt_of_cell? w _ hw306_3)).trans hw306_3), ((HB.out.cell (World.block_lt_of_cell? w _ hw306_4)).trans hw306_4), ((HB.out.cell (World.block_lt_of_cell? w _ hw307_0)).trans hw307_0), ((HB.out.cell (World.block_lt_of_cell? w _ hw307_1)).trans hw307_1), ((HB.out.cell (World.block_lt_of_cell? w _ hw307_2)).trans hw307_2), ((HB.out.cell (World.block_lt_of_cell? w _ hw307_3)).trans hw307_3), ((HB.out.cell (World.block_lt_of_cell? w _ hw307_4)).trans hw307_4)⟩ (fun hHeld => ?_)
          clear hK K
          refine norm_ (a' := ?_) ?_ ?_
          rotate_left
          ·exact qP5_c3
          refine pure_ (i := 5) (N := some 15) (v := ?_) (a' := ?_) qPb26 rfl rfl (qP11) (fun _ _ _ h => h) (Or.inl ⟨by rfl, ?_⟩) ?_ ?_
          rotate_left; exact qP5_c1; rotate_left; exact qP5_c0
          refine pure_ (i := 6) (N := some 16) (v := ?_) (a' := ?_) qPb27 rfl rfl (qP11) (fun _ _ _ h => h) (Or.inl ⟨by rfl, ?_⟩) ?_ ?_
          rotate_left; exact qP5_c1; rotate_left; exact qP5_c0
          refine pure_ (i := 7) (N := some 17) (v := ?_) (a' := ?_) qPb28 rfl rfl (qP11) (fun _ _ _ h => h) (Or.inl ⟨by rfl, ?_⟩) ?_ ?_
          rotate_left; exact qP5_c1; rotate_left; exact qP5_c0
          refine pure_ (i := 8) (N := some 18) (v := ?_) (a' := ?_) qPb29 rfl rfl (qP11) (fun _ _ _ h => h) (Or.inl ⟨by rfl, ?_⟩) ?_ ?_
          rotate_left; exact qP5_c1; rotate_left; exact qP5_c0
          refine pure_ (i := 9) (N := some 19) (v := ?_) (a' := ?_) qPb30 rfl rfl (qP11) (fun _ _ _ h => h) (Or.inl ⟨by rfl, ?_⟩) ?_ ?_
          rotate_left; exact qP5_c1; rotate_left; exact qP5_c0
          refine pure_ (i := 10) (N := some 20) (v := ?_) (a' := ?_) qPb31 rfl rfl (qP11) (fun _ _ _ h => h) (Or.inl ⟨by rfl, ?_⟩) ?_ ?_
          rotate_left; exact qP5_c1; rotate_left; exact qP5_c0
          refine pure_ (i := 11) (N := some 21) (v := ?_) (a' := ?_) qPb32 rfl rfl (qP11) (fun _ _ _ h => h) (Or.inl ⟨by rfl, ?_⟩) ?_ ?_
          rotate_left; exact qP5_c1; rotate_left; exact qP5_c0
          refine pure_ (i := 12) (N := some 22) (v := ?_) (a' := ?_) qPb33 rfl rfl (qP11) (fun _ _ _ h => h) (Or.inl ⟨by rfl, ?_⟩) ?_ ?_
          rotate_left; exact qP5_c1; rotate_left; exact qP5_c0
          refine pure_ (i := 13) (N := some 23) (v := ?_) (a' := ?_) qPb34 rfl rfl (qP11) (fun _ _ _ h => h) (Or.inl ⟨by rfl, ?_⟩) ?_ ?_
          rotate_left; exact qP5_c1; rotate_left; exact qP5_c0
          refine pure_ (i := 14) (N := some 24) (v := ?_) (a' := ?_) qPb35 rfl rfl (qP11) (fun _ _ _ h => h) (Or.inl ⟨by rfl, ?_⟩) ?_ ?_
          rotate_left; exact qP5_c1; rotate_left; exact qP5_c0
          refine pure_ (i := 16) (N := some 26) (v := ?_) (a' := ?_) qPb36 rfl rfl (qP11) (fun _ _ _ h => h) (Or.inl ⟨by rfl, ?_⟩) ?_ ?_
          rotate_left; exact qP5_c1; rotate_left; exact qP5_c0
          refine pure_ (i := 17) (N := some 27) (v := ?_) (a' := ?_) qPb37 rfl rfl (qP11) (fun _ _ _ h => h) (Or.inl ⟨by rfl, ?_⟩) ?_ ?_
          rotate_left; exact qP5_c1; rotate_left; exact qP5_c0
          refine pure_ (i := 18) (N := some 28) (v := ?_) (a' := ?_) qPb38 rfl rfl (qP11) (fun _ _ _ h => h) (Or.inl ⟨by rfl, ?_⟩) ?_ ?_
          rotate_left; exact qP5_c1; rotate_left; exact qP5_c0
          refine pure_ (i := 19) (N := some 29) (v := ?_) (a' := ?_) qPb39 rfl rfl (qP11) (fun _ _ _ h => h) (Or.inl ⟨by rfl, ?_⟩) ?_ ?_
          rotate_left; exact qP5_c1; rotate_left; exact qP5_c0
          refine take_ (i := 15) (N := some 25) (v := ?_) (a' := ?_) qPb40 rfl rfl (take_ofW HT_.out HW_.out (by kernel_rfl)) (fun _ _ _ h => h) (Or.inl ⟨by rfl, ?_⟩) hHeld ?_ ?_
          rotate_left; exact qP5_c2; rotate_left; exact qP5_c0
          refine take_ (i := 20) (N := some 30) (v := ?_) (a' := ?_) qPb41 rfl rfl (take_ofW HT_.out HW_.out (by kernel_rfl)) (fun _ _ _ h => h) (Or.inl ⟨by rfl, ?_⟩) hHeld ?_ ?_
          rotate_left; exact qP5_c2; rotate_left; exact qP5_c0
          refine pure_ (i := 21) (N := some 31) (v := ?_) (a' := ?_) qPb42 rfl rfl (qP11) (fun _ _ _ h => h) (Or.inl ⟨by rfl, ?_⟩) ?_ ?_
          rotate_left; exact qP5_c1; rotate_left; exact qP5_c0
          refine pure_ (i := 22) (N := some 32) (v := ?_) (a' := ?_) qPb43 rfl rfl (qP11) (fun _ _ _ h => h) (Or.inl ⟨by rfl, ?_⟩) ?_ ?_
          rotate_left; exact qP5_c1; rotate_left; exact qP5_c0
          refine pure_ (i := 23) (N := some 33) (v := ?_) (a' := ?_) qPb44 rfl rfl (qP11) (fun _ _ _ h => h) (Or.inl ⟨by rfl, ?_⟩) ?_ ?_
          rotate_left; exact qP5_c1; rotate_left; exact qP5_c0
          refine done_ (qP43) ?_
          try go_wp2
          go_roundg k1
          case measure => have := HK1.out; omega
          case rel => exact ⟨(wrap64 (x3_1 + 1)), (qP14), H', ⟨by have := HK1.out; omega⟩, ⟨(qP0)⟩⟩
        ·rw [if_neg c9] at H
         exact absurd H (by simp)
       ·rw [if_neg c8] at H
        exact absurd H (by simp)
      ·rw [if_neg c6] at H; have c6b0 : decide (0 < x3_1) = false := decide_eq_false c6; clear c6; have H' := Aside0.mk H; clear H
       try go_wp2
       replace HB := Aside0.mk (below_drew1 HB.out); have p304 : 0 ≤ (x3_1 : Int) := of_decide_eq_true (qP12); have q304 : x3_1 < (l0.length : Int) := of_decide_eq_true (qP12); obtain ⟨ad304, e304, hx304_0, hx304_1, hx304_2, hx304_3, hx304_4⟩ := at_T60 HR0.out x3_1 p304 q304; have hw304_4 := hx304_4; have hw304_3 := hx304_3; have hw304_2 := hx304_2; have hw304_1 := hx304_1; have hw304_0 := hx304_0; cases e304; replace hx304_0 := (HB.out.cell (World.block_lt_of_cell? w _ hx304_0)).trans hx304_0; replace hx304_1 := (HB.out.cell (World.block_lt_of_cell? w _ hx304_1)).trans hx304_1; replace hx304_2 := (HB.out.cell (World.block_lt_of_cell? w _ hx304_2)).trans hx304_2; replace hx304_3 := (HB.out.cell (World.block_lt_of_cell? w _ hx304_3)).trans hx304_3; replace hx304_4 := (HB.out.cell (World.block_lt_of_cell? w _ hx304_4)).trans hx304_4; replace p304 := eq_true p304; replace q304 := eq_true q304
       refine start_ (n := 24) (S := fun w' => w'.cell? (ad304.add ((x3_1).toNat * 5)) = some (.int .i64 ((rd_T60 l0 x3_1).f0)) ∧ w'.cell? ⟨(ad304.add ((x3_1).toNat * 5)).block, (ad304.add ((x3_1).toNat * 5)).off + 1, none⟩ = some (.int .i64 ((rd_T60 l0 x3_1).f1)) ∧ w'.cell? ⟨(ad304.add ((x3_1).toNat * 5)).block, (ad304.add ((x3_1).toNat * 5)).off + 2, none⟩ = some (.int .i64 ((rd_T60 l0 x3_1).f2)) ∧ w'.cell? ⟨(ad304.add ((x3_1).toNat * 5)).block, (ad304.add ((x3_1).toNat * 5)).off + 3, none⟩ = some (.int .i64 ((rd_T60 l0 x3_1).f3)) ∧ w'.cell? ⟨(ad304.add ((x3_1).toNat * 5)).block, (ad304.add ((x3_1).toNat * 5)).off + 4, none⟩ = some (.int .i64 ((rd_T60 l0 x3_1).f4))) (ds := []) qPb20 (by kernel_rfl) rfl rfl ⟨((HB.out.cell (World.block_lt_of_cell? w _ hw304_0)).trans hw304_0), ((HB.out.cell (World.block_lt_of_cell? w _ hw304_1)).trans hw304_1), ((HB.out.cell (World.block_lt_of_cell? w _ hw304_2)).trans hw304_2), ((HB.out.cell (World.block_lt_of_cell? w _ hw304_3)).trans hw304_3), ((HB.out.cell (World.block_lt_of_cell? w _ hw304_4)).trans hw304_4)⟩ (fun hHeld => ?_); refine with_tabW spec_l12Good.tab4 spec_l12Good.bits4 (fun HT_ HW_ => ?_)
       generalize wr.drew = w15 at HB hx304_0 hx304_1 hx304_2 hx304_3 hx304_4 hHeld ⊢
       refine pure_ (i := 0) (N := some 10) (v := ?_) (a' := ?_) qPb21 rfl rfl (qP11) (fun _ _ _ h => h) (Or.inl ⟨by rfl, ?_⟩) ?_ ?_
       rotate_left; exact qP5_c1; rotate_left; exact qP5_c0
       refine pure_ (i := 1) (N := some 11) (v := ?_) (a' := ?_) qPb22 rfl rfl (qP11) (fun _ _ _ h => h) (Or.inl ⟨by rfl, ?_⟩) ?_ ?_
       rotate_left; exact qP5_c1; rotate_left; exact qP5_c0
       refine pure_ (i := 2) (N := some 12) (v := ?_) (a' := ?_) qPb23 rfl rfl (qP11) (fun _ _ _ h => h) (Or.inl ⟨by rfl, ?_⟩) ?_ ?_
       rotate_left; exact qP5_c1; rotate_left; exact qP5_c0
       refine take_ (i := 3) (N := some 13) (v := ?_) (a' := ?_) qPb24 rfl rfl (take_ofW HT_.out HW_.out (by kernel_rfl)) (fun _ _ _ h => h) (Or.inl ⟨by rfl, ?_⟩) hHeld ?_ ?_
       rotate_left
       ·rintro w' ⟨s0, s1, s2, s3, s4⟩
        go_simp
        with_reducible rfl
       rotate_left
       ·exact qP5_c0
       refine one_ (i := 4) (N := some 14) qPb25 rfl rfl (qP35) (by decide) (fun K hK => ?_)
       refine goes_ Try.func49 (by kernel_rfl) rfl #[.agg #[.int .i64 ((rd_T60 l0 x3_1).f0), .int .i64 ((rd_T60 l0 x3_1).f1), .int .i64 ((rd_T60 l0 x3_1).f2), .int .i64 ((rd_T60 l0 x3_1).f3), .int .i64 ((rd_T60 l0 x3_1).f4)]] (by rfl) rfl rfl (qP2) ?_
       with_reducible refine (spec_l12One.calls ((rd_T60 l0 x3_1).f0) ((rd_T60 l0 x3_1).f1) ((rd_T60 l0 x3_1).f2) ((rd_T60 l0 x3_1).f3) ((rd_T60 l0 x3_1).f4) true _ A4.out).mono ?_
       rintro e w16 ⟨rfl, hb⟩
       refine ⟨_, rfl, ?_⟩
       replace HB := Aside0.mk (qP57)
       (try clear hb)
       (try clear hb2)
       (try clear hk)
       (try clear hi)
       refine hK.out _ _ ⟨((HB.out.cell (World.block_lt_of_cell? w _ hw304_0)).trans hw304_0), ((HB.out.cell (World.block_lt_of_cell? w _ hw304_1)).trans hw304_1), ((HB.out.cell (World.block_lt_of_cell? w _ hw304_2)).trans hw304_2), ((HB.out.cell (World.block_lt_of_cell? w _ hw304_3)).trans hw304_3), ((HB.out.cell (World.block_lt_of_cell? w _ hw304_4)).trans hw304_4)⟩ (fun hHeld => ?_)
       clear hK K
       refine norm_ (a' := ?_) ?_ ?_
       rotate_left
       ·exact qP5_c3
       refine pure_ (i := 5) (N := some 15) (v := ?_) (a' := ?_) qPb26 rfl rfl (qP11) (fun _ _ _ h => h) (Or.inl ⟨by rfl, ?_⟩) ?_ ?_
       rotate_left; exact qP5_c1; rotate_left; exact qP5_c0
       refine pure_ (i := 6) (N := some 16) (v := ?_) (a' := ?_) qPb27 rfl rfl (qP11) (fun _ _ _ h => h) (Or.inl ⟨by rfl, ?_⟩) ?_ ?_
       rotate_left; exact qP5_c1; rotate_left; exact qP5_c0
       refine pure_ (i := 7) (N := some 17) (v := ?_) (a' := ?_) qPb28 rfl rfl (qP11) (fun _ _ _ h => h) (Or.inl ⟨by rfl, ?_⟩) ?_ ?_
       rotate_left; exact qP5_c1; rotate_left; exact qP5_c0
       refine pure_ (i := 8) (N := some 18) (v := ?_) (a' := ?_) qPb29 rfl rfl (qP11) (fun _ _ _ h => h) (Or.inl ⟨by rfl, ?_⟩) ?_ ?_
       rotate_left; exact qP5_c1; rotate_left; exact qP5_c0
       refine pure_ (i := 9) (N := some 19) (v := ?_) (a' := ?_) qPb30 rfl rfl (qP11) (fun _ _ _ h => h) (Or.inl ⟨by rfl, ?_⟩) ?_ ?_
       rotate_left; exact qP5_c1; rotate_left; exact qP5_c0
       refine pure_ (i := 10) (N := some 20) (v := undef) (a' := ?_) qPb31 rfl rfl (qP11) (fun _ _ _ h => h) (Or.inr ⟨by rfl, rfl⟩) ?_ ?_
       rotate_left
       ·exact qP5_c0
       refine pure_ (i := 11) (N := some 21) (v := undef) (a' := ?_) qPb32 rfl rfl (qP11) (fun _ _ _ h => h) (Or.inr ⟨by rfl, rfl⟩) ?_ ?_
       rotate_left
       ·exact qP5_c0
       refine pure_ (i := 12) (N := some 22) (v := undef) (a' := ?_) qPb33 rfl rfl (qP11) (fun _ _ _ h => h) (Or.inr ⟨by rfl, rfl⟩) ?_ ?_
       rotate_left
       ·exact qP5_c0
       refine pure_ (i := 13) (N := some 23) (v := undef) (a' := ?_) qPb34 rfl rfl (qP11) (fun _ _ _ h => h) (Or.inr ⟨by rfl, rfl⟩) ?_ ?_
       rotate_left
       ·exact qP5_c0
       refine pure_ (i := 14) (N := some 24) (v := undef) (a' := ?_) qPb35 rfl rfl (qP11) (fun _ _ _ h => h) (Or.inr ⟨by rfl, rfl⟩) ?_ ?_
       rotate_left
       ·exact qP5_c0
       refine pure_ (i := 15) (N := some 25) (v := undef) (a' := ?_) qPb45 rfl rfl (qP11) (fun _ _ _ h => h) (Or.inr ⟨by rfl, rfl⟩) ?_ ?_
       rotate_left
       ·exact qP5_c0
       refine pure_ (i := 16) (N := some 26) (v := undef) (a' := ?_) qPb46 rfl rfl (qP11) (fun _ _ _ h => h) (Or.inr ⟨by rfl, rfl⟩) ?_ ?_
       rotate_left
       ·exact qP5_c0
       refine pure_ (i := 17) (N := some 27) (v := undef) (a' := ?_) qPb47 rfl rfl (qP11) (fun _ _ _ h => h) (Or.inr ⟨by rfl, rfl⟩) ?_ ?_
       rotate_left
       ·exact qP5_c0
       refine pure_ (i := 18) (N := some 28) (v := undef) (a' := ?_) qPb48 rfl rfl (qP11) (fun _ _ _ h => h) (Or.inr ⟨by rfl, rfl⟩) ?_ ?_
       rotate_left
       ·exact qP5_c0
       refine pure_ (i := 19) (N := some 29) (v := undef) (a' := ?_) qPb40 rfl rfl (qP11) (fun _ _ _ h => h) (Or.inr ⟨by rfl, rfl⟩) ?_ ?_
       rotate_left
       ·exact qP5_c0
       refine pure_ (i := 20) (N := some 30) (v := undef) (a' := ?_) qPb41 rfl rfl (qP11) (fun _ _ _ h => h) (Or.inr ⟨by rfl, rfl⟩) ?_ ?_
       rotate_left
       ·exact qP5_c0
       refine pure_ (i := 21) (N := some 31) (v := undef) (a' := ?_) qPb42 rfl rfl (qP11) (fun _ _ _ h => h) (Or.inr ⟨by rfl, rfl⟩) ?_ ?_
       rotate_left
       ·exact qP5_c0
       refine pure_ (i := 22) (N := some 32) (v := ?_) (a' := ?_) qPb43 rfl rfl (qP11) (fun _ _ _ h => h) (Or.inl ⟨by rfl, ?_⟩) ?_ ?_
       rotate_left; exact qP5_c1; rotate_left; exact qP5_c0
       refine pure_ (i := 23) (N := some 33) (v := ?_) (a' := ?_) qPb44 rfl rfl (qP11) (fun _ _ _ h => h) (Or.inl ⟨by rfl, ?_⟩) ?_ ?_
       rotate_left; exact qP5_c1; rotate_left; exact qP5_c0
       refine done_ (qP43) ?_
       try go_wp2
       go_roundg k1
       case measure => have := HK1.out; omega
       case rel => exact ⟨(wrap64 (x3_1 + 1)), (qP14), H', ⟨by have := HK1.out; omega⟩, ⟨(qP0)⟩⟩
     ·replace c5 := Bool.eq_false_iff.mpr c5; subst c5; rw [if_neg (show ¬ (false = true) by decide)] at H; obtain rfl := Option.some.inj H
      try go_wp2
      replace HB := Aside0.mk (below_drew1 HB.out); have p304 : 0 ≤ (x3_1 : Int) := of_decide_eq_true (qP12); have q304 : x3_1 < (l0.length : Int) := of_decide_eq_true (qP12); obtain ⟨ad304, e304, hx304_0, hx304_1, hx304_2, hx304_3, hx304_4⟩ := at_T60 HR0.out x3_1 p304 q304; have hw304_4 := hx304_4; have hw304_3 := hx304_3; have hw304_2 := hx304_2; have hw304_1 := hx304_1; have hw304_0 := hx304_0; cases e304; replace hx304_0 := (HB.out.cell (World.block_lt_of_cell? w _ hx304_0)).trans hx304_0; replace hx304_1 := (HB.out.cell (World.block_lt_of_cell? w _ hx304_1)).trans hx304_1; replace hx304_2 := (HB.out.cell (World.block_lt_of_cell? w _ hx304_2)).trans hx304_2; replace hx304_3 := (HB.out.cell (World.block_lt_of_cell? w _ hx304_3)).trans hx304_3; replace hx304_4 := (HB.out.cell (World.block_lt_of_cell? w _ hx304_4)).trans hx304_4; replace p304 := eq_true p304; replace q304 := eq_true q304
      refine start_ (n := 24) (S := fun w' => w'.cell? (ad304.add ((x3_1).toNat * 5)) = some (.int .i64 ((rd_T60 l0 x3_1).f0)) ∧ w'.cell? ⟨(ad304.add ((x3_1).toNat * 5)).block, (ad304.add ((x3_1).toNat * 5)).off + 1, none⟩ = some (.int .i64 ((rd_T60 l0 x3_1).f1)) ∧ w'.cell? ⟨(ad304.add ((x3_1).toNat * 5)).block, (ad304.add ((x3_1).toNat * 5)).off + 2, none⟩ = some (.int .i64 ((rd_T60 l0 x3_1).f2)) ∧ w'.cell? ⟨(ad304.add ((x3_1).toNat * 5)).block, (ad304.add ((x3_1).toNat * 5)).off + 3, none⟩ = some (.int .i64 ((rd_T60 l0 x3_1).f3)) ∧ w'.cell? ⟨(ad304.add ((x3_1).toNat * 5)).block, (ad304.add ((x3_1).toNat * 5)).off + 4, none⟩ = some (.int .i64 ((rd_T60 l0 x3_1).f4))) (ds := []) qPb20 (by kernel_rfl) rfl rfl ⟨((HB.out.cell (World.block_lt_of_cell? w _ hw304_0)).trans hw304_0), ((HB.out.cell (World.block_lt_of_cell? w _ hw304_1)).trans hw304_1), ((HB.out.cell (World.block_lt_of_cell? w _ hw304_2)).trans hw304_2), ((HB.out.cell (World.block_lt_of_cell? w _ hw304_3)).trans hw304_3), ((HB.out.cell (World.block_lt_of_cell? w _ hw304_4)).trans hw304_4)⟩ (fun hHeld => ?_); refine with_tabW spec_l12Good.tab4 spec_l12Good.bits4 (fun HT_ HW_ => ?_)
      generalize wr.drew = w17 at HB hx304_0 hx304_1 hx304_2 hx304_3 hx304_4 hHeld ⊢
      refine pure_ (i := 0) (N := some 10) (v := ?_) (a' := ?_) qPb21 rfl rfl (qP11) (fun _ _ _ h => h) (Or.inl ⟨by rfl, ?_⟩) ?_ ?_
      rotate_left; exact qP5_c1; rotate_left; exact qP5_c0
      refine pure_ (i := 1) (N := some 11) (v := ?_) (a' := ?_) qPb22 rfl rfl (qP11) (fun _ _ _ h => h) (Or.inl ⟨by rfl, ?_⟩) ?_ ?_
      rotate_left; exact qP5_c1; rotate_left; exact qP5_c0
      refine pure_ (i := 2) (N := some 12) (v := ?_) (a' := ?_) qPb23 rfl rfl (qP11) (fun _ _ _ h => h) (Or.inl ⟨by rfl, ?_⟩) ?_ ?_
      rotate_left; exact qP5_c1; rotate_left; exact qP5_c0
      refine take_ (i := 3) (N := some 13) (v := ?_) (a' := ?_) qPb24 rfl rfl (take_ofW HT_.out HW_.out (by kernel_rfl)) (fun _ _ _ h => h) (Or.inl ⟨by rfl, ?_⟩) hHeld ?_ ?_
      rotate_left
      ·rintro w' ⟨s0, s1, s2, s3, s4⟩
       go_simp
       with_reducible rfl
      rotate_left
      ·exact qP5_c0
      refine one_ (i := 4) (N := some 14) qPb25 rfl rfl (qP35) (by decide) (fun K hK => ?_)
      refine goes_ Try.func49 (by kernel_rfl) rfl #[.agg #[.int .i64 ((rd_T60 l0 x3_1).f0), .int .i64 ((rd_T60 l0 x3_1).f1), .int .i64 ((rd_T60 l0 x3_1).f2), .int .i64 ((rd_T60 l0 x3_1).f3), .int .i64 ((rd_T60 l0 x3_1).f4)]] (by rfl) rfl rfl (qP2) ?_
      with_reducible refine (spec_l12One.calls ((rd_T60 l0 x3_1).f0) ((rd_T60 l0 x3_1).f1) ((rd_T60 l0 x3_1).f2) ((rd_T60 l0 x3_1).f3) ((rd_T60 l0 x3_1).f4) false _ A4.out).mono ?_
      rintro e w18 ⟨rfl, hb⟩
      refine ⟨_, rfl, ?_⟩
      replace HB := Aside0.mk (qP57)
      (try clear hb)
      (try clear hb2)
      (try clear hk)
      (try clear hi)
      refine hK.out _ _ ⟨((HB.out.cell (World.block_lt_of_cell? w _ hw304_0)).trans hw304_0), ((HB.out.cell (World.block_lt_of_cell? w _ hw304_1)).trans hw304_1), ((HB.out.cell (World.block_lt_of_cell? w _ hw304_2)).trans hw304_2), ((HB.out.cell (World.block_lt_of_cell? w _ hw304_3)).trans hw304_3), ((HB.out.cell (World.block_lt_of_cell? w _ hw304_4)).trans hw304_4)⟩ (fun hHeld => ?_)
      clear hK K
      refine norm_ (a' := ?_) ?_ ?_
      rotate_left
      ·exact qP5_c3
      refine pure_ (i := 5) (N := some 15) (v := ?_) (a' := ?_) qPb26 rfl rfl (qP11) (fun _ _ _ h => h) (Or.inl ⟨by rfl, ?_⟩) ?_ ?_
      rotate_left; exact qP5_c1; rotate_left; exact qP5_c0
      refine pure_ (i := 6) (N := some 16) (v := ?_) (a' := ?_) qPb27 rfl rfl (qP11) (fun _ _ _ h => h) (Or.inl ⟨by rfl, ?_⟩) ?_ ?_
      rotate_left; exact qP5_c1; rotate_left; exact qP5_c0
      refine pure_ (i := 7) (N := some 17) (v := undef) (a' := ?_) qPb28 rfl rfl (qP11) (fun _ _ _ h => h) (Or.inr ⟨by rfl, rfl⟩) ?_ ?_
      rotate_left
      ·exact qP5_c0
      refine pure_ (i := 8) (N := some 18) (v := undef) (a' := ?_) qPb29 rfl rfl (qP11) (fun _ _ _ h => h) (Or.inr ⟨by rfl, rfl⟩) ?_ ?_
      rotate_left
      ·exact qP5_c0
      refine pure_ (i := 9) (N := some 19) (v := undef) (a' := ?_) qPb30 rfl rfl (qP11) (fun _ _ _ h => h) (Or.inr ⟨by rfl, rfl⟩) ?_ ?_
      rotate_left
      ·exact qP5_c0
      refine pure_ (i := 10) (N := some 20) (v := undef) (a' := ?_) qPb31 rfl rfl (qP11) (fun _ _ _ h => h) (Or.inr ⟨by rfl, rfl⟩) ?_ ?_
      rotate_left
      ·exact qP5_c0
      refine pure_ (i := 11) (N := some 21) (v := undef) (a' := ?_) qPb32 rfl rfl (qP11) (fun _ _ _ h => h) (Or.inr ⟨by rfl, rfl⟩) ?_ ?_
      rotate_left
      ·exact qP5_c0
      refine pure_ (i := 12) (N := some 22) (v := undef) (a' := ?_) qPb33 rfl rfl (qP11) (fun _ _ _ h => h) (Or.inr ⟨by rfl, rfl⟩) ?_ ?_
      rotate_left
      ·exact qP5_c0
      refine pure_ (i := 13) (N := some 23) (v := undef) (a' := ?_) qPb34 rfl rfl (qP11) (fun _ _ _ h => h) (Or.inr ⟨by rfl, rfl⟩) ?_ ?_
      rotate_left
      ·exact qP5_c0
      refine pure_ (i := 14) (N := some 24) (v := undef) (a' := ?_) qPb35 rfl rfl (qP11) (fun _ _ _ h => h) (Or.inr ⟨by rfl, rfl⟩) ?_ ?_
      rotate_left
      ·exact qP5_c0
      refine pure_ (i := 15) (N := some 25) (v := undef) (a' := ?_) qPb45 rfl rfl (qP11) (fun _ _ _ h => h) (Or.inr ⟨by rfl, rfl⟩) ?_ ?_
      rotate_left
      ·exact qP5_c0
      refine pure_ (i := 16) (N := some 26) (v := undef) (a' := ?_) qPb46 rfl rfl (qP11) (fun _ _ _ h => h) (Or.inr ⟨by rfl, rfl⟩) ?_ ?_
      rotate_left
      ·exact qP5_c0
      refine pure_ (i := 17) (N := some 27) (v := undef) (a' := ?_) qPb47 rfl rfl (qP11) (fun _ _ _ h => h) (Or.inr ⟨by rfl, rfl⟩) ?_ ?_
      rotate_left
      ·exact qP5_c0
      refine pure_ (i := 18) (N := some 28) (v := undef) (a' := ?_) qPb48 rfl rfl (qP11) (fun _ _ _ h => h) (Or.inr ⟨by rfl, rfl⟩) ?_ ?_
      rotate_left
      ·exact qP5_c0
      refine pure_ (i := 19) (N := some 29) (v := undef) (a' := ?_) qPb40 rfl rfl (qP11) (fun _ _ _ h => h) (Or.inr ⟨by rfl, rfl⟩) ?_ ?_
      rotate_left
      ·exact qP5_c0
      refine pure_ (i := 20) (N := some 30) (v := undef) (a' := ?_) qPb41 rfl rfl (qP11) (fun _ _ _ h => h) (Or.inr ⟨by rfl, rfl⟩) ?_ ?_
      rotate_left
      ·exact qP5_c0
      refine pure_ (i := 21) (N := some 31) (v := undef) (a' := ?_) qPb42 rfl rfl (qP11) (fun _ _ _ h => h) (Or.inr ⟨by rfl, rfl⟩) ?_ ?_
      rotate_left
      ·exact qP5_c0
      refine pure_ (i := 22) (N := some 32) (v := undef) (a' := ?_) qPb43 rfl rfl (qP11) (fun _ _ _ h => h) (Or.inr ⟨by rfl, rfl⟩) ?_ ?_
      rotate_left
      ·exact qP5_c0
      refine pure_ (i := 23) (N := some 33) (v := ?_) (a' := ?_) qPb44 rfl rfl (qP11) (fun _ _ _ h => h) (Or.inl ⟨by rfl, ?_⟩) ?_ ?_
      rotate_left; exact qP5_c1; rotate_left; exact qP5_c0
      refine done_ (qP43) ?_
      try go_wp2
      go_ret
      exact ⟨(qP8), (qP0)⟩
    ·rw [if_neg c3] at H
     exact absurd H (by simp)
   ·rw [if_neg c2] at H; have c2b0 : decide (x3_1 < (l0.length : Int)) = false := decide_eq_false c2; clear c2; obtain rfl := Option.some.inj H
    go_wp2
    go_ret
    exact ⟨(qP8), (qP0)⟩

/-! ### spec_l2Bearing: function 61 -/
def spec_l2Bearing.f (a0 : Int) : Option (Bool) := (spec_l1In.f a0 0 359).bind fun t308 => (some t308)
theorem spec_l2Bearing.calls (a0 : Int) (r : Bool) (w : World) (h : spec_l2Bearing.f a0 = some r) :
  Calls Try.prog 61 #[.int .i64 a0] w fun e w' => e = .returned (.bool r) ∧ Drawn0 w w' := by
 have H : ((spec_l1In.f a0 0 359).bind fun t308 => (some t308)) = some r := h; clear h; replace H := Option.bind_eq_some_iff.mp H; obtain ⟨t308, A20, H⟩ := H; replace H : (some t308) = some r := H; have A2 := Aside0.mk A20; clear A20; obtain rfl := Option.some.inj H
 go_enter Try.func61, Try.ntmps61
 go_wp2_with (first | ((with_reducible refine gate_callee (f := 60) rfl ?_); refine goesL_ (some 4) rfl rfl Try.func60 (by kernel_rfl) rfl #[.int .i64 a0, .int .i64 0, .int .i64 359] rfl (qP2) ?_; (with_reducible refine (spec_l1In.calls a0 0 359 t308 _ A2.out).mono ?_); rintro e w' ⟨rfl, ⟨nd, rfl⟩⟩; refine ⟨_, rfl, ?_⟩))
 go_ret
 exact ⟨(qP14), (qP26)⟩

/-! ### spec_l4Leg: function 50 -/
def spec_l4Leg.f (a0_0 : Int) (a0_1 : Int) (a0_2 : Int) (a0_3 : Int) (a0_4 : Int) : Option (Bool) := (spec_l4Station.f a0_0).bind fun t310 => (if t310 = true then ((spec_l4Station.f a0_1).bind fun t311 => (if t311 = true then (if a0_0 = a0_1 then (some false) else ((spec_l1In.f a0_2 1 500).bind fun t312 => (if t312 = true then ((spec_l2Bearing.f a0_3).bind fun t313 => (if t313 = true then ((spec_l1In.f a0_4 (-90) 90).bind fun t314 => (some t314)) else (some false))) else (some false)))) else (some false))) else (some false))
theorem spec_l4Leg.calls (a0_0 : Int) (a0_1 : Int) (a0_2 : Int) (a0_3 : Int) (a0_4 : Int) (r : Bool) (w : World) (h : spec_l4Leg.f a0_0 a0_1 a0_2 a0_3 a0_4 = some r) :
  Calls Try.prog 50 #[.agg #[.int .i64 a0_0, .int .i64 a0_1, .int .i64 a0_2, .int .i64 a0_3, .int .i64 a0_4]] w fun e w' => e = .returned (.bool r) ∧ Below w.heap.size w w' := by
 have hu55 := Try.underlying55; have HB := Aside0.mk (Below.refl w.heap.size w); have H : ((spec_l4Station.f a0_0).bind fun t310 => (if t310 = true then ((spec_l4Station.f a0_1).bind fun t311 => (if t311 = true then (if a0_0 = a0_1 then (some false) else ((spec_l1In.f a0_2 1 500).bind fun t312 => (if t312 = true then ((spec_l2Bearing.f a0_3).bind fun t313 => (if t313 = true then ((spec_l1In.f a0_4 (-90) 90).bind fun t314 => (some t314)) else (some false))) else (some false)))) else (some false))) else (some false))) = some r := h; clear h; replace H := bindA H; obtain ⟨t310, A2, H⟩ := H; (try dsimp only at H)
 by_cases c3 : t310 = true
 ·subst c3; rw [if_pos rfl] at H; replace H := bindA H; obtain ⟨t311, A4, H⟩ := H; (try dsimp only at H)
  by_cases c5 : t311 = true
  ·subst c5; rw [if_pos rfl] at H
   by_cases c6 : a0_0 = a0_1
   ·rw [if_pos c6] at H; have c6b0 : (a0_0 == a0_1) = true := beq_iff_eq.mpr c6; have c6b1 : (a0_0 != a0_1) = false := bne_eq_false_iff_eq.mpr c6; clear c6; obtain rfl := Option.some.inj H
    go_enter Try.func50, Try.ntmps50
    go_wp2_with (first | ((with_reducible refine gate_dst (N := 1) rfl ?_); refine box_event ?hg (N := 1) ?hd (cs := #[.int .i64 a0_0, .int .i64 a0_1, .int .i64 a0_2, .int .i64 a0_3, .int .i64 a0_4]) (t := 55) ?hr ?_; (case hd => rfl); (case hg => rfl); (case hr => exact (qP23)); intro gb309 hg w7 hbox hb; have BK309 := Aside0.mk (hbox); have GW309 := Aside0.mk (qP63); have GE309 := Aside0.mk (qP63); replace HB := Aside0.mk (qP57); clear hb hbox hg; have hcz8_0 : w7.cell? ⟨gb309, 0, none⟩ = some (.int .i64 a0_0) := (blk_cell BK309.out 0).trans rfl; have hcz8_1 : w7.cell? ⟨gb309, 1, none⟩ = some (.int .i64 a0_1) := (blk_cell BK309.out 1).trans rfl; have hcz8_2 : w7.cell? ⟨gb309, 2, none⟩ = some (.int .i64 a0_2) := (blk_cell BK309.out 2).trans rfl; have hcz8_3 : w7.cell? ⟨gb309, 3, none⟩ = some (.int .i64 a0_3) := (blk_cell BK309.out 3).trans rfl; have hcz8_4 : w7.cell? ⟨gb309, 4, none⟩ = some (.int .i64 a0_4) := (blk_cell BK309.out 4).trans rfl; have hfz8_0 := blk_frozen BK309.out 0; have hfz8_1 := blk_frozen BK309.out 1; have hfz8_2 := blk_frozen BK309.out 2; have hfz8_3 := blk_frozen BK309.out 3; have hfz8_4 := blk_frozen BK309.out 4) | ((with_reducible refine gate_callee (f := 58) rfl ?_); refine goesL_ (some 5) rfl rfl Try.func58 (by kernel_rfl) rfl #[.int .i64 a0_0] rfl (qP2) ?_; (with_reducible refine (spec_l4Station.calls a0_0 true _ A2.out).mono ?_); rintro e w' ⟨rfl, ⟨nd, rfl⟩⟩; refine ⟨_, rfl, ?_⟩) | (go_at_call 58; (with_reducible refine (spec_l4Station.calls a0_1 true _ A4.out).mono ?_); rintro e w' ⟨rfl, ⟨nd, rfl⟩⟩))
    go_ret
    exact ⟨(qP8), (qP5 GE309.out)⟩
   ·rw [if_neg c6] at H; have c6b0 : (a0_0 == a0_1) = false := beq_eq_false_iff_ne.mpr c6; have c6b1 : (a0_0 != a0_1) = true := bne_iff_ne.mpr c6; replace H := bindA H; obtain ⟨t312, A9, H⟩ := H; (try dsimp only at H)
    by_cases c10 : t312 = true
    ·subst c10; rw [if_pos rfl] at H; replace H := bindA H; obtain ⟨t313, A11, H⟩ := H; (try dsimp only at H)
     by_cases c12 : t313 = true
     ·subst c12; rw [if_pos rfl] at H; replace H := Option.bind_eq_some_iff.mp H; obtain ⟨t314, A130, H⟩ := H; replace H : (some t314) = some r := H; have A13 := Aside0.mk A130; clear A130; obtain rfl := Option.some.inj H
      go_enter Try.func50, Try.ntmps50
      go_wp2_with (first | ((with_reducible refine gate_dst (N := 1) rfl ?_); refine box_event ?hg (N := 1) ?hd (cs := #[.int .i64 a0_0, .int .i64 a0_1, .int .i64 a0_2, .int .i64 a0_3, .int .i64 a0_4]) (t := 55) ?hr ?_; (case hd => rfl); (case hg => rfl); (case hr => exact (qP23)); intro gb309 hg w14 hbox hb; have BK309 := Aside0.mk (hbox); have GW309 := Aside0.mk (qP63); have GE309 := Aside0.mk (qP63); replace HB := Aside0.mk (qP57); clear hb hbox hg; have hcz15_0 : w14.cell? ⟨gb309, 0, none⟩ = some (.int .i64 a0_0) := (blk_cell BK309.out 0).trans rfl; have hcz15_1 : w14.cell? ⟨gb309, 1, none⟩ = some (.int .i64 a0_1) := (blk_cell BK309.out 1).trans rfl; have hcz15_2 : w14.cell? ⟨gb309, 2, none⟩ = some (.int .i64 a0_2) := (blk_cell BK309.out 2).trans rfl; have hcz15_3 : w14.cell? ⟨gb309, 3, none⟩ = some (.int .i64 a0_3) := (blk_cell BK309.out 3).trans rfl; have hcz15_4 : w14.cell? ⟨gb309, 4, none⟩ = some (.int .i64 a0_4) := (blk_cell BK309.out 4).trans rfl; have hfz15_0 := blk_frozen BK309.out 0; have hfz15_1 := blk_frozen BK309.out 1; have hfz15_2 := blk_frozen BK309.out 2; have hfz15_3 := blk_frozen BK309.out 3; have hfz15_4 := blk_frozen BK309.out 4) | ((with_reducible refine gate_callee (f := 58) rfl ?_); refine goesL_ (some 5) rfl rfl Try.func58 (by kernel_rfl) rfl #[.int .i64 a0_0] rfl (qP2) ?_; (with_reducible refine (spec_l4Station.calls a0_0 true _ A2.out).mono ?_); rintro e w' ⟨rfl, ⟨nd, rfl⟩⟩; refine ⟨_, rfl, ?_⟩) | (go_at_call 58; (with_reducible refine (spec_l4Station.calls a0_1 true _ A4.out).mono ?_); rintro e w' ⟨rfl, ⟨nd, rfl⟩⟩) | (go_at_call 60; (with_reducible refine (spec_l1In.calls a0_2 1 500 true _ A9.out).mono ?_); rintro e w' ⟨rfl, ⟨nd, rfl⟩⟩) | (go_at_call 61; (with_reducible refine (spec_l2Bearing.calls a0_3 true _ A11.out).mono ?_); rintro e w' ⟨rfl, ⟨nd, rfl⟩⟩) | (go_at_call 60; (with_reducible refine (spec_l1In.calls a0_4 (-90) 90 t314 _ A13.out).mono ?_); rintro e w' ⟨rfl, ⟨nd, rfl⟩⟩))
      go_ret
      exact ⟨(qP8), (qP5 GE309.out)⟩
     ·replace c12 := Bool.eq_false_iff.mpr c12; subst c12; rw [if_neg (show ¬ (false = true) by decide)] at H; obtain rfl := Option.some.inj H
      go_enter Try.func50, Try.ntmps50
      go_wp2_with (first | ((with_reducible refine gate_dst (N := 1) rfl ?_); refine box_event ?hg (N := 1) ?hd (cs := #[.int .i64 a0_0, .int .i64 a0_1, .int .i64 a0_2, .int .i64 a0_3, .int .i64 a0_4]) (t := 55) ?hr ?_; (case hd => rfl); (case hg => rfl); (case hr => exact (qP23)); intro gb309 hg w16 hbox hb; have BK309 := Aside0.mk (hbox); have GW309 := Aside0.mk (qP63); have GE309 := Aside0.mk (qP63); replace HB := Aside0.mk (qP57); clear hb hbox hg; have hcz17_0 : w16.cell? ⟨gb309, 0, none⟩ = some (.int .i64 a0_0) := (blk_cell BK309.out 0).trans rfl; have hcz17_1 : w16.cell? ⟨gb309, 1, none⟩ = some (.int .i64 a0_1) := (blk_cell BK309.out 1).trans rfl; have hcz17_2 : w16.cell? ⟨gb309, 2, none⟩ = some (.int .i64 a0_2) := (blk_cell BK309.out 2).trans rfl; have hcz17_3 : w16.cell? ⟨gb309, 3, none⟩ = some (.int .i64 a0_3) := (blk_cell BK309.out 3).trans rfl; have hcz17_4 : w16.cell? ⟨gb309, 4, none⟩ = some (.int .i64 a0_4) := (blk_cell BK309.out 4).trans rfl; have hfz17_0 := blk_frozen BK309.out 0; have hfz17_1 := blk_frozen BK309.out 1; have hfz17_2 := blk_frozen BK309.out 2; have hfz17_3 := blk_frozen BK309.out 3; have hfz17_4 := blk_frozen BK309.out 4) | ((with_reducible refine gate_callee (f := 58) rfl ?_); refine goesL_ (some 5) rfl rfl Try.func58 (by kernel_rfl) rfl #[.int .i64 a0_0] rfl (qP2) ?_; (with_reducible refine (spec_l4Station.calls a0_0 true _ A2.out).mono ?_); rintro e w' ⟨rfl, ⟨nd, rfl⟩⟩; refine ⟨_, rfl, ?_⟩) | (go_at_call 58; (with_reducible refine (spec_l4Station.calls a0_1 true _ A4.out).mono ?_); rintro e w' ⟨rfl, ⟨nd, rfl⟩⟩) | (go_at_call 60; (with_reducible refine (spec_l1In.calls a0_2 1 500 true _ A9.out).mono ?_); rintro e w' ⟨rfl, ⟨nd, rfl⟩⟩) | (go_at_call 61; (with_reducible refine (spec_l2Bearing.calls a0_3 false _ A11.out).mono ?_); rintro e w' ⟨rfl, ⟨nd, rfl⟩⟩))
      go_ret
      exact ⟨(qP8), (qP5 GE309.out)⟩
    ·replace c10 := Bool.eq_false_iff.mpr c10; subst c10; rw [if_neg (show ¬ (false = true) by decide)] at H; obtain rfl := Option.some.inj H
     go_enter Try.func50, Try.ntmps50
     go_wp2_with (first | ((with_reducible refine gate_dst (N := 1) rfl ?_); refine box_event ?hg (N := 1) ?hd (cs := #[.int .i64 a0_0, .int .i64 a0_1, .int .i64 a0_2, .int .i64 a0_3, .int .i64 a0_4]) (t := 55) ?hr ?_; (case hd => rfl); (case hg => rfl); (case hr => exact (qP23)); intro gb309 hg w18 hbox hb; have BK309 := Aside0.mk (hbox); have GW309 := Aside0.mk (qP63); have GE309 := Aside0.mk (qP63); replace HB := Aside0.mk (qP57); clear hb hbox hg; have hcz19_0 : w18.cell? ⟨gb309, 0, none⟩ = some (.int .i64 a0_0) := (blk_cell BK309.out 0).trans rfl; have hcz19_1 : w18.cell? ⟨gb309, 1, none⟩ = some (.int .i64 a0_1) := (blk_cell BK309.out 1).trans rfl; have hcz19_2 : w18.cell? ⟨gb309, 2, none⟩ = some (.int .i64 a0_2) := (blk_cell BK309.out 2).trans rfl; have hcz19_3 : w18.cell? ⟨gb309, 3, none⟩ = some (.int .i64 a0_3) := (blk_cell BK309.out 3).trans rfl; have hcz19_4 : w18.cell? ⟨gb309, 4, none⟩ = some (.int .i64 a0_4) := (blk_cell BK309.out 4).trans rfl; have hfz19_0 := blk_frozen BK309.out 0; have hfz19_1 := blk_frozen BK309.out 1; have hfz19_2 := blk_frozen BK309.out 2; have hfz19_3 := blk_frozen BK309.out 3; have hfz19_4 := blk_frozen BK309.out 4) | ((with_reducible refine gate_callee (f := 58) rfl ?_); refine goesL_ (some 5) rfl rfl Try.func58 (by kernel_rfl) rfl #[.int .i64 a0_0] rfl (qP2) ?_; (with_reducible refine (spec_l4Station.calls a0_0 true _ A2.out).mono ?_); rintro e w' ⟨rfl, ⟨nd, rfl⟩⟩; refine ⟨_, rfl, ?_⟩) | (go_at_call 58; (with_reducible refine (spec_l4Station.calls a0_1 true _ A4.out).mono ?_); rintro e w' ⟨rfl, ⟨nd, rfl⟩⟩) | (go_at_call 60; (with_reducible refine (spec_l1In.calls a0_2 1 500 false _ A9.out).mono ?_); rintro e w' ⟨rfl, ⟨nd, rfl⟩⟩))
     go_ret
     exact ⟨(qP8), (qP5 GE309.out)⟩
  ·replace c5 := Bool.eq_false_iff.mpr c5; subst c5; rw [if_neg (show ¬ (false = true) by decide)] at H; obtain rfl := Option.some.inj H
   go_enter Try.func50, Try.ntmps50
   go_wp2_with (first | ((with_reducible refine gate_dst (N := 1) rfl ?_); refine box_event ?hg (N := 1) ?hd (cs := #[.int .i64 a0_0, .int .i64 a0_1, .int .i64 a0_2, .int .i64 a0_3, .int .i64 a0_4]) (t := 55) ?hr ?_; (case hd => rfl); (case hg => rfl); (case hr => exact (qP23)); intro gb309 hg w20 hbox hb; have BK309 := Aside0.mk (hbox); have GW309 := Aside0.mk (qP63); have GE309 := Aside0.mk (qP63); replace HB := Aside0.mk (qP57); clear hb hbox hg; have hcz21_0 : w20.cell? ⟨gb309, 0, none⟩ = some (.int .i64 a0_0) := (blk_cell BK309.out 0).trans rfl; have hcz21_1 : w20.cell? ⟨gb309, 1, none⟩ = some (.int .i64 a0_1) := (blk_cell BK309.out 1).trans rfl; have hcz21_2 : w20.cell? ⟨gb309, 2, none⟩ = some (.int .i64 a0_2) := (blk_cell BK309.out 2).trans rfl; have hcz21_3 : w20.cell? ⟨gb309, 3, none⟩ = some (.int .i64 a0_3) := (blk_cell BK309.out 3).trans rfl; have hcz21_4 : w20.cell? ⟨gb309, 4, none⟩ = some (.int .i64 a0_4) := (blk_cell BK309.out 4).trans rfl; have hfz21_0 := blk_frozen BK309.out 0; have hfz21_1 := blk_frozen BK309.out 1; have hfz21_2 := blk_frozen BK309.out 2; have hfz21_3 := blk_frozen BK309.out 3; have hfz21_4 := blk_frozen BK309.out 4) | ((with_reducible refine gate_callee (f := 58) rfl ?_); refine goesL_ (some 5) rfl rfl Try.func58 (by kernel_rfl) rfl #[.int .i64 a0_0] rfl (qP2) ?_; (with_reducible refine (spec_l4Station.calls a0_0 true _ A2.out).mono ?_); rintro e w' ⟨rfl, ⟨nd, rfl⟩⟩; refine ⟨_, rfl, ?_⟩) | (go_at_call 58; (with_reducible refine (spec_l4Station.calls a0_1 false _ A4.out).mono ?_); rintro e w' ⟨rfl, ⟨nd, rfl⟩⟩))
   go_ret
   exact ⟨(qP8), (qP5 GE309.out)⟩
 ·replace c3 := Bool.eq_false_iff.mpr c3; subst c3; rw [if_neg (show ¬ (false = true) by decide)] at H; obtain rfl := Option.some.inj H
  go_enter Try.func50, Try.ntmps50
  go_wp2_with (first | ((with_reducible refine gate_dst (N := 1) rfl ?_); refine box_event ?hg (N := 1) ?hd (cs := #[.int .i64 a0_0, .int .i64 a0_1, .int .i64 a0_2, .int .i64 a0_3, .int .i64 a0_4]) (t := 55) ?hr ?_; (case hd => rfl); (case hg => rfl); (case hr => exact (qP23)); intro gb309 hg w22 hbox hb; have BK309 := Aside0.mk (hbox); have GW309 := Aside0.mk (qP63); have GE309 := Aside0.mk (qP63); replace HB := Aside0.mk (qP57); clear hb hbox hg; have hcz23_0 : w22.cell? ⟨gb309, 0, none⟩ = some (.int .i64 a0_0) := (blk_cell BK309.out 0).trans rfl; have hcz23_1 : w22.cell? ⟨gb309, 1, none⟩ = some (.int .i64 a0_1) := (blk_cell BK309.out 1).trans rfl; have hcz23_2 : w22.cell? ⟨gb309, 2, none⟩ = some (.int .i64 a0_2) := (blk_cell BK309.out 2).trans rfl; have hcz23_3 : w22.cell? ⟨gb309, 3, none⟩ = some (.int .i64 a0_3) := (blk_cell BK309.out 3).trans rfl; have hcz23_4 : w22.cell? ⟨gb309, 4, none⟩ = some (.int .i64 a0_4) := (blk_cell BK309.out 4).trans rfl; have hfz23_0 := blk_frozen BK309.out 0; have hfz23_1 := blk_frozen BK309.out 1; have hfz23_2 := blk_frozen BK309.out 2; have hfz23_3 := blk_frozen BK309.out 3; have hfz23_4 := blk_frozen BK309.out 4) | ((with_reducible refine gate_callee (f := 58) rfl ?_); refine goesL_ (some 5) rfl rfl Try.func58 (by kernel_rfl) rfl #[.int .i64 a0_0] rfl (qP2) ?_; (with_reducible refine (spec_l4Station.calls a0_0 false _ A2.out).mono ?_); rintro e w' ⟨rfl, ⟨nd, rfl⟩⟩; refine ⟨_, rfl, ?_⟩))
  go_ret
  exact ⟨(qP8), (qP5 GE309.out)⟩

/-! ### spec_l4Legs: function 30 -/
def spec_l4Legs.l0 : Nat → List (S55) → Int → Option (Bool)
 | 0, _, _ => none
 | k + 1, x0, x3 => if x3 < (x0.length : Int) then (if 0 ≤ x3 then ((spec_l4Leg.f ((rd_T55 x0 x3).f0) ((rd_T55 x0 x3).f1) ((rd_T55 x0 x3).f2) ((rd_T55 x0 x3).f3) ((rd_T55 x0 x3).f4)).bind fun t316 => (if t316 = true then (spec_l4Legs.l0 k x0 (wrap64 (x3 + 1))) else (some false))) else (none)) else (some (decide ((x0.length : Int) ≤ 12)))
def spec_l4Legs.f (k : Nat) (l0 : List (S55)) : Option (Bool) := spec_l4Legs.l0 k l0 0
theorem spec_l4Legs.mono_l : ∀ k, (∀ y0 y1, LeO (spec_l4Legs.l0 k y0 y1) (spec_l4Legs.l0 (k + 1) y0 y1))
 | 0 => fun _ _ r h => by simp [spec_l4Legs.l0] at h
 | k + 1 => by
  have ih0 := spec_l4Legs.mono_l k
  ·intro y0 y1
   unfold spec_l4Legs.l0
   exact qmono
theorem spec_l4Legs.mono : ∀ a0 k, LeO (spec_l4Legs.f k a0) (spec_l4Legs.f (k + 1) a0) := by
 intro a0 k; have ih0 := spec_l4Legs.mono_l k
 unfold spec_l4Legs.f
 exact qmono
theorem spec_l4Legs.calls (k : Nat) (A0 : Option Addr) (c0 : Nat) (l0 : List (S55)) (r : Bool) (w : World) (hr0 : Kd.C k55 w A0 l0.length l0) (hc0 : l0.length ≤ c0) (h : spec_l4Legs.f k l0 = some r) :
  Calls Try.prog 30 #[.slice A0 l0.length c0] w fun e w' => e = .returned (.bool r) ∧ Below w.heap.size w w' := by
 have hu55 := Try.underlying55; have HR0 := Aside0.mk hr0; have HC0 := Aside0.mk hc0; clear hr0 hc0; have HB := Aside0.mk (Below.refl w.heap.size w); have H : (spec_l4Legs.l0 k l0 0) = some r := h; clear h; have H' := Aside0.mk H; clear H
 go_enter Try.func30, Try.ntmps30
 go_wp2
 go_loopg [3] k (fun kq v3 w' => ∃ (x3_1 : Int), v3 = .int .i64 x3_1 ∧ Aside0 (spec_l4Legs.l0 kq l0 x3_1 = some r) ∧ Aside0 (kq ≤ k) ∧ Aside0 (Below w.heap.size w w'))
 case atStart => exact ⟨(0), (qP14), H', ⟨Nat.le_refl _⟩, ⟨(qP0)⟩⟩
 case round =>
  clear H'; obtain ⟨x3_1, rfl, HA, HK1, HB⟩ := hrel
  cases gk with
  | zero => exact absurd HA.out (by simp [spec_l4Legs.l0])
  | succ k1 =>
   have H := HA.out; clear HA; simp only [spec_l4Legs.l0] at H
   by_cases c2 : x3_1 < (l0.length : Int)
   ·rw [if_pos c2] at H; have c2b0 : decide (x3_1 < (l0.length : Int)) = true := decide_eq_true c2; clear c2
    by_cases c3 : 0 ≤ x3_1
    ·rw [if_pos c3] at H; have c3b0 : decide (0 ≤ x3_1) = true := decide_eq_true c3; clear c3; replace H := bindA H; obtain ⟨t316, A4, H⟩ := H; (try dsimp only at H)
     by_cases c5 : t316 = true
     ·subst c5; rw [if_pos rfl] at H; have H' := Aside0.mk H; clear H; have p315 : 0 ≤ (x3_1 : Int) := of_decide_eq_true (qP12); have q315 : x3_1 < (l0.length : Int) := of_decide_eq_true (qP12); obtain ⟨ad315, e315, hx315_0, hx315_1, hx315_2, hx315_3, hx315_4⟩ := at_T55 HR0.out x3_1 p315 q315; cases e315; replace hx315_0 := (HB.out.cell (World.block_lt_of_cell? w _ hx315_0)).trans hx315_0; replace hx315_1 := (HB.out.cell (World.block_lt_of_cell? w _ hx315_1)).trans hx315_1; replace hx315_2 := (HB.out.cell (World.block_lt_of_cell? w _ hx315_2)).trans hx315_2; replace hx315_3 := (HB.out.cell (World.block_lt_of_cell? w _ hx315_3)).trans hx315_3; replace hx315_4 := (HB.out.cell (World.block_lt_of_cell? w _ hx315_4)).trans hx315_4; replace p315 := eq_true p315; replace q315 := eq_true q315
      go_wp2_with (first | ((with_reducible refine gate_callee (f := 50) rfl ?_); refine goesL_ (some 14) rfl rfl Try.func50 (by kernel_rfl) rfl #[.agg #[.int .i64 ((rd_T55 l0 x3_1).f0), .int .i64 ((rd_T55 l0 x3_1).f1), .int .i64 ((rd_T55 l0 x3_1).f2), .int .i64 ((rd_T55 l0 x3_1).f3), .int .i64 ((rd_T55 l0 x3_1).f4)]] rfl (qP2) ?_; (with_reducible refine (spec_l4Leg.calls ((rd_T55 l0 x3_1).f0) ((rd_T55 l0 x3_1).f1) ((rd_T55 l0 x3_1).f2) ((rd_T55 l0 x3_1).f3) ((rd_T55 l0 x3_1).f4) true _ A4.out).mono ?_); rintro e w6 ⟨rfl, hb⟩; refine ⟨_, rfl, ?_⟩; replace HB := Aside0.mk (qP57); clear hb))
      go_roundg k1
      case measure => have := HK1.out; omega
      case rel => exact ⟨(wrap64 (x3_1 + 1)), (qP14), H', ⟨by have := HK1.out; omega⟩, ⟨(qP0)⟩⟩
     ·replace c5 := Bool.eq_false_iff.mpr c5; subst c5; rw [if_neg (show ¬ (false = true) by decide)] at H; obtain rfl := Option.some.inj H; have p315 : 0 ≤ (x3_1 : Int) := of_decide_eq_true (qP12); have q315 : x3_1 < (l0.length : Int) := of_decide_eq_true (qP12); obtain ⟨ad315, e315, hx315_0, hx315_1, hx315_2, hx315_3, hx315_4⟩ := at_T55 HR0.out x3_1 p315 q315; cases e315; replace hx315_0 := (HB.out.cell (World.block_lt_of_cell? w _ hx315_0)).trans hx315_0; replace hx315_1 := (HB.out.cell (World.block_lt_of_cell? w _ hx315_1)).trans hx315_1; replace hx315_2 := (HB.out.cell (World.block_lt_of_cell? w _ hx315_2)).trans hx315_2; replace hx315_3 := (HB.out.cell (World.block_lt_of_cell? w _ hx315_3)).trans hx315_3; replace hx315_4 := (HB.out.cell (World.block_lt_of_cell? w _ hx315_4)).trans hx315_4; replace p315 := eq_true p315; replace q315 := eq_true q315
      go_wp2_with (first | ((with_reducible refine gate_callee (f := 50) rfl ?_); refine goesL_ (some 14) rfl rfl Try.func50 (by kernel_rfl) rfl #[.agg #[.int .i64 ((rd_T55 l0 x3_1).f0), .int .i64 ((rd_T55 l0 x3_1).f1), .int .i64 ((rd_T55 l0 x3_1).f2), .int .i64 ((rd_T55 l0 x3_1).f3), .int .i64 ((rd_T55 l0 x3_1).f4)]] rfl (qP2) ?_; (with_reducible refine (spec_l4Leg.calls ((rd_T55 l0 x3_1).f0) ((rd_T55 l0 x3_1).f1) ((rd_T55 l0 x3_1).f2) ((rd_T55 l0 x3_1).f3) ((rd_T55 l0 x3_1).f4) false _ A4.out).mono ?_); rintro e w7 ⟨rfl, hb⟩; refine ⟨_, rfl, ?_⟩; replace HB := Aside0.mk (qP57); clear hb))
      go_ret
      exact ⟨(qP8), (qP0)⟩
    ·rw [if_neg c3] at H
     exact absurd H (by simp)
   ·rw [if_neg c2] at H; have c2b0 : decide (x3_1 < (l0.length : Int)) = false := decide_eq_false c2; clear c2; obtain rfl := Option.some.inj H
    go_wp2
    go_ret
    exact ⟨(qP8), (qP0)⟩

/-! ### spec_l12Find: function 35 -/
def spec_l12Find.l0 : Nat → List (S60) → Int → Int → Option (Int)
 | 0, _, _, _ => none
 | k + 1, x0, x1, x5 => if x5 < (x0.length : Int) then (if 0 ≤ x5 then (if ((rd_T60 x0 x5).f0) = x1 then (some x5) else (spec_l12Find.l0 k x0 x1 (wrap64 (x5 + 1)))) else (none)) else (some (-1))
def spec_l12Find.f (k : Nat) (l0 : List (S60)) (a1 : Int) : Option (Int) := spec_l12Find.l0 k l0 a1 0
theorem spec_l12Find.mono_l : ∀ k, (∀ y0 y1 y2, LeO (spec_l12Find.l0 k y0 y1 y2) (spec_l12Find.l0 (k + 1) y0 y1 y2))
 | 0 => fun _ _ _ r h => by simp [spec_l12Find.l0] at h
 | k + 1 => by
  have ih0 := spec_l12Find.mono_l k
  ·intro y0 y1 y2
   unfold spec_l12Find.l0
   exact qmono
theorem spec_l12Find.mono : ∀ a0 a1 k, LeO (spec_l12Find.f k a0 a1) (spec_l12Find.f (k + 1) a0 a1) := by
 intro a0 a1 k; have ih0 := spec_l12Find.mono_l k
 unfold spec_l12Find.f
 exact qmono
theorem spec_l12Find.calls (k : Nat) (A0 : Option Addr) (c0 : Nat) (l0 : List (S60)) (a1 : Int) (r : Int) (w : World) (hr0 : Kd.C k60 w A0 l0.length l0) (hc0 : l0.length ≤ c0) (h : spec_l12Find.f k l0 a1 = some r) :
  Calls Try.prog 35 #[.slice A0 l0.length c0, .int .i64 a1] w fun e w' => e = .returned (.int .i64 r) ∧ Drawn0 w w' := by
 have HR0 := Aside0.mk hr0; have HC0 := Aside0.mk hc0; clear hr0 hc0; have H : (spec_l12Find.l0 k l0 a1 0) = some r := h; clear h; have H' := Aside0.mk H; clear H
 go_enter Try.func35, Try.ntmps35
 go_wp2
 go_loopg [5] k (fun kq v5 w' => ∃ (x5_1 : Int), v5 = .int .i64 x5_1 ∧ Aside0 (spec_l12Find.l0 kq l0 a1 x5_1 = some r) ∧ Aside0 (kq ≤ k) ∧ Drawn0 w w')
 case atStart => exact ⟨(0), (qP14), H', ⟨Nat.le_refl _⟩, (qP26)⟩
 case round =>
  clear H'; (try clear p2); obtain ⟨x5_1, rfl, HA, HK1, ⟨m1, rfl⟩⟩ := hrel
  cases gk with
  | zero => exact absurd HA.out (by simp [spec_l12Find.l0])
  | succ k1 =>
   have H := HA.out; clear HA; simp only [spec_l12Find.l0] at H
   by_cases c3 : x5_1 < (l0.length : Int)
   ·rw [if_pos c3] at H; have c3b0 : decide (x5_1 < (l0.length : Int)) = true := decide_eq_true c3; clear c3
    by_cases c4 : 0 ≤ x5_1
    ·rw [if_pos c4] at H; have c4b0 : decide (0 ≤ x5_1) = true := decide_eq_true c4; clear c4
     by_cases c5 : ((rd_T60 l0 x5_1).f0) = a1
     ·rw [if_pos c5] at H; have c5b0 : (((rd_T60 l0 x5_1).f0) == a1) = true := beq_iff_eq.mpr c5; have c5b1 : (((rd_T60 l0 x5_1).f0) != a1) = false := bne_eq_false_iff_eq.mpr c5; clear c5; obtain rfl := Option.some.inj H; have p317 : 0 ≤ (x5_1 : Int) := of_decide_eq_true (qP12); have q317 : x5_1 < (l0.length : Int) := of_decide_eq_true (qP12); obtain ⟨ad317, e317, hx317_0, hx317_1, hx317_2, hx317_3, hx317_4⟩ := at_T60 HR0.out x5_1 p317 q317; cases e317; replace p317 := eq_true p317; replace q317 := eq_true q317
      go_wp2
      go_ret
      exact ⟨(qP14), (qP26)⟩
     ·rw [if_neg c5] at H; have c5b0 : (((rd_T60 l0 x5_1).f0) == a1) = false := beq_eq_false_iff_ne.mpr c5; have c5b1 : (((rd_T60 l0 x5_1).f0) != a1) = true := bne_iff_ne.mpr c5; have H' := Aside0.mk H; clear H; have p317 : 0 ≤ (x5_1 : Int) := of_decide_eq_true (qP12); have q317 : x5_1 < (l0.length : Int) := of_decide_eq_true (qP12); obtain ⟨ad317, e317, hx317_0, hx317_1, hx317_2, hx317_3, hx317_4⟩ := at_T60 HR0.out x5_1 p317 q317; cases e317; replace p317 := eq_true p317; replace q317 := eq_true q317
      go_wp2
      go_roundg k1
      case measure => have := HK1.out; omega
      case rel => exact ⟨(wrap64 (x5_1 + 1)), (qP14), H', ⟨by have := HK1.out; omega⟩, (qP26)⟩
    ·rw [if_neg c4] at H
     exact absurd H (by simp)
   ·rw [if_neg c3] at H; have c3b0 : decide (x5_1 < (l0.length : Int)) = false := decide_eq_false c3; clear c3; obtain rfl := Option.some.inj H
    go_wp2
    go_ret
    exact ⟨(qP14), (qP26)⟩

/-! ### spec_l12Area: function 42 -/
def spec_l12Area.f (a0_0 : Int) (a0_1 : Int) (a0_2 : Int) (a0_3 : Int) (a0_4 : Int) : Option (Int) := some (wrap64 ((wrap64 (a0_1 + a0_2)) * (wrap64 (a0_3 + a0_4))))
theorem spec_l12Area.calls (a0_0 : Int) (a0_1 : Int) (a0_2 : Int) (a0_3 : Int) (a0_4 : Int) (r : Int) (w : World) (h : spec_l12Area.f a0_0 a0_1 a0_2 a0_3 a0_4 = some r) :
  Calls Try.prog 42 #[.agg #[.int .i64 a0_0, .int .i64 a0_1, .int .i64 a0_2, .int .i64 a0_3, .int .i64 a0_4]] w fun e w' => e = .returned (.int .i64 r) ∧ Below w.heap.size w w' := by
 have hu60 := Try.underlying60; have HB := Aside0.mk (Below.refl w.heap.size w); have H : (some (wrap64 ((wrap64 (a0_1 + a0_2)) * (wrap64 (a0_3 + a0_4))))) = some r := h; clear h; obtain rfl := Option.some.inj H
 go_enter Try.func42, Try.ntmps42
 go_wp2_with (first | ((with_reducible refine gate_dst (N := 1) rfl ?_); refine box_event ?hg (N := 1) ?hd (cs := #[.int .i64 a0_0, .int .i64 a0_1, .int .i64 a0_2, .int .i64 a0_3, .int .i64 a0_4]) (t := 60) ?hr ?_; (case hd => rfl); (case hg => rfl); (case hr => exact (qP23)); intro gb318 hg w2 hbox hb; have BK318 := Aside0.mk (hbox); have GW318 := Aside0.mk (by exact (by rw [hg]; exact (below_size (qP0)) : w.heap.size ≤ gb318)); have GE318 := Aside0.mk (by exact (by rw [hg]; exact (below_size (qP0)) : w.heap.size ≤ gb318)); replace HB := Aside0.mk (qP57); clear hb hbox hg; have hcz3_0 : w2.cell? ⟨gb318, 0, none⟩ = some (.int .i64 a0_0) := (blk_cell BK318.out 0).trans rfl; have hcz3_1 : w2.cell? ⟨gb318, 1, none⟩ = some (.int .i64 a0_1) := (blk_cell BK318.out 1).trans rfl; have hcz3_2 : w2.cell? ⟨gb318, 2, none⟩ = some (.int .i64 a0_2) := (blk_cell BK318.out 2).trans rfl; have hcz3_3 : w2.cell? ⟨gb318, 3, none⟩ = some (.int .i64 a0_3) := (blk_cell BK318.out 3).trans rfl; have hcz3_4 : w2.cell? ⟨gb318, 4, none⟩ = some (.int .i64 a0_4) := (blk_cell BK318.out 4).trans rfl; have hfz3_0 := blk_frozen BK318.out 0; have hfz3_1 := blk_frozen BK318.out 1; have hfz3_2 := blk_frozen BK318.out 2; have hfz3_3 := blk_frozen BK318.out 3; have hfz3_4 := blk_frozen BK318.out 4))
 go_ret
 exact ⟨(qP8), (qP5 GE318.out)⟩

/-! ### spec_l12At: function 31 -/
def spec_l12At.f (k : Nat) (l0 : List (S60)) (a1 : Int) : Option (Int) := (spec_l12Find.f k l0 a1).bind fun t319 => (if t319 ≥ 0 then (if 0 ≤ t319 then (if t319 < (l0.length : Int) then ((spec_l12Area.f ((rd_T60 l0 t319).f0) ((rd_T60 l0 t319).f1) ((rd_T60 l0 t319).f2) ((rd_T60 l0 t319).f3) ((rd_T60 l0 t319).f4)).bind fun t321 => (some t321)) else (none)) else (none)) else (some 0))
theorem spec_l12At.mono : ∀ a0 a1 k, LeO (spec_l12At.f k a0 a1) (spec_l12At.f (k + 1) a0 a1) := by
 intro a0 a1 k
 unfold spec_l12At.f
 have m0 := @spec_l12Find.mono
 exact qmono
theorem spec_l12At.calls (k : Nat) (A0 : Option Addr) (c0 : Nat) (l0 : List (S60)) (a1 : Int) (r : Int) (w : World) (hr0 : Kd.C k60 w A0 l0.length l0) (hc0 : l0.length ≤ c0) (h : spec_l12At.f k l0 a1 = some r) :
  Calls Try.prog 31 #[.slice A0 l0.length c0, .int .i64 a1] w fun e w' => e = .returned (.int .i64 r) ∧ Below w.heap.size w w' := by
 have hu60 := Try.underlying60; have HR0 := Aside0.mk hr0; have HC0 := Aside0.mk hc0; clear hr0 hc0; have HB := Aside0.mk (Below.refl w.heap.size w); have H : ((spec_l12Find.f k l0 a1).bind fun t319 => (if t319 ≥ 0 then (if 0 ≤ t319 then (if t319 < (l0.length : Int) then ((spec_l12Area.f ((rd_T60 l0 t319).f0) ((rd_T60 l0 t319).f1) ((rd_T60 l0 t319).f2) ((rd_T60 l0 t319).f3) ((rd_T60 l0 t319).f4)).bind fun t321 => (some t321)) else (none)) else (none)) else (some 0))) = some r := h; clear h; replace H := bindA H; obtain ⟨t319, A3, H⟩ := H; (try dsimp only at H)
 by_cases c4 : t319 ≥ 0
 ·rw [if_pos c4] at H; have c4b0 : decide (0 ≤ t319) = true := decide_eq_true c4; clear c4
  by_cases c5 : 0 ≤ t319
  ·rw [if_pos c5] at H; have c5b0 : decide (0 ≤ t319) = true := decide_eq_true c5; clear c5
   by_cases c6 : t319 < (l0.length : Int)
   ·rw [if_pos c6] at H; have c6b0 : decide (t319 < (l0.length : Int)) = true := decide_eq_true c6; clear c6; replace H := Option.bind_eq_some_iff.mp H; obtain ⟨t321, A70, H⟩ := H; replace H : (some t321) = some r := H; have A7 := Aside0.mk A70; clear A70; obtain rfl := Option.some.inj H
    go_enter Try.func31, Try.ntmps31
    go_wp2_with (first | ((with_reducible refine gate_callee (f := 35) rfl ?_); refine goesL_ (some 8) rfl rfl Try.func35 (by kernel_rfl) rfl #[.slice A0 l0.length c0, .int .i64 a1] rfl (qP2) ?_; (with_reducible refine (spec_l12Find.calls k _ _ l0 a1 t319 _ ?s1 ?s2 A3.out).mono ?_); (case s1 => exact (qP28 HR0.out)); (case s2 => exact HC0.out); rintro e w' ⟨rfl, ⟨nd, rfl⟩⟩; refine ⟨_, rfl, ?_⟩; have p320 : 0 ≤ (t319 : Int) := of_decide_eq_true (qP12); have q320 : t319 < (l0.length : Int) := of_decide_eq_true (qP12); obtain ⟨ad320, e320, hx320_0, hx320_1, hx320_2, hx320_3, hx320_4⟩ := at_T60 HR0.out t319 p320 q320; cases e320; replace p320 := eq_true p320; replace q320 := eq_true q320) | ((with_reducible refine gate_callee (f := 42) rfl ?_); refine goesL_ (some 15) rfl rfl Try.func42 (by kernel_rfl) rfl #[.agg #[.int .i64 ((rd_T60 l0 t319).f0), .int .i64 ((rd_T60 l0 t319).f1), .int .i64 ((rd_T60 l0 t319).f2), .int .i64 ((rd_T60 l0 t319).f3), .int .i64 ((rd_T60 l0 t319).f4)]] rfl (qP2) ?_; (with_reducible refine (spec_l12Area.calls ((rd_T60 l0 t319).f0) ((rd_T60 l0 t319).f1) ((rd_T60 l0 t319).f2) ((rd_T60 l0 t319).f3) ((rd_T60 l0 t319).f4) t321 _ A7.out).mono ?_); rintro e w8 ⟨rfl, hb⟩; refine ⟨_, rfl, ?_⟩; replace HB := Aside0.mk (qP57); clear hb))
    go_ret
    exact ⟨(qP8), (qP0)⟩
   ·rw [if_neg c6] at H
    exact absurd H (by simp)
  ·rw [if_neg c5] at H
   exact absurd H (by simp)
 ·rw [if_neg c4] at H; have c4b0 : decide (0 ≤ t319) = false := decide_eq_false c4; clear c4; obtain rfl := Option.some.inj H
  go_enter Try.func31, Try.ntmps31
  go_wp2_with (first | ((with_reducible refine gate_callee (f := 35) rfl ?_); refine goesL_ (some 8) rfl rfl Try.func35 (by kernel_rfl) rfl #[.slice A0 l0.length c0, .int .i64 a1] rfl (qP2) ?_; (with_reducible refine (spec_l12Find.calls k _ _ l0 a1 t319 _ ?s1 ?s2 A3.out).mono ?_); (case s1 => exact (qP28 HR0.out)); (case s2 => exact HC0.out); rintro e w' ⟨rfl, ⟨nd, rfl⟩⟩; refine ⟨_, rfl, ?_⟩))
  go_ret
  exact ⟨(qP8), (qP0)⟩

/-! ### spec_l1Most: function 51 -/
def spec_l1Most.f (a0 : Int) (a1 : Int) : Option (Int) := if a0 > a1 then (some a0) else (some a1)
theorem spec_l1Most.calls (a0 : Int) (a1 : Int) (r : Int) (w : World) (h : spec_l1Most.f a0 a1 = some r) :
  Calls Try.prog 51 #[.int .i64 a0, .int .i64 a1] w fun e w' => e = .returned (.int .i64 r) ∧ Drawn0 w w' := by
 have H : (if a0 > a1 then (some a0) else (some a1)) = some r := h; clear h
 by_cases c3 : a0 > a1
 ·rw [if_pos c3] at H; have c3b0 : decide (a1 < a0) = true := decide_eq_true c3; clear c3; obtain rfl := Option.some.inj H
  go_enter Try.func51, Try.ntmps51
  go_wp2
  go_ret
  exact ⟨(qP14), (qP26)⟩
 ·rw [if_neg c3] at H; have c3b0 : decide (a1 < a0) = false := decide_eq_false c3; clear c3; obtain rfl := Option.some.inj H
  go_enter Try.func51, Try.ntmps51
  go_wp2
  go_ret
  exact ⟨(qP14), (qP26)⟩

end Go.Proofs.Ytffdglecmjbolaa.MP
