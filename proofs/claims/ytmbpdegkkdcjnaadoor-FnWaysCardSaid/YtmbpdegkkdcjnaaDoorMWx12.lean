-- Written by a program of this session (wip/drv.py, wip/tight2.py). -- tight2
import Derived.Test.YtmbpdegkkdcjnaaDoorMWx0
import Derived.Test.YtmbpdegkkdcjnaaDoorMWx3
import Derived.Test.YtmbpdegkkdcjnaaDoorMWx11
namespace Go.Proofs.YtmbpdegkkdcjnaaDoor.MW
open Go.RowKit Go.Proofs.YtmbpdegkkdcjnaaDoorW.PrintWords Go.Proofs.YtmbpdegkkdcjnaaDoorW.PrintLast Go.Proofs.YtmbpdegkkdcjnaaDoorW.PrintMore
theorem qW12_c0 {p : Prop} (h : p := by
  simp only [Act.put, List.setIfInBounds_toArray, List.set_cons_zero, List.set_cons_succ, i64_w, i32_w]
  rfl) : p := h
theorem qW12_c1 {p : Prop} (h : p := by
  intro w'
  go_simp
  with_reducible rfl) : p := h
theorem qW12_c2 {p : Prop} (h : p := by
  rintro w' ⟨s0, s1, s2, s3, s4, s5, s6, s7, s8, s9, s10, s11, s12, s13, s14⟩
  go_simp
  with_reducible rfl) : p := h
theorem qW12_c3 {p : Prop} (h : p := by
  show Act.put _ (some 17) _ = _
  simp only [Act.put, List.setIfInBounds_toArray, List.set_cons_zero, List.set_cons_succ, i64_w, i32_w]
  rfl) : p := h
attribute [local go_sem] max2_int min2_int max_two min_two max_three min_three max_four min_four   -- for this text's walks alone
set_option linter.unusedVariables false
set_option linter.unusedSimpArgs false

/-! ### spec_WayOfLegs: function 21 -/
mutual
def spec_WayOfLegs.l0 : Nat → List (S59) → List (S44) → Int → Option ((List (S44)) × Bool)
 | 0, _, _, _ => none
 | k + 1, x0, x4, x5 => if x5 < (x0.length : Int) then (if 0 ≤ x5 then ((spec_l4Leg.f ((rd_T59 x0 x5).f0) ((rd_T59 x0 x5).f1) ((rd_T59 x0 x5).f2) ((rd_T59 x0 x5).f3) ((rd_T59 x0 x5).f4)).bind fun t461 => (if t461 = true then (if x5 > 0 then (if 0 ≤ (wrap64 (x5 - 1)) then (if (wrap64 (x5 - 1)) < (x0.length : Int) then (spec_WayOfLegs.j1 k x0 x4 x5 (((rd_T59 x0 (wrap64 (x5 - 1))).f1) != ((rd_T59 x0 x5).f0))) else (none)) else (none)) else (spec_WayOfLegs.j1 k x0 x4 x5 false)) else (spec_WayOfLegs.j1 k x0 x4 x5 true))) else (none)) else ((spec_l14Good.f k x4).bind fun t456 => (if t456 = true then (some (x4, true)) else (some ((([] : List (S44))), false))))
def spec_WayOfLegs.j1 : Nat → List (S59) → List (S44) → Int → Bool → Option ((List (S44)) × Bool)
 | 0, _, _, _, _ => none
 | k + 1, x0, x4, x5, x36 => if x36 = true then (some ((([] : List (S44))), false)) else (if 0 ≤ x5 then (if x5 < (x0.length : Int) then ((spec_l2Sine.f (wrap64 (((rd_T59 x0 x5).f4) + 90))).bind fun t469 => ((spec_l11Round.f k (wrap64 (((rd_T59 x0 x5).f2) * t469)) 1000).bind fun t470 => ((spec_l4Shift.f ((rd_T59 x0 x5).f0) ((rd_T59 x0 x5).f1) ((rd_T59 x0 x5).f2) ((rd_T59 x0 x5).f3) ((rd_T59 x0 x5).f4)).bind fun bt472 => (if x4.length < 8796093022208 then (spec_WayOfLegs.l0 k x0 (x4 ++ [(⟨t470, bt472.2.2⟩ : S44)]) (wrap64 (x5 + 1))) else (none))))) else (none)) else (none))
end
def spec_WayOfLegs.f (k : Nat) (l0 : List (S59)) : Option ((List (S44)) × Bool) := spec_WayOfLegs.l0 k l0 (([] : List (S44))) 0
theorem spec_WayOfLegs.mono_l : ∀ k, (∀ y0 y1 y2, LeO (spec_WayOfLegs.l0 k y0 y1 y2) (spec_WayOfLegs.l0 (k + 1) y0 y1 y2)) ∧ (∀ y0 y1 y2 y3, LeO (spec_WayOfLegs.j1 k y0 y1 y2 y3) (spec_WayOfLegs.j1 (k + 1) y0 y1 y2 y3))
 | 0 => ⟨fun _ _ _ r h => by simp [spec_WayOfLegs.l0] at h, fun _ _ _ _ r h => by simp [spec_WayOfLegs.j1] at h⟩
 | k + 1 => by
  obtain ⟨ih0, ih1⟩ := spec_WayOfLegs.mono_l k
  refine ⟨?_, ?_⟩
  ·intro y0 y1 y2
   unfold spec_WayOfLegs.l0
   have m0 := @spec_l11Round.mono; have m1 := @spec_l14Good.mono
   exact qmono
  ·intro y0 y1 y2 y3
   unfold spec_WayOfLegs.j1
   have m0 := @spec_l11Round.mono; have m1 := @spec_l14Good.mono
   exact qmono
theorem spec_WayOfLegs.mono : ∀ a0 k, LeO (spec_WayOfLegs.f k a0) (spec_WayOfLegs.f (k + 1) a0) := by
 intro a0 k
 obtain ⟨ih0, ih1⟩ := spec_WayOfLegs.mono_l k
 unfold spec_WayOfLegs.f
 have m0 := @spec_l11Round.mono; have m1 := @spec_l14Good.mono
 exact qmono
def spec_WayOfLegs.T5 : Bool × List (List Nat × List Nat) := (true, [([], []), ([], []), ([0, 1], [0, 1]), ([2], [2]), ([3], [3]), ([4], [4]), ([5, 4], [5]), ([6], [6]), ([7, 6], [6, 7]), ([8, 6, 6], [6, 8]), ([9], [9]), ([9], [9]), ([11, 9], [9, 11]), ([10, 12, 9], [9, 10, 12]), ([13, 9], [9, 13]), ([14, 9], [9, 14]), ([9], [9]), ([9], [9]), ([16, 17, 9], [9, 16, 17]), ([18, 9], [9, 18]), ([19, 9], [9, 19]), ([15, 20, 9], [9, 15, 20]), ([9, 21, 6], [6, 9, 21]), ([6, 22], [6, 22])])
def spec_WayOfLegs.B5 : List Nat := [0, 0, 3, 7, 15, 31, 63, 127, 255, 511, 1023, 1023, 3071, 8191, 16383, 32767, 1023, 1023, 197631, 459775, 984063, 2097151, 4194303, 8388607]
theorem spec_WayOfLegs.tab5 : rtab .any (opsOf Tryd.f21 5) = spec_WayOfLegs.T5 := by kernel_rfl
theorem spec_WayOfLegs.bits5 : waitsOk spec_WayOfLegs.T5.2 spec_WayOfLegs.B5 = true := by kernel_rfl
def spec_WayOfLegs.T7 : Bool × List (List Nat × List Nat) := (true, [([], []), ([], []), ([], []), ([1, 2], [1, 2]), ([3], [3]), ([4], [4]), ([], []), ([], []), ([6, 7], [6, 7]), ([8], [8]), ([9], [9]), ([10], [10]), ([11], [11]), ([5, 12], [5, 12]), ([13, 12], [13]), ([], []), ([], []), ([15, 16], [15, 16]), ([17], [17]), ([18, 14], [18]), ([19], [19]), ([14, 20], [14, 20]), ([21], [21]), ([0, 22, 19], [0, 22]), ([23, 23, 0, 1, 2, 3, 4, 5, 6, 7, 8, 9, 10, 11, 12, 13, 14, 15, 16, 17, 18, 19, 20, 21, 22, 23], [0, 23])])
def spec_WayOfLegs.B7 : List Nat := [0, 0, 0, 6, 14, 30, 0, 0, 192, 448, 960, 1984, 4032, 8190, 16382, 0, 0, 98304, 229376, 524286, 1048574, 2097150, 4194302, 8388607, 16777215]
theorem spec_WayOfLegs.tab7 : rtab .any (opsOf Tryd.f21 7) = spec_WayOfLegs.T7 := by kernel_rfl
theorem spec_WayOfLegs.bits7 : waitsOk spec_WayOfLegs.T7.2 spec_WayOfLegs.B7 = true := by kernel_rfl
set_option maxHeartbeats 8000000 in
set_option maxRecDepth 100000 in
theorem spec_WayOfLegs.calls (k : Nat) (A0 : Option Addr) (c0 : Nat) (l0 : List (S59)) (r1 : List (S44)) (r2 : Bool) (w : World) (hr0 : Kd.C k59 w A0 l0.length l0) (hc0 : l0.length ≤ c0) (h : spec_WayOfLegs.f k l0 = some (r1, r2)) :
  Calls Tryd.prog 21 #[.slice A0 l0.length c0] w fun e w' => ∃ v0_ : Value, e = .returned (.tuple #[v0_, .bool r2]) ∧ Kd.R k44 44 w' w.heap.size (fun _ => True) v0_ r1 ∧ Below w.heap.size w w' := by
 have hfld : ∀ (a b c : Int) (w' : World), (Instr.field 63 (.agg #[.int .i64 a, .int .i64 b, .int .i64 c]) 2).run Tryd.prog w' = .ok (.int .i64 c) w' := fun _ _ _ _ => rfl
 have hu59 := Tryd.underlying59
 have hu44 := Tryd.underlying44
 have HR0 := Aside0.mk hr0; have HC0 := Aside0.mk hc0; clear hr0 hc0
 have HB := Aside0.mk (Below.refl w.heap.size w)
 have H : (spec_WayOfLegs.l0 k l0 (([] : List (S44))) 0) = some (r1, r2) := h
 clear h
 obtain ⟨y453, hy453⟩ : ∃ y_ : List (S44), y_ = (([] : List (S44))) := ⟨_, rfl⟩
 replace H : (spec_WayOfLegs.l0 k l0 y453 0) = some (r1, r2) := (qW7 hy453)
 have Ny453 := Aside0.mk hy453; clear hy453
 have H' := Aside0.mk H
 clear H
 go_enter Tryd.func21, Tryd.ntmps21
 go_wp2_with (first | ((with_reducible refine gate_dst (N := 6) rfl ?_); refine Kd.R_lit k44 _ 44 ?hg (N := 6) ?hd (xs := ([] : List (S44))) (inner := []) (ok := fun _ => True) (okp := fun _ => True) ?hr ?hp (fun _ hk => hk) trivial (Below.refl _ _) (Nat.le_refl _) (by simp) ?_; (case hd => rfl); (case hg => rfl); (case hr => exact (qW22)); (case hp => exact (Reps.none _ _)); intro v454 w2 ho3 hb hg_ hnew_; clear hg_ hnew_; (first | rw [← Ny453.out] at ho3 | (simp only [Int.reduceToNat] at ho3; rw [← Ny453.out] at ho3)); have HO455 := Aside0.mk (Kd.R_lower ho3 (below_size (qW0))); replace HB := Aside0.mk (below_step (qW0) hb); clear hb ho3))
 go_loopg [4, 5] k (fun kq v4 v5 w' => ∃ (x4_1 : List (S44)) (x5_1 : Int), v5 = .int .i64 x5_1 ∧ Aside0 (spec_WayOfLegs.l0 kq l0 x4_1 x5_1 = some (r1, r2)) ∧ Aside0 (kq ≤ k) ∧ Aside0 (Kd.R k44 44 w' w.heap.size (fun _ => True) v4 x4_1) ∧ Aside0 (Below w.heap.size w w'))
 case atStart => exact ⟨(y453), (0), (qW14), H', ⟨Nat.le_refl _⟩, ⟨(qW2 HO455.out)⟩, ⟨(qW0)⟩⟩
 case round =>
  clear H'
  try clear c2
  try clear p2
  obtain ⟨x4_1, x5_1, rfl, HA, HK1, HO_4, HB⟩ := hrel
  cases gk with
  | zero => exact absurd HA.out (by simp [spec_WayOfLegs.l0])
  | succ k1 =>
   have H := HA.out
   clear HA
   simp only [spec_WayOfLegs.l0] at H
   by_cases c4 : x5_1 < (l0.length : Int)
   ·rw [if_pos c4] at H
    have c4b0 : decide (x5_1 < (l0.length : Int)) = true := decide_eq_true c4
    clear c4; have HC5 := Aside0.mk H; clear H
    go_upto_region 5 with (fail)
    go_cut [36] (fun v36 wc => ∃ (kq : Nat) (x36_4 : Bool), v36 = .bool x36_4 ∧ Aside0 (spec_WayOfLegs.j1 kq l0 x4_1 x5_1 x36_4 = some (r1, r2)) ∧ Aside0 (kq ≤ k1) ∧ Aside0 (Kd.R k44 44 wc w.heap.size (fun _ => True) u4 x4_1) ∧ Aside0 (Below w.heap.size w wc))
    case first =>
     have H := HC5.out
     clear HC5
     by_cases c6 : 0 ≤ x5_1
     ·rw [if_pos c6] at H
      have c6b0 : decide (0 ≤ x5_1) = true := decide_eq_true c6
      clear c6
      (first | rw [c6b0] | (simp only [i64_w, i32_w]; rw [c6b0]) | skip)
      replace H := Option.bind_eq_some_iff.mp H; obtain ⟨t461, A70, H⟩ := H
      try dsimp only at H
      have A7 := Aside0.mk A70; clear A70
      by_cases c8 : t461 = true
      ·subst c8; rw [if_pos rfl] at H
       by_cases c9 : x5_1 > 0
       ·rw [if_pos c9] at H
        have c9b0 : decide (0 < x5_1) = true := decide_eq_true c9
        clear c9
        obtain ⟨ji10, hji10⟩ : ∃ j_ : Int, (wrap64 (x5_1 - 1)) = j_ := ⟨_, rfl⟩
        replace H : (if 0 ≤ (ji10) then (if (ji10) < (l0.length : Int) then (spec_WayOfLegs.j1 k1 l0 x4_1 x5_1 (((rd_T59 l0 (ji10)).f1) != ((rd_T59 l0 x5_1).f0))) else (none)) else (none)) = some (r1, r2) := by first | (rw [hji10] at H; exact H) | (simp only [hji10] at H ⊢; exact H)
        (try rw [hji10] at A7)
        have hji10w : (IntKind.i64.wrap (x5_1 - 1)) = ji10 := (i64_w _).trans hji10
        by_cases c11 : 0 ≤ (ji10)
        ·rw [if_pos c11] at H
         have c11b0 : decide (0 ≤ (ji10)) = true := decide_eq_true c11
         clear c11
         by_cases c12 : (ji10) < (l0.length : Int)
         ·rw [if_pos c12] at H
          have c12b0 : decide ((ji10) < (l0.length : Int)) = true := decide_eq_true c12
          clear c12
          have H' := Aside0.mk H
          clear H
          try go_wp2
          replace HO_4 := Aside0.mk (Kd.R_drew HO_4.out)
          replace HB := Aside0.mk (below_drew1 HB.out)
          have p460 : 0 ≤ (x5_1 : Int) := of_decide_eq_true (qW13)
          have q460 : x5_1 < (l0.length : Int) := of_decide_eq_true (qW13)
          obtain ⟨ad460, e460, hx460_0, hx460_1, hx460_2, hx460_3, hx460_4⟩ := at_T59 HR0.out x5_1 p460 q460
          have hw460_4 := hx460_4
          have hw460_3 := hx460_3
          have hw460_2 := hx460_2
          have hw460_1 := hx460_1
          have hw460_0 := hx460_0
          cases e460
          replace hx460_0 := (HB.out.cell (World.block_lt_of_cell? w _ hx460_0)).trans hx460_0
          replace hx460_1 := (HB.out.cell (World.block_lt_of_cell? w _ hx460_1)).trans hx460_1
          replace hx460_2 := (HB.out.cell (World.block_lt_of_cell? w _ hx460_2)).trans hx460_2
          replace hx460_3 := (HB.out.cell (World.block_lt_of_cell? w _ hx460_3)).trans hx460_3
          replace hx460_4 := (HB.out.cell (World.block_lt_of_cell? w _ hx460_4)).trans hx460_4
          replace p460 := eq_true p460
          replace q460 := eq_true q460
          have p462 : 0 ≤ ((ji10) : Int) := of_decide_eq_true (qW13)
          have q462 : (ji10) < (l0.length : Int) := of_decide_eq_true (qW13)
          obtain ⟨ad462, e462, hx462_0, hx462_1, hx462_2, hx462_3, hx462_4⟩ := at_T59 HR0.out (ji10) p462 q462
          have hw462_4 := hx462_4
          have hw462_3 := hx462_3
          have hw462_2 := hx462_2
          have hw462_1 := hx462_1
          have hw462_0 := hx462_0
          obtain rfl : ad460 = ad462 := (by injection e462)
          replace hx462_0 := (HB.out.cell (World.block_lt_of_cell? w _ hx462_0)).trans hx462_0
          replace hx462_1 := (HB.out.cell (World.block_lt_of_cell? w _ hx462_1)).trans hx462_1
          replace hx462_2 := (HB.out.cell (World.block_lt_of_cell? w _ hx462_2)).trans hx462_2
          replace hx462_3 := (HB.out.cell (World.block_lt_of_cell? w _ hx462_3)).trans hx462_3
          replace hx462_4 := (HB.out.cell (World.block_lt_of_cell? w _ hx462_4)).trans hx462_4
          replace p462 := eq_true p462
          replace q462 := eq_true q462
          have p463 : 0 ≤ (x5_1 : Int) := of_decide_eq_true (qW13)
          have q463 : x5_1 < (l0.length : Int) := of_decide_eq_true (qW13)
          obtain ⟨ad463, e463, hx463_0, hx463_1, hx463_2, hx463_3, hx463_4⟩ := at_T59 HR0.out x5_1 p463 q463
          have hw463_4 := hx463_4
          have hw463_3 := hx463_3
          have hw463_2 := hx463_2
          have hw463_1 := hx463_1
          have hw463_0 := hx463_0
          obtain rfl : ad460 = ad463 := (by injection e463)
          replace hx463_0 := (HB.out.cell (World.block_lt_of_cell? w _ hx463_0)).trans hx463_0
          replace hx463_1 := (HB.out.cell (World.block_lt_of_cell? w _ hx463_1)).trans hx463_1
          replace hx463_2 := (HB.out.cell (World.block_lt_of_cell? w _ hx463_2)).trans hx463_2
          replace hx463_3 := (HB.out.cell (World.block_lt_of_cell? w _ hx463_3)).trans hx463_3
          replace hx463_4 := (HB.out.cell (World.block_lt_of_cell? w _ hx463_4)).trans hx463_4
          replace p463 := eq_true p463
          replace q463 := eq_true q463
          refine start_ (n := 24) (S := fun w' => w'.cell? (ad460.add ((x5_1).toNat * 5)) = some (.int .i64 ((rd_T59 l0 x5_1).f0)) ∧ w'.cell? ⟨(ad460.add ((x5_1).toNat * 5)).block, (ad460.add ((x5_1).toNat * 5)).off + 1, none⟩ = some (.int .i64 ((rd_T59 l0 x5_1).f1)) ∧ w'.cell? ⟨(ad460.add ((x5_1).toNat * 5)).block, (ad460.add ((x5_1).toNat * 5)).off + 2, none⟩ = some (.int .i64 ((rd_T59 l0 x5_1).f2)) ∧ w'.cell? ⟨(ad460.add ((x5_1).toNat * 5)).block, (ad460.add ((x5_1).toNat * 5)).off + 3, none⟩ = some (.int .i64 ((rd_T59 l0 x5_1).f3)) ∧ w'.cell? ⟨(ad460.add ((x5_1).toNat * 5)).block, (ad460.add ((x5_1).toNat * 5)).off + 4, none⟩ = some (.int .i64 ((rd_T59 l0 x5_1).f4)) ∧ w'.cell? (ad460.add (((ji10)).toNat * 5)) = some (.int .i64 ((rd_T59 l0 (ji10)).f0)) ∧ w'.cell? ⟨(ad460.add (((ji10)).toNat * 5)).block, (ad460.add (((ji10)).toNat * 5)).off + 1, none⟩ = some (.int .i64 ((rd_T59 l0 (ji10)).f1)) ∧ w'.cell? ⟨(ad460.add (((ji10)).toNat * 5)).block, (ad460.add (((ji10)).toNat * 5)).off + 2, none⟩ = some (.int .i64 ((rd_T59 l0 (ji10)).f2)) ∧ w'.cell? ⟨(ad460.add (((ji10)).toNat * 5)).block, (ad460.add (((ji10)).toNat * 5)).off + 3, none⟩ = some (.int .i64 ((rd_T59 l0 (ji10)).f3)) ∧ w'.cell? ⟨(ad460.add (((ji10)).toNat * 5)).block, (ad460.add (((ji10)).toNat * 5)).off + 4, none⟩ = some (.int .i64 ((rd_T59 l0 (ji10)).f4)) ∧ w'.cell? (ad460.add ((x5_1).toNat * 5)) = some (.int .i64 ((rd_T59 l0 x5_1).f0)) ∧ w'.cell? ⟨(ad460.add ((x5_1).toNat * 5)).block, (ad460.add ((x5_1).toNat * 5)).off + 1, none⟩ = some (.int .i64 ((rd_T59 l0 x5_1).f1)) ∧ w'.cell? ⟨(ad460.add ((x5_1).toNat * 5)).block, (ad460.add ((x5_1).toNat * 5)).off + 2, none⟩ = some (.int .i64 ((rd_T59 l0 x5_1).f2)) ∧ w'.cell? ⟨(ad460.add ((x5_1).toNat * 5)).block, (ad460.add ((x5_1).toNat * 5)).off + 3, none⟩ = some (.int .i64 ((rd_T59 l0 x5_1).f3)) ∧ w'.cell? ⟨(ad460.add ((x5_1).toNat * 5)).block, (ad460.add ((x5_1).toNat * 5)).off + 4, none⟩ = some (.int .i64 ((rd_T59 l0 x5_1).f4))) (ds := []) qWb13 (by kernel_rfl) rfl rfl ⟨((HB.out.cell (World.block_lt_of_cell? w _ hw460_0)).trans hw460_0), ((HB.out.cell (World.block_lt_of_cell? w _ hw460_1)).trans hw460_1), ((HB.out.cell (World.block_lt_of_cell? w _ hw460_2)).trans hw460_2), ((HB.out.cell (World.block_lt_of_cell? w _ hw460_3)).trans hw460_3), ((HB.out.cell (World.block_lt_of_cell? w _ hw460_4)).trans hw460_4), ((HB.out.cell (World.block_lt_of_cell? w _ hw462_0)).trans hw462_0), ((HB.out.cell (World.block_lt_of_cell? w _ hw462_1)).trans hw462_1), ((HB.out.cell (World.block_lt_of_cell? w _ hw462_2)).trans hw462_2), ((HB.out.cell (World.block_lt_of_cell? w _ hw462_3)).trans hw462_3), ((HB.out.cell (World.block_lt_of_cell? w _ hw462_4)).trans hw462_4), ((HB.out.cell (World.block_lt_of_cell? w _ hw463_0)).trans hw463_0), ((HB.out.cell (World.block_lt_of_cell? w _ hw463_1)).trans hw463_1), ((HB.out.cell (World.block_lt_of_cell? w _ hw463_2)).trans hw463_2), ((HB.out.cell (World.block_lt_of_cell? w _ hw463_3)).trans hw463_3), ((HB.out.cell (World.block_lt_of_cell? w _ hw463_4)).trans hw463_4)⟩ (fun hHeld => ?_); refine with_tabW spec_WayOfLegs.tab5 spec_WayOfLegs.bits5 (fun HT_ HW_ => ?_)
          generalize wr.drew = w13 at HO_4 HB hx460_0 hx460_1 hx460_2 hx460_3 hx460_4 hx462_0 hx462_1 hx462_2 hx462_3 hx462_4 hx463_0 hx463_1 hx463_2 hx463_3 hx463_4 hHeld ⊢
          refine pure_ (i := 0) (N := some 13) (v := ?_) (a' := ?_) qWb14 rfl rfl (qW18) (fun _ _ _ h => h) (Or.inl ⟨by rfl, ?_⟩) ?_ ?_
          rotate_left; exact qW12_c1; rotate_left; exact qW12_c0
          refine pure_ (i := 1) (N := some 14) (v := ?_) (a' := ?_) qWb15 rfl rfl (qW18) (fun _ _ _ h => h) (Or.inl ⟨by rfl, ?_⟩) ?_ ?_
          rotate_left; exact qW12_c1; rotate_left; exact qW12_c0
          refine pure_ (i := 2) (N := some 15) (v := ?_) (a' := ?_) qWb16 rfl rfl (qW18) (fun _ _ _ h => h) (Or.inl ⟨by rfl, ?_⟩) ?_ ?_
          rotate_left; exact qW12_c1; rotate_left; exact qW12_c0
          refine take_ (i := 3) (N := some 16) (v := ?_) (a' := ?_) qWb17 rfl rfl (take_ofW HT_.out HW_.out (by kernel_rfl)) (fun _ _ _ h => h) (Or.inl ⟨by rfl, ?_⟩) hHeld ?_ ?_
          rotate_left; exact qW12_c2; rotate_left; exact qW12_c0
          refine one_ (i := 4) (N := some 17) qWb18 rfl rfl (qW50) (by decide) (fun K hK => ?_)
          refine goes_ Tryd.func36 (by kernel_rfl) rfl #[.agg #[.int .i64 ((rd_T59 l0 x5_1).f0), .int .i64 ((rd_T59 l0 x5_1).f1), .int .i64 ((rd_T59 l0 x5_1).f2), .int .i64 ((rd_T59 l0 x5_1).f3), .int .i64 ((rd_T59 l0 x5_1).f4)]] (by rfl) rfl rfl (qW1) ?_
          with_reducible refine (spec_l4Leg.calls ((rd_T59 l0 x5_1).f0) ((rd_T59 l0 x5_1).f1) ((rd_T59 l0 x5_1).f2) ((rd_T59 l0 x5_1).f3) ((rd_T59 l0 x5_1).f4) true _ A7.out).mono ?_
          rintro e w14 ⟨rfl, hb⟩
          refine ⟨_, rfl, ?_⟩
          replace HO_4 := Aside0.mk (Kd.R_below (qW2 HO_4.out) hb)
          replace HB := Aside0.mk (below_step (qW0) hb)
          (try clear hb)
          (try clear hb2)
          (try clear hk)
          (try clear hi)
          refine hK.out _ _ ⟨((HB.out.cell (World.block_lt_of_cell? w _ hw460_0)).trans hw460_0), ((HB.out.cell (World.block_lt_of_cell? w _ hw460_1)).trans hw460_1), ((HB.out.cell (World.block_lt_of_cell? w _ hw460_2)).trans hw460_2), ((HB.out.cell (World.block_lt_of_cell? w _ hw460_3)).trans hw460_3), ((HB.out.cell (World.block_lt_of_cell? w _ hw460_4)).trans hw460_4), ((HB.out.cell (World.block_lt_of_cell? w _ hw462_0)).trans hw462_0), ((HB.out.cell (World.block_lt_of_cell? w _ hw462_1)).trans hw462_1), ((HB.out.cell (World.block_lt_of_cell? w _ hw462_2)).trans hw462_2), ((HB.out.cell (World.block_lt_of_cell? w _ hw462_3)).trans hw462_3), ((HB.out.cell (World.block_lt_of_cell? w _ hw462_4)).trans hw462_4), ((HB.out.cell (World.block_lt_of_cell? w _ hw463_0)).trans hw463_0), ((HB.out.cell (World.block_lt_of_cell? w _ hw463_1)).trans hw463_1), ((HB.out.cell (World.block_lt_of_cell? w _ hw463_2)).trans hw463_2), ((HB.out.cell (World.block_lt_of_cell? w _ hw463_3)).trans hw463_3), ((HB.out.cell (World.block_lt_of_cell? w _ hw463_4)).trans hw463_4)⟩ (fun hHeld => ?_)
          clear hK K
          refine norm_ (a' := ?_) ?_ ?_
          rotate_left
          ·exact qW12_c3
          refine pure_ (i := 5) (N := some 18) (v := ?_) (a' := ?_) qWb19 rfl rfl (qW18) (fun _ _ _ h => h) (Or.inl ⟨by rfl, ?_⟩) ?_ ?_
          rotate_left; exact qW12_c1; rotate_left; exact qW12_c0
          refine pure_ (i := 6) (N := some 19) (v := ?_) (a' := ?_) qWb20 rfl rfl (qW18) (fun _ _ _ h => h) (Or.inl ⟨by rfl, ?_⟩) ?_ ?_
          rotate_left; exact qW12_c1; rotate_left; exact qW12_c0
          refine pure_ (i := 7) (N := some 20) (v := ?_) (a' := ?_) qWb21 rfl rfl (qW18) (fun _ _ _ h => h) (Or.inl ⟨by rfl, ?_⟩) ?_ ?_
          rotate_left; exact qW12_c1; rotate_left; exact qW12_c0
          refine pure_ (i := 8) (N := some 21) (v := ?_) (a' := ?_) qWb22 rfl rfl (qW18) (fun _ _ _ h => h) (Or.inl ⟨by rfl, ?_⟩) ?_ ?_
          rotate_left; exact qW12_c1; rotate_left; exact qW12_c0
          refine pure_ (i := 9) (N := some 22) (v := ?_) (a' := ?_) qWb23 rfl rfl (qW18) (fun _ _ _ h => h) (Or.inl ⟨by rfl, ?_⟩) ?_ ?_
          rotate_left; exact qW12_c1; rotate_left; exact qW12_c0
          refine pure_ (i := 10) (N := some 23) (v := ?_) (a' := ?_) qWb24 rfl rfl (qW18) (fun _ _ _ h => h) (Or.inl ⟨by rfl, ?_⟩) ?_ ?_
          rotate_left; exact qW12_c1; rotate_left; exact qW12_c0
          refine pure_ (i := 11) (N := some 24) (v := ?_) (a' := ?_) qWb25 rfl rfl (qW18) (fun _ _ _ h => h) (Or.inl ⟨by rfl, ?_⟩) ?_ ?_
          rotate_left; exact qW12_c1; rotate_left; exact qW12_c0
          refine pure_ (i := 12) (N := some 25) (v := ?_) (a' := ?_) qWb26 rfl rfl (qW18) (fun _ _ _ h => h) (Or.inl ⟨by rfl, ?_⟩) ?_ ?_
          rotate_left; exact qW12_c1; rotate_left; exact qW12_c0
          refine pure_ (i := 13) (N := some 26) (v := ?_) (a' := ?_) qWb27 rfl rfl (qW18) (fun _ _ _ h => h) (Or.inl ⟨by rfl, ?_⟩) ?_ ?_
          rotate_left; exact qW12_c1; rotate_left; exact qW12_c0
          refine pure_ (i := 14) (N := some 27) (v := ?_) (a' := ?_) qWb28 rfl rfl (qW18) (fun _ _ _ h => h) (Or.inl ⟨by rfl, ?_⟩) ?_ ?_
          rotate_left; exact qW12_c1; rotate_left; exact qW12_c0
          refine pure_ (i := 16) (N := some 29) (v := ?_) (a' := ?_) #[true, true, true, true, true, true, true, true, true, true, true, true, true, true, true, false, true, false, false, false, false, false, false, false] rfl rfl (qW18) (fun _ _ _ h => h) (Or.inl ⟨by rfl, ?_⟩) ?_ ?_
          rotate_left; exact qW12_c1; rotate_left; exact qW12_c0
          refine pure_ (i := 17) (N := some 30) (v := ?_) (a' := ?_) #[true, true, true, true, true, true, true, true, true, true, true, true, true, true, true, false, true, true, false, false, false, false, false, false] rfl rfl (qW18) (fun _ _ _ h => h) (Or.inl ⟨by rfl, ?_⟩) ?_ ?_
          rotate_left; exact qW12_c1; rotate_left; exact qW12_c0
          refine pure_ (i := 18) (N := some 31) (v := ?_) (a' := ?_) #[true, true, true, true, true, true, true, true, true, true, true, true, true, true, true, false, true, true, true, false, false, false, false, false] rfl rfl (qW18) (fun _ _ _ h => h) (Or.inl ⟨by rfl, ?_⟩) ?_ ?_
          rotate_left; exact qW12_c1; rotate_left; exact qW12_c0
          refine pure_ (i := 19) (N := some 32) (v := ?_) (a' := ?_) #[true, true, true, true, true, true, true, true, true, true, true, true, true, true, true, false, true, true, true, true, false, false, false, false] rfl rfl (qW18) (fun _ _ _ h => h) (Or.inl ⟨by rfl, ?_⟩) ?_ ?_
          rotate_left; exact qW12_c1; rotate_left; exact qW12_c0
          refine take_ (i := 15) (N := some 28) (v := ?_) (a' := ?_) qWb29 rfl rfl (take_ofW HT_.out HW_.out (by kernel_rfl)) (fun _ _ _ h => h) (Or.inl ⟨by rfl, ?_⟩) hHeld ?_ ?_
          rotate_left; exact qW12_c2; rotate_left; exact qW12_c0
          refine take_ (i := 20) (N := some 33) (v := ?_) (a' := ?_) qWb30 rfl rfl (take_ofW HT_.out HW_.out (by kernel_rfl)) (fun _ _ _ h => h) (Or.inl ⟨by rfl, ?_⟩) hHeld ?_ ?_
          rotate_left; exact qW12_c2; rotate_left; exact qW12_c0
          refine pure_ (i := 21) (N := some 34) (v := ?_) (a' := ?_) qWb31 rfl rfl (qW18) (fun _ _ _ h => h) (Or.inl ⟨by rfl, ?_⟩) ?_ ?_
          rotate_left; exact qW12_c1; rotate_left; exact qW12_c0
          refine pure_ (i := 22) (N := some 35) (v := ?_) (a' := ?_) qWb32 rfl rfl (qW18) (fun _ _ _ h => h) (Or.inl ⟨by rfl, ?_⟩) ?_ ?_
          rotate_left; exact qW12_c1; rotate_left; exact qW12_c0
          refine pure_ (i := 23) (N := some 36) (v := ?_) (a' := ?_) qWb33 rfl rfl (qW18) (fun _ _ _ h => h) (Or.inl ⟨by rfl, ?_⟩) ?_ ?_
          rotate_left; exact qW12_c1; rotate_left; exact qW12_c0
          refine done_ (qW62) ?_
          try go_wp2
          go_meet
          case rel => exact ⟨_, ((((rd_T59 l0 (ji10)).f1) != ((rd_T59 l0 x5_1).f0))), (by first | rfl | (simp; done) | (simp only [← hji10] <;> (first | rfl | simp)) | (simp [*]; done)), H', ⟨by have := HK1.out; first | omega | exact Nat.le_refl _⟩, ⟨(qW2 HO_4.out)⟩, ⟨(qW0)⟩⟩
         ·rw [if_neg c12] at H
          exact absurd H (by simp)
        ·rw [if_neg c11] at H
         exact absurd H (by simp)
       ·rw [if_neg c9] at H
        have c9b0 : decide (0 < x5_1) = false := decide_eq_false c9
        clear c9
        have H' := Aside0.mk H
        clear H
        try go_wp2
        replace HO_4 := Aside0.mk (Kd.R_drew HO_4.out)
        replace HB := Aside0.mk (below_drew1 HB.out)
        have p460 : 0 ≤ (x5_1 : Int) := of_decide_eq_true (qW13)
        have q460 : x5_1 < (l0.length : Int) := of_decide_eq_true (qW13)
        obtain ⟨ad460, e460, hx460_0, hx460_1, hx460_2, hx460_3, hx460_4⟩ := at_T59 HR0.out x5_1 p460 q460
        have hw460_4 := hx460_4
        have hw460_3 := hx460_3
        have hw460_2 := hx460_2
        have hw460_1 := hx460_1
        have hw460_0 := hx460_0
        cases e460
        replace hx460_0 := (HB.out.cell (World.block_lt_of_cell? w _ hx460_0)).trans hx460_0
        replace hx460_1 := (HB.out.cell (World.block_lt_of_cell? w _ hx460_1)).trans hx460_1
        replace hx460_2 := (HB.out.cell (World.block_lt_of_cell? w _ hx460_2)).trans hx460_2
        replace hx460_3 := (HB.out.cell (World.block_lt_of_cell? w _ hx460_3)).trans hx460_3
        replace hx460_4 := (HB.out.cell (World.block_lt_of_cell? w _ hx460_4)).trans hx460_4
        replace p460 := eq_true p460
        replace q460 := eq_true q460
        refine start_ (n := 24) (S := fun w' => w'.cell? (ad460.add ((x5_1).toNat * 5)) = some (.int .i64 ((rd_T59 l0 x5_1).f0)) ∧ w'.cell? ⟨(ad460.add ((x5_1).toNat * 5)).block, (ad460.add ((x5_1).toNat * 5)).off + 1, none⟩ = some (.int .i64 ((rd_T59 l0 x5_1).f1)) ∧ w'.cell? ⟨(ad460.add ((x5_1).toNat * 5)).block, (ad460.add ((x5_1).toNat * 5)).off + 2, none⟩ = some (.int .i64 ((rd_T59 l0 x5_1).f2)) ∧ w'.cell? ⟨(ad460.add ((x5_1).toNat * 5)).block, (ad460.add ((x5_1).toNat * 5)).off + 3, none⟩ = some (.int .i64 ((rd_T59 l0 x5_1).f3)) ∧ w'.cell? ⟨(ad460.add ((x5_1).toNat * 5)).block, (ad460.add ((x5_1).toNat * 5)).off + 4, none⟩ = some (.int .i64 ((rd_T59 l0 x5_1).f4))) (ds := []) qWb13 (by kernel_rfl) rfl rfl ⟨((HB.out.cell (World.block_lt_of_cell? w _ hw460_0)).trans hw460_0), ((HB.out.cell (World.block_lt_of_cell? w _ hw460_1)).trans hw460_1), ((HB.out.cell (World.block_lt_of_cell? w _ hw460_2)).trans hw460_2), ((HB.out.cell (World.block_lt_of_cell? w _ hw460_3)).trans hw460_3), ((HB.out.cell (World.block_lt_of_cell? w _ hw460_4)).trans hw460_4)⟩ (fun hHeld => ?_); refine with_tabW spec_WayOfLegs.tab5 spec_WayOfLegs.bits5 (fun HT_ HW_ => ?_)
        generalize wr.drew = w15 at HO_4 HB hx460_0 hx460_1 hx460_2 hx460_3 hx460_4 hHeld ⊢
        refine pure_ (i := 0) (N := some 13) (v := ?_) (a' := ?_) qWb14 rfl rfl (qW18) (fun _ _ _ h => h) (Or.inl ⟨by rfl, ?_⟩) ?_ ?_
        rotate_left; exact qW12_c1; rotate_left; exact qW12_c0
        refine pure_ (i := 1) (N := some 14) (v := ?_) (a' := ?_) qWb15 rfl rfl (qW18) (fun _ _ _ h => h) (Or.inl ⟨by rfl, ?_⟩) ?_ ?_
        rotate_left; exact qW12_c1; rotate_left; exact qW12_c0
        refine pure_ (i := 2) (N := some 15) (v := ?_) (a' := ?_) qWb16 rfl rfl (qW18) (fun _ _ _ h => h) (Or.inl ⟨by rfl, ?_⟩) ?_ ?_
        rotate_left; exact qW12_c1; rotate_left; exact qW12_c0
        refine take_ (i := 3) (N := some 16) (v := ?_) (a' := ?_) qWb17 rfl rfl (take_ofW HT_.out HW_.out (by kernel_rfl)) (fun _ _ _ h => h) (Or.inl ⟨by rfl, ?_⟩) hHeld ?_ ?_
        rotate_left
        ·rintro w' ⟨s0, s1, s2, s3, s4⟩
         go_simp
         with_reducible rfl
        rotate_left
        ·exact qW12_c0
        refine one_ (i := 4) (N := some 17) qWb18 rfl rfl (qW50) (by decide) (fun K hK => ?_)
        refine goes_ Tryd.func36 (by kernel_rfl) rfl #[.agg #[.int .i64 ((rd_T59 l0 x5_1).f0), .int .i64 ((rd_T59 l0 x5_1).f1), .int .i64 ((rd_T59 l0 x5_1).f2), .int .i64 ((rd_T59 l0 x5_1).f3), .int .i64 ((rd_T59 l0 x5_1).f4)]] (by rfl) rfl rfl (qW1) ?_
        with_reducible refine (spec_l4Leg.calls ((rd_T59 l0 x5_1).f0) ((rd_T59 l0 x5_1).f1) ((rd_T59 l0 x5_1).f2) ((rd_T59 l0 x5_1).f3) ((rd_T59 l0 x5_1).f4) true _ A7.out).mono ?_
        rintro e w16 ⟨rfl, hb⟩
        refine ⟨_, rfl, ?_⟩
        replace HO_4 := Aside0.mk (Kd.R_below (qW2 HO_4.out) hb)
        replace HB := Aside0.mk (below_step (qW0) hb)
        (try clear hb)
        (try clear hb2)
        (try clear hk)
        (try clear hi)
        refine hK.out _ _ ⟨((HB.out.cell (World.block_lt_of_cell? w _ hw460_0)).trans hw460_0), ((HB.out.cell (World.block_lt_of_cell? w _ hw460_1)).trans hw460_1), ((HB.out.cell (World.block_lt_of_cell? w _ hw460_2)).trans hw460_2), ((HB.out.cell (World.block_lt_of_cell? w _ hw460_3)).trans hw460_3), ((HB.out.cell (World.block_lt_of_cell? w _ hw460_4)).trans hw460_4)⟩ (fun hHeld => ?_)
        clear hK K
        refine norm_ (a' := ?_) ?_ ?_
        rotate_left
        ·exact qW12_c3
        refine pure_ (i := 5) (N := some 18) (v := ?_) (a' := ?_) qWb19 rfl rfl (qW18) (fun _ _ _ h => h) (Or.inl ⟨by rfl, ?_⟩) ?_ ?_
        rotate_left; exact qW12_c1; rotate_left; exact qW12_c0
        refine pure_ (i := 6) (N := some 19) (v := ?_) (a' := ?_) qWb20 rfl rfl (qW18) (fun _ _ _ h => h) (Or.inl ⟨by rfl, ?_⟩) ?_ ?_
        rotate_left; exact qW12_c1; rotate_left; exact qW12_c0
        refine pure_ (i := 7) (N := some 20) (v := ?_) (a' := ?_) qWb21 rfl rfl (qW18) (fun _ _ _ h => h) (Or.inl ⟨by rfl, ?_⟩) ?_ ?_
        rotate_left; exact qW12_c1; rotate_left; exact qW12_c0
        refine pure_ (i := 8) (N := some 21) (v := ?_) (a' := ?_) qWb22 rfl rfl (qW18) (fun _ _ _ h => h) (Or.inl ⟨by rfl, ?_⟩) ?_ ?_
        rotate_left; exact qW12_c1; rotate_left; exact qW12_c0
        refine pure_ (i := 9) (N := some 22) (v := ?_) (a' := ?_) qWb23 rfl rfl (qW18) (fun _ _ _ h => h) (Or.inl ⟨by rfl, ?_⟩) ?_ ?_
        rotate_left; exact qW12_c1; rotate_left; exact qW12_c0
        refine pure_ (i := 10) (N := some 23) (v := undef) (a' := ?_) qWb24 rfl rfl (qW18) (fun _ _ _ h => h) (Or.inr ⟨by rfl, rfl⟩) ?_ ?_
        rotate_left
        ·exact qW12_c0
        refine pure_ (i := 11) (N := some 24) (v := undef) (a' := ?_) qWb25 rfl rfl (qW18) (fun _ _ _ h => h) (Or.inr ⟨by rfl, rfl⟩) ?_ ?_
        rotate_left
        ·exact qW12_c0
        refine pure_ (i := 12) (N := some 25) (v := undef) (a' := ?_) qWb26 rfl rfl (qW18) (fun _ _ _ h => h) (Or.inr ⟨by rfl, rfl⟩) ?_ ?_
        rotate_left
        ·exact qW12_c0
        refine pure_ (i := 13) (N := some 26) (v := undef) (a' := ?_) qWb27 rfl rfl (qW18) (fun _ _ _ h => h) (Or.inr ⟨by rfl, rfl⟩) ?_ ?_
        rotate_left
        ·exact qW12_c0
        refine pure_ (i := 14) (N := some 27) (v := undef) (a' := ?_) qWb28 rfl rfl (qW18) (fun _ _ _ h => h) (Or.inr ⟨by rfl, rfl⟩) ?_ ?_
        rotate_left
        ·exact qW12_c0
        refine pure_ (i := 15) (N := some 28) (v := undef) (a' := ?_) qWb34 rfl rfl (qW18) (fun _ _ _ h => h) (Or.inr ⟨by rfl, rfl⟩) ?_ ?_
        rotate_left
        ·exact qW12_c0
        refine pure_ (i := 16) (N := some 29) (v := undef) (a' := ?_) qWb35 rfl rfl (qW18) (fun _ _ _ h => h) (Or.inr ⟨by rfl, rfl⟩) ?_ ?_
        rotate_left
        ·exact qW12_c0
        refine pure_ (i := 17) (N := some 30) (v := undef) (a' := ?_) qWb36 rfl rfl (qW18) (fun _ _ _ h => h) (Or.inr ⟨by rfl, rfl⟩) ?_ ?_
        rotate_left
        ·exact qW12_c0
        refine pure_ (i := 18) (N := some 31) (v := undef) (a' := ?_) qWb37 rfl rfl (qW18) (fun _ _ _ h => h) (Or.inr ⟨by rfl, rfl⟩) ?_ ?_
        rotate_left
        ·exact qW12_c0
        refine pure_ (i := 19) (N := some 32) (v := undef) (a' := ?_) qWb29 rfl rfl (qW18) (fun _ _ _ h => h) (Or.inr ⟨by rfl, rfl⟩) ?_ ?_
        rotate_left
        ·exact qW12_c0
        refine pure_ (i := 20) (N := some 33) (v := undef) (a' := ?_) qWb30 rfl rfl (qW18) (fun _ _ _ h => h) (Or.inr ⟨by rfl, rfl⟩) ?_ ?_
        rotate_left
        ·exact qW12_c0
        refine pure_ (i := 21) (N := some 34) (v := undef) (a' := ?_) qWb31 rfl rfl (qW18) (fun _ _ _ h => h) (Or.inr ⟨by rfl, rfl⟩) ?_ ?_
        rotate_left
        ·exact qW12_c0
        refine pure_ (i := 22) (N := some 35) (v := ?_) (a' := ?_) qWb32 rfl rfl (qW18) (fun _ _ _ h => h) (Or.inl ⟨by rfl, ?_⟩) ?_ ?_
        rotate_left; exact qW12_c1; rotate_left; exact qW12_c0
        refine pure_ (i := 23) (N := some 36) (v := ?_) (a' := ?_) qWb33 rfl rfl (qW18) (fun _ _ _ h => h) (Or.inl ⟨by rfl, ?_⟩) ?_ ?_
        rotate_left; exact qW12_c1; rotate_left; exact qW12_c0
        refine done_ (qW62) ?_
        try go_wp2
        go_meet
        case rel => exact ⟨_, (false), (qW14), H', ⟨by have := HK1.out; first | omega | exact Nat.le_refl _⟩, ⟨(qW2 HO_4.out)⟩, ⟨(qW0)⟩⟩
      ·replace c8 := Bool.eq_false_iff.mpr c8
       subst c8
       rw [if_neg (show ¬ (false = true) by decide)] at H
       have H' := Aside0.mk H
       clear H
       try go_wp2
       replace HO_4 := Aside0.mk (Kd.R_drew HO_4.out)
       replace HB := Aside0.mk (below_drew1 HB.out)
       have p460 : 0 ≤ (x5_1 : Int) := of_decide_eq_true (qW13)
       have q460 : x5_1 < (l0.length : Int) := of_decide_eq_true (qW13)
       obtain ⟨ad460, e460, hx460_0, hx460_1, hx460_2, hx460_3, hx460_4⟩ := at_T59 HR0.out x5_1 p460 q460
       have hw460_4 := hx460_4
       have hw460_3 := hx460_3
       have hw460_2 := hx460_2
       have hw460_1 := hx460_1
       have hw460_0 := hx460_0
       cases e460
       replace hx460_0 := (HB.out.cell (World.block_lt_of_cell? w _ hx460_0)).trans hx460_0
       replace hx460_1 := (HB.out.cell (World.block_lt_of_cell? w _ hx460_1)).trans hx460_1
       replace hx460_2 := (HB.out.cell (World.block_lt_of_cell? w _ hx460_2)).trans hx460_2
       replace hx460_3 := (HB.out.cell (World.block_lt_of_cell? w _ hx460_3)).trans hx460_3
       replace hx460_4 := (HB.out.cell (World.block_lt_of_cell? w _ hx460_4)).trans hx460_4
       replace p460 := eq_true p460
       replace q460 := eq_true q460
       refine start_ (n := 24) (S := fun w' => w'.cell? (ad460.add ((x5_1).toNat * 5)) = some (.int .i64 ((rd_T59 l0 x5_1).f0)) ∧ w'.cell? ⟨(ad460.add ((x5_1).toNat * 5)).block, (ad460.add ((x5_1).toNat * 5)).off + 1, none⟩ = some (.int .i64 ((rd_T59 l0 x5_1).f1)) ∧ w'.cell? ⟨(ad460.add ((x5_1).toNat * 5)).block, (ad460.add ((x5_1).toNat * 5)).off + 2, none⟩ = some (.int .i64 ((rd_T59 l0 x5_1).f2)) ∧ w'.cell? ⟨(ad460.add ((x5_1).toNat * 5)).block, (ad460.add ((x5_1).toNat * 5)).off + 3, none⟩ = some (.int .i64 ((rd_T59 l0 x5_1).f3)) ∧ w'.cell? ⟨(ad460.add ((x5_1).toNat * 5)).block, (ad460.add ((x5_1).toNat * 5)).off + 4, none⟩ = some (.int .i64 ((rd_T59 l0 x5_1).f4))) (ds := []) qWb13 (by kernel_rfl) rfl rfl ⟨((HB.out.cell (World.block_lt_of_cell? w _ hw460_0)).trans hw460_0), ((HB.out.cell (World.block_lt_of_cell? w _ hw460_1)).trans hw460_1), ((HB.out.cell (World.block_lt_of_cell? w _ hw460_2)).trans hw460_2), ((HB.out.cell (World.block_lt_of_cell? w _ hw460_3)).trans hw460_3), ((HB.out.cell (World.block_lt_of_cell? w _ hw460_4)).trans hw460_4)⟩ (fun hHeld => ?_); refine with_tabW spec_WayOfLegs.tab5 spec_WayOfLegs.bits5 (fun HT_ HW_ => ?_)
       generalize wr.drew = w17 at HO_4 HB hx460_0 hx460_1 hx460_2 hx460_3 hx460_4 hHeld ⊢
       refine pure_ (i := 0) (N := some 13) (v := ?_) (a' := ?_) qWb14 rfl rfl (qW18) (fun _ _ _ h => h) (Or.inl ⟨by rfl, ?_⟩) ?_ ?_
       rotate_left; exact qW12_c1; rotate_left; exact qW12_c0
       refine pure_ (i := 1) (N := some 14) (v := ?_) (a' := ?_) qWb15 rfl rfl (qW18) (fun _ _ _ h => h) (Or.inl ⟨by rfl, ?_⟩) ?_ ?_
       rotate_left; exact qW12_c1; rotate_left; exact qW12_c0
       refine pure_ (i := 2) (N := some 15) (v := ?_) (a' := ?_) qWb16 rfl rfl (qW18) (fun _ _ _ h => h) (Or.inl ⟨by rfl, ?_⟩) ?_ ?_
       rotate_left; exact qW12_c1; rotate_left; exact qW12_c0
       refine take_ (i := 3) (N := some 16) (v := ?_) (a' := ?_) qWb17 rfl rfl (take_ofW HT_.out HW_.out (by kernel_rfl)) (fun _ _ _ h => h) (Or.inl ⟨by rfl, ?_⟩) hHeld ?_ ?_
       rotate_left
       ·rintro w' ⟨s0, s1, s2, s3, s4⟩
        go_simp
        with_reducible rfl
       rotate_left
       ·exact qW12_c0
       refine one_ (i := 4) (N := some 17) qWb18 rfl rfl (qW50) (by decide) (fun K hK => ?_)
       refine goes_ Tryd.func36 (by kernel_rfl) rfl #[.agg #[.int .i64 ((rd_T59 l0 x5_1).f0), .int .i64 ((rd_T59 l0 x5_1).f1), .int .i64 ((rd_T59 l0 x5_1).f2), .int .i64 ((rd_T59 l0 x5_1).f3), .int .i64 ((rd_T59 l0 x5_1).f4)]] (by rfl) rfl rfl (qW1) ?_
       with_reducible refine (spec_l4Leg.calls ((rd_T59 l0 x5_1).f0) ((rd_T59 l0 x5_1).f1) ((rd_T59 l0 x5_1).f2) ((rd_T59 l0 x5_1).f3) ((rd_T59 l0 x5_1).f4) false _ A7.out).mono ?_
       rintro e w18 ⟨rfl, hb⟩
       refine ⟨_, rfl, ?_⟩
       replace HO_4 := Aside0.mk (Kd.R_below (qW2 HO_4.out) hb)
       replace HB := Aside0.mk (below_step (qW0) hb)
       (try clear hb)
       (try clear hb2)
       (try clear hk)
       (try clear hi)
       refine hK.out _ _ ⟨((HB.out.cell (World.block_lt_of_cell? w _ hw460_0)).trans hw460_0), ((HB.out.cell (World.block_lt_of_cell? w _ hw460_1)).trans hw460_1), ((HB.out.cell (World.block_lt_of_cell? w _ hw460_2)).trans hw460_2), ((HB.out.cell (World.block_lt_of_cell? w _ hw460_3)).trans hw460_3), ((HB.out.cell (World.block_lt_of_cell? w _ hw460_4)).trans hw460_4)⟩ (fun hHeld => ?_)
       clear hK K
       refine norm_ (a' := ?_) ?_ ?_
       rotate_left
       ·exact qW12_c3
       refine pure_ (i := 5) (N := some 18) (v := ?_) (a' := ?_) qWb19 rfl rfl (qW18) (fun _ _ _ h => h) (Or.inl ⟨by rfl, ?_⟩) ?_ ?_
       rotate_left; exact qW12_c1; rotate_left; exact qW12_c0
       refine pure_ (i := 6) (N := some 19) (v := ?_) (a' := ?_) qWb20 rfl rfl (qW18) (fun _ _ _ h => h) (Or.inl ⟨by rfl, ?_⟩) ?_ ?_
       rotate_left; exact qW12_c1; rotate_left; exact qW12_c0
       refine pure_ (i := 7) (N := some 20) (v := undef) (a' := ?_) qWb21 rfl rfl (qW18) (fun _ _ _ h => h) (Or.inr ⟨by rfl, rfl⟩) ?_ ?_
       rotate_left
       ·exact qW12_c0
       refine pure_ (i := 8) (N := some 21) (v := undef) (a' := ?_) qWb22 rfl rfl (qW18) (fun _ _ _ h => h) (Or.inr ⟨by rfl, rfl⟩) ?_ ?_
       rotate_left
       ·exact qW12_c0
       refine pure_ (i := 9) (N := some 22) (v := undef) (a' := ?_) qWb23 rfl rfl (qW18) (fun _ _ _ h => h) (Or.inr ⟨by rfl, rfl⟩) ?_ ?_
       rotate_left
       ·exact qW12_c0
       refine pure_ (i := 10) (N := some 23) (v := undef) (a' := ?_) qWb24 rfl rfl (qW18) (fun _ _ _ h => h) (Or.inr ⟨by rfl, rfl⟩) ?_ ?_
       rotate_left
       ·exact qW12_c0
       refine pure_ (i := 11) (N := some 24) (v := undef) (a' := ?_) qWb25 rfl rfl (qW18) (fun _ _ _ h => h) (Or.inr ⟨by rfl, rfl⟩) ?_ ?_
       rotate_left
       ·exact qW12_c0
       refine pure_ (i := 12) (N := some 25) (v := undef) (a' := ?_) qWb26 rfl rfl (qW18) (fun _ _ _ h => h) (Or.inr ⟨by rfl, rfl⟩) ?_ ?_
       rotate_left
       ·exact qW12_c0
       refine pure_ (i := 13) (N := some 26) (v := undef) (a' := ?_) qWb27 rfl rfl (qW18) (fun _ _ _ h => h) (Or.inr ⟨by rfl, rfl⟩) ?_ ?_
       rotate_left
       ·exact qW12_c0
       refine pure_ (i := 14) (N := some 27) (v := undef) (a' := ?_) qWb28 rfl rfl (qW18) (fun _ _ _ h => h) (Or.inr ⟨by rfl, rfl⟩) ?_ ?_
       rotate_left
       ·exact qW12_c0
       refine pure_ (i := 15) (N := some 28) (v := undef) (a' := ?_) qWb34 rfl rfl (qW18) (fun _ _ _ h => h) (Or.inr ⟨by rfl, rfl⟩) ?_ ?_
       rotate_left
       ·exact qW12_c0
       refine pure_ (i := 16) (N := some 29) (v := undef) (a' := ?_) qWb35 rfl rfl (qW18) (fun _ _ _ h => h) (Or.inr ⟨by rfl, rfl⟩) ?_ ?_
       rotate_left
       ·exact qW12_c0
       refine pure_ (i := 17) (N := some 30) (v := undef) (a' := ?_) qWb36 rfl rfl (qW18) (fun _ _ _ h => h) (Or.inr ⟨by rfl, rfl⟩) ?_ ?_
       rotate_left
       ·exact qW12_c0
       refine pure_ (i := 18) (N := some 31) (v := undef) (a' := ?_) qWb37 rfl rfl (qW18) (fun _ _ _ h => h) (Or.inr ⟨by rfl, rfl⟩) ?_ ?_
       rotate_left
       ·exact qW12_c0
       refine pure_ (i := 19) (N := some 32) (v := undef) (a' := ?_) qWb29 rfl rfl (qW18) (fun _ _ _ h => h) (Or.inr ⟨by rfl, rfl⟩) ?_ ?_
       rotate_left
       ·exact qW12_c0
       refine pure_ (i := 20) (N := some 33) (v := undef) (a' := ?_) qWb30 rfl rfl (qW18) (fun _ _ _ h => h) (Or.inr ⟨by rfl, rfl⟩) ?_ ?_
       rotate_left
       ·exact qW12_c0
       refine pure_ (i := 21) (N := some 34) (v := undef) (a' := ?_) qWb31 rfl rfl (qW18) (fun _ _ _ h => h) (Or.inr ⟨by rfl, rfl⟩) ?_ ?_
       rotate_left
       ·exact qW12_c0
       refine pure_ (i := 22) (N := some 35) (v := undef) (a' := ?_) qWb32 rfl rfl (qW18) (fun _ _ _ h => h) (Or.inr ⟨by rfl, rfl⟩) ?_ ?_
       rotate_left
       ·exact qW12_c0
       refine pure_ (i := 23) (N := some 36) (v := ?_) (a' := ?_) qWb33 rfl rfl (qW18) (fun _ _ _ h => h) (Or.inl ⟨by rfl, ?_⟩) ?_ ?_
       rotate_left; exact qW12_c1; rotate_left; exact qW12_c0
       refine done_ (qW62) ?_
       try go_wp2
       go_meet
       case rel => exact ⟨_, (true), (qW14), H', ⟨by have := HK1.out; first | omega | exact Nat.le_refl _⟩, ⟨(qW2 HO_4.out)⟩, ⟨(qW0)⟩⟩
     ·rw [if_neg c6] at H
      exact absurd H (by simp)
    case rest =>
     clear HC5
     try clear c1
     try clear p2
     try clear c3
     try clear p4
     try clear q4
     try clear hx4
     try clear c6
     try clear c8
     try clear c9
     try clear c9b0
     try clear c11
     try clear c12
     try clear hx460_0
     try clear hx460_1
     try clear hx460_2
     try clear hx460_3
     try clear hx460_4
     try clear hx462_0
     try clear hx462_1
     try clear hx462_2
     try clear hx462_3
     try clear hx462_4
     try clear hx463_0
     try clear hx463_1
     try clear hx463_2
     try clear hx463_3
     try clear hx463_4
     try clear p460
     try clear p463
     try clear q460
     try clear q463
     obtain ⟨kq, x36_4, rfl, HA, HJ4, HO_4, HB⟩ := hcut
     cases kq with
     | zero => exact absurd HA.out (by simp [spec_WayOfLegs.j1])
     | succ kj4 =>
      have H := HA.out
      clear HA
      simp only [spec_WayOfLegs.j1] at H
      by_cases c19 : x36_4 = true
      ·subst c19; rw [if_pos rfl] at H
       obtain ⟨y464, hy464⟩ : ∃ y_ : List (S44), y_ = (([] : List (S44))) := ⟨_, rfl⟩
       replace H : (some (y464, false)) = some (r1, r2) := (qW7 hy464)
       have Ny464 := Aside0.mk hy464; clear hy464
       simp only [Option.some.injEq, Prod.mk.injEq] at H
       obtain ⟨rfl, rfl⟩ := H
       go_wp2_with (first | ((with_reducible refine gate_dst (N := 37) rfl ?_); refine Kd.R_lit k44 _ 44 ?hg (N := 37) ?hd (xs := ([] : List (S44))) (inner := []) (ok := fun _ => True) (okp := fun _ => True) ?hr ?hp (fun _ hk => hk) trivial (Below.refl _ _) (Nat.le_refl _) (by simp) ?_; (case hd => rfl); (case hg => rfl); (case hr => exact (qW22)); (case hp => exact (Reps.none _ _)); intro v465 w20 ho21 hb hg_ hnew_; clear hg_ hnew_; (first | rw [← Ny464.out] at ho21 | (simp only [Int.reduceToNat] at ho21; rw [← Ny464.out] at ho21)); have HO466 := Aside0.mk (Kd.R_lower (Kd.R_new' ho21 (Kd.R_lt (qW2 HO_4.out))) (below_size (qW0))); replace HO_4 := Aside0.mk (Kd.R_elder' (qW2 HO_4.out) (Kd.R_base ho21) hb); replace HB := Aside0.mk (below_step (qW0) hb); clear hb ho21))
       go_ret2
       exact ⟨_, (qW9), (qW43 HO466.out), (qW0)⟩
      ·replace c19 := Bool.eq_false_iff.mpr c19
       subst c19
       rw [if_neg (show ¬ (false = true) by decide)] at H
       by_cases c22 : 0 ≤ x5_1
       ·rw [if_pos c22] at H
        have c22b0 : decide (0 ≤ x5_1) = true := decide_eq_true c22
        clear c22
        by_cases c23 : x5_1 < (l0.length : Int)
        ·rw [if_pos c23] at H
         have c23b0 : decide (x5_1 < (l0.length : Int)) = true := decide_eq_true c23
         clear c23; replace H := Option.bind_eq_some_iff.mp H; obtain ⟨t469, A240, H⟩ := H
         try dsimp only at H
         have A24 := Aside0.mk A240; clear A240; replace H := Option.bind_eq_some_iff.mp H; obtain ⟨t470, A250, H⟩ := H
         try dsimp only at H
         have A25 := Aside0.mk A250; clear A250; replace H := Option.bind_eq_some_iff.mp H; obtain ⟨⟨t472, t473, t474⟩, A260, H⟩ := H
         try dsimp only at H
         have A26 := Aside0.mk A260; clear A260
         by_cases c27 : x4_1.length < 8796093022208
         ·rw [if_pos c27] at H; have LMc27 := Aside0.mk c27; clear c27
          obtain ⟨y475, hy475⟩ : ∃ y_ : List (S44), y_ = (x4_1 ++ [(⟨t470, t474⟩ : S44)]) := ⟨_, rfl⟩
          replace H : (spec_WayOfLegs.l0 kj4 l0 y475 (wrap64 (x5_1 + 1))) = some (r1, r2) := (qW7 hy475)
          have Ny475 := Aside0.mk hy475; clear hy475
          have H' := Aside0.mk H
          clear H
          try go_wp2
          replace HO_4 := Aside0.mk (Kd.R_drew HO_4.out)
          replace HB := Aside0.mk (below_drew1 HB.out)
          have p467 : 0 ≤ (x5_1 : Int) := of_decide_eq_true (qW13)
          have q467 : x5_1 < (l0.length : Int) := of_decide_eq_true (qW13)
          obtain ⟨ad467, e467, hx467_0, hx467_1, hx467_2, hx467_3, hx467_4⟩ := at_T59 HR0.out x5_1 p467 q467
          have hw467_4 := hx467_4
          have hw467_3 := hx467_3
          have hw467_2 := hx467_2
          have hw467_1 := hx467_1
          have hw467_0 := hx467_0
          cases e467
          replace hx467_0 := (HB.out.cell (World.block_lt_of_cell? w _ hx467_0)).trans hx467_0
          replace hx467_1 := (HB.out.cell (World.block_lt_of_cell? w _ hx467_1)).trans hx467_1
          replace hx467_2 := (HB.out.cell (World.block_lt_of_cell? w _ hx467_2)).trans hx467_2
          replace hx467_3 := (HB.out.cell (World.block_lt_of_cell? w _ hx467_3)).trans hx467_3
          replace hx467_4 := (HB.out.cell (World.block_lt_of_cell? w _ hx467_4)).trans hx467_4
          replace p467 := eq_true p467
          replace q467 := eq_true q467
          have p468 : 0 ≤ (x5_1 : Int) := of_decide_eq_true (qW13)
          have q468 : x5_1 < (l0.length : Int) := of_decide_eq_true (qW13)
          obtain ⟨ad468, e468, hx468_0, hx468_1, hx468_2, hx468_3, hx468_4⟩ := at_T59 HR0.out x5_1 p468 q468
          have hw468_4 := hx468_4
          have hw468_3 := hx468_3
          have hw468_2 := hx468_2
          have hw468_1 := hx468_1
          have hw468_0 := hx468_0
          obtain rfl : ad467 = ad468 := (by injection e468)
          replace hx468_0 := (HB.out.cell (World.block_lt_of_cell? w _ hx468_0)).trans hx468_0
          replace hx468_1 := (HB.out.cell (World.block_lt_of_cell? w _ hx468_1)).trans hx468_1
          replace hx468_2 := (HB.out.cell (World.block_lt_of_cell? w _ hx468_2)).trans hx468_2
          replace hx468_3 := (HB.out.cell (World.block_lt_of_cell? w _ hx468_3)).trans hx468_3
          replace hx468_4 := (HB.out.cell (World.block_lt_of_cell? w _ hx468_4)).trans hx468_4
          replace p468 := eq_true p468
          replace q468 := eq_true q468
          have p471 : 0 ≤ (x5_1 : Int) := of_decide_eq_true (qW13)
          have q471 : x5_1 < (l0.length : Int) := of_decide_eq_true (qW13)
          obtain ⟨ad471, e471, hx471_0, hx471_1, hx471_2, hx471_3, hx471_4⟩ := at_T59 HR0.out x5_1 p471 q471
          have hw471_4 := hx471_4
          have hw471_3 := hx471_3
          have hw471_2 := hx471_2
          have hw471_1 := hx471_1
          have hw471_0 := hx471_0
          obtain rfl : ad467 = ad471 := (by injection e471)
          replace hx471_0 := (HB.out.cell (World.block_lt_of_cell? w _ hx471_0)).trans hx471_0
          replace hx471_1 := (HB.out.cell (World.block_lt_of_cell? w _ hx471_1)).trans hx471_1
          replace hx471_2 := (HB.out.cell (World.block_lt_of_cell? w _ hx471_2)).trans hx471_2
          replace hx471_3 := (HB.out.cell (World.block_lt_of_cell? w _ hx471_3)).trans hx471_3
          replace hx471_4 := (HB.out.cell (World.block_lt_of_cell? w _ hx471_4)).trans hx471_4
          replace p471 := eq_true p471
          replace q471 := eq_true q471
          refine start_ (n := 25) (S := fun w' => w'.cell? (ad467.add ((x5_1).toNat * 5)) = some (.int .i64 ((rd_T59 l0 x5_1).f0)) ∧ w'.cell? ⟨(ad467.add ((x5_1).toNat * 5)).block, (ad467.add ((x5_1).toNat * 5)).off + 1, none⟩ = some (.int .i64 ((rd_T59 l0 x5_1).f1)) ∧ w'.cell? ⟨(ad467.add ((x5_1).toNat * 5)).block, (ad467.add ((x5_1).toNat * 5)).off + 2, none⟩ = some (.int .i64 ((rd_T59 l0 x5_1).f2)) ∧ w'.cell? ⟨(ad467.add ((x5_1).toNat * 5)).block, (ad467.add ((x5_1).toNat * 5)).off + 3, none⟩ = some (.int .i64 ((rd_T59 l0 x5_1).f3)) ∧ w'.cell? ⟨(ad467.add ((x5_1).toNat * 5)).block, (ad467.add ((x5_1).toNat * 5)).off + 4, none⟩ = some (.int .i64 ((rd_T59 l0 x5_1).f4)) ∧ w'.cell? (ad467.add ((x5_1).toNat * 5)) = some (.int .i64 ((rd_T59 l0 x5_1).f0)) ∧ w'.cell? ⟨(ad467.add ((x5_1).toNat * 5)).block, (ad467.add ((x5_1).toNat * 5)).off + 1, none⟩ = some (.int .i64 ((rd_T59 l0 x5_1).f1)) ∧ w'.cell? ⟨(ad467.add ((x5_1).toNat * 5)).block, (ad467.add ((x5_1).toNat * 5)).off + 2, none⟩ = some (.int .i64 ((rd_T59 l0 x5_1).f2)) ∧ w'.cell? ⟨(ad467.add ((x5_1).toNat * 5)).block, (ad467.add ((x5_1).toNat * 5)).off + 3, none⟩ = some (.int .i64 ((rd_T59 l0 x5_1).f3)) ∧ w'.cell? ⟨(ad467.add ((x5_1).toNat * 5)).block, (ad467.add ((x5_1).toNat * 5)).off + 4, none⟩ = some (.int .i64 ((rd_T59 l0 x5_1).f4)) ∧ w'.cell? (ad467.add ((x5_1).toNat * 5)) = some (.int .i64 ((rd_T59 l0 x5_1).f0)) ∧ w'.cell? ⟨(ad467.add ((x5_1).toNat * 5)).block, (ad467.add ((x5_1).toNat * 5)).off + 1, none⟩ = some (.int .i64 ((rd_T59 l0 x5_1).f1)) ∧ w'.cell? ⟨(ad467.add ((x5_1).toNat * 5)).block, (ad467.add ((x5_1).toNat * 5)).off + 2, none⟩ = some (.int .i64 ((rd_T59 l0 x5_1).f2)) ∧ w'.cell? ⟨(ad467.add ((x5_1).toNat * 5)).block, (ad467.add ((x5_1).toNat * 5)).off + 3, none⟩ = some (.int .i64 ((rd_T59 l0 x5_1).f3)) ∧ w'.cell? ⟨(ad467.add ((x5_1).toNat * 5)).block, (ad467.add ((x5_1).toNat * 5)).off + 4, none⟩ = some (.int .i64 ((rd_T59 l0 x5_1).f4))) (ds := []) #[false, false, false, false, false, false, false, false, false, false, false, false, false, false, false, false, false, false, false, false, false, false, false, false, false] (by kernel_rfl) rfl rfl ⟨((HB.out.cell (World.block_lt_of_cell? w _ hw467_0)).trans hw467_0), ((HB.out.cell (World.block_lt_of_cell? w _ hw467_1)).trans hw467_1), ((HB.out.cell (World.block_lt_of_cell? w _ hw467_2)).trans hw467_2), ((HB.out.cell (World.block_lt_of_cell? w _ hw467_3)).trans hw467_3), ((HB.out.cell (World.block_lt_of_cell? w _ hw467_4)).trans hw467_4), ((HB.out.cell (World.block_lt_of_cell? w _ hw468_0)).trans hw468_0), ((HB.out.cell (World.block_lt_of_cell? w _ hw468_1)).trans hw468_1), ((HB.out.cell (World.block_lt_of_cell? w _ hw468_2)).trans hw468_2), ((HB.out.cell (World.block_lt_of_cell? w _ hw468_3)).trans hw468_3), ((HB.out.cell (World.block_lt_of_cell? w _ hw468_4)).trans hw468_4), ((HB.out.cell (World.block_lt_of_cell? w _ hw471_0)).trans hw471_0), ((HB.out.cell (World.block_lt_of_cell? w _ hw471_1)).trans hw471_1), ((HB.out.cell (World.block_lt_of_cell? w _ hw471_2)).trans hw471_2), ((HB.out.cell (World.block_lt_of_cell? w _ hw471_3)).trans hw471_3), ((HB.out.cell (World.block_lt_of_cell? w _ hw471_4)).trans hw471_4)⟩ (fun hHeld => ?_); refine with_tabW spec_WayOfLegs.tab7 spec_WayOfLegs.bits7 (fun HT_ HW_ => ?_)
          generalize wc.drew = w28 at HO_4 HB hx467_0 hx467_1 hx467_2 hx467_3 hx467_4 hx468_0 hx468_1 hx468_2 hx468_3 hx468_4 hx471_0 hx471_1 hx471_2 hx471_3 hx471_4 hHeld ⊢
          refine pure_ (i := 0) (N := some 38) (v := ?_) (a' := ?_) #[true, false, false, false, false, false, false, false, false, false, false, false, false, false, false, false, false, false, false, false, false, false, false, false, false] rfl rfl (qW18) (fun _ _ _ h => h) (Or.inl ⟨by rfl, ?_⟩) ?_ ?_
          rotate_left; exact qW12_c1; rotate_left; exact qW12_c0
          refine pure_ (i := 1) (N := some 39) (v := ?_) (a' := ?_) #[true, true, false, false, false, false, false, false, false, false, false, false, false, false, false, false, false, false, false, false, false, false, false, false, false] rfl rfl (qW18) (fun _ _ _ h => h) (Or.inl ⟨by rfl, ?_⟩) ?_ ?_
          rotate_left; exact qW12_c1; rotate_left; exact qW12_c0
          refine pure_ (i := 2) (N := some 40) (v := ?_) (a' := ?_) #[true, true, true, false, false, false, false, false, false, false, false, false, false, false, false, false, false, false, false, false, false, false, false, false, false] rfl rfl (qW18) (fun _ _ _ h => h) (Or.inl ⟨by rfl, ?_⟩) ?_ ?_
          rotate_left; exact qW12_c1; rotate_left; exact qW12_c0
          refine pure_ (i := 3) (N := some 41) (v := ?_) (a' := ?_) #[true, true, true, true, false, false, false, false, false, false, false, false, false, false, false, false, false, false, false, false, false, false, false, false, false] rfl rfl (qW18) (fun _ _ _ h => h) (Or.inl ⟨by rfl, ?_⟩) ?_ ?_
          rotate_left; exact qW12_c1; rotate_left; exact qW12_c0
          refine pure_ (i := 4) (N := some 42) (v := ?_) (a' := ?_) #[true, true, true, true, true, false, false, false, false, false, false, false, false, false, false, false, false, false, false, false, false, false, false, false, false] rfl rfl (qW18) (fun _ _ _ h => h) (Or.inl ⟨by rfl, ?_⟩) ?_ ?_
          rotate_left; exact qW12_c1; rotate_left; exact qW12_c0
          refine pure_ (i := 6) (N := some 44) (v := ?_) (a' := ?_) #[true, true, true, true, true, false, true, false, false, false, false, false, false, false, false, false, false, false, false, false, false, false, false, false, false] rfl rfl (qW18) (fun _ _ _ h => h) (Or.inl ⟨by rfl, ?_⟩) ?_ ?_
          rotate_left; exact qW12_c1; rotate_left; exact qW12_c0
          refine pure_ (i := 7) (N := some 45) (v := ?_) (a' := ?_) #[true, true, true, true, true, false, true, true, false, false, false, false, false, false, false, false, false, false, false, false, false, false, false, false, false] rfl rfl (qW18) (fun _ _ _ h => h) (Or.inl ⟨by rfl, ?_⟩) ?_ ?_
          rotate_left; exact qW12_c1; rotate_left; exact qW12_c0
          refine pure_ (i := 8) (N := some 46) (v := ?_) (a' := ?_) #[true, true, true, true, true, false, true, true, true, false, false, false, false, false, false, false, false, false, false, false, false, false, false, false, false] rfl rfl (qW18) (fun _ _ _ h => h) (Or.inl ⟨by rfl, ?_⟩) ?_ ?_
          rotate_left; exact qW12_c1; rotate_left; exact qW12_c0
          refine pure_ (i := 9) (N := some 47) (v := ?_) (a' := ?_) #[true, true, true, true, true, false, true, true, true, true, false, false, false, false, false, false, false, false, false, false, false, false, false, false, false] rfl rfl (qW18) (fun _ _ _ h => h) (Or.inl ⟨by rfl, ?_⟩) ?_ ?_
          rotate_left; exact qW12_c1; rotate_left; exact qW12_c0
          refine pure_ (i := 15) (N := some 53) (v := ?_) (a' := ?_) #[true, true, true, true, true, false, true, true, true, true, false, false, false, false, false, true, false, false, false, false, false, false, false, false, false] rfl rfl (qW18) (fun _ _ _ h => h) (Or.inl ⟨by rfl, ?_⟩) ?_ ?_
          rotate_left; exact qW12_c1; rotate_left; exact qW12_c0
          refine pure_ (i := 16) (N := some 54) (v := ?_) (a' := ?_) #[true, true, true, true, true, false, true, true, true, true, false, false, false, false, false, true, true, false, false, false, false, false, false, false, false] rfl rfl (qW18) (fun _ _ _ h => h) (Or.inl ⟨by rfl, ?_⟩) ?_ ?_
          rotate_left; exact qW12_c1; rotate_left; exact qW12_c0
          refine pure_ (i := 17) (N := some 55) (v := ?_) (a' := ?_) #[true, true, true, true, true, false, true, true, true, true, false, false, false, false, false, true, true, true, false, false, false, false, false, false, false] rfl rfl (qW18) (fun _ _ _ h => h) (Or.inl ⟨by rfl, ?_⟩) ?_ ?_
          rotate_left; exact qW12_c1; rotate_left; exact qW12_c0
          refine take_ (i := 5) (N := some 43) (v := ?_) (a' := ?_) #[true, true, true, true, true, true, true, true, true, true, false, false, false, false, false, true, true, true, false, false, false, false, false, false, false] rfl rfl (take_ofW HT_.out HW_.out (by kernel_rfl)) (fun _ _ _ h => h) (Or.inl ⟨by rfl, ?_⟩) hHeld ?_ ?_
          rotate_left; exact qW12_c2; rotate_left; exact qW12_c0
          refine take_ (i := 10) (N := some 48) (v := ?_) (a' := ?_) #[true, true, true, true, true, true, true, true, true, true, true, false, false, false, false, true, true, true, false, false, false, false, false, false, false] rfl rfl (take_ofW HT_.out HW_.out (by kernel_rfl)) (fun _ _ _ h => h) (Or.inl ⟨by rfl, ?_⟩) hHeld ?_ ?_
          rotate_left; exact qW12_c2; rotate_left; exact qW12_c0
          refine pure_ (i := 11) (N := some 49) (v := ?_) (a' := ?_) #[true, true, true, true, true, true, true, true, true, true, true, true, false, false, false, true, true, true, false, false, false, false, false, false, false] rfl rfl (qW18) (fun _ _ _ h => h) (Or.inl ⟨by rfl, ?_⟩) ?_ ?_
          rotate_left; exact qW12_c1; rotate_left; exact qW12_c0
          refine take_ (i := 18) (N := some 56) (v := ?_) (a' := ?_) #[true, true, true, true, true, true, true, true, true, true, true, true, false, false, false, true, true, true, true, false, false, false, false, false, false] rfl rfl (take_ofW HT_.out HW_.out (by kernel_rfl)) (fun _ _ _ h => h) (Or.inl ⟨by rfl, ?_⟩) hHeld ?_ ?_
          rotate_left; exact qW12_c2; rotate_left; exact qW12_c0
          refine one_ (i := 12) (N := some 50) #[true, true, true, true, true, true, true, true, true, true, true, true, true, false, false, true, true, true, true, false, false, false, false, false, false] rfl rfl (qW50) (by decide) (fun K hK => ?_)
          refine goes_ Tryd.func38 (by kernel_rfl) rfl #[.int .i64 (wrap64 (((rd_T59 l0 x5_1).f4) + 90))] (by rfl) rfl rfl (qW1) ?_
          with_reducible refine (spec_l2Sine.calls (wrap64 (((rd_T59 l0 x5_1).f4) + 90)) t469 _ A24.out).mono ?_
          rintro e w29 ⟨rfl, hb⟩
          refine ⟨_, rfl, ?_⟩
          replace HO_4 := Aside0.mk (Kd.R_below (qW2 HO_4.out) hb)
          replace HB := Aside0.mk (below_step (qW0) hb)
          (try clear hb)
          (try clear hb2)
          (try clear hk)
          (try clear hi)
          refine hK.out _ _ ⟨((HB.out.cell (World.block_lt_of_cell? w _ hw467_0)).trans hw467_0), ((HB.out.cell (World.block_lt_of_cell? w _ hw467_1)).trans hw467_1), ((HB.out.cell (World.block_lt_of_cell? w _ hw467_2)).trans hw467_2), ((HB.out.cell (World.block_lt_of_cell? w _ hw467_3)).trans hw467_3), ((HB.out.cell (World.block_lt_of_cell? w _ hw467_4)).trans hw467_4), ((HB.out.cell (World.block_lt_of_cell? w _ hw468_0)).trans hw468_0), ((HB.out.cell (World.block_lt_of_cell? w _ hw468_1)).trans hw468_1), ((HB.out.cell (World.block_lt_of_cell? w _ hw468_2)).trans hw468_2), ((HB.out.cell (World.block_lt_of_cell? w _ hw468_3)).trans hw468_3), ((HB.out.cell (World.block_lt_of_cell? w _ hw468_4)).trans hw468_4), ((HB.out.cell (World.block_lt_of_cell? w _ hw471_0)).trans hw471_0), ((HB.out.cell (World.block_lt_of_cell? w _ hw471_1)).trans hw471_1), ((HB.out.cell (World.block_lt_of_cell? w _ hw471_2)).trans hw471_2), ((HB.out.cell (World.block_lt_of_cell? w _ hw471_3)).trans hw471_3), ((HB.out.cell (World.block_lt_of_cell? w _ hw471_4)).trans hw471_4)⟩ (fun hHeld => ?_)
          clear hK K
          refine norm_ (a' := ?_) ?_ ?_
          rotate_left
          ·show Act.put _ (some 50) _ = _
           simp only [Act.put, List.setIfInBounds_toArray, List.set_cons_zero, List.set_cons_succ, i64_w, i32_w]
           rfl
          refine pure_ (i := 13) (N := some 51) (v := ?_) (a' := ?_) #[true, true, true, true, true, true, true, true, true, true, true, true, true, true, false, true, true, true, true, false, false, false, false, false, false] rfl rfl (qW18) (fun _ _ _ h => h) (Or.inl ⟨by rfl, ?_⟩) ?_ ?_
          rotate_left; exact qW12_c1; rotate_left; exact qW12_c0
          refine one_ (i := 14) (N := some 52) #[true, true, true, true, true, true, true, true, true, true, true, true, true, true, true, true, true, true, true, false, false, false, false, false, false] rfl rfl (qW50) (by decide) (fun K hK => ?_)
          refine goes_ Tryd.func37 (by kernel_rfl) rfl #[.int .i64 (wrap64 (((rd_T59 l0 x5_1).f2) * t469)), .int .i64 1000] (by rfl) rfl rfl (qW1) ?_
          with_reducible refine (spec_l11Round.calls kj4 (wrap64 (((rd_T59 l0 x5_1).f2) * t469)) 1000 t470 _ A25.out).mono ?_
          rintro e w' ⟨rfl, ⟨nd, rfl⟩⟩
          refine ⟨_, rfl, ?_⟩
          refine hK.out _ _ ⟨((HB.out.cell (World.block_lt_of_cell? w _ hw467_0)).trans hw467_0), ((HB.out.cell (World.block_lt_of_cell? w _ hw467_1)).trans hw467_1), ((HB.out.cell (World.block_lt_of_cell? w _ hw467_2)).trans hw467_2), ((HB.out.cell (World.block_lt_of_cell? w _ hw467_3)).trans hw467_3), ((HB.out.cell (World.block_lt_of_cell? w _ hw467_4)).trans hw467_4), ((HB.out.cell (World.block_lt_of_cell? w _ hw468_0)).trans hw468_0), ((HB.out.cell (World.block_lt_of_cell? w _ hw468_1)).trans hw468_1), ((HB.out.cell (World.block_lt_of_cell? w _ hw468_2)).trans hw468_2), ((HB.out.cell (World.block_lt_of_cell? w _ hw468_3)).trans hw468_3), ((HB.out.cell (World.block_lt_of_cell? w _ hw468_4)).trans hw468_4), ((HB.out.cell (World.block_lt_of_cell? w _ hw471_0)).trans hw471_0), ((HB.out.cell (World.block_lt_of_cell? w _ hw471_1)).trans hw471_1), ((HB.out.cell (World.block_lt_of_cell? w _ hw471_2)).trans hw471_2), ((HB.out.cell (World.block_lt_of_cell? w _ hw471_3)).trans hw471_3), ((HB.out.cell (World.block_lt_of_cell? w _ hw471_4)).trans hw471_4)⟩ (fun hHeld => ?_)
          clear hK K
          refine norm_ (a' := ?_) ?_ ?_
          rotate_left
          ·show Act.put _ (some 52) _ = _
           simp only [Act.put, List.setIfInBounds_toArray, List.set_cons_zero, List.set_cons_succ, i64_w, i32_w]
           rfl
          refine one_ (i := 19) (N := some 57) #[true, true, true, true, true, true, true, true, true, true, true, true, true, true, true, true, true, true, true, true, false, false, false, false, false] rfl rfl (qW50) (by decide) (fun K hK => ?_)
          refine goes_ Tryd.func39 (by kernel_rfl) rfl #[.agg #[.int .i64 ((rd_T59 l0 x5_1).f0), .int .i64 ((rd_T59 l0 x5_1).f1), .int .i64 ((rd_T59 l0 x5_1).f2), .int .i64 ((rd_T59 l0 x5_1).f3), .int .i64 ((rd_T59 l0 x5_1).f4)]] (by rfl) rfl rfl (qW1) ?_
          with_reducible refine (spec_l4Shift.calls ((rd_T59 l0 x5_1).f0) ((rd_T59 l0 x5_1).f1) ((rd_T59 l0 x5_1).f2) ((rd_T59 l0 x5_1).f3) ((rd_T59 l0 x5_1).f4) t472 t473 t474 _ A26.out).mono ?_
          rintro e w30 ⟨rfl, hb⟩
          refine ⟨_, rfl, ?_⟩
          replace HO_4 := Aside0.mk (Kd.R_below (qW2 HO_4.out) hb)
          replace HB := Aside0.mk (below_step (qW0) hb)
          (try clear hb)
          (try clear hb2)
          (try clear hk)
          (try clear hi)
          refine hK.out _ _ ⟨((HB.out.cell (World.block_lt_of_cell? w _ hw467_0)).trans hw467_0), ((HB.out.cell (World.block_lt_of_cell? w _ hw467_1)).trans hw467_1), ((HB.out.cell (World.block_lt_of_cell? w _ hw467_2)).trans hw467_2), ((HB.out.cell (World.block_lt_of_cell? w _ hw467_3)).trans hw467_3), ((HB.out.cell (World.block_lt_of_cell? w _ hw467_4)).trans hw467_4), ((HB.out.cell (World.block_lt_of_cell? w _ hw468_0)).trans hw468_0), ((HB.out.cell (World.block_lt_of_cell? w _ hw468_1)).trans hw468_1), ((HB.out.cell (World.block_lt_of_cell? w _ hw468_2)).trans hw468_2), ((HB.out.cell (World.block_lt_of_cell? w _ hw468_3)).trans hw468_3), ((HB.out.cell (World.block_lt_of_cell? w _ hw468_4)).trans hw468_4), ((HB.out.cell (World.block_lt_of_cell? w _ hw471_0)).trans hw471_0), ((HB.out.cell (World.block_lt_of_cell? w _ hw471_1)).trans hw471_1), ((HB.out.cell (World.block_lt_of_cell? w _ hw471_2)).trans hw471_2), ((HB.out.cell (World.block_lt_of_cell? w _ hw471_3)).trans hw471_3), ((HB.out.cell (World.block_lt_of_cell? w _ hw471_4)).trans hw471_4)⟩ (fun hHeld => ?_)
          clear hK K
          refine norm_ (a' := ?_) ?_ ?_
          rotate_left
          ·show Act.put _ (some 57) _ = _
           simp only [Act.put, List.setIfInBounds_toArray, List.set_cons_zero, List.set_cons_succ, i64_w, i32_w]
           rfl
          refine pure_ (i := 20) (N := some 58) (v := ?_) (a' := ?_) #[true, true, true, true, true, true, true, true, true, true, true, true, true, true, true, true, true, true, true, true, true, false, false, false, false] rfl rfl (qW18) (fun _ _ _ h => h) (Or.inl ⟨by rfl, ?_⟩) ?_ ?_
          rotate_left; exact qW12_c1; rotate_left; exact qW12_c0
          refine pure_ (i := 21) (N := some 59) (v := ?_) (a' := ?_) #[true, true, true, true, true, true, true, true, true, true, true, true, true, true, true, true, true, true, true, true, true, true, false, false, false] rfl rfl (qW18) (fun _ _ _ h => h) (Or.inl ⟨by rfl, ?_⟩) ?_ ?_
          rotate_left; exact qW12_c1; rotate_left; exact qW12_c0
          refine one_ (i := 22) (N := some 60) #[true, true, true, true, true, true, true, true, true, true, true, true, true, true, true, true, true, true, true, true, true, true, true, false, false] rfl rfl (qW50) (by decide) (fun K hK => ?_)
          refine value_ (w1 := ?_) (v := ?_) (by rfl) rfl ?_ ?_
          rotate_left 2
          ·go_simp
           constructor
           ·rfl
           ·rfl
          refine hK.out _ _ ⟨(World.cell?_alloc_lt _ _ _ (World.block_lt_of_cell? _ _ (((HB.out.cell (World.block_lt_of_cell? w _ hw467_0)).trans hw467_0)))).trans (((HB.out.cell (World.block_lt_of_cell? w _ hw467_0)).trans hw467_0)), (World.cell?_alloc_lt _ _ _ (World.block_lt_of_cell? _ _ (((HB.out.cell (World.block_lt_of_cell? w _ hw467_1)).trans hw467_1)))).trans (((HB.out.cell (World.block_lt_of_cell? w _ hw467_1)).trans hw467_1)), (World.cell?_alloc_lt _ _ _ (World.block_lt_of_cell? _ _ (((HB.out.cell (World.block_lt_of_cell? w _ hw467_2)).trans hw467_2)))).trans (((HB.out.cell (World.block_lt_of_cell? w _ hw467_2)).trans hw467_2)), (World.cell?_alloc_lt _ _ _ (World.block_lt_of_cell? _ _ (((HB.out.cell (World.block_lt_of_cell? w _ hw467_3)).trans hw467_3)))).trans (((HB.out.cell (World.block_lt_of_cell? w _ hw467_3)).trans hw467_3)), (World.cell?_alloc_lt _ _ _ (World.block_lt_of_cell? _ _ (((HB.out.cell (World.block_lt_of_cell? w _ hw467_4)).trans hw467_4)))).trans (((HB.out.cell (World.block_lt_of_cell? w _ hw467_4)).trans hw467_4)), (World.cell?_alloc_lt _ _ _ (World.block_lt_of_cell? _ _ (((HB.out.cell (World.block_lt_of_cell? w _ hw468_0)).trans hw468_0)))).trans (((HB.out.cell (World.block_lt_of_cell? w _ hw468_0)).trans hw468_0)), (World.cell?_alloc_lt _ _ _ (World.block_lt_of_cell? _ _ (((HB.out.cell (World.block_lt_of_cell? w _ hw468_1)).trans hw468_1)))).trans (((HB.out.cell (World.block_lt_of_cell? w _ hw468_1)).trans hw468_1)), (World.cell?_alloc_lt _ _ _ (World.block_lt_of_cell? _ _ (((HB.out.cell (World.block_lt_of_cell? w _ hw468_2)).trans hw468_2)))).trans (((HB.out.cell (World.block_lt_of_cell? w _ hw468_2)).trans hw468_2)), (World.cell?_alloc_lt _ _ _ (World.block_lt_of_cell? _ _ (((HB.out.cell (World.block_lt_of_cell? w _ hw468_3)).trans hw468_3)))).trans (((HB.out.cell (World.block_lt_of_cell? w _ hw468_3)).trans hw468_3)), (World.cell?_alloc_lt _ _ _ (World.block_lt_of_cell? _ _ (((HB.out.cell (World.block_lt_of_cell? w _ hw468_4)).trans hw468_4)))).trans (((HB.out.cell (World.block_lt_of_cell? w _ hw468_4)).trans hw468_4)), (World.cell?_alloc_lt _ _ _ (World.block_lt_of_cell? _ _ (((HB.out.cell (World.block_lt_of_cell? w _ hw471_0)).trans hw471_0)))).trans (((HB.out.cell (World.block_lt_of_cell? w _ hw471_0)).trans hw471_0)), (World.cell?_alloc_lt _ _ _ (World.block_lt_of_cell? _ _ (((HB.out.cell (World.block_lt_of_cell? w _ hw471_1)).trans hw471_1)))).trans (((HB.out.cell (World.block_lt_of_cell? w _ hw471_1)).trans hw471_1)), (World.cell?_alloc_lt _ _ _ (World.block_lt_of_cell? _ _ (((HB.out.cell (World.block_lt_of_cell? w _ hw471_2)).trans hw471_2)))).trans (((HB.out.cell (World.block_lt_of_cell? w _ hw471_2)).trans hw471_2)), (World.cell?_alloc_lt _ _ _ (World.block_lt_of_cell? _ _ (((HB.out.cell (World.block_lt_of_cell? w _ hw471_3)).trans hw471_3)))).trans (((HB.out.cell (World.block_lt_of_cell? w _ hw471_3)).trans hw471_3)), (World.cell?_alloc_lt _ _ _ (World.block_lt_of_cell? _ _ (((HB.out.cell (World.block_lt_of_cell? w _ hw471_4)).trans hw471_4)))).trans (((HB.out.cell (World.block_lt_of_cell? w _ hw471_4)).trans hw471_4))⟩ (fun hHeld => ?_)
          clear hK K
          refine norm_ (a' := ?_) ?_ ?_
          rotate_left
          ·show Act.put _ (some 60) _ = _
           simp only [Act.put, List.setIfInBounds_toArray, List.set_cons_zero, List.set_cons_succ, i64_w, i32_w]
           rfl
          refine one_ (i := 23) (N := some 61) #[true, true, true, true, true, true, true, true, true, true, true, true, true, true, true, true, true, true, true, true, true, true, true, true, false] rfl rfl (qW50) (by decide) (fun K hK => ?_)
          refine Kd.R_append_step k44 (w0 := w) w.heap.size (by rfl) (.tmp 38) (.tmp 60) 24 44 (.agg #[(.int .i64 0), (.int .i64 0)]) 16 rfl Tryd.underlying24 info44 rfl (by decide) (by omega) u4 x4_1 (⟨t470, t474⟩ : S44) [.int .i64 t470, .int .i64 t474] (fun _ => True) (fun _ => False) rfl rfl ?aP (fun _ hk => hk.elim) ?aF ?aO ?aB ?aS ?aL ?_
          (case aP => exact (by exact k44_mkM _ _ _ (⟨t470, t474⟩ : S44)))
          (case aB => exact (qW0))
          (case aF => exact (fun _ _ => trivial))
          (case aO => exact (qW2 HO_4.out))
          (case aS => exact (qW75))
          (case aL => have := LMc27.out; omega)
          intro v476 w31 ho hb hg hat
          rw [← Ny475.out] at ho
          replace HB := Aside0.mk (hb)
          have HO477 := Aside0.mk (ho); clear HO_4; clear ho hb hg hat
          refine hK.out _ _ ⟨((HB.out.cell (World.block_lt_of_cell? w _ hw467_0)).trans hw467_0), ((HB.out.cell (World.block_lt_of_cell? w _ hw467_1)).trans hw467_1), ((HB.out.cell (World.block_lt_of_cell? w _ hw467_2)).trans hw467_2), ((HB.out.cell (World.block_lt_of_cell? w _ hw467_3)).trans hw467_3), ((HB.out.cell (World.block_lt_of_cell? w _ hw467_4)).trans hw467_4), ((HB.out.cell (World.block_lt_of_cell? w _ hw468_0)).trans hw468_0), ((HB.out.cell (World.block_lt_of_cell? w _ hw468_1)).trans hw468_1), ((HB.out.cell (World.block_lt_of_cell? w _ hw468_2)).trans hw468_2), ((HB.out.cell (World.block_lt_of_cell? w _ hw468_3)).trans hw468_3), ((HB.out.cell (World.block_lt_of_cell? w _ hw468_4)).trans hw468_4), ((HB.out.cell (World.block_lt_of_cell? w _ hw471_0)).trans hw471_0), ((HB.out.cell (World.block_lt_of_cell? w _ hw471_1)).trans hw471_1), ((HB.out.cell (World.block_lt_of_cell? w _ hw471_2)).trans hw471_2), ((HB.out.cell (World.block_lt_of_cell? w _ hw471_3)).trans hw471_3), ((HB.out.cell (World.block_lt_of_cell? w _ hw471_4)).trans hw471_4)⟩ (fun hHeld => ?_)
          clear hK K
          refine norm_ (a' := ?_) ?_ ?_
          rotate_left
          ·show Act.put _ (some 61) _ = _
           simp only [Act.put, List.setIfInBounds_toArray, List.set_cons_zero, List.set_cons_succ, i64_w, i32_w]
           rfl
          refine pure_ (i := 24) (N := some 4) (v := ?_) (a' := ?_) #[true, true, true, true, true, true, true, true, true, true, true, true, true, true, true, true, true, true, true, true, true, true, true, true, true] rfl rfl (qW18) (fun _ _ _ h => h) (Or.inl ⟨by rfl, ?_⟩) ?_ ?_
          rotate_left; exact qW12_c1; rotate_left; exact qW12_c0
          refine done_ (qW62) ?_
          try go_wp2
          go_roundg kj4
          case measure => have := HK1.out; have := HJ4.out; omega
          case rel => exact ⟨(y475), (wrap64 (x5_1 + 1)), (qW14), H', ⟨by have := HK1.out; have := HJ4.out; omega⟩, ⟨(qW2 HO477.out)⟩, ⟨(qW0)⟩⟩
         ·rw [if_neg c27] at H
          exact absurd H (by simp)
        ·rw [if_neg c23] at H
         exact absurd H (by simp)
       ·rw [if_neg c22] at H
        exact absurd H (by simp)
   ·rw [if_neg c4] at H
    have c4b0 : decide (x5_1 < (l0.length : Int)) = false := decide_eq_false c4
    clear c4; replace H := Option.bind_eq_some_iff.mp H; obtain ⟨t456, A320, H⟩ := H
    try dsimp only at H
    have A32 := Aside0.mk A320; clear A320
    by_cases c33 : t456 = true
    ·subst c33; rw [if_pos rfl] at H
     simp only [Option.some.injEq, Prod.mk.injEq] at H
     obtain ⟨rfl, rfl⟩ := H
     obtain ⟨Ao34, co34, eo34⟩ := Kd.R_slice HO_4.out
     subst eo34
     go_wp2_with (first | ((with_reducible refine gate_callee (f := 23) rfl ?_); refine goesL_ (some 63) rfl rfl Tryd.func23 (by kernel_rfl) rfl #[.slice Ao34 x4_1.length co34] rfl (qW1) ?_; (with_reducible refine (spec_l14Good.calls k1 _ _ x4_1 true _ ?side1 ?side2 A32.out).mono ?_); (case side1 => exact (qW6 HO_4.out)); (case side2 => exact (qW41 HO_4.out)); rintro e w35 ⟨rfl, hb⟩; refine ⟨_, rfl, ?_⟩; replace HO_4 := Aside0.mk (Kd.R_below (qW2 HO_4.out) hb); replace HB := Aside0.mk (below_step (qW0) hb); clear hb))
     go_ret2
     exact ⟨_, (qW9), (qW2 HO_4.out), (qW0)⟩
    ·replace c33 := Bool.eq_false_iff.mpr c33
     subst c33
     rw [if_neg (show ¬ (false = true) by decide)] at H
     obtain ⟨y457, hy457⟩ : ∃ y_ : List (S44), y_ = (([] : List (S44))) := ⟨_, rfl⟩
     replace H : (some (y457, false)) = some (r1, r2) := (qW7 hy457)
     have Ny457 := Aside0.mk hy457; clear hy457
     simp only [Option.some.injEq, Prod.mk.injEq] at H
     obtain ⟨rfl, rfl⟩ := H
     obtain ⟨Ao36, co36, eo36⟩ := Kd.R_slice HO_4.out
     subst eo36
     go_wp2_with (first | ((with_reducible refine gate_callee (f := 23) rfl ?_); refine goesL_ (some 63) rfl rfl Tryd.func23 (by kernel_rfl) rfl #[.slice Ao36 x4_1.length co36] rfl (qW1) ?_; (with_reducible refine (spec_l14Good.calls k1 _ _ x4_1 false _ ?side1 ?side2 A32.out).mono ?_); (case side1 => exact (qW6 HO_4.out)); (case side2 => exact (qW41 HO_4.out)); rintro e w37 ⟨rfl, hb⟩; refine ⟨_, rfl, ?_⟩; replace HO_4 := Aside0.mk (Kd.R_below (qW2 HO_4.out) hb); replace HB := Aside0.mk (below_step (qW0) hb); clear hb) | ((with_reducible refine gate_dst (N := 65) rfl ?_); refine Kd.R_lit k44 _ 44 ?hg (N := 65) ?hd (xs := ([] : List (S44))) (inner := []) (ok := fun _ => True) (okp := fun _ => True) ?hr ?hp (fun _ hk => hk) trivial (Below.refl _ _) (Nat.le_refl _) (by simp) ?_; (case hd => rfl); (case hg => rfl); (case hr => exact (qW22)); (case hp => exact (Reps.none _ _)); intro v458 w38 ho39 hb hg_ hnew_; clear hg_ hnew_; (first | rw [← Ny457.out] at ho39 | (simp only [Int.reduceToNat] at ho39; rw [← Ny457.out] at ho39)); have HO459 := Aside0.mk (Kd.R_lower (Kd.R_new' ho39 (Kd.R_lt (qW2 HO_4.out))) (below_size (qW0))); replace HO_4 := Aside0.mk (Kd.R_elder' (qW2 HO_4.out) (Kd.R_base ho39) hb); replace HB := Aside0.mk (below_step (qW0) hb); clear hb ho39))
     go_ret2
     exact ⟨_, (qW9), (qW43 HO459.out), (qW0)⟩

end Go.Proofs.YtmbpdegkkdcjnaaDoor.MW
