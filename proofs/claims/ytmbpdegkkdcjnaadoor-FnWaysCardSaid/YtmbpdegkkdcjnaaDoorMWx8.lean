-- Written by a program of this session (wip/drv.py, wip/tight2.py). -- tight2
import Derived.Test.YtmbpdegkkdcjnaaDoorMWx0
import Derived.Test.YtmbpdegkkdcjnaaDoorMWx2
namespace Go.Proofs.YtmbpdegkkdcjnaaDoor.MW
open Go.RowKit Go.Proofs.YtmbpdegkkdcjnaaDoorW.PrintWords Go.Proofs.YtmbpdegkkdcjnaaDoorW.PrintLast Go.Proofs.YtmbpdegkkdcjnaaDoorW.PrintMore
attribute [local go_sem] max2_int min2_int max_two min_two max_three min_three max_four min_four   -- for this text's walks alone
set_option linter.unusedVariables false
set_option linter.unusedSimpArgs false

/-! ### spec_l1Cur_leg: function 32 -/
def spec_l1Cur_leg.j0 : Nat → List Int → Int → Int → Int → Int → Int → Int → Int → Option (Int × Int × Int × Int × Int × Int × Int)
 | 0, _, _, _, _, _, _, _, _ => none
 | k + 1, x1000, x1001, x1002, x299000, x299001, x299002, x299003, x299004 => (spec_l1Cur_pick.f x1000 x1001 x1002 40).bind fun bt299 => (if bt299.1 = 0 then ((spec_l1Cur_among.f x1000 bt299.2.1 bt299.2.2 (([(-1), 7, 8, x299000] : List Int))).bind fun bt305 => (some (x299000, bt305.1, x299002, x299003, x299004, bt305.2.1, bt305.2.2))) else (if bt299.1 = 1 then ((spec_l1Cur_among.f x1000 bt299.2.1 bt299.2.2 (([0, 501] : List Int))).bind fun bt311 => (some (x299000, x299001, bt311.1, x299003, x299004, bt311.2.1, bt311.2.2))) else (if bt299.1 = 2 then ((spec_l1Cur_among.f x1000 bt299.2.1 bt299.2.2 (([(-1), 360] : List Int))).bind fun bt317 => (some (x299000, x299001, x299002, bt317.1, x299004, bt317.2.1, bt317.2.2))) else (if bt299.1 = 3 then ((spec_l1Cur_among.f x1000 bt299.2.1 bt299.2.2 (([(-91), 91] : List Int))).bind fun bt323 => (some (x299000, x299001, x299002, x299003, bt323.1, bt323.2.1, bt323.2.2))) else (some (x299000, x299001, x299002, x299003, x299004, bt299.2.1, bt299.2.2))))))
def spec_l1Cur_leg.f (k : Nat) (s0_0 : List Int) (s0_1 : Int) (s0_2 : Int) : Option (Int × Int × Int × Int × Int × Int × Int) := (spec_l1Cur_pick.f s0_0 s0_1 s0_2 6).bind fun bt274 => ((spec_l1Cur_pick.f s0_0 bt274.2.1 bt274.2.2 6).bind fun bt277 => ((spec_l1Cur_among.f s0_0 bt277.2.1 bt277.2.2 (([1, 10, 50, 100, 120, 250, 500] : List Int))).bind fun bt283 => ((spec_l1Cur_among.f s0_0 bt283.2.1 bt283.2.2 (([0, 45, 90, 135, 180, 270, 359, 17, 222] : List Int))).bind fun bt289 => ((spec_l1Cur_among.f s0_0 bt289.2.1 bt289.2.2 (([0, 0, 0, 5, (-5), 30, (-45), 90, (-90)] : List Int))).bind fun bt295 => (if bt274.1 = bt277.1 then (spec_l1Cur_leg.j0 k s0_0 bt295.2.1 bt295.2.2 bt274.1 (Int.tmod (wrap64 (bt277.1 + 1)) 6) bt283.1 bt289.1 bt295.1) else (spec_l1Cur_leg.j0 k s0_0 bt295.2.1 bt295.2.2 bt274.1 bt277.1 bt283.1 bt289.1 bt295.1))))))
theorem spec_l1Cur_leg.mono_l : ∀ k, (∀ y0 y1 y2 y3 y4 y5 y6 y7, LeO (spec_l1Cur_leg.j0 k y0 y1 y2 y3 y4 y5 y6 y7) (spec_l1Cur_leg.j0 (k + 1) y0 y1 y2 y3 y4 y5 y6 y7))
 | 0 => fun _ _ _ _ _ _ _ _ r h => by simp [spec_l1Cur_leg.j0] at h
 | k + 1 => by
  have ih0 := spec_l1Cur_leg.mono_l k
  ·intro y0 y1 y2 y3 y4 y5 y6 y7
   unfold spec_l1Cur_leg.j0
   exact qmono
theorem spec_l1Cur_leg.mono : ∀ a0 a1 a2 k, LeO (spec_l1Cur_leg.f k a0 a1 a2) (spec_l1Cur_leg.f (k + 1) a0 a1 a2) := by
 intro a0 a1 a2 k
 have ih0 := spec_l1Cur_leg.mono_l k
 unfold spec_l1Cur_leg.f
 exact qmono
set_option maxHeartbeats 8000000 in
set_option maxRecDepth 100000 in
theorem spec_l1Cur_leg.calls (k : Nat) (g : Nat) (s0_0 : List Int) (s0_1 : Int) (s0_2 : Int) (r1 : Int) (r2 : Int) (r3 : Int) (r4 : Int) (r5 : Int) (r6 : Int) (r7 : Int) (w0 w : World) (hI : IsS54 w0 w g s0_0 s0_1 s0_2) (hB : Below w0.heap.size w0 w) (h : spec_l1Cur_leg.f k s0_0 s0_1 s0_2 = some (r1, r2, r3, r4, r5, r6, r7)) :
  Calls Tryd.prog 32 #[.pointer (some ⟨g, 0, none⟩)] w fun e w' => e = .returned (.agg #[.int .i64 r1, .int .i64 r2, .int .i64 r3, .int .i64 r4, .int .i64 r5]) ∧ IsS54 w0 w' g s0_0 r6 r7 ∧ Below w0.heap.size w0 w' ∧ KeepBut w w' g none := by
 have hu59 := Tryd.underlying59
 have HI0 := Aside0.mk hI
 have HK := Aside0.mk (KeepBut.refl w g none)
 have HL := Aside0.mk hB.size
 clear hI
 have HW0 := Aside0.mk hB.size
 have HB := Aside0.mk hB; clear hB
 have H : ((spec_l1Cur_pick.f s0_0 s0_1 s0_2 6).bind fun bt274 => ((spec_l1Cur_pick.f s0_0 bt274.2.1 bt274.2.2 6).bind fun bt277 => ((spec_l1Cur_among.f s0_0 bt277.2.1 bt277.2.2 (([1, 10, 50, 100, 120, 250, 500] : List Int))).bind fun bt283 => ((spec_l1Cur_among.f s0_0 bt283.2.1 bt283.2.2 (([0, 45, 90, 135, 180, 270, 359, 17, 222] : List Int))).bind fun bt289 => ((spec_l1Cur_among.f s0_0 bt289.2.1 bt289.2.2 (([0, 0, 0, 5, (-5), 30, (-45), 90, (-90)] : List Int))).bind fun bt295 => (if bt274.1 = bt277.1 then (spec_l1Cur_leg.j0 k s0_0 bt295.2.1 bt295.2.2 bt274.1 (Int.tmod (wrap64 (bt277.1 + 1)) 6) bt283.1 bt289.1 bt295.1) else (spec_l1Cur_leg.j0 k s0_0 bt295.2.1 bt295.2.2 bt274.1 bt277.1 bt283.1 bt289.1 bt295.1))))))) = some (r1, r2, r3, r4, r5, r6, r7) := h
 clear h; replace H := Option.bind_eq_some_iff.mp H; obtain ⟨⟨t274, t275, t276⟩, A20, H⟩ := H
 try dsimp only at H
 have A2 := Aside0.mk A20; clear A20; replace H := Option.bind_eq_some_iff.mp H; obtain ⟨⟨t277, t278, t279⟩, A30, H⟩ := H
 try dsimp only at H
 have A3 := Aside0.mk A30; clear A30
 obtain ⟨y280, hy280⟩ : ∃ y_ : List Int, y_ = (([1, 10, 50, 100, 120, 250, 500] : List Int)) := ⟨_, rfl⟩
 replace H : ((spec_l1Cur_among.f s0_0 t278 t279 y280).bind fun bt283 => ((spec_l1Cur_among.f s0_0 bt283.2.1 bt283.2.2 (([0, 45, 90, 135, 180, 270, 359, 17, 222] : List Int))).bind fun bt289 => ((spec_l1Cur_among.f s0_0 bt289.2.1 bt289.2.2 (([0, 0, 0, 5, (-5), 30, (-45), 90, (-90)] : List Int))).bind fun bt295 => (if t274 = t277 then (spec_l1Cur_leg.j0 k s0_0 bt295.2.1 bt295.2.2 t274 (Int.tmod (wrap64 (t277 + 1)) 6) bt283.1 bt289.1 bt295.1) else (spec_l1Cur_leg.j0 k s0_0 bt295.2.1 bt295.2.2 t274 t277 bt283.1 bt289.1 bt295.1))))) = some (r1, r2, r3, r4, r5, r6, r7) := (qW7 hy280)
 have Ny280 := Aside0.mk hy280; clear hy280; replace H := Option.bind_eq_some_iff.mp H; obtain ⟨⟨t283, t284, t285⟩, A40, H⟩ := H
 try dsimp only at H
 have A4 := Aside0.mk A40; clear A40
 obtain ⟨y286, hy286⟩ : ∃ y_ : List Int, y_ = (([0, 45, 90, 135, 180, 270, 359, 17, 222] : List Int)) := ⟨_, rfl⟩
 replace H : ((spec_l1Cur_among.f s0_0 t284 t285 y286).bind fun bt289 => ((spec_l1Cur_among.f s0_0 bt289.2.1 bt289.2.2 (([0, 0, 0, 5, (-5), 30, (-45), 90, (-90)] : List Int))).bind fun bt295 => (if t274 = t277 then (spec_l1Cur_leg.j0 k s0_0 bt295.2.1 bt295.2.2 t274 (Int.tmod (wrap64 (t277 + 1)) 6) t283 bt289.1 bt295.1) else (spec_l1Cur_leg.j0 k s0_0 bt295.2.1 bt295.2.2 t274 t277 t283 bt289.1 bt295.1)))) = some (r1, r2, r3, r4, r5, r6, r7) := (qW7 hy286)
 have Ny286 := Aside0.mk hy286; clear hy286; replace H := Option.bind_eq_some_iff.mp H; obtain ⟨⟨t289, t290, t291⟩, A50, H⟩ := H
 try dsimp only at H
 have A5 := Aside0.mk A50; clear A50
 obtain ⟨y292, hy292⟩ : ∃ y_ : List Int, y_ = (([0, 0, 0, 5, (-5), 30, (-45), 90, (-90)] : List Int)) := ⟨_, rfl⟩
 replace H : ((spec_l1Cur_among.f s0_0 t290 t291 y292).bind fun bt295 => (if t274 = t277 then (spec_l1Cur_leg.j0 k s0_0 bt295.2.1 bt295.2.2 t274 (Int.tmod (wrap64 (t277 + 1)) 6) t283 t289 bt295.1) else (spec_l1Cur_leg.j0 k s0_0 bt295.2.1 bt295.2.2 t274 t277 t283 t289 bt295.1))) = some (r1, r2, r3, r4, r5, r6, r7) := (qW7 hy292)
 have Ny292 := Aside0.mk hy292; clear hy292; replace H := Option.bind_eq_some_iff.mp H; obtain ⟨⟨t295, t296, t297⟩, A60, H⟩ := H
 try dsimp only at H
 have A6 := Aside0.mk A60; clear A60; have HC7 := Aside0.mk H; clear H
 go_enter Tryd.func32, Tryd.ntmps32
 go_upto_if 22 with (first | ((with_reducible refine gate_dst (N := 2) rfl ?_); refine box_event ?hg (N := 2) ?hd (cs := #[.int .i64 0, .int .i64 0, .int .i64 0, .int .i64 0, .int .i64 0]) (t := 59) ?hr ?_; (case hd => rfl); (case hg => rfl); (case hr => exact (qW22)); intro gb273 hg w8 hbox hb; replace HB := Aside0.mk (below_step (qW8) hb); have BK273 := Aside0.mk (hbox); have GW273 := Aside0.mk ((by rw [hg]; exact (keep_size (w := w) (g := g) (row := none) (qW4)) : w.heap.size ≤ gb273)); have GE273 := Aside0.mk ((Nat.le_trans HW0.out (by rw [hg]; exact (keep_size (w := w) (g := g) (row := none) (qW4)) : w.heap.size ≤ gb273) : w0.heap.size ≤ gb273)); replace HK := Aside0.mk (KeepBut.trans (qW4) (KeepBut.of_below hb g none) (.inl rfl)); have NB0_273 := Aside0.mk ((by rw [hg]; exact Nat.ne_of_lt (IsS54.lt (show IsS54 w0 _ g s0_0 s0_1 s0_2 from (qW3))) : g ≠ gb273)); have NB273_0 := Aside0.mk ((by rw [hg]; exact Nat.ne_of_gt (IsS54.lt (show IsS54 w0 _ g s0_0 s0_1 s0_2 from (qW3))) : gb273 ≠ g)); replace HI0 := Aside0.mk (IsS54.below (qW3) hb); clear hb hbox hg) | ((with_reducible refine gate_callee (f := 31) rfl ?_); refine goesL_ (some 5) rfl rfl Tryd.func31 (by kernel_rfl) rfl #[.pointer (some ⟨g, 0, none⟩), .int .i64 6] rfl (qW1) ?_; (with_reducible refine (spec_l1Cur_pick.calls g s0_0 s0_1 s0_2 6 t274 t275 t276 w0 _ ?side1 ?side2 A2.out).mono ?_); (case side1 => exact (qW11 NB0_273.out)); (case side2 => exact (qW21 GE273.out)); rintro e w9 ⟨rfl, hi, hb, hk⟩; refine ⟨_, rfl, ?_⟩; replace BK273 := Aside0.mk (KeepBut.blk hk (g' := gb273) (o := .cells #[.int .i64 0, .int .i64 0, .int .i64 0, .int .i64 0, .int .i64 0] 59 (0, 0)) (qW5 BK273.out) NB273_0.out (by simp)); replace HK := Aside0.mk (KeepBut.trans (qW17 GW273.out) hk (.inl rfl)); replace HB := Aside0.mk (hb); replace HI0 := Aside0.mk (hi); clear hb hk hi) | ((with_reducible refine gate_callee (f := 31) rfl ?_); refine goesL_ (some 7) rfl rfl Tryd.func31 (by kernel_rfl) rfl #[.pointer (some ⟨g, 0, none⟩), .int .i64 6] rfl (qW1) ?_; (with_reducible refine (spec_l1Cur_pick.calls g s0_0 t275 t276 6 t277 t278 t279 w0 _ ?side1 ?side2 A3.out).mono ?_); (case side1 => exact (qW11 NB0_273.out)); (case side2 => exact (qW21 GE273.out)); rintro e w10 ⟨rfl, hi, hb, hk⟩; refine ⟨_, rfl, ?_⟩; replace BK273 := Aside0.mk (KeepBut.blk hk (g' := gb273) (o := .cells #[.int .i64 0, .int .i64 0, .int .i64 0, .int .i64 0, .int .i64 0] 59 (0, 0)) (qW5 BK273.out) NB273_0.out (by simp)); replace HK := Aside0.mk (KeepBut.trans (qW17 GW273.out) hk (.inl rfl)); replace HB := Aside0.mk (hb); replace HI0 := Aside0.mk (hi); clear hb hk hi) | ((with_reducible refine gate_dst (N := 9) rfl ?_); refine Kd.R_lit (Kd.int .i64) _ 3 ?hg (N := 9) ?hd (xs := ([1, 10, 50, 100, 120, 250, 500] : List Int)) (inner := [.int .i64 1, .int .i64 10, .int .i64 50, .int .i64 100, .int .i64 120, .int .i64 250, .int .i64 500]) (ok := fun _ => True) (okp := fun _ => True) ?hr ?hp (fun _ hk => hk) trivial (Below.refl _ _) (Nat.le_refl _) (by simp) ?_; (case hd => rfl); (case hg => rfl); (case hr => exact (qW22)); (case hp => exact (by exact (Reps.one (show Kd.M (Kd.int .i64) _ _ _ 1 [.int .i64 1] from rfl) (Reps.one (show Kd.M (Kd.int .i64) _ _ _ 10 [.int .i64 10] from rfl) (Reps.one (show Kd.M (Kd.int .i64) _ _ _ 50 [.int .i64 50] from rfl) (Reps.one (show Kd.M (Kd.int .i64) _ _ _ 100 [.int .i64 100] from rfl) (Reps.one (show Kd.M (Kd.int .i64) _ _ _ 120 [.int .i64 120] from rfl) (Reps.one (show Kd.M (Kd.int .i64) _ _ _ 250 [.int .i64 250] from rfl) (Reps.one (show Kd.M (Kd.int .i64) _ _ _ 500 [.int .i64 500] from rfl) (Reps.none _ _)))))))))); intro v281 w11 ho12 hb hg_ hnew_; clear hg_ hnew_; (first | rw [← Ny280.out] at ho12 | (simp only [Int.reduceToNat] at ho12; rw [← Ny280.out] at ho12)); have HO282 := Aside0.mk (Kd.R_lower ho12 (keep_size (w := w) (g := g) (row := none) (qW17 GW273.out))); replace BK273 := Aside0.mk (blk_below (g := gb273) (o := .cells #[.int .i64 0, .int .i64 0, .int .i64 0, .int .i64 0, .int .i64 0] 59 (0, 0)) (qW5 BK273.out) hb); replace HK := Aside0.mk (KeepBut.trans (qW17 GW273.out) (KeepBut.of_below hb g none) (.inl rfl)); replace HB := Aside0.mk (below_step (qW21 GE273.out) hb); replace HI0 := Aside0.mk (IsS54.below (qW11 NB0_273.out) hb); clear hb ho12; obtain ⟨Ao13, co13, eo13⟩ := Kd.R_slice HO282.out; subst eo13) | ((with_reducible refine gate_callee (f := 42) rfl ?_); refine goesL_ (some 10) rfl rfl Tryd.func42 (by kernel_rfl) rfl #[.pointer (some ⟨g, 0, none⟩), .slice Ao13 y280.length co13] rfl (qW1) ?_; (with_reducible refine (spec_l1Cur_among.calls g s0_0 t278 t279 _ _ y280 t283 t284 t285 w0 _ ?side1 ?side2 ?side3 ?side4 ?side5 A4.out).mono ?_); (case side1 => exact (qW11 NB0_273.out)); (case side2 => exact (qW21 GE273.out)); (case side3 => exact (qW6 HO282.out)); (case side4 => exact (qW41 HO282.out)); (case side5 => exact (qW47 HO282.out)); rintro e w14 ⟨rfl, hi, hb, hk⟩; refine ⟨_, rfl, ?_⟩; replace BK273 := Aside0.mk (KeepBut.blk hk (g' := gb273) (o := .cells #[.int .i64 0, .int .i64 0, .int .i64 0, .int .i64 0, .int .i64 0] 59 (0, 0)) (qW5 BK273.out) NB273_0.out (by simp)); replace HO282 := Aside0.mk (Kd.R_mono (Kd.R_keep (IsS54.apart (show IsS54 w0 _ g s0_0 t278 t279 from (qW11 NB0_273.out)) (qW2 HO282.out) (by decide)) hk (fun _ h => h.2)) (fun _ h => h.1)); replace HK := Aside0.mk (KeepBut.trans (qW17 GW273.out) hk (.inl rfl)); replace HB := Aside0.mk (hb); replace HI0 := Aside0.mk (hi); clear hb hk hi) | ((with_reducible refine gate_dst (N := 12) rfl ?_); refine Kd.R_lit (Kd.int .i64) _ 3 ?hg (N := 12) ?hd (xs := ([0, 45, 90, 135, 180, 270, 359, 17, 222] : List Int)) (inner := [.int .i64 0, .int .i64 45, .int .i64 90, .int .i64 135, .int .i64 180, .int .i64 270, .int .i64 359, .int .i64 17, .int .i64 222]) (ok := fun _ => True) (okp := fun _ => True) ?hr ?hp (fun _ hk => hk) trivial (Below.refl _ _) (Nat.le_refl _) (by simp) ?_; (case hd => rfl); (case hg => rfl); (case hr => exact (qW22)); (case hp => exact (by exact (Reps.one (show Kd.M (Kd.int .i64) _ _ _ 0 [.int .i64 0] from rfl) (Reps.one (show Kd.M (Kd.int .i64) _ _ _ 45 [.int .i64 45] from rfl) (Reps.one (show Kd.M (Kd.int .i64) _ _ _ 90 [.int .i64 90] from rfl) (Reps.one (show Kd.M (Kd.int .i64) _ _ _ 135 [.int .i64 135] from rfl) (Reps.one (show Kd.M (Kd.int .i64) _ _ _ 180 [.int .i64 180] from rfl) (Reps.one (show Kd.M (Kd.int .i64) _ _ _ 270 [.int .i64 270] from rfl) (Reps.one (show Kd.M (Kd.int .i64) _ _ _ 359 [.int .i64 359] from rfl) (Reps.one (show Kd.M (Kd.int .i64) _ _ _ 17 [.int .i64 17] from rfl) (Reps.one (show Kd.M (Kd.int .i64) _ _ _ 222 [.int .i64 222] from rfl) (Reps.none _ _)))))))))))); intro v287 w15 ho16 hb hg_ hnew_; clear hg_ hnew_; (first | rw [← Ny286.out] at ho16 | (simp only [Int.reduceToNat] at ho16; rw [← Ny286.out] at ho16)); have HO288 := Aside0.mk (Kd.R_lower (Kd.R_new' ho16 (Kd.R_lt (qW2 HO282.out))) (keep_size (w := w) (g := g) (row := none) (qW17 GW273.out))); replace HO282 := Aside0.mk (Kd.R_elder' (qW2 HO282.out) (Kd.R_base ho16) hb); replace BK273 := Aside0.mk (blk_below (g := gb273) (o := .cells #[.int .i64 0, .int .i64 0, .int .i64 0, .int .i64 0, .int .i64 0] 59 (0, 0)) (qW5 BK273.out) hb); replace HK := Aside0.mk (KeepBut.trans (qW17 GW273.out) (KeepBut.of_below hb g none) (.inl rfl)); replace HB := Aside0.mk (below_step (qW21 GE273.out) hb); replace HI0 := Aside0.mk (IsS54.below (qW11 NB0_273.out) hb); clear hb ho16; obtain ⟨Ao17, co17, eo17⟩ := Kd.R_slice HO288.out; subst eo17) | ((with_reducible refine gate_callee (f := 42) rfl ?_); refine goesL_ (some 13) rfl rfl Tryd.func42 (by kernel_rfl) rfl #[.pointer (some ⟨g, 0, none⟩), .slice Ao17 y286.length co17] rfl (qW1) ?_; (with_reducible refine (spec_l1Cur_among.calls g s0_0 t284 t285 _ _ y286 t289 t290 t291 w0 _ ?side1 ?side2 ?side3 ?side4 ?side5 A5.out).mono ?_); (case side1 => exact (qW11 NB0_273.out)); (case side2 => exact (qW21 GE273.out)); (case side3 => exact (qW6 HO288.out)); (case side4 => exact (qW41 HO288.out)); (case side5 => exact (qW47 HO288.out)); rintro e w18 ⟨rfl, hi, hb, hk⟩; refine ⟨_, rfl, ?_⟩; replace BK273 := Aside0.mk (KeepBut.blk hk (g' := gb273) (o := .cells #[.int .i64 0, .int .i64 0, .int .i64 0, .int .i64 0, .int .i64 0] 59 (0, 0)) (qW5 BK273.out) NB273_0.out (by simp)); replace HO282 := Aside0.mk (Kd.R_mono (Kd.R_keep (IsS54.apart (show IsS54 w0 _ g s0_0 t284 t285 from (qW11 NB0_273.out)) (qW2 HO282.out) (by decide)) hk (fun _ h => h.2)) (fun _ h => h.1)); replace HO288 := Aside0.mk (Kd.R_mono (Kd.R_keep (IsS54.apart (show IsS54 w0 _ g s0_0 t284 t285 from (qW11 NB0_273.out)) (qW2 HO288.out) (by decide)) hk (fun _ h => h.2)) (fun _ h => h.1)); replace HK := Aside0.mk (KeepBut.trans (qW17 GW273.out) hk (.inl rfl)); replace HB := Aside0.mk (hb); replace HI0 := Aside0.mk (hi); clear hb hk hi) | ((with_reducible refine gate_dst (N := 15) rfl ?_); refine Kd.R_lit (Kd.int .i64) _ 3 ?hg (N := 15) ?hd (xs := ([0, 0, 0, 5, (-5), 30, (-45), 90, (-90)] : List Int)) (inner := [.int .i64 0, .int .i64 0, .int .i64 0, .int .i64 5, .int .i64 (-5), .int .i64 30, .int .i64 (-45), .int .i64 90, .int .i64 (-90)]) (ok := fun _ => True) (okp := fun _ => True) ?hr ?hp (fun _ hk => hk) trivial (Below.refl _ _) (Nat.le_refl _) (by simp) ?_; (case hd => rfl); (case hg => rfl); (case hr => exact (qW22)); (case hp => exact (by exact (Reps.one (show Kd.M (Kd.int .i64) _ _ _ 0 [.int .i64 0] from rfl) (Reps.one (show Kd.M (Kd.int .i64) _ _ _ 0 [.int .i64 0] from rfl) (Reps.one (show Kd.M (Kd.int .i64) _ _ _ 0 [.int .i64 0] from rfl) (Reps.one (show Kd.M (Kd.int .i64) _ _ _ 5 [.int .i64 5] from rfl) (Reps.one (show Kd.M (Kd.int .i64) _ _ _ (-5) [.int .i64 (-5)] from rfl) (Reps.one (show Kd.M (Kd.int .i64) _ _ _ 30 [.int .i64 30] from rfl) (Reps.one (show Kd.M (Kd.int .i64) _ _ _ (-45) [.int .i64 (-45)] from rfl) (Reps.one (show Kd.M (Kd.int .i64) _ _ _ 90 [.int .i64 90] from rfl) (Reps.one (show Kd.M (Kd.int .i64) _ _ _ (-90) [.int .i64 (-90)] from rfl) (Reps.none _ _)))))))))))); intro v293 w19 ho20 hb hg_ hnew_; clear hg_ hnew_; (first | rw [← Ny292.out] at ho20 | (simp only [Int.reduceToNat] at ho20; rw [← Ny292.out] at ho20)); have HO294 := Aside0.mk (Kd.R_lower (Kd.R_new' (Kd.R_new' ho20 (Kd.R_lt (qW2 HO282.out))) (Kd.R_lt (qW2 HO288.out))) (keep_size (w := w) (g := g) (row := none) (qW17 GW273.out))); replace HO282 := Aside0.mk (Kd.R_elder' (qW2 HO282.out) (Kd.R_base ho20) hb); replace HO288 := Aside0.mk (Kd.R_elder' (qW2 HO288.out) (Kd.R_base ho20) hb); replace BK273 := Aside0.mk (blk_below (g := gb273) (o := .cells #[.int .i64 0, .int .i64 0, .int .i64 0, .int .i64 0, .int .i64 0] 59 (0, 0)) (qW5 BK273.out) hb); replace HK := Aside0.mk (KeepBut.trans (qW17 GW273.out) (KeepBut.of_below hb g none) (.inl rfl)); replace HB := Aside0.mk (below_step (qW21 GE273.out) hb); replace HI0 := Aside0.mk (IsS54.below (qW11 NB0_273.out) hb); clear hb ho20; obtain ⟨Ao21, co21, eo21⟩ := Kd.R_slice HO294.out; subst eo21) | ((with_reducible refine gate_callee (f := 42) rfl ?_); refine goesL_ (some 16) rfl rfl Tryd.func42 (by kernel_rfl) rfl #[.pointer (some ⟨g, 0, none⟩), .slice Ao21 y292.length co21] rfl (qW1) ?_; (with_reducible refine (spec_l1Cur_among.calls g s0_0 t290 t291 _ _ y292 t295 t296 t297 w0 _ ?side1 ?side2 ?side3 ?side4 ?side5 A6.out).mono ?_); (case side1 => exact (qW11 NB0_273.out)); (case side2 => exact (qW21 GE273.out)); (case side3 => exact (qW6 HO294.out)); (case side4 => exact (qW41 HO294.out)); (case side5 => exact (qW47 HO294.out)); rintro e w22 ⟨rfl, hi, hb, hk⟩; refine ⟨_, rfl, ?_⟩; replace BK273 := Aside0.mk (KeepBut.blk hk (g' := gb273) (o := .cells #[.int .i64 0, .int .i64 0, .int .i64 0, .int .i64 0, .int .i64 0] 59 (0, 0)) (qW5 BK273.out) NB273_0.out (by simp)); replace HO282 := Aside0.mk (Kd.R_mono (Kd.R_keep (IsS54.apart (show IsS54 w0 _ g s0_0 t290 t291 from (qW11 NB0_273.out)) (qW2 HO282.out) (by decide)) hk (fun _ h => h.2)) (fun _ h => h.1)); replace HO288 := Aside0.mk (Kd.R_mono (Kd.R_keep (IsS54.apart (show IsS54 w0 _ g s0_0 t290 t291 from (qW11 NB0_273.out)) (qW2 HO288.out) (by decide)) hk (fun _ h => h.2)) (fun _ h => h.1)); replace HO294 := Aside0.mk (Kd.R_mono (Kd.R_keep (IsS54.apart (show IsS54 w0 _ g s0_0 t290 t291 from (qW11 NB0_273.out)) (qW2 HO294.out) (by decide)) hk (fun _ h => h.2)) (fun _ h => h.1)); replace HK := Aside0.mk (KeepBut.trans (qW17 GW273.out) hk (.inl rfl)); replace HB := Aside0.mk (hb); replace HI0 := Aside0.mk (hi); clear hb hk hi) | ((with_reducible refine gate_dst (N := 3) rfl ?_); refine box_event ?hg (N := 3) ?hd (cs := #[.int .i64 0, .int .i64 0, .int .i64 0, .int .i64 0, .int .i64 0]) (t := 59) ?hr ?_; (case hd => rfl); (case hg => rfl); (case hr => exact (qW22)); intro gb298 hg w23 hbox hb; replace HO282 := Aside0.mk (Kd.R_below (qW2 HO282.out) hb); replace HO288 := Aside0.mk (Kd.R_below (qW2 HO288.out) hb); replace HO294 := Aside0.mk (Kd.R_below (qW2 HO294.out) hb); replace HB := Aside0.mk (below_step (qW21 GE273.out) hb); have BK298 := Aside0.mk (hbox); have GW298 := Aside0.mk ((by rw [hg]; exact (keep_size (w := w) (g := g) (row := none) (qW17 GW273.out)) : w.heap.size ≤ gb298)); have GE298 := Aside0.mk ((Nat.le_trans HW0.out (by rw [hg]; exact (keep_size (w := w) (g := g) (row := none) (qW17 GW273.out)) : w.heap.size ≤ gb298) : w0.heap.size ≤ gb298)); replace HK := Aside0.mk (KeepBut.trans (qW17 GW273.out) (KeepBut.of_below hb g none) (.inl rfl)); have NB273_298 := Aside0.mk ((by rw [hg]; exact Nat.ne_of_lt (blk_lt (g := gb273) (o := .cells #[.int .i64 0, .int .i64 0, .int .i64 0, .int .i64 0, .int .i64 0] 59 (0, 0)) (qW5 BK273.out)) : gb273 ≠ gb298)); have NB298_273 := Aside0.mk ((by rw [hg]; exact Nat.ne_of_gt (blk_lt (g := gb273) (o := .cells #[.int .i64 0, .int .i64 0, .int .i64 0, .int .i64 0, .int .i64 0] 59 (0, 0)) (qW5 BK273.out)) : gb298 ≠ gb273)); replace BK273 := Aside0.mk (blk_below (g := gb273) (o := .cells #[.int .i64 0, .int .i64 0, .int .i64 0, .int .i64 0, .int .i64 0] 59 (0, 0)) (qW5 BK273.out) hb); have NB0_298 := Aside0.mk ((by rw [hg]; exact Nat.ne_of_lt (IsS54.lt (show IsS54 w0 _ g s0_0 t296 t297 from (qW11 NB0_273.out))) : g ≠ gb298)); have NB298_0 := Aside0.mk ((by rw [hg]; exact Nat.ne_of_gt (IsS54.lt (show IsS54 w0 _ g s0_0 t296 t297 from (qW11 NB0_273.out))) : gb298 ≠ g)); replace HI0 := Aside0.mk (IsS54.below (qW11 NB0_273.out) hb); clear hb hbox hg; have hnb24 := NB298_273.out; have hnc24 := NB273_298.out; have hnb25 := NB298_0.out; have hnc25 := NB0_298.out; have hcz26_0 : w23.cell? ⟨gb298, 0, none⟩ = some (.int .i64 0) := (blk_cell BK298.out 0).trans rfl; have hcz26_1 : w23.cell? ⟨gb298, 1, none⟩ = some (.int .i64 0) := (blk_cell BK298.out 1).trans rfl; have hcz26_2 : w23.cell? ⟨gb298, 2, none⟩ = some (.int .i64 0) := (blk_cell BK298.out 2).trans rfl; have hcz26_3 : w23.cell? ⟨gb298, 3, none⟩ = some (.int .i64 0) := (blk_cell BK298.out 3).trans rfl; have hcz26_4 : w23.cell? ⟨gb298, 4, none⟩ = some (.int .i64 0) := (blk_cell BK298.out 4).trans rfl; have hfz26_0 := blk_frozen BK298.out 0; have hfz26_1 := blk_frozen BK298.out 1; have hfz26_2 := blk_frozen BK298.out 2; have hfz26_3 := blk_frozen BK298.out 3; have hfz26_4 := blk_frozen BK298.out 4))
 (try simp only [Act.put, List.setIfInBounds_toArray, List.set_cons_zero, List.set_cons_succ])
 go_cut [] (fun wc => ∃ (kq : Nat) (x299001_6 : Int), Aside0 (spec_l1Cur_leg.j0 kq s0_0 t296 t297 t274 x299001_6 t283 t289 t295 = some (r1, r2, r3, r4, r5, r6, r7)) ∧ Aside0 (kq ≤ k) ∧ Aside0 (wc.heap[gb273]? = some (.cells #[.int .i64 0, .int .i64 0, .int .i64 0, .int .i64 0, .int .i64 0] 59 (0, 0))) ∧ Aside0 (wc.heap[gb298]? = some (.cells #[.int .i64 t274, .int .i64 x299001_6, .int .i64 t283, .int .i64 t289, .int .i64 t295] 59 (0, 0))) ∧ Aside0 (IsS54 w0 wc g s0_0 t296 t297) ∧ Aside0 (KeepBut w wc g none) ∧ Aside0 (Below w0.heap.size w0 wc))
 case first =>
  have H := HC7.out
  clear HC7
  by_cases c27 : t274 = t277
  ·rw [if_pos c27] at H
   have c27b0 : (t274 == t277) = true := beq_iff_eq.mpr c27
   have c27b1 : (t274 != t277) = false := bne_eq_false_iff_eq.mpr c27
   clear c27
   (first | rw [c27b0] | (simp only [i64_w, i32_w]; rw [c27b0]) | skip)
   have H' := Aside0.mk H
   clear H
   have hnb28 := NB298_273.out
   have hnc28 := NB273_298.out
   have hnb29 := NB298_0.out
   have hnc29 := NB0_298.out
   have hcz30_0 : w23.cell? ⟨gb298, 0, none⟩ = some (.int .i64 0) := (blk_cell BK298.out 0).trans rfl
   have hcz30_1 : w23.cell? ⟨gb298, 1, none⟩ = some (.int .i64 0) := (blk_cell BK298.out 1).trans rfl
   have hcz30_2 : w23.cell? ⟨gb298, 2, none⟩ = some (.int .i64 0) := (blk_cell BK298.out 2).trans rfl
   have hcz30_3 : w23.cell? ⟨gb298, 3, none⟩ = some (.int .i64 0) := (blk_cell BK298.out 3).trans rfl
   have hcz30_4 : w23.cell? ⟨gb298, 4, none⟩ = some (.int .i64 0) := (blk_cell BK298.out 4).trans rfl
   have hfz30_0 := blk_frozen BK298.out 0
   have hfz30_1 := blk_frozen BK298.out 1
   have hfz30_2 := blk_frozen BK298.out 2
   have hfz30_3 := blk_frozen BK298.out 3
   have hfz30_4 := blk_frozen BK298.out 4
   go_wp2
   go_meet
   case rel => exact ⟨_, (Int.tmod (wrap64 (t277 + 1)) 6), H', ⟨by first | omega | exact Nat.le_refl _⟩, ⟨(by (with_reducible repeat (first | refine blk_drewN ?_ _ | refine blk_drew ?_ | refine blk_alloc ?_ _)); refine blk_far ?_ NB273_298.out _; (with_reducible repeat (first | refine blk_drewN ?_ _ | refine blk_drew ?_ | refine blk_alloc ?_ _)); refine blk_far ?_ NB273_298.out _; (with_reducible repeat (first | refine blk_drewN ?_ _ | refine blk_drew ?_ | refine blk_alloc ?_ _)); refine blk_far ?_ NB273_298.out _; (with_reducible repeat (first | refine blk_drewN ?_ _ | refine blk_drew ?_ | refine blk_alloc ?_ _)); refine blk_far ?_ NB273_298.out _; (with_reducible repeat (first | refine blk_drewN ?_ _ | refine blk_drew ?_ | refine blk_alloc ?_ _)); refine blk_far ?_ NB273_298.out _; (with_reducible repeat (first | refine blk_drewN ?_ _ | refine blk_drew ?_ | refine blk_alloc ?_ _)); refine blk_far ?_ NB273_298.out _; (with_reducible repeat (first | refine blk_drewN ?_ _ | refine blk_drew ?_ | refine blk_alloc ?_ _)); exact BK273.out)⟩, ⟨(by (with_reducible repeat (first | refine blk_drewN ?_ _ | refine blk_drew ?_ | refine blk_alloc ?_ _)); refine blk_put (cs := #[.int .i64 t274, .int .i64 t277, .int .i64 t283, .int .i64 t289, .int .i64 t295]) ?_ 1 _ rfl; (with_reducible repeat (first | refine blk_drewN ?_ _ | refine blk_drew ?_ | refine blk_alloc ?_ _)); refine blk_put (cs := #[.int .i64 t274, .int .i64 t277, .int .i64 t283, .int .i64 t289, .int .i64 0]) ?_ 4 _ rfl; (with_reducible repeat (first | refine blk_drewN ?_ _ | refine blk_drew ?_ | refine blk_alloc ?_ _)); refine blk_put (cs := #[.int .i64 t274, .int .i64 t277, .int .i64 t283, .int .i64 0, .int .i64 0]) ?_ 3 _ rfl; (with_reducible repeat (first | refine blk_drewN ?_ _ | refine blk_drew ?_ | refine blk_alloc ?_ _)); refine blk_put (cs := #[.int .i64 t274, .int .i64 t277, .int .i64 0, .int .i64 0, .int .i64 0]) ?_ 2 _ rfl; (with_reducible repeat (first | refine blk_drewN ?_ _ | refine blk_drew ?_ | refine blk_alloc ?_ _)); refine blk_put (cs := #[.int .i64 t274, .int .i64 0, .int .i64 0, .int .i64 0, .int .i64 0]) ?_ 1 _ rfl; (with_reducible repeat (first | refine blk_drewN ?_ _ | refine blk_drew ?_ | refine blk_alloc ?_ _)); refine blk_put (cs := #[.int .i64 0, .int .i64 0, .int .i64 0, .int .i64 0, .int .i64 0]) ?_ 0 _ rfl; (with_reducible repeat (first | refine blk_drewN ?_ _ | refine blk_drew ?_ | refine blk_alloc ?_ _)); exact BK298.out)⟩, ⟨(qW12)⟩, ⟨(qW15)⟩, ⟨(qW16)⟩⟩
  ·rw [if_neg c27] at H
   have c27b0 : (t274 == t277) = false := beq_eq_false_iff_ne.mpr c27
   have c27b1 : (t274 != t277) = true := bne_iff_ne.mpr c27
   (first | rw [c27b0] | (simp only [i64_w, i32_w]; rw [c27b0]) | skip)
   have H' := Aside0.mk H
   clear H
   go_wp2
   go_meet
   case rel => exact ⟨_, (t277), H', ⟨by first | omega | exact Nat.le_refl _⟩, ⟨(qW19 NB273_298.out BK273.out)⟩, ⟨(by (with_reducible repeat (first | refine blk_drewN ?_ _ | refine blk_drew ?_ | refine blk_alloc ?_ _)); refine blk_put (cs := #[.int .i64 t274, .int .i64 t277, .int .i64 t283, .int .i64 t289, .int .i64 0]) ?_ 4 _ rfl; (with_reducible repeat (first | refine blk_drewN ?_ _ | refine blk_drew ?_ | refine blk_alloc ?_ _)); refine blk_put (cs := #[.int .i64 t274, .int .i64 t277, .int .i64 t283, .int .i64 0, .int .i64 0]) ?_ 3 _ rfl; (with_reducible repeat (first | refine blk_drewN ?_ _ | refine blk_drew ?_ | refine blk_alloc ?_ _)); refine blk_put (cs := #[.int .i64 t274, .int .i64 t277, .int .i64 0, .int .i64 0, .int .i64 0]) ?_ 2 _ rfl; (with_reducible repeat (first | refine blk_drewN ?_ _ | refine blk_drew ?_ | refine blk_alloc ?_ _)); refine blk_put (cs := #[.int .i64 t274, .int .i64 0, .int .i64 0, .int .i64 0, .int .i64 0]) ?_ 1 _ rfl; (with_reducible repeat (first | refine blk_drewN ?_ _ | refine blk_drew ?_ | refine blk_alloc ?_ _)); refine blk_put (cs := #[.int .i64 0, .int .i64 0, .int .i64 0, .int .i64 0, .int .i64 0]) ?_ 0 _ rfl; (with_reducible repeat (first | refine blk_drewN ?_ _ | refine blk_drew ?_ | refine blk_alloc ?_ _)); exact BK298.out)⟩, ⟨(qW12)⟩, ⟨(qW15)⟩, ⟨(qW16)⟩⟩
 case rest =>
  clear HC7
  try clear c2
  try clear p2
  try clear c3
  try clear c4
  try clear p6
  try clear c24
  try clear c25
  try clear c27
  try clear c27b0
  try clear c27b1
  try clear c28
  try clear c29
  try clear hcz26_0
  try clear hcz26_1
  try clear hcz26_2
  try clear hcz26_3
  try clear hcz26_4
  try clear hcz30_0
  try clear hcz30_1
  try clear hcz30_2
  try clear hcz30_3
  try clear hcz30_4
  try clear hfz26_0
  try clear hfz26_1
  try clear hfz26_2
  try clear hfz26_3
  try clear hfz26_4
  try clear hfz30_0
  try clear hfz30_1
  try clear hfz30_2
  try clear hfz30_3
  try clear hfz30_4
  obtain ⟨kq, x299001_6, HA, HJ6, BK273, BK298, HI0, HK, HB⟩ := hcut
  cases kq with
  | zero => exact absurd HA.out (by simp [spec_l1Cur_leg.j0])
  | succ kj6 =>
   have H := HA.out
   clear HA
   simp only [spec_l1Cur_leg.j0] at H
   replace H := Option.bind_eq_some_iff.mp H; obtain ⟨⟨t299, t300, t301⟩, A310, H⟩ := H
   try dsimp only at H
   have A31 := Aside0.mk A310; clear A310
   by_cases c32 : t299 = 0
   ·rw [if_pos c32] at H
    have c32b0 : (t299 == 0) = true := beq_iff_eq.mpr c32
    have c32b1 : (t299 != 0) = false := bne_eq_false_iff_eq.mpr c32
    clear c32
    obtain ⟨y302, hy302⟩ : ∃ y_ : List Int, y_ = (([(-1), 7, 8, t274] : List Int)) := ⟨_, rfl⟩
    replace H : ((spec_l1Cur_among.f s0_0 t300 t301 y302).bind fun bt305 => (some (t274, bt305.1, t283, t289, t295, bt305.2.1, bt305.2.2))) = some (r1, r2, r3, r4, r5, r6, r7) := (qW7 hy302)
    have Ny302 := Aside0.mk hy302; clear hy302; replace H := Option.bind_eq_some_iff.mp H; obtain ⟨⟨t305, t306, t307⟩, A330, H⟩ := H
    try dsimp only at H
    have A33 := Aside0.mk A330; clear A330
    simp only [Option.some.injEq, Prod.mk.injEq] at H
    obtain ⟨rfl, rfl, rfl, rfl, rfl, rfl, rfl⟩ := H
    go_wp2_with (first | ((with_reducible refine gate_callee (f := 31) rfl ?_); refine goesL_ (some 29) rfl rfl Tryd.func31 (by kernel_rfl) rfl #[.pointer (some ⟨g, 0, none⟩), .int .i64 40] rfl (qW1) ?_; (with_reducible refine (spec_l1Cur_pick.calls g s0_0 t296 t297 40 t299 t300 t301 w0 _ ?side1 ?side2 A31.out).mono ?_); (case side1 => exact (qW12)); (case side2 => exact (qW16)); rintro e w34 ⟨rfl, hi, hb, hk⟩; refine ⟨_, rfl, ?_⟩; replace BK273 := Aside0.mk (KeepBut.blk hk (g' := gb273) (o := .cells #[.int .i64 0, .int .i64 0, .int .i64 0, .int .i64 0, .int .i64 0] 59 (0, 0)) (qW5 BK273.out) NB273_0.out (by simp)); replace BK298 := Aside0.mk (KeepBut.blk hk (g' := gb298) (o := .cells #[.int .i64 t274, .int .i64 x299001_6, .int .i64 t283, .int .i64 t289, .int .i64 t295] 59 (0, 0)) (qW5 BK298.out) NB298_0.out (by simp)); replace HK := Aside0.mk (KeepBut.trans (qW15) hk (.inl rfl)); replace HB := Aside0.mk (hb); replace HI0 := Aside0.mk (hi); clear hb hk hi; have hnb35 := NB298_273.out; have hnc35 := NB273_298.out; have hnb36 := NB298_0.out; have hnc36 := NB0_298.out; have hcz37_0 : w34.cell? ⟨gb298, 0, none⟩ = some (.int .i64 t274) := (blk_cell BK298.out 0).trans rfl; have hcz37_1 : w34.cell? ⟨gb298, 1, none⟩ = some (.int .i64 x299001_6) := (blk_cell BK298.out 1).trans rfl; have hcz37_2 : w34.cell? ⟨gb298, 2, none⟩ = some (.int .i64 t283) := (blk_cell BK298.out 2).trans rfl; have hcz37_3 : w34.cell? ⟨gb298, 3, none⟩ = some (.int .i64 t289) := (blk_cell BK298.out 3).trans rfl; have hcz37_4 : w34.cell? ⟨gb298, 4, none⟩ = some (.int .i64 t295) := (blk_cell BK298.out 4).trans rfl; have hfz37_0 := blk_frozen BK298.out 0; have hfz37_1 := blk_frozen BK298.out 1; have hfz37_2 := blk_frozen BK298.out 2; have hfz37_3 := blk_frozen BK298.out 3; have hfz37_4 := blk_frozen BK298.out 4) | ((with_reducible refine gate_dst (N := 35) rfl ?_); refine Kd.R_lit (Kd.int .i64) _ 3 ?hg (N := 35) ?hd (xs := ([(-1), 7, 8, t274] : List Int)) (inner := [.int .i64 (-1), .int .i64 7, .int .i64 8, .int .i64 t274]) (ok := fun _ => True) (okp := fun _ => True) ?hr ?hp (fun _ hk => hk) trivial (Below.refl _ _) (Nat.le_refl _) (by simp) ?_; (case hd => rfl); (case hg => rfl); (case hr => exact (qW22)); (case hp => exact (by exact (Reps.one (show Kd.M (Kd.int .i64) _ _ _ (-1) [.int .i64 (-1)] from rfl) (Reps.one (show Kd.M (Kd.int .i64) _ _ _ 7 [.int .i64 7] from rfl) (Reps.one (show Kd.M (Kd.int .i64) _ _ _ 8 [.int .i64 8] from rfl) (Reps.one (show Kd.M (Kd.int .i64) _ _ _ t274 [.int .i64 t274] from rfl) (Reps.none _ _))))))); intro v303 w38 ho39 hb hg_ hnew_; clear hg_ hnew_; (first | rw [← Ny302.out] at ho39 | (simp only [Int.reduceToNat] at ho39; rw [← Ny302.out] at ho39)); have HO304 := Aside0.mk (Kd.R_lower ho39 (keep_size (w := w) (g := g) (row := none) (qW15))); replace BK273 := Aside0.mk (blk_below (g := gb273) (o := .cells #[.int .i64 0, .int .i64 0, .int .i64 0, .int .i64 0, .int .i64 0] 59 (0, 0)) (qW5 BK273.out) hb); replace BK298 := Aside0.mk (blk_below (g := gb298) (o := .cells #[.int .i64 t274, .int .i64 x299001_6, .int .i64 t283, .int .i64 t289, .int .i64 t295] 59 (0, 0)) (qW5 BK298.out) hb); replace HK := Aside0.mk (KeepBut.trans (qW15) (KeepBut.of_below hb g none) (.inl rfl)); replace HB := Aside0.mk (below_step (qW16) hb); replace HI0 := Aside0.mk (IsS54.below (qW12) hb); clear hb ho39; obtain ⟨Ao40, co40, eo40⟩ := Kd.R_slice HO304.out; subst eo40) | ((with_reducible refine gate_callee (f := 42) rfl ?_); refine goesL_ (some 36) rfl rfl Tryd.func42 (by kernel_rfl) rfl #[.pointer (some ⟨g, 0, none⟩), .slice Ao40 y302.length co40] rfl (qW1) ?_; (with_reducible refine (spec_l1Cur_among.calls g s0_0 t300 t301 _ _ y302 t305 t306 t307 w0 _ ?side1 ?side2 ?side3 ?side4 ?side5 A33.out).mono ?_); (case side1 => exact (qW12)); (case side2 => exact (qW16)); (case side3 => exact (qW6 HO304.out)); (case side4 => exact (qW41 HO304.out)); (case side5 => exact (qW47 HO304.out)); rintro e w41 ⟨rfl, hi, hb, hk⟩; refine ⟨_, rfl, ?_⟩; replace BK273 := Aside0.mk (KeepBut.blk hk (g' := gb273) (o := .cells #[.int .i64 0, .int .i64 0, .int .i64 0, .int .i64 0, .int .i64 0] 59 (0, 0)) (qW5 BK273.out) NB273_0.out (by simp)); replace BK298 := Aside0.mk (KeepBut.blk hk (g' := gb298) (o := .cells #[.int .i64 t274, .int .i64 x299001_6, .int .i64 t283, .int .i64 t289, .int .i64 t295] 59 (0, 0)) (qW5 BK298.out) NB298_0.out (by simp)); replace HO304 := Aside0.mk (Kd.R_mono (Kd.R_keep (IsS54.apart (show IsS54 w0 _ g s0_0 t300 t301 from (qW12)) (qW2 HO304.out) (by decide)) hk (fun _ h => h.2)) (fun _ h => h.1)); replace HK := Aside0.mk (KeepBut.trans (qW15) hk (.inl rfl)); replace HB := Aside0.mk (hb); replace HI0 := Aside0.mk (hi); clear hb hk hi; have hcz42_0 : w41.cell? ⟨gb298, 0, none⟩ = some (.int .i64 t274) := (blk_cell BK298.out 0).trans rfl; have hcz42_1 : w41.cell? ⟨gb298, 1, none⟩ = some (.int .i64 x299001_6) := (blk_cell BK298.out 1).trans rfl; have hcz42_2 : w41.cell? ⟨gb298, 2, none⟩ = some (.int .i64 t283) := (blk_cell BK298.out 2).trans rfl; have hcz42_3 : w41.cell? ⟨gb298, 3, none⟩ = some (.int .i64 t289) := (blk_cell BK298.out 3).trans rfl; have hcz42_4 : w41.cell? ⟨gb298, 4, none⟩ = some (.int .i64 t295) := (blk_cell BK298.out 4).trans rfl; have hfz42_0 := blk_frozen BK298.out 0; have hfz42_1 := blk_frozen BK298.out 1; have hfz42_2 := blk_frozen BK298.out 2; have hfz42_3 := blk_frozen BK298.out 3; have hfz42_4 := blk_frozen BK298.out 4; have hnb43 := NB273_0.out; have hnc43 := NB0_273.out; have hcz44_0 : w41.cell? ⟨gb273, 0, none⟩ = some (.int .i64 0) := (blk_cell BK273.out 0).trans rfl; have hcz44_1 : w41.cell? ⟨gb273, 1, none⟩ = some (.int .i64 0) := (blk_cell BK273.out 1).trans rfl; have hcz44_2 : w41.cell? ⟨gb273, 2, none⟩ = some (.int .i64 0) := (blk_cell BK273.out 2).trans rfl; have hcz44_3 : w41.cell? ⟨gb273, 3, none⟩ = some (.int .i64 0) := (blk_cell BK273.out 3).trans rfl; have hcz44_4 : w41.cell? ⟨gb273, 4, none⟩ = some (.int .i64 0) := (blk_cell BK273.out 4).trans rfl; have hfz44_0 := blk_frozen BK273.out 0; have hfz44_1 := blk_frozen BK273.out 1; have hfz44_2 := blk_frozen BK273.out 2; have hfz44_3 := blk_frozen BK273.out 3; have hfz44_4 := blk_frozen BK273.out 4))
    refine bodyPost_ret (results_cell_row rfl _ _ gb273 59 #[.int .i64 t274, .int .i64 t305, .int .i64 t283, .int .i64 t289, .int .i64 t295] (0, 0) _ rfl (by (with_reducible repeat (first | refine blk_drewN ?_ _ | refine blk_drew ?_ | refine blk_alloc ?_ _)); refine blk_put (cs := #[.int .i64 t274, .int .i64 t305, .int .i64 t283, .int .i64 t289, .int .i64 0]) ?_ 4 _ rfl; (with_reducible repeat (first | refine blk_drewN ?_ _ | refine blk_drew ?_ | refine blk_alloc ?_ _)); refine blk_put (cs := #[.int .i64 t274, .int .i64 t305, .int .i64 t283, .int .i64 0, .int .i64 0]) ?_ 3 _ rfl; (with_reducible repeat (first | refine blk_drewN ?_ _ | refine blk_drew ?_ | refine blk_alloc ?_ _)); refine blk_put (cs := #[.int .i64 t274, .int .i64 t305, .int .i64 0, .int .i64 0, .int .i64 0]) ?_ 2 _ rfl; (with_reducible repeat (first | refine blk_drewN ?_ _ | refine blk_drew ?_ | refine blk_alloc ?_ _)); refine blk_put (cs := #[.int .i64 t274, .int .i64 0, .int .i64 0, .int .i64 0, .int .i64 0]) ?_ 1 _ rfl; (with_reducible repeat (first | refine blk_drewN ?_ _ | refine blk_drew ?_ | refine blk_alloc ?_ _)); refine blk_put (cs := #[.int .i64 0, .int .i64 0, .int .i64 0, .int .i64 0, .int .i64 0]) ?_ 0 _ rfl; (with_reducible repeat (first | refine blk_drewN ?_ _ | refine blk_drew ?_ | refine blk_alloc ?_ _)); refine blk_far ?_ NB273_298.out _; (with_reducible repeat (first | refine blk_drewN ?_ _ | refine blk_drew ?_ | refine blk_alloc ?_ _)); exact BK273.out) Tryd.underlying59 rfl (by kernel_rfl)) rfl ?_
    exact ⟨(qW9), (qW12), (qW16), (qW15)⟩
   ·rw [if_neg c32] at H
    have c32b0 : (t299 == 0) = false := beq_eq_false_iff_ne.mpr c32
    have c32b1 : (t299 != 0) = true := bne_iff_ne.mpr c32
    by_cases c45 : t299 = 1
    ·rw [if_pos c45] at H
     have c45b0 : (t299 == 1) = true := beq_iff_eq.mpr c45
     have c45b1 : (t299 != 1) = false := bne_eq_false_iff_eq.mpr c45
     clear c45
     obtain ⟨y308, hy308⟩ : ∃ y_ : List Int, y_ = (([0, 501] : List Int)) := ⟨_, rfl⟩
     replace H : ((spec_l1Cur_among.f s0_0 t300 t301 y308).bind fun bt311 => (some (t274, x299001_6, bt311.1, t289, t295, bt311.2.1, bt311.2.2))) = some (r1, r2, r3, r4, r5, r6, r7) := (qW7 hy308)
     have Ny308 := Aside0.mk hy308; clear hy308; replace H := Option.bind_eq_some_iff.mp H; obtain ⟨⟨t311, t312, t313⟩, A460, H⟩ := H
     try dsimp only at H
     have A46 := Aside0.mk A460; clear A460
     simp only [Option.some.injEq, Prod.mk.injEq] at H
     obtain ⟨rfl, rfl, rfl, rfl, rfl, rfl, rfl⟩ := H
     go_wp2_with (first | ((with_reducible refine gate_callee (f := 31) rfl ?_); refine goesL_ (some 29) rfl rfl Tryd.func31 (by kernel_rfl) rfl #[.pointer (some ⟨g, 0, none⟩), .int .i64 40] rfl (qW1) ?_; (with_reducible refine (spec_l1Cur_pick.calls g s0_0 t296 t297 40 t299 t300 t301 w0 _ ?side1 ?side2 A31.out).mono ?_); (case side1 => exact (qW12)); (case side2 => exact (qW16)); rintro e w47 ⟨rfl, hi, hb, hk⟩; refine ⟨_, rfl, ?_⟩; replace BK273 := Aside0.mk (KeepBut.blk hk (g' := gb273) (o := .cells #[.int .i64 0, .int .i64 0, .int .i64 0, .int .i64 0, .int .i64 0] 59 (0, 0)) (qW5 BK273.out) NB273_0.out (by simp)); replace BK298 := Aside0.mk (KeepBut.blk hk (g' := gb298) (o := .cells #[.int .i64 t274, .int .i64 x299001_6, .int .i64 t283, .int .i64 t289, .int .i64 t295] 59 (0, 0)) (qW5 BK298.out) NB298_0.out (by simp)); replace HK := Aside0.mk (KeepBut.trans (qW15) hk (.inl rfl)); replace HB := Aside0.mk (hb); replace HI0 := Aside0.mk (hi); clear hb hk hi) | ((with_reducible refine gate_dst (N := 41) rfl ?_); refine Kd.R_lit (Kd.int .i64) _ 3 ?hg (N := 41) ?hd (xs := ([0, 501] : List Int)) (inner := [.int .i64 0, .int .i64 501]) (ok := fun _ => True) (okp := fun _ => True) ?hr ?hp (fun _ hk => hk) trivial (Below.refl _ _) (Nat.le_refl _) (by simp) ?_; (case hd => rfl); (case hg => rfl); (case hr => exact (qW22)); (case hp => exact (by exact (Reps.one (show Kd.M (Kd.int .i64) _ _ _ 0 [.int .i64 0] from rfl) (Reps.one (show Kd.M (Kd.int .i64) _ _ _ 501 [.int .i64 501] from rfl) (Reps.none _ _))))); intro v309 w48 ho49 hb hg_ hnew_; clear hg_ hnew_; (first | rw [← Ny308.out] at ho49 | (simp only [Int.reduceToNat] at ho49; rw [← Ny308.out] at ho49)); have HO310 := Aside0.mk (Kd.R_lower ho49 (keep_size (w := w) (g := g) (row := none) (qW15))); replace BK273 := Aside0.mk (blk_below (g := gb273) (o := .cells #[.int .i64 0, .int .i64 0, .int .i64 0, .int .i64 0, .int .i64 0] 59 (0, 0)) (qW5 BK273.out) hb); replace BK298 := Aside0.mk (blk_below (g := gb298) (o := .cells #[.int .i64 t274, .int .i64 x299001_6, .int .i64 t283, .int .i64 t289, .int .i64 t295] 59 (0, 0)) (qW5 BK298.out) hb); replace HK := Aside0.mk (KeepBut.trans (qW15) (KeepBut.of_below hb g none) (.inl rfl)); replace HB := Aside0.mk (below_step (qW16) hb); replace HI0 := Aside0.mk (IsS54.below (qW12) hb); clear hb ho49; obtain ⟨Ao50, co50, eo50⟩ := Kd.R_slice HO310.out; subst eo50) | ((with_reducible refine gate_callee (f := 42) rfl ?_); refine goesL_ (some 42) rfl rfl Tryd.func42 (by kernel_rfl) rfl #[.pointer (some ⟨g, 0, none⟩), .slice Ao50 y308.length co50] rfl (qW1) ?_; (with_reducible refine (spec_l1Cur_among.calls g s0_0 t300 t301 _ _ y308 t311 t312 t313 w0 _ ?side1 ?side2 ?side3 ?side4 ?side5 A46.out).mono ?_); (case side1 => exact (qW12)); (case side2 => exact (qW16)); (case side3 => exact (qW6 HO310.out)); (case side4 => exact (qW41 HO310.out)); (case side5 => exact (qW47 HO310.out)); rintro e w51 ⟨rfl, hi, hb, hk⟩; refine ⟨_, rfl, ?_⟩; replace BK273 := Aside0.mk (KeepBut.blk hk (g' := gb273) (o := .cells #[.int .i64 0, .int .i64 0, .int .i64 0, .int .i64 0, .int .i64 0] 59 (0, 0)) (qW5 BK273.out) NB273_0.out (by simp)); replace BK298 := Aside0.mk (KeepBut.blk hk (g' := gb298) (o := .cells #[.int .i64 t274, .int .i64 x299001_6, .int .i64 t283, .int .i64 t289, .int .i64 t295] 59 (0, 0)) (qW5 BK298.out) NB298_0.out (by simp)); replace HO310 := Aside0.mk (Kd.R_mono (Kd.R_keep (IsS54.apart (show IsS54 w0 _ g s0_0 t300 t301 from (qW12)) (qW2 HO310.out) (by decide)) hk (fun _ h => h.2)) (fun _ h => h.1)); replace HK := Aside0.mk (KeepBut.trans (qW15) hk (.inl rfl)); replace HB := Aside0.mk (hb); replace HI0 := Aside0.mk (hi); clear hb hk hi; have hnb52 := NB298_273.out; have hnc52 := NB273_298.out; have hnb53 := NB298_0.out; have hnc53 := NB0_298.out; have hcz54_0 : w51.cell? ⟨gb298, 0, none⟩ = some (.int .i64 t274) := (blk_cell BK298.out 0).trans rfl; have hcz54_1 : w51.cell? ⟨gb298, 1, none⟩ = some (.int .i64 x299001_6) := (blk_cell BK298.out 1).trans rfl; have hcz54_2 : w51.cell? ⟨gb298, 2, none⟩ = some (.int .i64 t283) := (blk_cell BK298.out 2).trans rfl; have hcz54_3 : w51.cell? ⟨gb298, 3, none⟩ = some (.int .i64 t289) := (blk_cell BK298.out 3).trans rfl; have hcz54_4 : w51.cell? ⟨gb298, 4, none⟩ = some (.int .i64 t295) := (blk_cell BK298.out 4).trans rfl; have hfz54_0 := blk_frozen BK298.out 0; have hfz54_1 := blk_frozen BK298.out 1; have hfz54_2 := blk_frozen BK298.out 2; have hfz54_3 := blk_frozen BK298.out 3; have hfz54_4 := blk_frozen BK298.out 4; have hnb55 := NB273_0.out; have hnc55 := NB0_273.out; have hcz56_0 : w51.cell? ⟨gb273, 0, none⟩ = some (.int .i64 0) := (blk_cell BK273.out 0).trans rfl; have hcz56_1 : w51.cell? ⟨gb273, 1, none⟩ = some (.int .i64 0) := (blk_cell BK273.out 1).trans rfl; have hcz56_2 : w51.cell? ⟨gb273, 2, none⟩ = some (.int .i64 0) := (blk_cell BK273.out 2).trans rfl; have hcz56_3 : w51.cell? ⟨gb273, 3, none⟩ = some (.int .i64 0) := (blk_cell BK273.out 3).trans rfl; have hcz56_4 : w51.cell? ⟨gb273, 4, none⟩ = some (.int .i64 0) := (blk_cell BK273.out 4).trans rfl; have hfz56_0 := blk_frozen BK273.out 0; have hfz56_1 := blk_frozen BK273.out 1; have hfz56_2 := blk_frozen BK273.out 2; have hfz56_3 := blk_frozen BK273.out 3; have hfz56_4 := blk_frozen BK273.out 4))
     refine bodyPost_ret (results_cell_row rfl _ _ gb273 59 #[.int .i64 t274, .int .i64 x299001_6, .int .i64 t311, .int .i64 t289, .int .i64 t295] (0, 0) _ rfl (by (with_reducible repeat (first | refine blk_drewN ?_ _ | refine blk_drew ?_ | refine blk_alloc ?_ _)); refine blk_put (cs := #[.int .i64 t274, .int .i64 x299001_6, .int .i64 t311, .int .i64 t289, .int .i64 0]) ?_ 4 _ rfl; (with_reducible repeat (first | refine blk_drewN ?_ _ | refine blk_drew ?_ | refine blk_alloc ?_ _)); refine blk_put (cs := #[.int .i64 t274, .int .i64 x299001_6, .int .i64 t311, .int .i64 0, .int .i64 0]) ?_ 3 _ rfl; (with_reducible repeat (first | refine blk_drewN ?_ _ | refine blk_drew ?_ | refine blk_alloc ?_ _)); refine blk_put (cs := #[.int .i64 t274, .int .i64 x299001_6, .int .i64 0, .int .i64 0, .int .i64 0]) ?_ 2 _ rfl; (with_reducible repeat (first | refine blk_drewN ?_ _ | refine blk_drew ?_ | refine blk_alloc ?_ _)); refine blk_put (cs := #[.int .i64 t274, .int .i64 0, .int .i64 0, .int .i64 0, .int .i64 0]) ?_ 1 _ rfl; (with_reducible repeat (first | refine blk_drewN ?_ _ | refine blk_drew ?_ | refine blk_alloc ?_ _)); refine blk_put (cs := #[.int .i64 0, .int .i64 0, .int .i64 0, .int .i64 0, .int .i64 0]) ?_ 0 _ rfl; (with_reducible repeat (first | refine blk_drewN ?_ _ | refine blk_drew ?_ | refine blk_alloc ?_ _)); refine blk_far ?_ NB273_298.out _; (with_reducible repeat (first | refine blk_drewN ?_ _ | refine blk_drew ?_ | refine blk_alloc ?_ _)); exact BK273.out) Tryd.underlying59 rfl (by kernel_rfl)) rfl ?_
     exact ⟨(qW9), (qW12), (qW16), (qW15)⟩
    ·rw [if_neg c45] at H
     have c45b0 : (t299 == 1) = false := beq_eq_false_iff_ne.mpr c45
     have c45b1 : (t299 != 1) = true := bne_iff_ne.mpr c45
     by_cases c57 : t299 = 2
     ·rw [if_pos c57] at H
      have c57b0 : (t299 == 2) = true := beq_iff_eq.mpr c57
      have c57b1 : (t299 != 2) = false := bne_eq_false_iff_eq.mpr c57
      clear c57
      obtain ⟨y314, hy314⟩ : ∃ y_ : List Int, y_ = (([(-1), 360] : List Int)) := ⟨_, rfl⟩
      replace H : ((spec_l1Cur_among.f s0_0 t300 t301 y314).bind fun bt317 => (some (t274, x299001_6, t283, bt317.1, t295, bt317.2.1, bt317.2.2))) = some (r1, r2, r3, r4, r5, r6, r7) := (qW7 hy314)
      have Ny314 := Aside0.mk hy314; clear hy314; replace H := Option.bind_eq_some_iff.mp H; obtain ⟨⟨t317, t318, t319⟩, A580, H⟩ := H
      try dsimp only at H
      have A58 := Aside0.mk A580; clear A580
      simp only [Option.some.injEq, Prod.mk.injEq] at H
      obtain ⟨rfl, rfl, rfl, rfl, rfl, rfl, rfl⟩ := H
      go_wp2_with (first | ((with_reducible refine gate_callee (f := 31) rfl ?_); refine goesL_ (some 29) rfl rfl Tryd.func31 (by kernel_rfl) rfl #[.pointer (some ⟨g, 0, none⟩), .int .i64 40] rfl (qW1) ?_; (with_reducible refine (spec_l1Cur_pick.calls g s0_0 t296 t297 40 t299 t300 t301 w0 _ ?side1 ?side2 A31.out).mono ?_); (case side1 => exact (qW12)); (case side2 => exact (qW16)); rintro e w59 ⟨rfl, hi, hb, hk⟩; refine ⟨_, rfl, ?_⟩; replace BK273 := Aside0.mk (KeepBut.blk hk (g' := gb273) (o := .cells #[.int .i64 0, .int .i64 0, .int .i64 0, .int .i64 0, .int .i64 0] 59 (0, 0)) (qW5 BK273.out) NB273_0.out (by simp)); replace BK298 := Aside0.mk (KeepBut.blk hk (g' := gb298) (o := .cells #[.int .i64 t274, .int .i64 x299001_6, .int .i64 t283, .int .i64 t289, .int .i64 t295] 59 (0, 0)) (qW5 BK298.out) NB298_0.out (by simp)); replace HK := Aside0.mk (KeepBut.trans (qW15) hk (.inl rfl)); replace HB := Aside0.mk (hb); replace HI0 := Aside0.mk (hi); clear hb hk hi) | ((with_reducible refine gate_dst (N := 47) rfl ?_); refine Kd.R_lit (Kd.int .i64) _ 3 ?hg (N := 47) ?hd (xs := ([(-1), 360] : List Int)) (inner := [.int .i64 (-1), .int .i64 360]) (ok := fun _ => True) (okp := fun _ => True) ?hr ?hp (fun _ hk => hk) trivial (Below.refl _ _) (Nat.le_refl _) (by simp) ?_; (case hd => rfl); (case hg => rfl); (case hr => exact (qW22)); (case hp => exact (by exact (Reps.one (show Kd.M (Kd.int .i64) _ _ _ (-1) [.int .i64 (-1)] from rfl) (Reps.one (show Kd.M (Kd.int .i64) _ _ _ 360 [.int .i64 360] from rfl) (Reps.none _ _))))); intro v315 w60 ho61 hb hg_ hnew_; clear hg_ hnew_; (first | rw [← Ny314.out] at ho61 | (simp only [Int.reduceToNat] at ho61; rw [← Ny314.out] at ho61)); have HO316 := Aside0.mk (Kd.R_lower ho61 (keep_size (w := w) (g := g) (row := none) (qW15))); replace BK273 := Aside0.mk (blk_below (g := gb273) (o := .cells #[.int .i64 0, .int .i64 0, .int .i64 0, .int .i64 0, .int .i64 0] 59 (0, 0)) (qW5 BK273.out) hb); replace BK298 := Aside0.mk (blk_below (g := gb298) (o := .cells #[.int .i64 t274, .int .i64 x299001_6, .int .i64 t283, .int .i64 t289, .int .i64 t295] 59 (0, 0)) (qW5 BK298.out) hb); replace HK := Aside0.mk (KeepBut.trans (qW15) (KeepBut.of_below hb g none) (.inl rfl)); replace HB := Aside0.mk (below_step (qW16) hb); replace HI0 := Aside0.mk (IsS54.below (qW12) hb); clear hb ho61; obtain ⟨Ao62, co62, eo62⟩ := Kd.R_slice HO316.out; subst eo62) | ((with_reducible refine gate_callee (f := 42) rfl ?_); refine goesL_ (some 48) rfl rfl Tryd.func42 (by kernel_rfl) rfl #[.pointer (some ⟨g, 0, none⟩), .slice Ao62 y314.length co62] rfl (qW1) ?_; (with_reducible refine (spec_l1Cur_among.calls g s0_0 t300 t301 _ _ y314 t317 t318 t319 w0 _ ?side1 ?side2 ?side3 ?side4 ?side5 A58.out).mono ?_); (case side1 => exact (qW12)); (case side2 => exact (qW16)); (case side3 => exact (qW6 HO316.out)); (case side4 => exact (qW41 HO316.out)); (case side5 => exact (qW47 HO316.out)); rintro e w63 ⟨rfl, hi, hb, hk⟩; refine ⟨_, rfl, ?_⟩; replace BK273 := Aside0.mk (KeepBut.blk hk (g' := gb273) (o := .cells #[.int .i64 0, .int .i64 0, .int .i64 0, .int .i64 0, .int .i64 0] 59 (0, 0)) (qW5 BK273.out) NB273_0.out (by simp)); replace BK298 := Aside0.mk (KeepBut.blk hk (g' := gb298) (o := .cells #[.int .i64 t274, .int .i64 x299001_6, .int .i64 t283, .int .i64 t289, .int .i64 t295] 59 (0, 0)) (qW5 BK298.out) NB298_0.out (by simp)); replace HO316 := Aside0.mk (Kd.R_mono (Kd.R_keep (IsS54.apart (show IsS54 w0 _ g s0_0 t300 t301 from (qW12)) (qW2 HO316.out) (by decide)) hk (fun _ h => h.2)) (fun _ h => h.1)); replace HK := Aside0.mk (KeepBut.trans (qW15) hk (.inl rfl)); replace HB := Aside0.mk (hb); replace HI0 := Aside0.mk (hi); clear hb hk hi; have hnb64 := NB298_273.out; have hnc64 := NB273_298.out; have hnb65 := NB298_0.out; have hnc65 := NB0_298.out; have hcz66_0 : w63.cell? ⟨gb298, 0, none⟩ = some (.int .i64 t274) := (blk_cell BK298.out 0).trans rfl; have hcz66_1 : w63.cell? ⟨gb298, 1, none⟩ = some (.int .i64 x299001_6) := (blk_cell BK298.out 1).trans rfl; have hcz66_2 : w63.cell? ⟨gb298, 2, none⟩ = some (.int .i64 t283) := (blk_cell BK298.out 2).trans rfl; have hcz66_3 : w63.cell? ⟨gb298, 3, none⟩ = some (.int .i64 t289) := (blk_cell BK298.out 3).trans rfl; have hcz66_4 : w63.cell? ⟨gb298, 4, none⟩ = some (.int .i64 t295) := (blk_cell BK298.out 4).trans rfl; have hfz66_0 := blk_frozen BK298.out 0; have hfz66_1 := blk_frozen BK298.out 1; have hfz66_2 := blk_frozen BK298.out 2; have hfz66_3 := blk_frozen BK298.out 3; have hfz66_4 := blk_frozen BK298.out 4; have hnb67 := NB273_0.out; have hnc67 := NB0_273.out; have hcz68_0 : w63.cell? ⟨gb273, 0, none⟩ = some (.int .i64 0) := (blk_cell BK273.out 0).trans rfl; have hcz68_1 : w63.cell? ⟨gb273, 1, none⟩ = some (.int .i64 0) := (blk_cell BK273.out 1).trans rfl; have hcz68_2 : w63.cell? ⟨gb273, 2, none⟩ = some (.int .i64 0) := (blk_cell BK273.out 2).trans rfl; have hcz68_3 : w63.cell? ⟨gb273, 3, none⟩ = some (.int .i64 0) := (blk_cell BK273.out 3).trans rfl; have hcz68_4 : w63.cell? ⟨gb273, 4, none⟩ = some (.int .i64 0) := (blk_cell BK273.out 4).trans rfl; have hfz68_0 := blk_frozen BK273.out 0; have hfz68_1 := blk_frozen BK273.out 1; have hfz68_2 := blk_frozen BK273.out 2; have hfz68_3 := blk_frozen BK273.out 3; have hfz68_4 := blk_frozen BK273.out 4))
      refine bodyPost_ret (results_cell_row rfl _ _ gb273 59 #[.int .i64 t274, .int .i64 x299001_6, .int .i64 t283, .int .i64 t317, .int .i64 t295] (0, 0) _ rfl (by (with_reducible repeat (first | refine blk_drewN ?_ _ | refine blk_drew ?_ | refine blk_alloc ?_ _)); refine blk_put (cs := #[.int .i64 t274, .int .i64 x299001_6, .int .i64 t283, .int .i64 t317, .int .i64 0]) ?_ 4 _ rfl; (with_reducible repeat (first | refine blk_drewN ?_ _ | refine blk_drew ?_ | refine blk_alloc ?_ _)); refine blk_put (cs := #[.int .i64 t274, .int .i64 x299001_6, .int .i64 t283, .int .i64 0, .int .i64 0]) ?_ 3 _ rfl; (with_reducible repeat (first | refine blk_drewN ?_ _ | refine blk_drew ?_ | refine blk_alloc ?_ _)); refine blk_put (cs := #[.int .i64 t274, .int .i64 x299001_6, .int .i64 0, .int .i64 0, .int .i64 0]) ?_ 2 _ rfl; (with_reducible repeat (first | refine blk_drewN ?_ _ | refine blk_drew ?_ | refine blk_alloc ?_ _)); refine blk_put (cs := #[.int .i64 t274, .int .i64 0, .int .i64 0, .int .i64 0, .int .i64 0]) ?_ 1 _ rfl; (with_reducible repeat (first | refine blk_drewN ?_ _ | refine blk_drew ?_ | refine blk_alloc ?_ _)); refine blk_put (cs := #[.int .i64 0, .int .i64 0, .int .i64 0, .int .i64 0, .int .i64 0]) ?_ 0 _ rfl; (with_reducible repeat (first | refine blk_drewN ?_ _ | refine blk_drew ?_ | refine blk_alloc ?_ _)); refine blk_far ?_ NB273_298.out _; (with_reducible repeat (first | refine blk_drewN ?_ _ | refine blk_drew ?_ | refine blk_alloc ?_ _)); exact BK273.out) Tryd.underlying59 rfl (by kernel_rfl)) rfl ?_
      exact ⟨(qW9), (qW12), (qW16), (qW15)⟩
     ·rw [if_neg c57] at H
      have c57b0 : (t299 == 2) = false := beq_eq_false_iff_ne.mpr c57
      have c57b1 : (t299 != 2) = true := bne_iff_ne.mpr c57
      by_cases c69 : t299 = 3
      ·rw [if_pos c69] at H
       have c69b0 : (t299 == 3) = true := beq_iff_eq.mpr c69
       have c69b1 : (t299 != 3) = false := bne_eq_false_iff_eq.mpr c69
       clear c69
       obtain ⟨y320, hy320⟩ : ∃ y_ : List Int, y_ = (([(-91), 91] : List Int)) := ⟨_, rfl⟩
       replace H : ((spec_l1Cur_among.f s0_0 t300 t301 y320).bind fun bt323 => (some (t274, x299001_6, t283, t289, bt323.1, bt323.2.1, bt323.2.2))) = some (r1, r2, r3, r4, r5, r6, r7) := (qW7 hy320)
       have Ny320 := Aside0.mk hy320; clear hy320; replace H := Option.bind_eq_some_iff.mp H; obtain ⟨⟨t323, t324, t325⟩, A700, H⟩ := H
       try dsimp only at H
       have A70 := Aside0.mk A700; clear A700
       simp only [Option.some.injEq, Prod.mk.injEq] at H
       obtain ⟨rfl, rfl, rfl, rfl, rfl, rfl, rfl⟩ := H
       go_wp2_with (first | ((with_reducible refine gate_callee (f := 31) rfl ?_); refine goesL_ (some 29) rfl rfl Tryd.func31 (by kernel_rfl) rfl #[.pointer (some ⟨g, 0, none⟩), .int .i64 40] rfl (qW1) ?_; (with_reducible refine (spec_l1Cur_pick.calls g s0_0 t296 t297 40 t299 t300 t301 w0 _ ?side1 ?side2 A31.out).mono ?_); (case side1 => exact (qW12)); (case side2 => exact (qW16)); rintro e w71 ⟨rfl, hi, hb, hk⟩; refine ⟨_, rfl, ?_⟩; replace BK273 := Aside0.mk (KeepBut.blk hk (g' := gb273) (o := .cells #[.int .i64 0, .int .i64 0, .int .i64 0, .int .i64 0, .int .i64 0] 59 (0, 0)) (qW5 BK273.out) NB273_0.out (by simp)); replace BK298 := Aside0.mk (KeepBut.blk hk (g' := gb298) (o := .cells #[.int .i64 t274, .int .i64 x299001_6, .int .i64 t283, .int .i64 t289, .int .i64 t295] 59 (0, 0)) (qW5 BK298.out) NB298_0.out (by simp)); replace HK := Aside0.mk (KeepBut.trans (qW15) hk (.inl rfl)); replace HB := Aside0.mk (hb); replace HI0 := Aside0.mk (hi); clear hb hk hi) | ((with_reducible refine gate_dst (N := 53) rfl ?_); refine Kd.R_lit (Kd.int .i64) _ 3 ?hg (N := 53) ?hd (xs := ([(-91), 91] : List Int)) (inner := [.int .i64 (-91), .int .i64 91]) (ok := fun _ => True) (okp := fun _ => True) ?hr ?hp (fun _ hk => hk) trivial (Below.refl _ _) (Nat.le_refl _) (by simp) ?_; (case hd => rfl); (case hg => rfl); (case hr => exact (qW22)); (case hp => exact (by exact (Reps.one (show Kd.M (Kd.int .i64) _ _ _ (-91) [.int .i64 (-91)] from rfl) (Reps.one (show Kd.M (Kd.int .i64) _ _ _ 91 [.int .i64 91] from rfl) (Reps.none _ _))))); intro v321 w72 ho73 hb hg_ hnew_; clear hg_ hnew_; (first | rw [← Ny320.out] at ho73 | (simp only [Int.reduceToNat] at ho73; rw [← Ny320.out] at ho73)); have HO322 := Aside0.mk (Kd.R_lower ho73 (keep_size (w := w) (g := g) (row := none) (qW15))); replace BK273 := Aside0.mk (blk_below (g := gb273) (o := .cells #[.int .i64 0, .int .i64 0, .int .i64 0, .int .i64 0, .int .i64 0] 59 (0, 0)) (qW5 BK273.out) hb); replace BK298 := Aside0.mk (blk_below (g := gb298) (o := .cells #[.int .i64 t274, .int .i64 x299001_6, .int .i64 t283, .int .i64 t289, .int .i64 t295] 59 (0, 0)) (qW5 BK298.out) hb); replace HK := Aside0.mk (KeepBut.trans (qW15) (KeepBut.of_below hb g none) (.inl rfl)); replace HB := Aside0.mk (below_step (qW16) hb); replace HI0 := Aside0.mk (IsS54.below (qW12) hb); clear hb ho73; obtain ⟨Ao74, co74, eo74⟩ := Kd.R_slice HO322.out; subst eo74) | ((with_reducible refine gate_callee (f := 42) rfl ?_); refine goesL_ (some 54) rfl rfl Tryd.func42 (by kernel_rfl) rfl #[.pointer (some ⟨g, 0, none⟩), .slice Ao74 y320.length co74] rfl (qW1) ?_; (with_reducible refine (spec_l1Cur_among.calls g s0_0 t300 t301 _ _ y320 t323 t324 t325 w0 _ ?side1 ?side2 ?side3 ?side4 ?side5 A70.out).mono ?_); (case side1 => exact (qW12)); (case side2 => exact (qW16)); (case side3 => exact (qW6 HO322.out)); (case side4 => exact (qW41 HO322.out)); (case side5 => exact (qW47 HO322.out)); rintro e w75 ⟨rfl, hi, hb, hk⟩; refine ⟨_, rfl, ?_⟩; replace BK273 := Aside0.mk (KeepBut.blk hk (g' := gb273) (o := .cells #[.int .i64 0, .int .i64 0, .int .i64 0, .int .i64 0, .int .i64 0] 59 (0, 0)) (qW5 BK273.out) NB273_0.out (by simp)); replace BK298 := Aside0.mk (KeepBut.blk hk (g' := gb298) (o := .cells #[.int .i64 t274, .int .i64 x299001_6, .int .i64 t283, .int .i64 t289, .int .i64 t295] 59 (0, 0)) (qW5 BK298.out) NB298_0.out (by simp)); replace HO322 := Aside0.mk (Kd.R_mono (Kd.R_keep (IsS54.apart (show IsS54 w0 _ g s0_0 t300 t301 from (qW12)) (qW2 HO322.out) (by decide)) hk (fun _ h => h.2)) (fun _ h => h.1)); replace HK := Aside0.mk (KeepBut.trans (qW15) hk (.inl rfl)); replace HB := Aside0.mk (hb); replace HI0 := Aside0.mk (hi); clear hb hk hi; have hnb76 := NB298_273.out; have hnc76 := NB273_298.out; have hnb77 := NB298_0.out; have hnc77 := NB0_298.out; have hcz78_0 : w75.cell? ⟨gb298, 0, none⟩ = some (.int .i64 t274) := (blk_cell BK298.out 0).trans rfl; have hcz78_1 : w75.cell? ⟨gb298, 1, none⟩ = some (.int .i64 x299001_6) := (blk_cell BK298.out 1).trans rfl; have hcz78_2 : w75.cell? ⟨gb298, 2, none⟩ = some (.int .i64 t283) := (blk_cell BK298.out 2).trans rfl; have hcz78_3 : w75.cell? ⟨gb298, 3, none⟩ = some (.int .i64 t289) := (blk_cell BK298.out 3).trans rfl; have hcz78_4 : w75.cell? ⟨gb298, 4, none⟩ = some (.int .i64 t295) := (blk_cell BK298.out 4).trans rfl; have hfz78_0 := blk_frozen BK298.out 0; have hfz78_1 := blk_frozen BK298.out 1; have hfz78_2 := blk_frozen BK298.out 2; have hfz78_3 := blk_frozen BK298.out 3; have hfz78_4 := blk_frozen BK298.out 4; have hnb79 := NB273_0.out; have hnc79 := NB0_273.out; have hcz80_0 : w75.cell? ⟨gb273, 0, none⟩ = some (.int .i64 0) := (blk_cell BK273.out 0).trans rfl; have hcz80_1 : w75.cell? ⟨gb273, 1, none⟩ = some (.int .i64 0) := (blk_cell BK273.out 1).trans rfl; have hcz80_2 : w75.cell? ⟨gb273, 2, none⟩ = some (.int .i64 0) := (blk_cell BK273.out 2).trans rfl; have hcz80_3 : w75.cell? ⟨gb273, 3, none⟩ = some (.int .i64 0) := (blk_cell BK273.out 3).trans rfl; have hcz80_4 : w75.cell? ⟨gb273, 4, none⟩ = some (.int .i64 0) := (blk_cell BK273.out 4).trans rfl; have hfz80_0 := blk_frozen BK273.out 0; have hfz80_1 := blk_frozen BK273.out 1; have hfz80_2 := blk_frozen BK273.out 2; have hfz80_3 := blk_frozen BK273.out 3; have hfz80_4 := blk_frozen BK273.out 4))
       refine bodyPost_ret (results_cell_row rfl _ _ gb273 59 #[.int .i64 t274, .int .i64 x299001_6, .int .i64 t283, .int .i64 t289, .int .i64 t323] (0, 0) _ rfl (by (with_reducible repeat (first | refine blk_drewN ?_ _ | refine blk_drew ?_ | refine blk_alloc ?_ _)); refine blk_put (cs := #[.int .i64 t274, .int .i64 x299001_6, .int .i64 t283, .int .i64 t289, .int .i64 0]) ?_ 4 _ rfl; (with_reducible repeat (first | refine blk_drewN ?_ _ | refine blk_drew ?_ | refine blk_alloc ?_ _)); refine blk_put (cs := #[.int .i64 t274, .int .i64 x299001_6, .int .i64 t283, .int .i64 0, .int .i64 0]) ?_ 3 _ rfl; (with_reducible repeat (first | refine blk_drewN ?_ _ | refine blk_drew ?_ | refine blk_alloc ?_ _)); refine blk_put (cs := #[.int .i64 t274, .int .i64 x299001_6, .int .i64 0, .int .i64 0, .int .i64 0]) ?_ 2 _ rfl; (with_reducible repeat (first | refine blk_drewN ?_ _ | refine blk_drew ?_ | refine blk_alloc ?_ _)); refine blk_put (cs := #[.int .i64 t274, .int .i64 0, .int .i64 0, .int .i64 0, .int .i64 0]) ?_ 1 _ rfl; (with_reducible repeat (first | refine blk_drewN ?_ _ | refine blk_drew ?_ | refine blk_alloc ?_ _)); refine blk_put (cs := #[.int .i64 0, .int .i64 0, .int .i64 0, .int .i64 0, .int .i64 0]) ?_ 0 _ rfl; (with_reducible repeat (first | refine blk_drewN ?_ _ | refine blk_drew ?_ | refine blk_alloc ?_ _)); refine blk_far ?_ NB273_298.out _; (with_reducible repeat (first | refine blk_drewN ?_ _ | refine blk_drew ?_ | refine blk_alloc ?_ _)); exact BK273.out) Tryd.underlying59 rfl (by kernel_rfl)) rfl ?_
       exact ⟨(qW9), (qW12), (qW16), (qW15)⟩
      ·rw [if_neg c69] at H
       have c69b0 : (t299 == 3) = false := beq_eq_false_iff_ne.mpr c69
       have c69b1 : (t299 != 3) = true := bne_iff_ne.mpr c69
       simp only [Option.some.injEq, Prod.mk.injEq] at H
       obtain ⟨rfl, rfl, rfl, rfl, rfl, rfl, rfl⟩ := H
       go_wp2_with (first | ((with_reducible refine gate_callee (f := 31) rfl ?_); refine goesL_ (some 29) rfl rfl Tryd.func31 (by kernel_rfl) rfl #[.pointer (some ⟨g, 0, none⟩), .int .i64 40] rfl (qW1) ?_; (with_reducible refine (spec_l1Cur_pick.calls g s0_0 t296 t297 40 t299 t300 t301 w0 _ ?side1 ?side2 A31.out).mono ?_); (case side1 => exact (qW12)); (case side2 => exact (qW16)); rintro e w81 ⟨rfl, hi, hb, hk⟩; refine ⟨_, rfl, ?_⟩; replace BK273 := Aside0.mk (KeepBut.blk hk (g' := gb273) (o := .cells #[.int .i64 0, .int .i64 0, .int .i64 0, .int .i64 0, .int .i64 0] 59 (0, 0)) (qW5 BK273.out) NB273_0.out (by simp)); replace BK298 := Aside0.mk (KeepBut.blk hk (g' := gb298) (o := .cells #[.int .i64 t274, .int .i64 x299001_6, .int .i64 t283, .int .i64 t289, .int .i64 t295] 59 (0, 0)) (qW5 BK298.out) NB298_0.out (by simp)); replace HK := Aside0.mk (KeepBut.trans (qW15) hk (.inl rfl)); replace HB := Aside0.mk (hb); replace HI0 := Aside0.mk (hi); clear hb hk hi; have hnb82 := NB298_273.out; have hnc82 := NB273_298.out; have hnb83 := NB298_0.out; have hnc83 := NB0_298.out; have hcz84_0 : w81.cell? ⟨gb298, 0, none⟩ = some (.int .i64 t274) := (blk_cell BK298.out 0).trans rfl; have hcz84_1 : w81.cell? ⟨gb298, 1, none⟩ = some (.int .i64 x299001_6) := (blk_cell BK298.out 1).trans rfl; have hcz84_2 : w81.cell? ⟨gb298, 2, none⟩ = some (.int .i64 t283) := (blk_cell BK298.out 2).trans rfl; have hcz84_3 : w81.cell? ⟨gb298, 3, none⟩ = some (.int .i64 t289) := (blk_cell BK298.out 3).trans rfl; have hcz84_4 : w81.cell? ⟨gb298, 4, none⟩ = some (.int .i64 t295) := (blk_cell BK298.out 4).trans rfl; have hfz84_0 := blk_frozen BK298.out 0; have hfz84_1 := blk_frozen BK298.out 1; have hfz84_2 := blk_frozen BK298.out 2; have hfz84_3 := blk_frozen BK298.out 3; have hfz84_4 := blk_frozen BK298.out 4; have hnb85 := NB273_0.out; have hnc85 := NB0_273.out; have hcz86_0 : w81.cell? ⟨gb273, 0, none⟩ = some (.int .i64 0) := (blk_cell BK273.out 0).trans rfl; have hcz86_1 : w81.cell? ⟨gb273, 1, none⟩ = some (.int .i64 0) := (blk_cell BK273.out 1).trans rfl; have hcz86_2 : w81.cell? ⟨gb273, 2, none⟩ = some (.int .i64 0) := (blk_cell BK273.out 2).trans rfl; have hcz86_3 : w81.cell? ⟨gb273, 3, none⟩ = some (.int .i64 0) := (blk_cell BK273.out 3).trans rfl; have hcz86_4 : w81.cell? ⟨gb273, 4, none⟩ = some (.int .i64 0) := (blk_cell BK273.out 4).trans rfl; have hfz86_0 := blk_frozen BK273.out 0; have hfz86_1 := blk_frozen BK273.out 1; have hfz86_2 := blk_frozen BK273.out 2; have hfz86_3 := blk_frozen BK273.out 3; have hfz86_4 := blk_frozen BK273.out 4))
       refine bodyPost_ret (results_cell_row rfl _ _ gb273 59 #[.int .i64 t274, .int .i64 x299001_6, .int .i64 t283, .int .i64 t289, .int .i64 t295] (0, 0) _ rfl (by (with_reducible repeat (first | refine blk_drewN ?_ _ | refine blk_drew ?_ | refine blk_alloc ?_ _)); refine blk_put (cs := #[.int .i64 t274, .int .i64 x299001_6, .int .i64 t283, .int .i64 t289, .int .i64 0]) ?_ 4 _ rfl; (with_reducible repeat (first | refine blk_drewN ?_ _ | refine blk_drew ?_ | refine blk_alloc ?_ _)); refine blk_put (cs := #[.int .i64 t274, .int .i64 x299001_6, .int .i64 t283, .int .i64 0, .int .i64 0]) ?_ 3 _ rfl; (with_reducible repeat (first | refine blk_drewN ?_ _ | refine blk_drew ?_ | refine blk_alloc ?_ _)); refine blk_put (cs := #[.int .i64 t274, .int .i64 x299001_6, .int .i64 0, .int .i64 0, .int .i64 0]) ?_ 2 _ rfl; (with_reducible repeat (first | refine blk_drewN ?_ _ | refine blk_drew ?_ | refine blk_alloc ?_ _)); refine blk_put (cs := #[.int .i64 t274, .int .i64 0, .int .i64 0, .int .i64 0, .int .i64 0]) ?_ 1 _ rfl; (with_reducible repeat (first | refine blk_drewN ?_ _ | refine blk_drew ?_ | refine blk_alloc ?_ _)); refine blk_put (cs := #[.int .i64 0, .int .i64 0, .int .i64 0, .int .i64 0, .int .i64 0]) ?_ 0 _ rfl; (with_reducible repeat (first | refine blk_drewN ?_ _ | refine blk_drew ?_ | refine blk_alloc ?_ _)); exact BK273.out) Tryd.underlying59 rfl (by kernel_rfl)) rfl ?_
       exact ⟨(qW9), (qW12), (qW16), (qW15)⟩

/-! ### spec_DrawWayOfLegs: function 19 -/
mutual
def spec_DrawWayOfLegs.l0 : Nat → List (S59) → Int → List Int → Int → Int → Option ((List (S59)))
 | 0, _, _, _, _, _ => none
 | k + 1, x4, x5, x327000, x327001, x327002 => if x5 > 0 then ((spec_l1Cur_leg.f k x327000 x327001 x327002).bind fun bt333 => (if (x4.length : Int) > 0 then ((spec_l1Cur_one.f x327000 bt333.2.2.2.2.2.1 bt333.2.2.2.2.2.2 20).bind fun bt341 => (spec_DrawWayOfLegs.j1 k x4 x5 (x4.length : Int) (!bt341.1) x327000 bt341.2.1 bt341.2.2 bt333.1 bt333.2.1 bt333.2.2.1 bt333.2.2.2.1 bt333.2.2.2.2.1)) else (spec_DrawWayOfLegs.j1 k x4 x5 (x4.length : Int) false x327000 bt333.2.2.2.2.2.1 bt333.2.2.2.2.2.2 bt333.1 bt333.2.1 bt333.2.2.1 bt333.2.2.2.1 bt333.2.2.2.2.1))) else ((spec_l1Cur_one.f x327000 x327001 x327002 24).bind fun bt354 => (if bt354.1 = true then (spec_DrawWayOfLegs.l1 k x4 x327000 bt354.2.1 bt354.2.2) else (some x4)))
def spec_DrawWayOfLegs.j1 : Nat → List (S59) → Int → Int → Bool → List Int → Int → Int → Int → Int → Int → Int → Int → Option ((List (S59)))
 | 0, _, _, _, _, _, _, _, _, _, _, _, _ => none
 | k + 1, x4, x5, x7, x28, x327000, x327001, x327002, x341000, x341001, x341002, x341003, x341004 => if x28 = true then (if 0 ≤ (wrap64 (x7 - 1)) then (if (wrap64 (x7 - 1)) < (x4.length : Int) then (if x341001 = ((rd_T59 x4 (wrap64 (x7 - 1))).f1) then (if x4.length < 3518437208883 then (spec_DrawWayOfLegs.l0 k (x4 ++ [(⟨(rd_T59 x4 (wrap64 (x7 - 1))).f1, Int.tmod (wrap64 (((rd_T59 x4 (wrap64 (x7 - 1))).f1) + 1)) 8, x341002, x341003, x341004⟩ : S59)]) (wrap64 (x5 - 1)) x327000 x327001 x327002) else (none)) else (if x4.length < 3518437208883 then (spec_DrawWayOfLegs.l0 k (x4 ++ [(⟨(rd_T59 x4 (wrap64 (x7 - 1))).f1, x341001, x341002, x341003, x341004⟩ : S59)]) (wrap64 (x5 - 1)) x327000 x327001 x327002) else (none))) else (none)) else (none)) else (if x4.length < 3518437208883 then (spec_DrawWayOfLegs.l0 k (x4 ++ [(⟨x341000, x341001, x341002, x341003, x341004⟩ : S59)]) (wrap64 (x5 - 1)) x327000 x327001 x327002) else (none))
def spec_DrawWayOfLegs.l1 : Nat → List (S59) → List Int → Int → Int → Option ((List (S59)))
 | 0, _, _, _, _ => none
 | k + 1, x4, x327000, x327001, x327002 => (spec_l1Cur_pick.f x327000 x327001 x327002 2).bind fun bt357 => (if (x4.length : Int) < (wrap64 (12 + bt357.1)) then (if x4.length < 3518437208883 then (spec_DrawWayOfLegs.l1 k (x4 ++ [(⟨(x4.length : Int) % 2, 1 - ((x4.length : Int) % 2), 40, 0, 0⟩ : S59)]) x327000 bt357.2.1 bt357.2.2) else (none)) else (some x4))
end
def spec_DrawWayOfLegs.f (k : Nat) (l0 : List Int) : Option ((List (S59))) := (spec_l1Cur_pick.f l0 0 0 6).bind fun bt330 => (spec_DrawWayOfLegs.l0 k (([] : List (S59))) bt330.1 l0 bt330.2.1 bt330.2.2)
theorem spec_DrawWayOfLegs.mono_l : ∀ k, (∀ y0 y1 y2 y3 y4, LeO (spec_DrawWayOfLegs.l0 k y0 y1 y2 y3 y4) (spec_DrawWayOfLegs.l0 (k + 1) y0 y1 y2 y3 y4)) ∧ (∀ y0 y1 y2 y3 y4 y5 y6 y7 y8 y9 y10 y11, LeO (spec_DrawWayOfLegs.j1 k y0 y1 y2 y3 y4 y5 y6 y7 y8 y9 y10 y11) (spec_DrawWayOfLegs.j1 (k + 1) y0 y1 y2 y3 y4 y5 y6 y7 y8 y9 y10 y11)) ∧ (∀ y0 y1 y2 y3, LeO (spec_DrawWayOfLegs.l1 k y0 y1 y2 y3) (spec_DrawWayOfLegs.l1 (k + 1) y0 y1 y2 y3))
 | 0 => ⟨fun _ _ _ _ _ r h => by simp [spec_DrawWayOfLegs.l0] at h, fun _ _ _ _ _ _ _ _ _ _ _ _ r h => by simp [spec_DrawWayOfLegs.j1] at h, fun _ _ _ _ r h => by simp [spec_DrawWayOfLegs.l1] at h⟩
 | k + 1 => by
  obtain ⟨ih0, ih1, ih2⟩ := spec_DrawWayOfLegs.mono_l k
  refine ⟨?_, ?_, ?_⟩
  ·intro y0 y1 y2 y3 y4
   unfold spec_DrawWayOfLegs.l0
   have m0 := @spec_l1Cur_leg.mono
   exact qmono
  ·intro y0 y1 y2 y3 y4 y5 y6 y7 y8 y9 y10 y11
   unfold spec_DrawWayOfLegs.j1
   have m0 := @spec_l1Cur_leg.mono
   exact qmono
  ·intro y0 y1 y2 y3
   unfold spec_DrawWayOfLegs.l1
   have m0 := @spec_l1Cur_leg.mono
   exact qmono
theorem spec_DrawWayOfLegs.mono : ∀ a0 k, LeO (spec_DrawWayOfLegs.f k a0) (spec_DrawWayOfLegs.f (k + 1) a0) := by
 intro a0 k
 obtain ⟨ih0, ih1, ih2⟩ := spec_DrawWayOfLegs.mono_l k
 unfold spec_DrawWayOfLegs.f
 have m0 := @spec_l1Cur_leg.mono
 exact qmono
set_option maxHeartbeats 8000000 in
set_option maxRecDepth 100000 in
theorem spec_DrawWayOfLegs.calls (k : Nat) (A0 : Option Addr) (c0 : Nat) (l0 : List Int) (r : List (S59)) (w : World) (hr0 : Kd.C (Kd.int .u8) w A0 l0.length l0) (hc0 : l0.length ≤ c0) (h : spec_DrawWayOfLegs.f k l0 = some r) :
  Calls Tryd.prog 19 #[.slice A0 l0.length c0] w fun e w' => ∃ v0_ : Value, e = .returned (v0_) ∧ Kd.R k59 59 w' w.heap.size (fun _ => True) v0_ r ∧ Below w.heap.size w w' := by
 have hu54 := Tryd.underlying54
 have hu59 := Tryd.underlying59
 have HR0 := Aside0.mk hr0; have HC0 := Aside0.mk hc0; clear hr0 hc0
 have HB := Aside0.mk (Below.refl w.heap.size w)
 have H : ((spec_l1Cur_pick.f l0 0 0 6).bind fun bt330 => (spec_DrawWayOfLegs.l0 k (([] : List (S59))) bt330.1 l0 bt330.2.1 bt330.2.2)) = some r := h
 clear h
 obtain ⟨y327, hy327⟩ : ∃ y_ : List (S59), y_ = (([] : List (S59))) := ⟨_, rfl⟩
 replace H : ((spec_l1Cur_pick.f l0 0 0 6).bind fun bt330 => (spec_DrawWayOfLegs.l0 k y327 bt330.1 l0 bt330.2.1 bt330.2.2)) = some r := (qW7 hy327)
 have Ny327 := Aside0.mk hy327; clear hy327; replace H := Option.bind_eq_some_iff.mp H; obtain ⟨⟨t330, t331, t332⟩, A20, H⟩ := H
 replace H : (spec_DrawWayOfLegs.l0 k y327 t330 l0 t331 t332) = some r := H
 have A2 := Aside0.mk A20; clear A20
 have H' := Aside0.mk H
 clear H
 go_enter Tryd.func19, Tryd.ntmps19
 go_wp2_with (first | ((with_reducible refine gate_dst (N := 10) rfl ?_); refine box_event ?hg (N := 10) ?hd (cs := #[.slice A0 l0.length c0, .int .i64 0, .int .u64 0]) (t := 54) ?hr ?_; (case hd => rfl); (case hg => rfl); (case hr => exact (qW22)); intro gb326 hg w3 hbox hb; have GW326 := Aside0.mk ((by rw [hg]; exact (below_size (qW0)) : w.heap.size ≤ gb326)); have GE326 := Aside0.mk ((by rw [hg]; exact (below_size (qW0)) : w.heap.size ≤ gb326)); have HI326 := Aside0.mk ((show IsS54 w w3 gb326 l0 0 0 from ⟨_, _, hbox, (by rw [hg]; exact (below_size (qW0))), HR0.out⟩)); replace HB := Aside0.mk (below_step (qW0) hb); clear hb hbox hg) | ((with_reducible refine gate_dst (N := 11) rfl ?_); refine Kd.R_lit k59 _ 59 ?hg (N := 11) ?hd (xs := ([] : List (S59))) (inner := []) (ok := fun _ => True) (okp := fun _ => True) ?hr ?hp (fun _ hk => hk) trivial (Below.refl _ _) (Nat.le_refl _) (by simp) ?_; (case hd => rfl); (case hg => rfl); (case hr => exact (qW22)); (case hp => exact (Reps.none _ _)); intro v328 w4 ho5 hb hg_ hnew_; clear hg_ hnew_; (first | rw [← Ny327.out] at ho5 | (simp only [Int.reduceToNat] at ho5; rw [← Ny327.out] at ho5)); have HO329 := Aside0.mk (Kd.R_lower ho5 (below_size (qW24))); replace HB := Aside0.mk (below_step (qW24) hb); replace HI326 := Aside0.mk (IsS54.below (qW23) hb); clear hb ho5) | ((with_reducible refine gate_callee (f := 31) rfl ?_); refine goesL_ (some 13) rfl rfl Tryd.func31 (by kernel_rfl) rfl #[.pointer (some ⟨gb326, 0, none⟩), .int .i64 6] rfl (qW1) ?_; (with_reducible refine (spec_l1Cur_pick.calls gb326 l0 0 0 6 t330 t331 t332 w _ ?side1 ?side2 A2.out).mono ?_); (case side1 => exact (qW23)); (case side2 => exact (qW24)); rintro e w6 ⟨rfl, hi, hb, hk⟩; refine ⟨_, rfl, ?_⟩; replace HO329 := Aside0.mk (Kd.R_mono (Kd.R_keep (IsS54.apart (show IsS54 w _ gb326 l0 0 0 from (qW23)) (qW2 HO329.out) (by decide)) hk (fun _ h => h.2)) (fun _ h => h.1)); replace HB := Aside0.mk (hb); replace HI326 := Aside0.mk (hi); clear hb hk hi))
 go_loopg [4, 5] k (fun kq v4 v5 w' => ∃ (x4_1 : List (S59)) (x5_1 : Int) (x327001_1 : Int) (x327002_1 : Int), v5 = .int .i64 x5_1 ∧ Aside0 (spec_DrawWayOfLegs.l0 kq x4_1 x5_1 l0 x327001_1 x327002_1 = some r) ∧ Aside0 (kq ≤ k) ∧ Aside0 (Kd.R k59 59 w' w.heap.size (fun _ => True) v4 x4_1) ∧ Aside0 (IsS54 w w' gb326 l0 x327001_1 x327002_1) ∧ Aside0 (Below w.heap.size w w'))
 case atStart => exact ⟨(y327), (t330), (t331), (t332), (qW14), H', ⟨Nat.le_refl _⟩, ⟨(qW2 HO329.out)⟩, ⟨(qW23)⟩, ⟨(qW24)⟩⟩
 case round =>
  clear H'
  try clear c1
  try clear p2
  try clear c3
  obtain ⟨x4_1, x5_1, x327001_1, x327002_1, rfl, HA, HK1, HO_4, HI326, HB⟩ := hrel
  cases gk with
  | zero => exact absurd HA.out (by simp [spec_DrawWayOfLegs.l0])
  | succ k1 =>
   have H := HA.out
   clear HA
   simp only [spec_DrawWayOfLegs.l0] at H
   by_cases c7 : x5_1 > 0
   ·rw [if_pos c7] at H
    have c7b0 : decide (0 < x5_1) = true := decide_eq_true c7
    clear c7; replace H := Option.bind_eq_some_iff.mp H; obtain ⟨⟨t333, t334, t335, t336, t337, t338, t339⟩, A80, H⟩ := H
    try dsimp only at H
    have A8 := Aside0.mk A80; clear A80; have HC9 := Aside0.mk H; clear H
    go_upto_region 8 with (first | ((with_reducible refine gate_callee (f := 32) rfl ?_); refine goesL_ (some 19) rfl rfl Tryd.func32 (by kernel_rfl) rfl #[.pointer (some ⟨gb326, 0, none⟩)] rfl (qW1) ?_; (with_reducible refine (spec_l1Cur_leg.calls k1 gb326 l0 x327001_1 x327002_1 t333 t334 t335 t336 t337 t338 t339 w _ ?side1 ?side2 A8.out).mono ?_); (case side1 => exact (qW23)); (case side2 => exact (qW24)); rintro e w10 ⟨rfl, hi, hb, hk⟩; refine ⟨_, rfl, ?_⟩; replace HO_4 := Aside0.mk (Kd.R_mono (Kd.R_keep (IsS54.apart (show IsS54 w _ gb326 l0 x327001_1 x327002_1 from (qW23)) (qW2 HO_4.out) (by decide)) hk (fun _ h => h.2)) (fun _ h => h.1)); replace HB := Aside0.mk (hb); replace HI326 := Aside0.mk (hi); clear hb hk hi) | ((with_reducible refine gate_dst (N := 6) rfl ?_); refine box_event ?hg (N := 6) ?hd (cs := #[.int .i64 0, .int .i64 0, .int .i64 0, .int .i64 0, .int .i64 0]) (t := 59) ?hr ?_; (case hd => rfl); (case hg => rfl); (case hr => exact (qW22)); intro gb340 hg w11 hbox hb; replace HO_4 := Aside0.mk (Kd.R_below (Kd.R_elderB (qW2 HO_4.out) gb340 (Nat.le_of_eq hg.symm)) hb); have BK340 := Aside0.mk (hbox); have GW340 := Aside0.mk ((by rw [hg]; exact (below_size (qW24)) : w.heap.size ≤ gb340)); have GE340 := Aside0.mk ((by rw [hg]; exact (below_size (qW24)) : w.heap.size ≤ gb340)); replace HB := Aside0.mk (below_step (qW24) hb); have NB326_340 := Aside0.mk ((by rw [hg]; exact Nat.ne_of_lt (IsS54.lt (show IsS54 w _ gb326 l0 t338 t339 from (qW23))) : gb326 ≠ gb340)); have NB340_326 := Aside0.mk ((by rw [hg]; exact Nat.ne_of_gt (IsS54.lt (show IsS54 w _ gb326 l0 t338 t339 from (qW23))) : gb340 ≠ gb326)); replace HI326 := Aside0.mk (IsS54.below (qW23) hb); clear hb hbox hg; have hnb12 := NB340_326.out; have hnc12 := NB326_340.out; have hcz13_0 : w11.cell? ⟨gb340, 0, none⟩ = some (.int .i64 0) := (blk_cell BK340.out 0).trans rfl; have hcz13_1 : w11.cell? ⟨gb340, 1, none⟩ = some (.int .i64 0) := (blk_cell BK340.out 1).trans rfl; have hcz13_2 : w11.cell? ⟨gb340, 2, none⟩ = some (.int .i64 0) := (blk_cell BK340.out 2).trans rfl; have hcz13_3 : w11.cell? ⟨gb340, 3, none⟩ = some (.int .i64 0) := (blk_cell BK340.out 3).trans rfl; have hcz13_4 : w11.cell? ⟨gb340, 4, none⟩ = some (.int .i64 0) := (blk_cell BK340.out 4).trans rfl; have hfz13_0 := blk_frozen BK340.out 0; have hfz13_1 := blk_frozen BK340.out 1; have hfz13_2 := blk_frozen BK340.out 2; have hfz13_3 := blk_frozen BK340.out 3; have hfz13_4 := blk_frozen BK340.out 4; obtain ⟨Ao14, co14, eo14⟩ := Kd.R_slice HO_4.out; subst eo14))
    (try simp only [Act.put, List.setIfInBounds_toArray, List.set_cons_zero, List.set_cons_succ])
    go_cut [28] (fun v28 wc => ∃ (kq : Nat) (x28_8 : Bool) (x327001_8 : Int) (x327002_8 : Int), v28 = .bool x28_8 ∧ Aside0 (spec_DrawWayOfLegs.j1 kq x4_1 x5_1 (x4_1.length : Int) x28_8 l0 x327001_8 x327002_8 t333 t334 t335 t336 t337 = some r) ∧ Aside0 (kq ≤ k1) ∧ Aside0 (Kd.R k59 59 wc w.heap.size (fun k_ => k_ ≠ gb340) (.slice Ao14 x4_1.length co14) x4_1) ∧ Aside0 (wc.heap[gb340]? = some (.cells #[.int .i64 t333, .int .i64 t334, .int .i64 t335, .int .i64 t336, .int .i64 t337] 59 (0, 0))) ∧ Aside0 (IsS54 w wc gb326 l0 x327001_8 x327002_8) ∧ Aside0 (Below w.heap.size w wc))
    case first =>
     have H := HC9.out
     clear HC9
     by_cases c15 : (x4_1.length : Int) > 0
     ·rw [if_pos c15] at H
      have c15b0 : decide (0 < (x4_1.length : Int)) = true := decide_eq_true c15
      have c15b1 : decide (0 < x4_1.length) = true := decide_eq_true (by omega)
      clear c15
      (first | rw [c15b0] | (simp only [i64_w, i32_w]; rw [c15b0]) | skip)
      replace H := Option.bind_eq_some_iff.mp H; obtain ⟨⟨t341, t342, t343⟩, A160, H⟩ := H
      try dsimp only at H
      have A16 := Aside0.mk A160; clear A160
      have H' := Aside0.mk H
      clear H
      go_wp2_with (first | (go_at_call 33; (with_reducible refine (spec_l1Cur_one.calls gb326 l0 t338 t339 20 t341 t342 t343 w _ ?side1 ?side2 A16.out).mono ?_); (case side1 => exact (qW33)); (case side2 => exact (qW27)); rintro e w17 ⟨rfl, hi, hb, hk⟩; replace HO_4 := Aside0.mk (Kd.R_mono (Kd.R_keep (IsS54.apart (show IsS54 w _ gb326 l0 t338 t339 from (qW33)) (by (with_reducible repeat (first | apply Kd.R_alloc | apply Kd.R_drewN | apply Kd.R_drew)); exact (Kd.R_mono (Kd.R_far (p := ⟨gb340, 4, none⟩) (Kd.R_far (p := ⟨gb340, 3, none⟩) (Kd.R_far (p := ⟨gb340, 2, none⟩) (Kd.R_far (p := ⟨gb340, 1, none⟩) (Kd.R_far (p := ⟨gb340, 0, none⟩) (Kd.R_mono HO_4.out (fun k_ hk => (⟨hk, hk.2⟩ : _ ∧ k_ ≠ gb340))) (fun _ hk => hk.2) (.int .i64 t333)) (fun _ hk => hk.2) (.int .i64 t334)) (fun _ hk => hk.2) (.int .i64 t335)) (fun _ hk => hk.2) (.int .i64 t336)) (fun _ hk => hk.2) (.int .i64 t337)) (fun _ h_ => h_.1))) (by decide)) hk (fun _ h => h.2)) (fun _ h => h.1)); replace BK340 := Aside0.mk (KeepBut.blk hk (g' := gb340) (o := .cells #[.int .i64 t333, .int .i64 t334, .int .i64 t335, .int .i64 t336, .int .i64 t337] 59 (0, 0)) (qW42) NB340_326.out (by simp)); replace HB := Aside0.mk (hb); replace HI326 := Aside0.mk (hi); clear hb hk hi))
      go_meet
      case rel => exact ⟨_, (!t341), (t342), (t343), (qW14), H', ⟨by have := HK1.out; first | omega | exact Nat.le_refl _⟩, ⟨(qW58 HO_4.out)⟩, ⟨(qW5 BK340.out)⟩, ⟨(qW33)⟩, ⟨(qW27)⟩⟩
     ·rw [if_neg c15] at H
      have c15b0 : decide (0 < (x4_1.length : Int)) = false := decide_eq_false c15
      have c15b1 : decide (0 < x4_1.length) = false := decide_eq_false (by omega)
      clear c15
      (first | rw [c15b0] | (simp only [i64_w, i32_w]; rw [c15b0]) | skip)
      have H' := Aside0.mk H
      clear H
      go_wp2
      go_meet
      case rel => exact ⟨_, (false), (t338), (t339), (qW14), H', ⟨by have := HK1.out; first | omega | exact Nat.le_refl _⟩, ⟨(by (with_reducible repeat (first | apply Kd.R_alloc | apply Kd.R_drewN | apply Kd.R_drew)); exact Kd.R_mono (Kd.R_far (p := ⟨gb340, 4, none⟩) (Kd.R_far (p := ⟨gb340, 3, none⟩) (Kd.R_far (p := ⟨gb340, 2, none⟩) (Kd.R_far (p := ⟨gb340, 1, none⟩) (Kd.R_far (p := ⟨gb340, 0, none⟩) (Kd.R_mono HO_4.out (fun k_ hk => (⟨hk, hk.2⟩ : _ ∧ k_ ≠ gb340))) (fun _ hk => hk.2) (.int .i64 t333)) (fun _ hk => hk.2) (.int .i64 t334)) (fun _ hk => hk.2) (.int .i64 t335)) (fun _ hk => hk.2) (.int .i64 t336)) (fun _ hk => hk.2) (.int .i64 t337)) (fun _ hk => hk.1.2))⟩, ⟨(qW42)⟩, ⟨(qW33)⟩, ⟨(qW27)⟩⟩
    case rest =>
     clear HC9
     try clear c1
     try clear p2
     try clear c3
     try clear c7
     try clear c7b0
     try clear c12
     try clear c15
     try clear c15b0
     try clear c15b1
     try clear hcz13_0
     try clear hcz13_1
     try clear hcz13_2
     try clear hcz13_3
     try clear hcz13_4
     try clear hfz13_0
     try clear hfz13_1
     try clear hfz13_2
     try clear hfz13_3
     try clear hfz13_4
     try clear p2
     obtain ⟨kq, x28_8, x327001_8, x327002_8, rfl, HA, HJ8, HO_4, BK340, HI326, HB⟩ := hcut
     cases kq with
     | zero => exact absurd HA.out (by simp [spec_DrawWayOfLegs.j1])
     | succ kj8 =>
      have H := HA.out
      clear HA
      simp only [spec_DrawWayOfLegs.j1] at H
      by_cases c18 : x28_8 = true
      ·subst c18; rw [if_pos rfl] at H
       obtain ⟨ji19, hji19⟩ : ∃ j_ : Int, (wrap64 ((x4_1.length : Int) - 1)) = j_ := ⟨_, rfl⟩
       replace H : (if 0 ≤ (ji19) then (if (ji19) < (x4_1.length : Int) then (if t334 = ((rd_T59 x4_1 (ji19)).f1) then (if x4_1.length < 3518437208883 then (spec_DrawWayOfLegs.l0 kj8 (x4_1 ++ [(⟨(rd_T59 x4_1 (ji19)).f1, Int.tmod (wrap64 (((rd_T59 x4_1 (ji19)).f1) + 1)) 8, t335, t336, t337⟩ : S59)]) (wrap64 (x5_1 - 1)) l0 x327001_8 x327002_8) else (none)) else (if x4_1.length < 3518437208883 then (spec_DrawWayOfLegs.l0 kj8 (x4_1 ++ [(⟨(rd_T59 x4_1 (ji19)).f1, t334, t335, t336, t337⟩ : S59)]) (wrap64 (x5_1 - 1)) l0 x327001_8 x327002_8) else (none))) else (none)) else (none)) = some r := by first | (rw [hji19] at H; exact H) | (simp only [hji19] at H ⊢; exact H)
       have hji19w : (IntKind.i64.wrap ((x4_1.length : Int) - 1)) = ji19 := (i64_w _).trans hji19
       by_cases c20 : 0 ≤ (ji19)
       ·rw [if_pos c20] at H
        have c20b0 : decide (0 ≤ (ji19)) = true := decide_eq_true c20
        clear c20
        by_cases c21 : (ji19) < (x4_1.length : Int)
        ·rw [if_pos c21] at H
         have c21b0 : decide ((ji19) < (x4_1.length : Int)) = true := decide_eq_true c21
         clear c21
         by_cases c22 : t334 = ((rd_T59 x4_1 (ji19)).f1)
         ·rw [if_pos c22] at H
          have c22b0 : (t334 == ((rd_T59 x4_1 (ji19)).f1)) = true := beq_iff_eq.mpr c22
          have c22b1 : (t334 != ((rd_T59 x4_1 (ji19)).f1)) = false := bne_eq_false_iff_eq.mpr c22
          clear c22
          by_cases c23 : x4_1.length < 3518437208883
          ·rw [if_pos c23] at H; have LMc23 := Aside0.mk c23; clear c23
           obtain ⟨y345, hy345⟩ : ∃ y_ : List (S59), y_ = (x4_1 ++ [(⟨(rd_T59 x4_1 (ji19)).f1, Int.tmod (wrap64 (((rd_T59 x4_1 (ji19)).f1) + 1)) 8, t335, t336, t337⟩ : S59)]) := ⟨_, rfl⟩
           replace H : (spec_DrawWayOfLegs.l0 kj8 y345 (wrap64 (x5_1 - 1)) l0 x327001_8 x327002_8) = some r := (qW7 hy345)
           have Ny345 := Aside0.mk hy345; clear hy345
           have H' := Aside0.mk H
           clear H
           have p344 : 0 ≤ ((ji19) : Int) := of_decide_eq_true (qW13)
           have q344 : (ji19) < (x4_1.length : Int) := of_decide_eq_true (qW13)
           obtain ⟨ad344, e344, hx344_0, hx344_1, hx344_2, hx344_3, hx344_4⟩ := at_T59 (Kd.R_reads' HO_4.out).2.2 (ji19) p344 q344
           cases e344
           replace p344 := eq_true p344
           replace q344 := eq_true q344
           have hnb24 := NB340_326.out
           have hnc24 := NB326_340.out
           have hcz25_0 : wc.cell? ⟨gb340, 0, none⟩ = some (.int .i64 t333) := (blk_cell BK340.out 0).trans rfl
           have hcz25_1 : wc.cell? ⟨gb340, 1, none⟩ = some (.int .i64 t334) := (blk_cell BK340.out 1).trans rfl
           have hcz25_2 : wc.cell? ⟨gb340, 2, none⟩ = some (.int .i64 t335) := (blk_cell BK340.out 2).trans rfl
           have hcz25_3 : wc.cell? ⟨gb340, 3, none⟩ = some (.int .i64 t336) := (blk_cell BK340.out 3).trans rfl
           have hcz25_4 : wc.cell? ⟨gb340, 4, none⟩ = some (.int .i64 t337) := (blk_cell BK340.out 4).trans rfl
           have hfz25_0 := blk_frozen BK340.out 0
           have hfz25_1 := blk_frozen BK340.out 1
           have hfz25_2 := blk_frozen BK340.out 2
           have hfz25_3 := blk_frozen BK340.out 3
           have hfz25_4 := blk_frozen BK340.out 4
           go_wp2_with (first | ((with_reducible refine gate_builtin (b := .append) (xs := #[.tmp 46, .tmp 48]) rfl ?_); at_builtin; refine Kd.R_append k59 (w0 := w) w.heap.size rfl (.tmp 46) (.tmp 48) 40 59 (.agg #[(.int .i64 0), (.int .i64 0), (.int .i64 0), (.int .i64 0), (.int .i64 0)]) 40 rfl Tryd.underlying40 info59 rfl (by decide) (by omega) (.slice (some ad344) x4_1.length co14) x4_1 (⟨(rd_T59 x4_1 (ji19)).f1, Int.tmod (wrap64 (((rd_T59 x4_1 (ji19)).f1) + 1)) 8, t335, t336, t337⟩ : S59) [.int .i64 ((rd_T59 x4_1 (ji19)).f1), .int .i64 (Int.tmod (wrap64 (((rd_T59 x4_1 (ji19)).f1) + 1)) 8), .int .i64 t335, .int .i64 t336, .int .i64 t337] (fun k_ => k_ ≠ gb340) (fun _ => False) rfl (qW22) ?aP (fun _ hk => hk.elim) ?aF ?aO ?aB ?aS ?aL ?_; (case aP => exact (by exact k59_mkM _ _ _ (⟨(rd_T59 x4_1 (ji19)).f1, Int.tmod (wrap64 (((rd_T59 x4_1 (ji19)).f1) + 1)) 8, t335, t336, t337⟩ : S59))); (case aB => exact (qW27)); (case aF => exact (by exact (fun k_ hk => Kd.freshB (g := gb340) (o := .cells #[.int .i64 ((rd_T59 x4_1 (ji19)).f1), .int .i64 (Int.tmod (wrap64 (((rd_T59 x4_1 (ji19)).f1) + 1)) 8), .int .i64 t335, .int .i64 t336, .int .i64 t337] 59 (0, 0)) (qW49) k_ hk))); (case aO => exact (by (with_reducible repeat (first | apply Kd.R_alloc | apply Kd.R_drewN | apply Kd.R_drew)); exact Kd.R_mono (Kd.R_far (p := ⟨gb340, 1, none⟩) (Kd.R_far (p := ⟨gb340, 0, none⟩) (Kd.R_mono HO_4.out (fun k_ hk => (⟨hk, hk⟩ : _ ∧ k_ ≠ gb340))) (fun _ hk => hk.2) (.int .i64 ((rd_T59 x4_1 (ji19)).f1))) (fun _ hk => hk.2) (.int .i64 (Int.tmod (wrap64 (((rd_T59 x4_1 (ji19)).f1) + 1)) 8))) (fun _ hk => hk.1))); (case aS => exact (by exact (below_size (qW27)))); (case aL => have := LMc23.out; omega); intro v346 w26 ho hb hg hat; rw [← Ny345.out] at ho; replace BK340 := Aside0.mk (blk_grown (g := gb340) (o := .cells #[.int .i64 ((rd_T59 x4_1 (ji19)).f1), .int .i64 (Int.tmod (wrap64 (((rd_T59 x4_1 (ji19)).f1) + 1)) 8), .int .i64 t335, .int .i64 t336, .int .i64 t337] 59 (0, 0)) (qW49) hg (Kd.R_away HO_4.out (fun _ hk => hk))); replace HI326 := Aside0.mk (IsS54.grown (show IsS54 w _ gb326 l0 x327001_8 x327002_8 from (qW33)) hg (IsS54.own_ne HI326.out HO_4.out (by decide))); replace HB := Aside0.mk (hb); have HO347 := Aside0.mk (ho); clear HO_4; clear ho hb hg hat))
           go_roundg kj8
           case measure => have := HK1.out; have := HJ8.out; omega
           case rel => exact ⟨(y345), (wrap64 (x5_1 - 1)), (x327001_8), (x327002_8), (qW14), H', ⟨by have := HK1.out; have := HJ8.out; omega⟩, ⟨(qW43 HO347.out)⟩, ⟨(qW33)⟩, ⟨(qW27)⟩⟩
          ·rw [if_neg c23] at H
           exact absurd H (by simp)
         ·rw [if_neg c22] at H
          have c22b0 : (t334 == ((rd_T59 x4_1 (ji19)).f1)) = false := beq_eq_false_iff_ne.mpr c22
          have c22b1 : (t334 != ((rd_T59 x4_1 (ji19)).f1)) = true := bne_iff_ne.mpr c22
          by_cases c27 : x4_1.length < 3518437208883
          ·rw [if_pos c27] at H; have LMc27 := Aside0.mk c27; clear c27
           obtain ⟨y348, hy348⟩ : ∃ y_ : List (S59), y_ = (x4_1 ++ [(⟨(rd_T59 x4_1 (ji19)).f1, t334, t335, t336, t337⟩ : S59)]) := ⟨_, rfl⟩
           replace H : (spec_DrawWayOfLegs.l0 kj8 y348 (wrap64 (x5_1 - 1)) l0 x327001_8 x327002_8) = some r := (qW7 hy348)
           have Ny348 := Aside0.mk hy348; clear hy348
           have H' := Aside0.mk H
           clear H
           have p344 : 0 ≤ ((ji19) : Int) := of_decide_eq_true (qW13)
           have q344 : (ji19) < (x4_1.length : Int) := of_decide_eq_true (qW13)
           obtain ⟨ad344, e344, hx344_0, hx344_1, hx344_2, hx344_3, hx344_4⟩ := at_T59 (Kd.R_reads' HO_4.out).2.2 (ji19) p344 q344
           cases e344
           replace p344 := eq_true p344
           replace q344 := eq_true q344
           have hnb28 := NB340_326.out
           have hnc28 := NB326_340.out
           have hcz29_0 : wc.cell? ⟨gb340, 0, none⟩ = some (.int .i64 t333) := (blk_cell BK340.out 0).trans rfl
           have hcz29_1 : wc.cell? ⟨gb340, 1, none⟩ = some (.int .i64 t334) := (blk_cell BK340.out 1).trans rfl
           have hcz29_2 : wc.cell? ⟨gb340, 2, none⟩ = some (.int .i64 t335) := (blk_cell BK340.out 2).trans rfl
           have hcz29_3 : wc.cell? ⟨gb340, 3, none⟩ = some (.int .i64 t336) := (blk_cell BK340.out 3).trans rfl
           have hcz29_4 : wc.cell? ⟨gb340, 4, none⟩ = some (.int .i64 t337) := (blk_cell BK340.out 4).trans rfl
           have hfz29_0 := blk_frozen BK340.out 0
           have hfz29_1 := blk_frozen BK340.out 1
           have hfz29_2 := blk_frozen BK340.out 2
           have hfz29_3 := blk_frozen BK340.out 3
           have hfz29_4 := blk_frozen BK340.out 4
           go_wp2_with (first | ((with_reducible refine gate_builtin (b := .append) (xs := #[.tmp 46, .tmp 48]) rfl ?_); at_builtin; refine Kd.R_append k59 (w0 := w) w.heap.size rfl (.tmp 46) (.tmp 48) 40 59 (.agg #[(.int .i64 0), (.int .i64 0), (.int .i64 0), (.int .i64 0), (.int .i64 0)]) 40 rfl Tryd.underlying40 info59 rfl (by decide) (by omega) (.slice (some ad344) x4_1.length co14) x4_1 (⟨(rd_T59 x4_1 (ji19)).f1, t334, t335, t336, t337⟩ : S59) [.int .i64 ((rd_T59 x4_1 (ji19)).f1), .int .i64 t334, .int .i64 t335, .int .i64 t336, .int .i64 t337] (fun k_ => k_ ≠ gb340) (fun _ => False) rfl (qW22) ?aP (fun _ hk => hk.elim) ?aF ?aO ?aB ?aS ?aL ?_; (case aP => exact (by exact k59_mkM _ _ _ (⟨(rd_T59 x4_1 (ji19)).f1, t334, t335, t336, t337⟩ : S59))); (case aB => exact (qW27)); (case aF => exact (by exact (fun k_ hk => Kd.freshB (g := gb340) (o := .cells #[.int .i64 ((rd_T59 x4_1 (ji19)).f1), .int .i64 t334, .int .i64 t335, .int .i64 t336, .int .i64 t337] 59 (0, 0)) (qW56) k_ hk))); (case aO => exact (by (with_reducible repeat (first | apply Kd.R_alloc | apply Kd.R_drewN | apply Kd.R_drew)); exact Kd.R_mono (Kd.R_far (p := ⟨gb340, 0, none⟩) (Kd.R_mono HO_4.out (fun k_ hk => (⟨hk, hk⟩ : _ ∧ k_ ≠ gb340))) (fun _ hk => hk.2) (.int .i64 ((rd_T59 x4_1 (ji19)).f1))) (fun _ hk => hk.1))); (case aS => exact (by exact (below_size (qW27)))); (case aL => have := LMc27.out; omega); intro v349 w30 ho hb hg hat; rw [← Ny348.out] at ho; replace BK340 := Aside0.mk (blk_grown (g := gb340) (o := .cells #[.int .i64 ((rd_T59 x4_1 (ji19)).f1), .int .i64 t334, .int .i64 t335, .int .i64 t336, .int .i64 t337] 59 (0, 0)) (qW56) hg (Kd.R_away HO_4.out (fun _ hk => hk))); replace HI326 := Aside0.mk (IsS54.grown (show IsS54 w _ gb326 l0 x327001_8 x327002_8 from (qW33)) hg (IsS54.own_ne HI326.out HO_4.out (by decide))); replace HB := Aside0.mk (hb); have HO350 := Aside0.mk (ho); clear HO_4; clear ho hb hg hat))
           go_roundg kj8
           case measure => have := HK1.out; have := HJ8.out; omega
           case rel => exact ⟨(y348), (wrap64 (x5_1 - 1)), (x327001_8), (x327002_8), (qW14), H', ⟨by have := HK1.out; have := HJ8.out; omega⟩, ⟨(qW43 HO350.out)⟩, ⟨(qW33)⟩, ⟨(qW27)⟩⟩
          ·rw [if_neg c27] at H
           exact absurd H (by simp)
        ·rw [if_neg c21] at H
         exact absurd H (by simp)
       ·rw [if_neg c20] at H
        exact absurd H (by simp)
      ·replace c18 := Bool.eq_false_iff.mpr c18
       subst c18
       rw [if_neg (show ¬ (false = true) by decide)] at H
       by_cases c31 : x4_1.length < 3518437208883
       ·rw [if_pos c31] at H; have LMc31 := Aside0.mk c31; clear c31
        obtain ⟨y351, hy351⟩ : ∃ y_ : List (S59), y_ = (x4_1 ++ [(⟨t333, t334, t335, t336, t337⟩ : S59)]) := ⟨_, rfl⟩
        replace H : (spec_DrawWayOfLegs.l0 kj8 y351 (wrap64 (x5_1 - 1)) l0 x327001_8 x327002_8) = some r := (qW7 hy351)
        have Ny351 := Aside0.mk hy351; clear hy351
        have H' := Aside0.mk H
        clear H
        have hnb32 := NB340_326.out
        have hnc32 := NB326_340.out
        have hcz33_0 : wc.cell? ⟨gb340, 0, none⟩ = some (.int .i64 t333) := (blk_cell BK340.out 0).trans rfl
        have hcz33_1 : wc.cell? ⟨gb340, 1, none⟩ = some (.int .i64 t334) := (blk_cell BK340.out 1).trans rfl
        have hcz33_2 : wc.cell? ⟨gb340, 2, none⟩ = some (.int .i64 t335) := (blk_cell BK340.out 2).trans rfl
        have hcz33_3 : wc.cell? ⟨gb340, 3, none⟩ = some (.int .i64 t336) := (blk_cell BK340.out 3).trans rfl
        have hcz33_4 : wc.cell? ⟨gb340, 4, none⟩ = some (.int .i64 t337) := (blk_cell BK340.out 4).trans rfl
        have hfz33_0 := blk_frozen BK340.out 0
        have hfz33_1 := blk_frozen BK340.out 1
        have hfz33_2 := blk_frozen BK340.out 2
        have hfz33_3 := blk_frozen BK340.out 3
        have hfz33_4 := blk_frozen BK340.out 4
        go_wp2_with (first | ((with_reducible refine gate_builtin (b := .append) (xs := #[.tmp 46, .tmp 48]) rfl ?_); at_builtin; refine Kd.R_append k59 (w0 := w) w.heap.size rfl (.tmp 46) (.tmp 48) 40 59 (.agg #[(.int .i64 0), (.int .i64 0), (.int .i64 0), (.int .i64 0), (.int .i64 0)]) 40 rfl Tryd.underlying40 info59 rfl (by decide) (by omega) (.slice Ao14 x4_1.length co14) x4_1 (⟨t333, t334, t335, t336, t337⟩ : S59) [.int .i64 t333, .int .i64 t334, .int .i64 t335, .int .i64 t336, .int .i64 t337] (fun k_ => k_ ≠ gb340) (fun _ => False) rfl rfl ?aP (fun _ hk => hk.elim) ?aF ?aO ?aB ?aS ?aL ?_; (case aP => exact (by exact k59_mkM _ _ _ (⟨t333, t334, t335, t336, t337⟩ : S59))); (case aB => exact (qW27)); (case aF => exact (by exact (fun k_ hk => Kd.freshB (g := gb340) (o := .cells #[.int .i64 t333, .int .i64 t334, .int .i64 t335, .int .i64 t336, .int .i64 t337] 59 (0, 0)) (qW5 BK340.out) k_ hk))); (case aO => exact (qW2 HO_4.out)); (case aS => exact (by exact (below_size (qW27)))); (case aL => have := LMc31.out; omega); intro v352 w34 ho hb hg hat; rw [← Ny351.out] at ho; replace BK340 := Aside0.mk (blk_grown (g := gb340) (o := .cells #[.int .i64 t333, .int .i64 t334, .int .i64 t335, .int .i64 t336, .int .i64 t337] 59 (0, 0)) (qW5 BK340.out) hg (Kd.R_away HO_4.out (fun _ hk => hk))); replace HI326 := Aside0.mk (IsS54.grown (show IsS54 w _ gb326 l0 x327001_8 x327002_8 from (qW33)) hg (IsS54.own_ne HI326.out HO_4.out (by decide))); replace HB := Aside0.mk (hb); have HO353 := Aside0.mk (ho); clear HO_4; clear ho hb hg hat))
        go_roundg kj8
        case measure => have := HK1.out; have := HJ8.out; omega
        case rel => exact ⟨(y351), (wrap64 (x5_1 - 1)), (x327001_8), (x327002_8), (qW14), H', ⟨by have := HK1.out; have := HJ8.out; omega⟩, ⟨(qW43 HO353.out)⟩, ⟨(qW33)⟩, ⟨(qW27)⟩⟩
       ·rw [if_neg c31] at H
        exact absurd H (by simp)
   ·rw [if_neg c7] at H
    have c7b0 : decide (0 < x5_1) = false := decide_eq_false c7
    clear c7; replace H := Option.bind_eq_some_iff.mp H; obtain ⟨⟨t354, t355, t356⟩, A350, H⟩ := H
    try dsimp only at H
    have A35 := Aside0.mk A350; clear A350
    by_cases c36 : t354 = true
    ·subst c36; rw [if_pos rfl] at H
     have H' := Aside0.mk H
     clear H
     go_wp2_with (first | ((with_reducible refine gate_callee (f := 33) rfl ?_); refine goesL_ (some 51) rfl rfl Tryd.func33 (by kernel_rfl) rfl #[.pointer (some ⟨gb326, 0, none⟩), .int .i64 24] rfl (qW1) ?_; (with_reducible refine (spec_l1Cur_one.calls gb326 l0 x327001_1 x327002_1 24 true t355 t356 w _ ?side1 ?side2 A35.out).mono ?_); (case side1 => exact (qW23)); (case side2 => exact (qW24)); rintro e w37 ⟨rfl, hi, hb, hk⟩; refine ⟨_, rfl, ?_⟩; replace HO_4 := Aside0.mk (Kd.R_mono (Kd.R_keep (IsS54.apart (show IsS54 w _ gb326 l0 x327001_1 x327002_1 from (qW23)) (qW2 HO_4.out) (by decide)) hk (fun _ h => h.2)) (fun _ h => h.1)); replace HB := Aside0.mk (hb); replace HI326 := Aside0.mk (hi); clear hb hk hi))
     try go_simp
     go_loopg [4] k1 (fun kq v4 w' => ∃ (x4_2 : List (S59)) (x327001_2 : Int) (x327002_2 : Int), Aside0 (spec_DrawWayOfLegs.l1 kq x4_2 l0 x327001_2 x327002_2 = some r) ∧ Aside0 (kq ≤ k1) ∧ Aside0 (Kd.R k59 59 w' w.heap.size (fun _ => True) v4 x4_2) ∧ Aside0 (IsS54 w w' gb326 l0 x327001_2 x327002_2) ∧ Aside0 (Below w.heap.size w w'))
     case atStart => exact ⟨(x4_1), (t355), (t356), H', ⟨Nat.le_refl _⟩, ⟨(qW2 HO_4.out)⟩, ⟨(qW23)⟩, ⟨(qW24)⟩⟩
     case round =>
      clear H'
      try clear c1
      try clear c2
      try clear p2
      try clear c3
      try clear p3
      try clear q3
      try clear hx3
      try clear p6
      try clear c7
      try clear c7b0
      try clear c12
      try clear c15
      try clear c15b0
      try clear c15b1
      try clear c18
      try clear c19
      try clear c20
      try clear c20b0
      try clear c21
      try clear c21b0
      try clear c22
      try clear c22b0
      try clear c22b1
      try clear c23
      try clear c24
      try clear c27
      try clear c28
      try clear c31
      try clear c32
      try clear c33
      try clear p34
      try clear q34
      try clear hx34
      try clear c36
      try clear hcz13_0
      try clear hcz13_1
      try clear hcz13_2
      try clear hcz13_3
      try clear hcz13_4
      try clear hcz25_0
      try clear hcz25_1
      try clear hcz25_2
      try clear hcz25_3
      try clear hcz25_4
      try clear hcz29_0
      try clear hcz29_1
      try clear hcz29_2
      try clear hcz29_3
      try clear hcz29_4
      try clear hcz33_0
      try clear hcz33_1
      try clear hcz33_2
      try clear hcz33_3
      try clear hcz33_4
      try clear hfz13_0
      try clear hfz13_1
      try clear hfz13_2
      try clear hfz13_3
      try clear hfz13_4
      try clear hfz25_0
      try clear hfz25_1
      try clear hfz25_2
      try clear hfz25_3
      try clear hfz25_4
      try clear hfz29_0
      try clear hfz29_1
      try clear hfz29_2
      try clear hfz29_3
      try clear hfz29_4
      try clear hfz33_0
      try clear hfz33_1
      try clear hfz33_2
      try clear hfz33_3
      try clear hfz33_4
      try clear hx344_0
      try clear hx344_1
      try clear hx344_2
      try clear hx344_3
      try clear hx344_4
      try clear p2
      try clear p344
      try clear q344
      obtain ⟨x4_2, x327001_2, x327002_2, HA, HK2, HO_4, HI326, HB⟩ := hrel
      cases gk with
      | zero => exact absurd HA.out (by simp [spec_DrawWayOfLegs.l1])
      | succ k2 =>
       have H := HA.out
       clear HA
       simp only [spec_DrawWayOfLegs.l1] at H
       replace H := Option.bind_eq_some_iff.mp H; obtain ⟨⟨t357, t358, t359⟩, A380, H⟩ := H
       try dsimp only at H
       have A38 := Aside0.mk A380; clear A380
       by_cases c39 : (x4_2.length : Int) < (wrap64 (12 + t357))
       ·rw [if_pos c39] at H
        have c39b0 : decide ((x4_2.length : Int) < (wrap64 (12 + t357))) = true := decide_eq_true c39
        clear c39
        by_cases c40 : x4_2.length < 3518437208883
        ·rw [if_pos c40] at H; have LMc40 := Aside0.mk c40; clear c40
         obtain ⟨y360, hy360⟩ : ∃ y_ : List (S59), y_ = (x4_2 ++ [(⟨(x4_2.length : Int) % 2, 1 - ((x4_2.length : Int) % 2), 40, 0, 0⟩ : S59)]) := ⟨_, rfl⟩
         replace H : (spec_DrawWayOfLegs.l1 k2 y360 l0 t358 t359) = some r := (qW7 hy360)
         have Ny360 := Aside0.mk hy360; clear hy360
         have H' := Aside0.mk H
         clear H
         obtain ⟨Ao41, co41, eo41⟩ := Kd.R_slice HO_4.out
         subst eo41
         go_wp2_with (first | ((with_reducible refine gate_callee (f := 31) rfl ?_); refine goesL_ (some 55) rfl rfl Tryd.func31 (by kernel_rfl) rfl #[.pointer (some ⟨gb326, 0, none⟩), .int .i64 2] rfl (qW1) ?_; (with_reducible refine (spec_l1Cur_pick.calls gb326 l0 x327001_2 x327002_2 2 t357 t358 t359 w _ ?side1 ?side2 A38.out).mono ?_); (case side1 => exact (qW23)); (case side2 => exact (qW24)); rintro e w42 ⟨rfl, hi, hb, hk⟩; refine ⟨_, rfl, ?_⟩; replace HO_4 := Aside0.mk (Kd.R_mono (Kd.R_keep (IsS54.apart (show IsS54 w _ gb326 l0 x327001_2 x327002_2 from (qW23)) (qW2 HO_4.out) (by decide)) hk (fun _ h => h.2)) (fun _ h => h.1)); replace HB := Aside0.mk (hb); replace HI326 := Aside0.mk (hi); clear hb hk hi) | ((with_reducible refine gate_builtin (b := .append) (xs := #[.tmp 58, .tmp 67]) rfl ?_); at_builtin; refine Kd.R_append k59 (w0 := w) w.heap.size rfl (.tmp 58) (.tmp 67) 40 59 (.agg #[(.int .i64 0), (.int .i64 0), (.int .i64 0), (.int .i64 0), (.int .i64 0)]) 40 rfl Tryd.underlying40 info59 rfl (by decide) (by omega) (.slice Ao41 x4_2.length co41) x4_2 (⟨(x4_2.length : Int) % 2, 1 - ((x4_2.length : Int) % 2), 40, 0, 0⟩ : S59) [.int .i64 ((x4_2.length : Int) % 2), .int .i64 (1 - ((x4_2.length : Int) % 2)), .int .i64 40, .int .i64 0, .int .i64 0] (fun _ => True) (fun _ => False) rfl rfl ?aP (fun _ hk => hk.elim) ?aF ?aO ?aB ?aS ?aL ?_; (case aP => exact (by exact k59_mkM _ _ _ (⟨(x4_2.length : Int) % 2, 1 - ((x4_2.length : Int) % 2), 40, 0, 0⟩ : S59))); (case aB => exact (qW24)); (case aF => exact (fun _ _ => trivial)); (case aO => exact (qW2 HO_4.out)); (case aS => exact (by exact (below_size (qW24)))); (case aL => have := LMc40.out; omega); intro v361 w43 ho hb hg hat; rw [← Ny360.out] at ho; replace HI326 := Aside0.mk (IsS54.grown (show IsS54 w _ gb326 l0 t358 t359 from (qW23)) hg (IsS54.own_ne HI326.out HO_4.out (by decide))); replace HB := Aside0.mk (hb); have HO362 := Aside0.mk (ho); clear HO_4; clear ho hb hg hat))
         go_roundg k2
         case measure => have := HK1.out; have := HK2.out; omega
         case rel => exact ⟨(y360), (t358), (t359), H', ⟨by have := HK1.out; have := HK2.out; omega⟩, ⟨(qW2 HO362.out)⟩, ⟨(qW23)⟩, ⟨(qW24)⟩⟩
        ·rw [if_neg c40] at H
         exact absurd H (by simp)
       ·rw [if_neg c39] at H
        have c39b0 : decide ((x4_2.length : Int) < (wrap64 (12 + t357))) = false := decide_eq_false c39
        clear c39; obtain rfl := Option.some.inj H
        obtain ⟨Ao44, co44, eo44⟩ := Kd.R_slice HO_4.out
        subst eo44
        go_wp2_with (first | ((with_reducible refine gate_callee (f := 31) rfl ?_); refine goesL_ (some 55) rfl rfl Tryd.func31 (by kernel_rfl) rfl #[.pointer (some ⟨gb326, 0, none⟩), .int .i64 2] rfl (qW1) ?_; (with_reducible refine (spec_l1Cur_pick.calls gb326 l0 x327001_2 x327002_2 2 t357 t358 t359 w _ ?side1 ?side2 A38.out).mono ?_); (case side1 => exact (qW23)); (case side2 => exact (qW24)); rintro e w45 ⟨rfl, hi, hb, hk⟩; refine ⟨_, rfl, ?_⟩; replace HO_4 := Aside0.mk (Kd.R_mono (Kd.R_keep (IsS54.apart (show IsS54 w _ gb326 l0 x327001_2 x327002_2 from (qW23)) (qW2 HO_4.out) (by decide)) hk (fun _ h => h.2)) (fun _ h => h.1)); replace HB := Aside0.mk (hb); replace HI326 := Aside0.mk (hi); clear hb hk hi))
        go_ret
        exact ⟨_, (qW9), (qW2 HO_4.out), (qW24)⟩
    ·replace c36 := Bool.eq_false_iff.mpr c36
     subst c36
     rw [if_neg (show ¬ (false = true) by decide)] at H
     obtain rfl := Option.some.inj H
     go_wp2_with (first | ((with_reducible refine gate_callee (f := 33) rfl ?_); refine goesL_ (some 51) rfl rfl Tryd.func33 (by kernel_rfl) rfl #[.pointer (some ⟨gb326, 0, none⟩), .int .i64 24] rfl (qW1) ?_; (with_reducible refine (spec_l1Cur_one.calls gb326 l0 x327001_1 x327002_1 24 false t355 t356 w _ ?side1 ?side2 A35.out).mono ?_); (case side1 => exact (qW23)); (case side2 => exact (qW24)); rintro e w46 ⟨rfl, hi, hb, hk⟩; refine ⟨_, rfl, ?_⟩; replace HO_4 := Aside0.mk (Kd.R_mono (Kd.R_keep (IsS54.apart (show IsS54 w _ gb326 l0 x327001_1 x327002_1 from (qW23)) (qW2 HO_4.out) (by decide)) hk (fun _ h => h.2)) (fun _ h => h.1)); replace HB := Aside0.mk (hb); replace HI326 := Aside0.mk (hi); clear hb hk hi))
     go_ret
     exact ⟨_, (qW9), (qW2 HO_4.out), (qW24)⟩

end Go.Proofs.YtmbpdegkkdcjnaaDoor.MW
