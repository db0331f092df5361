-- Written by a program of this session (wip/drv.py, wip/tight.py).
import Derived.Test.YtfjpbochanekoaaMJx0
import Derived.Test.YtfjpbochanekoaaMJx8
import Derived.Test.YtfjpbochanekoaaMJx9
namespace Go.Proofs.Ytfjpbochanekoaa.MJ
open Go.RowKit Go.Proofs.YtfjpbochanekoaaW.PrintWords Go.Proofs.YtfjpbochanekoaaW.PrintLast Go.Proofs.YtfjpbochanekoaaW.PrintMore
theorem qJ10_0 {p : Prop} (h : p := by repeat (first | (with_reducible first | exact HB.out | apply below_alloc | apply pw_below_drewN | apply below_drew1 | refine below_set ?_ (IsS63.ge HI350.out)) | exact HB.out)) : p := h
theorem qJ10_1 {p : Prop} (h : p := by repeat (first | (with_reducible first | exact HI350.out | apply IsS63.alloc | apply IsS63.drewN | apply IsS63.drew | apply IsS63.set_1 | apply IsS63.set_2) | exact HI350.out)) : p := h
theorem qJ10_2 {p : Prop} (h : p := by (with_reducible repeat (first | apply Kd.R_alloc | apply Kd.R_drewN | apply Kd.R_drew)); exact HO_6.out) : p := h
theorem qJ10_3 {p : Prop} (h : p := by (with_reducible repeat (first | apply Kd.R_alloc | apply Kd.R_drewN | apply Kd.R_drew)); exact HO_8.out) : p := h
theorem qJ10_4 {p : Prop} (h : p := by (with_reducible repeat (first | apply Kd.R_alloc | apply Kd.R_drewN | apply Kd.R_drew)); exact HO_7.out) : p := h
theorem qJ10_5 {p : Prop} (h : p := by (try simp only [List.map_toArray, List.map_cons, List.map_nil]); first | done | rfl | (simp only [List.length_drop, List.length_take]; rfl)) : p := h
theorem qJ10_6 {p : Prop} (h : p := by (with_reducible repeat (first | apply Kd.R_alloc | apply Kd.R_drewN | apply Kd.R_drew)); exact HO_10.out) : p := h
theorem qJ10_7 {p : Prop} (h : p := by repeat (first | (with_reducible first | exact HB.out | apply below_alloc | apply pw_below_drewN | apply below_drew1) | exact HB.out)) : p := h
theorem qJ10_8 {p : Prop} (h : p := by (with_reducible repeat (first | apply Kd.R_alloc | apply Kd.R_drewN | apply Kd.R_drew)); exact Kd.R_mono HO_7.out (fun _ hk => hk.2)) : p := h
theorem qJ10_9 {p : Prop} (h : p := by first | rfl | (simp [errW_none, errW_some] <;> rfl) | (simp [*, errW_none, errW_some] <;> rfl)) : p := h
theorem qJ10_10 {p : Prop} (h : p := by (with_reducible repeat (first | apply Kd.R_alloc | apply Kd.R_drewN | apply Kd.R_drew)); exact HO353.out) : p := h
theorem qJ10_11 {p : Prop} (h : p := by (with_reducible repeat (first | apply Kd.R_alloc | apply Kd.R_drewN | apply Kd.R_drew)); exact Kd.R_mono HO374.out (fun _ hk => ⟨hk.1.2, hk.2⟩)) : p := h
theorem qJ10_12 {p : Prop} (h : p := by first | rfl | (simp; done) | (simp [*]; done)) : p := h
theorem qJ10_13 {p : Prop} (h : p := by (with_reducible repeat (first | apply Kd.R_alloc | apply Kd.R_drewN | apply Kd.R_drew)); exact HO358.out) : p := h
attribute [local go_sem] max2_int min2_int max_two min_two max_three min_three max_four min_four   -- for this text's walks alone
set_option linter.unusedVariables false
set_option linter.unusedSimpArgs false

/-! ### spec_DrawIsRigging: function 25 -/
mutual
def spec_DrawIsRigging.l0 : Nat → List (S36) → List Int → List Int → Int → List Int → Int → Int → Option ((List (S36)) × List Int × List Int)
 | 0, _, _, _, _, _, _, _ => none
 | k + 1, x6, x7, x8, x9, x351000, x351001, x351002 => if x9 < (x6.length : Int) then ((spec_l1Cur_pick.f x351000 x351001 x351002 (wrap64 ((x7.length : Int) + 1))).bind fun bt364 => (if x8.length < 17592186044416 then (spec_DrawIsRigging.l0 k x6 x7 (x8 ++ [bt364.1]) (wrap64 (x9 + 1)) x351000 bt364.2.1 bt364.2.2) else (none))) else ((spec_BestRigging.f k x6 x7).bind fun bt370 => (if bt370.2.2 = true then ((spec_l1Cur_one.f x351000 x351001 x351002 2).bind fun bt375 => (spec_DrawIsRigging.j1 k x6 x7 x8 bt370.1 bt375.1 x351000 bt375.2.1 bt375.2.2)) else (spec_DrawIsRigging.j1 k x6 x7 x8 bt370.1 false x351000 x351001 x351002)))
def spec_DrawIsRigging.j1 : Nat → List (S36) → List Int → List Int → List Int → Bool → List Int → Int → Int → Option ((List (S36)) × List Int × List Int)
 | 0, _, _, _, _, _, _, _, _ => none
 | k + 1, x6, x7, x8, x10, x46, x351000, x351001, x351002 => if x46 = true then ((spec_l1Cur_one.f x351000 x351001 x351002 24).bind fun bt378 => (if bt378.1 = true then (if x10.length < 17592186044416 then (some (x6, x7, (x10 ++ [0]))) else (none)) else (some (x6, x7, x10)))) else ((spec_l1Cur_one.f x351000 x351001 x351002 24).bind fun bt384 => (if bt384.1 = true then (if x8.length < 17592186044416 then (some (x6, x7, (x8 ++ [0]))) else (none)) else (some (x6, x7, x8))))
end
def spec_DrawIsRigging.f (k : Nat) (l0 : List Int) : Option ((List (S36)) × List Int × List Int) := (spec_l1Cur_pitches.f k l0 0 0).bind fun bt351 => ((spec_l1Cur_ropes.f k l0 bt351.2.1 bt351.2.2).bind fun bt356 => (spec_DrawIsRigging.l0 k bt351.1 bt356.1 (([] : List Int)) 0 l0 bt356.2.1 bt356.2.2))
theorem spec_DrawIsRigging.mono_l : ∀ k, (∀ y0 y1 y2 y3 y4 y5 y6, LeO (spec_DrawIsRigging.l0 k y0 y1 y2 y3 y4 y5 y6) (spec_DrawIsRigging.l0 (k + 1) y0 y1 y2 y3 y4 y5 y6)) ∧ (∀ y0 y1 y2 y3 y4 y5 y6 y7, LeO (spec_DrawIsRigging.j1 k y0 y1 y2 y3 y4 y5 y6 y7) (spec_DrawIsRigging.j1 (k + 1) y0 y1 y2 y3 y4 y5 y6 y7))
 | 0 => ⟨fun _ _ _ _ _ _ _ r h => by simp [spec_DrawIsRigging.l0] at h, fun _ _ _ _ _ _ _ _ r h => by simp [spec_DrawIsRigging.j1] at h⟩
 | k + 1 => by
  obtain ⟨ih0, ih1⟩ := spec_DrawIsRigging.mono_l k
  refine ⟨?_, ?_⟩
  ·intro y0 y1 y2 y3 y4 y5 y6
   unfold spec_DrawIsRigging.l0
   repeat' first
   | (with_reducible exact ih0 _ _ _ _ _ _ _)
   | (with_reducible exact ih1 _ _ _ _ _ _ _ _)
   | (with_reducible exact spec_BestRigging.mono _ _ _)
   | (with_reducible exact spec_l1Cur_pitches.mono _ _ _ _)
   | (with_reducible exact spec_l1Cur_ropes.mono _ _ _ _)
   | (with_reducible exact LeO.refl _)
   | (with_reducible exact LeO.none _)
   | (with_reducible refine LeO.ite ?_ ?_)
   | (with_reducible refine LeO.bind ?_ (fun _ => ?_))
   | exact ih0 _ _ _ _ _ _ _
   | exact ih1 _ _ _ _ _ _ _ _
   | exact spec_BestRigging.mono _ _ _
   | exact spec_l1Cur_pitches.mono _ _ _ _
   | exact spec_l1Cur_ropes.mono _ _ _ _
   | exact LeO.none _
   | refine LeO.ite ?_ ?_
   | refine LeO.bind ?_ (fun _ => ?_)
  ·intro y0 y1 y2 y3 y4 y5 y6 y7
   unfold spec_DrawIsRigging.j1
   repeat' first
   | (with_reducible exact ih0 _ _ _ _ _ _ _)
   | (with_reducible exact ih1 _ _ _ _ _ _ _ _)
   | (with_reducible exact spec_BestRigging.mono _ _ _)
   | (with_reducible exact spec_l1Cur_pitches.mono _ _ _ _)
   | (with_reducible exact spec_l1Cur_ropes.mono _ _ _ _)
   | (with_reducible exact LeO.refl _)
   | (with_reducible exact LeO.none _)
   | (with_reducible refine LeO.ite ?_ ?_)
   | (with_reducible refine LeO.bind ?_ (fun _ => ?_))
   | exact ih0 _ _ _ _ _ _ _
   | exact ih1 _ _ _ _ _ _ _ _
   | exact spec_BestRigging.mono _ _ _
   | exact spec_l1Cur_pitches.mono _ _ _ _
   | exact spec_l1Cur_ropes.mono _ _ _ _
   | exact LeO.none _
   | refine LeO.ite ?_ ?_
   | refine LeO.bind ?_ (fun _ => ?_)
theorem spec_DrawIsRigging.mono : ∀ a0 k, LeO (spec_DrawIsRigging.f k a0) (spec_DrawIsRigging.f (k + 1) a0) := by
 intro a0 k
 obtain ⟨ih0, ih1⟩ := spec_DrawIsRigging.mono_l k
 unfold spec_DrawIsRigging.f
 repeat' first
   | (with_reducible exact ih0 _ _ _ _ _ _ _)
   | (with_reducible exact ih1 _ _ _ _ _ _ _ _)
   | (with_reducible exact spec_BestRigging.mono _ _ _)
   | (with_reducible exact spec_l1Cur_pitches.mono _ _ _ _)
   | (with_reducible exact spec_l1Cur_ropes.mono _ _ _ _)
   | (with_reducible exact LeO.refl _)
   | (with_reducible exact LeO.none _)
   | (with_reducible refine LeO.ite ?_ ?_)
   | (with_reducible refine LeO.bind ?_ (fun _ => ?_))
   | exact ih0 _ _ _ _ _ _ _
   | exact ih1 _ _ _ _ _ _ _ _
   | exact spec_BestRigging.mono _ _ _
   | exact spec_l1Cur_pitches.mono _ _ _ _
   | exact spec_l1Cur_ropes.mono _ _ _ _
   | exact LeO.none _
   | refine LeO.ite ?_ ?_
   | refine LeO.bind ?_ (fun _ => ?_)
set_option maxHeartbeats 8000000 in
set_option maxRecDepth 100000 in
theorem spec_DrawIsRigging.calls (k : Nat) (A0 : Option Addr) (c0 : Nat) (l0 : List Int) (r1 : List (S36)) (r2 : List Int) (r3 : List Int) (w : World) (hr0 : Kd.C (Kd.int .u8) w A0 l0.length l0) (hc0 : l0.length ≤ c0) (h : spec_DrawIsRigging.f k l0 = some (r1, r2, r3)) :
  Calls Try.prog 25 #[.slice A0 l0.length c0] w fun e w' => ∃ v0_ v1_ v2_ : Value, e = .returned (.tuple #[v0_, v1_, v2_]) ∧ Kd.R k36 36 w' w.heap.size (fun _ => True) v0_ r1 ∧ Kd.R (Kd.int .i64) 3 w' w.heap.size (fun k_ => some k_ ≠ (v2_ : Value).ownBlock) v1_ r2 ∧ Kd.R (Kd.int .i64) 3 w' w.heap.size (fun k_ => some k_ ≠ (v1_ : Value).ownBlock) v2_ r3 ∧ Below w.heap.size w w' := by
 have hu63 := Try.underlying63
 have HR0 := Aside0.mk hr0; have HC0 := Aside0.mk hc0; clear hr0 hc0
 have HB := Aside0.mk (Below.refl w.heap.size w)
 have H : ((spec_l1Cur_pitches.f k l0 0 0).bind fun bt351 => ((spec_l1Cur_ropes.f k l0 bt351.2.1 bt351.2.2).bind fun bt356 => (spec_DrawIsRigging.l0 k bt351.1 bt356.1 (([] : List Int)) 0 l0 bt356.2.1 bt356.2.2))) = some (r1, r2, r3) := h
 clear h; replace H := Option.bind_eq_some_iff.mp H; obtain ⟨⟨t351, t354, t355⟩, A20, H⟩ := H
 try dsimp only at H
 have A2 := Aside0.mk A20; clear A20; replace H := Option.bind_eq_some_iff.mp H; obtain ⟨⟨t356, t359, t360⟩, A30, H⟩ := H
 try dsimp only at H
 have A3 := Aside0.mk A30; clear A30
 obtain ⟨y361, hy361⟩ : ∃ y_ : List Int, y_ = (([] : List Int)) := ⟨_, rfl⟩
 replace H : (spec_DrawIsRigging.l0 k t351 t356 y361 0 l0 t359 t360) = some (r1, r2, r3) := by first | (rw [hy361]; with_reducible exact H) | (have H2_ := (Option.bind_some _ _).symm.trans H; rw [hy361]; with_reducible exact H2_) | (have H2_ := (Option.bind_some _ _).symm.trans H; with_reducible exact H2_) | with_reducible exact H | (rw [hy361]; exact H) | exact H
 have Ny361 := Aside0.mk hy361; clear hy361
 have H' := Aside0.mk H
 clear H
 go_enter Try.func25, Try.ntmps25
 go_wp2_with (first | ((with_reducible refine gate_dst (N := 15) rfl ?_); refine box_event ?hg (N := 15) ?hd (cs := #[.slice A0 l0.length c0, .int .i64 0, .int .u64 0]) (t := 63) ?hr ?_; (case hd => rfl); (case hg => rfl); (case hr => exact (by first | (go_simp; done) | (go_simp; rfl))); intro gb350 hg w4 hbox hb; have n0_ := Aside0.mk (below_step (qJ10_7) hb); have n1_ := Aside0.mk ((by rw [hg]; exact (below_size (qJ10_7)) : w.heap.size ≤ gb350)); have n2_ := Aside0.mk ((by rw [hg]; exact (below_size (qJ10_7)) : w.heap.size ≤ gb350)); have n3_ := Aside0.mk ((show IsS63 w w4 gb350 l0 0 0 from ⟨_, _, hbox, (by rw [hg]; exact (below_size (qJ10_7))), HR0.out⟩)); clear HB; have HB := n0_; have GW350 := n1_; have GE350 := n2_; have HI350 := n3_; clear n0_ n1_ n2_ n3_; clear hb hbox hg) | ((with_reducible refine gate_callee (f := 55) rfl ?_); refine goesL_ (some 17) rfl rfl Try.func55 (by kernel_rfl) rfl #[.pointer (some ⟨gb350, 0, none⟩)] rfl (qJ10_5) ?_; (with_reducible refine (spec_l1Cur_pitches.calls k gb350 l0 0 0 t351 t354 t355 w _ ?side1 ?side2 A2.out).mono ?_); (case side1 => exact (qJ10_1)); (case side2 => exact (qJ10_0)); rintro e w5 ⟨v352, rfl, ho0, hi, hb, hk⟩; refine ⟨_, rfl, ?_⟩; have n0_ := Aside0.mk (Kd.R_lower ho0 (below_size (qJ10_0))); have n1_ := Aside0.mk (hb); have n2_ := Aside0.mk (hi); clear HB HI350; have HO353 := n0_; have HB := n1_; have HI350 := n2_; clear n0_ n1_ n2_; (try clear hb); (try clear hb2); (try clear hk); (try clear hi); (try clear ho0)) | ((with_reducible refine gate_callee (f := 42) rfl ?_); refine goesL_ (some 19) rfl rfl Try.func42 (by kernel_rfl) rfl #[.pointer (some ⟨gb350, 0, none⟩)] rfl (qJ10_5) ?_; (with_reducible refine (spec_l1Cur_ropes.calls k gb350 l0 t354 t355 t356 t359 t360 w _ ?side1 ?side2 A3.out).mono ?_); (case side1 => exact (qJ10_1)); (case side2 => exact (qJ10_0)); rintro e w6 ⟨v357, rfl, ho0, hi, hb, hk⟩; refine ⟨_, rfl, ?_⟩; have n0_ := Aside0.mk (Kd.R_mono (Kd.R_keep (IsS63.apart (show IsS63 w _ gb350 l0 t354 t355 from by repeat (first | (with_reducible first | exact HI350.out | apply IsS63.alloc | apply IsS63.drewN | apply IsS63.drew | apply IsS63.set_1 | apply IsS63.set_2) | exact HI350.out)) (qJ10_10) (by decide)) hk (fun _ h => h.2)) (fun _ h => h.1)); have n1_ := Aside0.mk (Kd.R_lower ho0 (below_size (qJ10_0))); have n2_ := Aside0.mk (hb); have n3_ := Aside0.mk (hi); clear HO353 HB HI350; have HO353 := n0_; have HO358 := n1_; have HB := n2_; have HI350 := n3_; clear n0_ n1_ n2_ n3_; (try clear hb); (try clear hb2); (try clear hk); (try clear hi); (try clear ho0)) | ((with_reducible refine gate_dst (N := 20) rfl ?_); refine Kd.R_lit (Kd.int .i64) _ 3 ?hg (N := 20) ?hd (xs := ([] : List Int)) (inner := []) (ok := fun _ => True) (okp := fun _ => True) ?hr ?hp (fun _ hk => hk) trivial (Below.refl _ _) (Nat.le_refl _) (by simp) ?_; (case hd => rfl); (case hg => rfl); (case hr => exact (by first | (go_simp; done) | (go_simp; rfl))); (case hp => exact (Reps.none _ _)); intro v362 w7 ho8 hb hg_ hnew_; clear hg_ hnew_; (first | rw [← Ny361.out] at ho8 | (simp only [Int.reduceToNat] at ho8; rw [← Ny361.out] at ho8)); have n0_ := Aside0.mk (Kd.R_below (qJ10_10) hb); have n1_ := Aside0.mk (Kd.R_elder' (qJ10_13) (Kd.R_base ho8) hb); have n2_ := Aside0.mk (Kd.R_lower (Kd.R_new' ho8 (Kd.R_lt (qJ10_13))) (below_size (qJ10_0))); have n3_ := Aside0.mk (IsS63.below (qJ10_1) hb); have n4_ := Aside0.mk (below_step (qJ10_0) hb); clear HO353 HO358 HI350 HB; have HO353 := n0_; have HO358 := n1_; have HO363 := n2_; have HI350 := n3_; have HB := n4_; clear n0_ n1_ n2_ n3_ n4_; clear hb ho8))
 go_loopg [8, 9] k (fun kq v8 v9 w' => ∃ (x8_1 : List Int) (x9_1 : Int) (x351001_1 : Int) (x351002_1 : Int), v9 = .int .i64 x9_1 ∧ Aside0 (spec_DrawIsRigging.l0 kq t351 t356 x8_1 x9_1 l0 x351001_1 x351002_1 = some (r1, r2, r3)) ∧ Aside0 (kq ≤ k) ∧ Aside0 (Kd.R k36 36 w' w.heap.size (fun _ => True) v352 t351) ∧ Aside0 (Kd.R (Kd.int .i64) 3 w' w.heap.size (fun k_ => some k_ ≠ (v8 : Value).ownBlock) v357 t356) ∧ Aside0 (Kd.R (Kd.int .i64) 3 w' w.heap.size (fun k_ => some k_ ≠ (v357 : Value).ownBlock) v8 x8_1) ∧ Aside0 (IsS63 w w' gb350 l0 x351001_1 x351002_1) ∧ Aside0 (Below w.heap.size w w'))
 case atStart => exact ⟨(y361), (0), (t359), (t360), (qJ10_12), H', ⟨Nat.le_refl _⟩, ⟨(qJ10_10)⟩, ⟨(by (with_reducible repeat (first | apply Kd.R_alloc | apply Kd.R_drewN | apply Kd.R_drew)); exact Kd.R_mono HO358.out (fun _ hk => hk.2))⟩, ⟨(by (with_reducible repeat (first | apply Kd.R_alloc | apply Kd.R_drewN | apply Kd.R_drew)); exact Kd.R_mono HO363.out (fun _ hk => hk.2))⟩, ⟨(qJ10_1)⟩, ⟨(qJ10_0)⟩⟩
 case round =>
  clear H'
  try clear c2
  try clear p2
  try clear c4
  try clear c5
  obtain ⟨x8_1, x9_1, x351001_1, x351002_1, rfl, HA, HK1, HO_6, HO_7, HO_8, HI350, HB⟩ := hrel
  cases gk with
  | zero => exact absurd HA.out (by simp [spec_DrawIsRigging.l0])
  | succ k1 =>
   have H := HA.out
   clear HA
   simp only [spec_DrawIsRigging.l0] at H
   by_cases c9 : x9_1 < (t351.length : Int)
   ·rw [if_pos c9] at H
    have c9b0 : decide (x9_1 < (t351.length : Int)) = true := decide_eq_true c9
    clear c9; replace H := Option.bind_eq_some_iff.mp H; obtain ⟨⟨t364, t365, t366⟩, A100, H⟩ := H
    try dsimp only at H
    have A10 := Aside0.mk A100; clear A100
    by_cases c11 : x8_1.length < 17592186044416
    ·rw [if_pos c11] at H; have LMc11 := Aside0.mk c11; clear c11
     obtain ⟨y367, hy367⟩ : ∃ y_ : List Int, y_ = (x8_1 ++ [t364]) := ⟨_, rfl⟩
     replace H : (spec_DrawIsRigging.l0 k1 t351 t356 y367 (wrap64 (x9_1 + 1)) l0 t365 t366) = some (r1, r2, r3) := by first | (rw [hy367]; with_reducible exact H) | (have H2_ := (Option.bind_some _ _).symm.trans H; rw [hy367]; with_reducible exact H2_) | (have H2_ := (Option.bind_some _ _).symm.trans H; with_reducible exact H2_) | with_reducible exact H | (rw [hy367]; exact H) | exact H
     have Ny367 := Aside0.mk hy367; clear hy367
     have H' := Aside0.mk H
     clear H
     obtain ⟨Ao12, co12, eo12⟩ := Kd.R_slice HO_6.out
     subst eo12
     obtain ⟨Ao13, co13, eo13⟩ := Kd.R_slice HO_7.out
     subst eo13
     go_wp2_with (first | ((with_reducible refine gate_callee (f := 49) rfl ?_); refine goesL_ (some 32) rfl rfl Try.func49 (by kernel_rfl) rfl #[.pointer (some ⟨gb350, 0, none⟩), .int .i64 (wrap64 ((t356.length : Int) + 1))] rfl (qJ10_5) ?_; (with_reducible refine (spec_l1Cur_pick.calls gb350 l0 x351001_1 x351002_1 (wrap64 ((t356.length : Int) + 1)) t364 t365 t366 w _ ?side1 ?side2 A10.out).mono ?_); (case side1 => exact (qJ10_1)); (case side2 => exact (qJ10_0)); rintro e w14 ⟨rfl, hi, hb, hk⟩; refine ⟨_, rfl, ?_⟩; have n0_ := Aside0.mk (Kd.R_mono (Kd.R_keep (IsS63.apart (show IsS63 w _ gb350 l0 x351001_1 x351002_1 from by repeat (first | (with_reducible first | exact HI350.out | apply IsS63.alloc | apply IsS63.drewN | apply IsS63.drew | apply IsS63.set_1 | apply IsS63.set_2) | exact HI350.out)) (qJ10_2) (by decide)) hk (fun _ h => h.2)) (fun _ h => h.1)); have n1_ := Aside0.mk (Kd.R_mono (Kd.R_keep (IsS63.apart (show IsS63 w _ gb350 l0 x351001_1 x351002_1 from by repeat (first | (with_reducible first | exact HI350.out | apply IsS63.alloc | apply IsS63.drewN | apply IsS63.drew | apply IsS63.set_1 | apply IsS63.set_2) | exact HI350.out)) (qJ10_4) (by decide)) hk (fun _ h => h.2)) (fun _ h => h.1)); have n2_ := Aside0.mk (Kd.R_mono (Kd.R_keep (IsS63.apart (show IsS63 w _ gb350 l0 x351001_1 x351002_1 from by repeat (first | (with_reducible first | exact HI350.out | apply IsS63.alloc | apply IsS63.drewN | apply IsS63.drew | apply IsS63.set_1 | apply IsS63.set_2) | exact HI350.out)) (qJ10_3) (by decide)) hk (fun _ h => h.2)) (fun _ h => h.1)); have n3_ := Aside0.mk (hb); have n4_ := Aside0.mk (hi); clear HO_6 HO_7 HO_8 HB HI350; have HO_6 := n0_; have HO_7 := n1_; have HO_8 := n2_; have HB := n3_; have HI350 := n4_; clear n0_ n1_ n2_ n3_ n4_; (try clear hb); (try clear hb2); (try clear hk); (try clear hi)) | ((with_reducible refine gate_builtin (b := .append) (xs := #[.tmp 27, .tmp 33]) rfl ?_); at_builtin; refine Kd.R_append (Kd.int .i64) (w0 := w) w.heap.size rfl (.tmp 27) (.tmp 33) 23 3 (.int .i64 0) 8 rfl Try.underlying23 info3 rfl (by decide) (by omega) u8 x8_1 t364 [.int .i64 t364] (fun k_ => some k_ ≠ (.slice Ao13 t356.length co13 : Value).ownBlock) (fun _ => False) rfl rfl ?aP (fun _ hk => hk.elim) ?aF ?aO ?aB ?aS ?aL ?_; (case aP => exact rfl); (case aB => exact (qJ10_0)); (case aF => exact (by exact (fun k_ hk => Kd.fresh' (Kd.R_lt (qJ10_4)) k_ hk))); (case aO => exact (qJ10_3)); (case aS => exact (by exact (below_size (qJ10_0)))); (case aL => have := LMc11.out; omega); intro v368 w15 ho hb hg hat; rw [← Ny367.out] at ho; have n0_ := Aside0.mk (Kd.R_over' (qJ10_2) (Kd.R_typed (qJ10_3)) (by decide) hg); have n1_ := Aside0.mk (Kd.R_after (ok := (fun _ => True)) (by (with_reducible repeat (first | apply Kd.R_alloc | apply Kd.R_drewN | apply Kd.R_drew)); exact Kd.R_mono HO_7.out (fun _ hk => ⟨trivial, hk⟩)) hg hat); have n2_ := Aside0.mk (IsS63.grown (show IsS63 w _ gb350 l0 t365 t366 from by repeat (first | (with_reducible first | exact HI350.out | apply IsS63.alloc | apply IsS63.drewN | apply IsS63.drew | apply IsS63.set_1 | apply IsS63.set_2) | exact HI350.out)) hg (IsS63.own_ne HI350.out HO_8.out (by decide))); have n3_ := Aside0.mk (hb); have n4_ := Aside0.mk (ho); clear HO_6 HO_7 HI350 HB HO_8; have HO_6 := n0_; have HO_7 := n1_; have HI350 := n2_; have HB := n3_; have HO369 := n4_; clear n0_ n1_ n2_ n3_ n4_; clear ho hb hg hat))
     go_roundg k1
     case measure => have := HK1.out; omega
     case rel => exact ⟨(y367), (wrap64 (x9_1 + 1)), (t365), (t366), (qJ10_12), H', ⟨by have := HK1.out; omega⟩, ⟨(qJ10_2)⟩, ⟨(qJ10_8)⟩, ⟨(by (with_reducible repeat (first | apply Kd.R_alloc | apply Kd.R_drewN | apply Kd.R_drew)); exact HO369.out)⟩, ⟨(qJ10_1)⟩, ⟨(qJ10_0)⟩⟩
    ·rw [if_neg c11] at H
     exact absurd H (by simp)
   ·rw [if_neg c9] at H
    have c9b0 : decide (x9_1 < (t351.length : Int)) = false := decide_eq_false c9
    clear c9; replace H := Option.bind_eq_some_iff.mp H; obtain ⟨⟨t370, t371, t372⟩, A160, H⟩ := H
    try dsimp only at H
    have A16 := Aside0.mk A160; clear A160; have HC17 := Aside0.mk H; clear H
    obtain ⟨Ao18, co18, eo18⟩ := Kd.R_slice HO_6.out
    subst eo18
    obtain ⟨Ao19, co19, eo19⟩ := Kd.R_slice HO_7.out
    subst eo19
    go_upto_region 9 with (first | ((with_reducible refine gate_callee (f := 31) rfl ?_); refine goesL_ (some 38) rfl rfl Try.func31 (by kernel_rfl) rfl #[.slice Ao18 t351.length co18, .slice Ao19 t356.length co19] rfl (qJ10_5) ?_; (with_reducible refine (spec_BestRigging.calls k1 _ _ t351 _ _ t356 t370 t371 t372 _ ?side1 ?side2 ?side3 ?side4 A16.out).mono ?_); (case side1 => exact (by repeat (first | exact (Kd.R_reads' HO_6.out).2.2 | (with_reducible refine Kd.C_alloc ?_ _) | (with_reducible refine Kd.C_drewN ?_ _) | (with_reducible refine Kd.C_drew ?_)))); (case side2 => exact (by exact (Kd.R_reads' HO_6.out).2.1)); (case side3 => exact (by repeat (first | exact (Kd.R_reads' HO_7.out).2.2 | (with_reducible refine Kd.C_alloc ?_ _) | (with_reducible refine Kd.C_drewN ?_ _) | (with_reducible refine Kd.C_drew ?_)))); (case side4 => exact (by exact (Kd.R_reads' HO_7.out).2.1)); rintro e w20 ⟨v373, rfl, ho0, hb⟩; refine ⟨_, rfl, ?_⟩; have n0_ := Aside0.mk (Kd.R_below (qJ10_2) hb); have n1_ := Aside0.mk (Kd.R_elder' (qJ10_4) (Kd.R_base ho0) hb); have n2_ := Aside0.mk (Kd.R_elder' (qJ10_3) (Kd.R_base ho0) hb); have n3_ := Aside0.mk (Kd.R_lower (Kd.R_new' (Kd.R_new' ho0 (Kd.R_lt (qJ10_4))) (Kd.R_lt (qJ10_3))) (below_size (qJ10_0))); have n4_ := Aside0.mk (IsS63.below (qJ10_1) hb); have n5_ := Aside0.mk (below_step (qJ10_0) hb); clear HO_6 HO_7 HO_8 HI350 HB; have HO_6 := n0_; have HO_7 := n1_; have HO_8 := n2_; have HO374 := n3_; have HI350 := n4_; have HB := n5_; clear n0_ n1_ n2_ n3_ n4_ n5_; (try clear hb); (try clear hb2); (try clear hk); (try clear hi); (try clear ho0)))
    (try simp only [Act.put, List.setIfInBounds_toArray, List.set_cons_zero, List.set_cons_succ])
    go_cut [46] (fun v46 wc => ∃ (kq : Nat) (x46_16 : Bool) (x351001_16 : Int) (x351002_16 : Int), v46 = .bool x46_16 ∧ Aside0 (spec_DrawIsRigging.j1 kq t351 t356 x8_1 t370 x46_16 l0 x351001_16 x351002_16 = some (r1, r2, r3)) ∧ Aside0 (kq ≤ k1) ∧ Aside0 (Kd.R k36 36 wc w.heap.size (fun _ => True) (.slice Ao18 t351.length co18) t351) ∧ Aside0 (Kd.R (Kd.int .i64) 3 wc w.heap.size (fun k_ => some k_ ≠ (u8 : Value).ownBlock ∧ some k_ ≠ (v373 : Value).ownBlock) (.slice Ao19 t356.length co19) t356) ∧ Aside0 (Kd.R (Kd.int .i64) 3 wc w.heap.size (fun k_ => some k_ ≠ ((.slice Ao19 t356.length co19) : Value).ownBlock ∧ some k_ ≠ (v373 : Value).ownBlock) u8 x8_1) ∧ Aside0 (Kd.R (Kd.int .i64) 3 wc w.heap.size (fun k_ => some k_ ≠ ((.slice Ao19 t356.length co19) : Value).ownBlock ∧ some k_ ≠ (u8 : Value).ownBlock) v373 t370) ∧ Aside0 (IsS63 w wc gb350 l0 x351001_16 x351002_16) ∧ Aside0 (Below w.heap.size w wc))
    case first =>
     have H := HC17.out
     clear HC17
     by_cases c21 : t372 = true
     ·subst c21
      have H1 : ((spec_l1Cur_one.f l0 x351001_1 x351002_1 2).bind fun bt375 => (spec_DrawIsRigging.j1 k1 t351 t356 x8_1 t370 bt375.1 l0 bt375.2.1 bt375.2.2)) = some (r1, r2, r3) := by rw [if_pos rfl] at H; exact H
      clear H; have H := H1; clear H1; replace H := Option.bind_eq_some_iff.mp H; obtain ⟨⟨t375, t376, t377⟩, A220, H⟩ := H
      try dsimp only at H
      have A22 := Aside0.mk A220; clear A220
      have H' := Aside0.mk H
      clear H
      go_wp2_with (first | (go_at_call 56; (with_reducible refine (spec_l1Cur_one.calls gb350 l0 x351001_1 x351002_1 2 t375 t376 t377 w _ ?side1 ?side2 A22.out).mono ?_); (case side1 => exact (qJ10_1)); (case side2 => exact (qJ10_0)); rintro e w23 ⟨rfl, hi, hb, hk⟩; have n0_ := Aside0.mk (Kd.R_mono (Kd.R_keep (IsS63.apart (show IsS63 w _ gb350 l0 x351001_1 x351002_1 from by repeat (first | (with_reducible first | exact HI350.out | apply IsS63.alloc | apply IsS63.drewN | apply IsS63.drew | apply IsS63.set_1 | apply IsS63.set_2) | exact HI350.out)) (qJ10_2) (by decide)) hk (fun _ h => h.2)) (fun _ h => h.1)); have n1_ := Aside0.mk (Kd.R_mono (Kd.R_keep (IsS63.apart (show IsS63 w _ gb350 l0 x351001_1 x351002_1 from by repeat (first | (with_reducible first | exact HI350.out | apply IsS63.alloc | apply IsS63.drewN | apply IsS63.drew | apply IsS63.set_1 | apply IsS63.set_2) | exact HI350.out)) (qJ10_4) (by decide)) hk (fun _ h => h.2)) (fun _ h => h.1)); have n2_ := Aside0.mk (Kd.R_mono (Kd.R_keep (IsS63.apart (show IsS63 w _ gb350 l0 x351001_1 x351002_1 from by repeat (first | (with_reducible first | exact HI350.out | apply IsS63.alloc | apply IsS63.drewN | apply IsS63.drew | apply IsS63.set_1 | apply IsS63.set_2) | exact HI350.out)) (qJ10_3) (by decide)) hk (fun _ h => h.2)) (fun _ h => h.1)); have n3_ := Aside0.mk (Kd.R_mono (Kd.R_keep (IsS63.apart (show IsS63 w _ gb350 l0 x351001_1 x351002_1 from by repeat (first | (with_reducible first | exact HI350.out | apply IsS63.alloc | apply IsS63.drewN | apply IsS63.drew | apply IsS63.set_1 | apply IsS63.set_2) | exact HI350.out)) (by (with_reducible repeat (first | apply Kd.R_alloc | apply Kd.R_drewN | apply Kd.R_drew)); exact HO374.out) (by decide)) hk (fun _ h => h.2)) (fun _ h => h.1)); have n4_ := Aside0.mk (hb); have n5_ := Aside0.mk (hi); clear HO_6 HO_7 HO_8 HO374 HB HI350; have HO_6 := n0_; have HO_7 := n1_; have HO_8 := n2_; have HO374 := n3_; have HB := n4_; have HI350 := n5_; clear n0_ n1_ n2_ n3_ n4_ n5_; (try clear hb); (try clear hb2); (try clear hk); (try clear hi)))
      go_meet
      case rel => exact ⟨_, (t375), (t376), (t377), (qJ10_12), H', ⟨by have := HK1.out; first | omega | exact Nat.le_refl _⟩, ⟨(qJ10_2)⟩, ⟨(qJ10_4)⟩, ⟨(qJ10_3)⟩, ⟨(qJ10_11)⟩, ⟨(qJ10_1)⟩, ⟨(qJ10_0)⟩⟩
     ·replace c21 := Bool.eq_false_iff.mpr c21
      subst c21
      have H1 : (spec_DrawIsRigging.j1 k1 t351 t356 x8_1 t370 false l0 x351001_1 x351002_1) = some (r1, r2, r3) := by rw [if_neg (show ¬ (false = true) by decide)] at H; exact H
      clear H; have H := H1; clear H1
      have H' := Aside0.mk H
      clear H
      go_wp2
      go_meet
      case rel => exact ⟨_, (false), (x351001_1), (x351002_1), (qJ10_12), H', ⟨by have := HK1.out; first | omega | exact Nat.le_refl _⟩, ⟨(qJ10_2)⟩, ⟨(qJ10_4)⟩, ⟨(qJ10_3)⟩, ⟨(qJ10_11)⟩, ⟨(qJ10_1)⟩, ⟨(qJ10_0)⟩⟩
    case rest =>
     clear HC17
     try clear c1
     try clear c2
     try clear p2
     try clear c3
     try clear c4
     try clear c5
     try clear p6
     try clear c9
     try clear c9b0
     try clear c11
     try clear c21
     try clear p2
     obtain ⟨kq, x46_16, x351001_16, x351002_16, rfl, HA, HJ16, HO_6, HO_7, HO_8, HO_10, HI350, HB⟩ := hcut
     cases kq with
     | zero => exact absurd HA.out (by simp [spec_DrawIsRigging.j1])
     | succ kj16 =>
      have H := HA.out
      clear HA
      simp only [spec_DrawIsRigging.j1] at H
      by_cases c24 : x46_16 = true
      ·subst c24
       have H1 : ((spec_l1Cur_one.f l0 x351001_16 x351002_16 24).bind fun bt378 => (if bt378.1 = true then (if t370.length < 17592186044416 then (some (t351, t356, (t370 ++ [0]))) else (none)) else (some (t351, t356, t370)))) = some (r1, r2, r3) := by rw [if_pos rfl] at H; exact H
       clear H; have H := H1; clear H1; replace H := Option.bind_eq_some_iff.mp H; obtain ⟨⟨t378, t379, t380⟩, A250, H⟩ := H
       try dsimp only at H
       have A25 := Aside0.mk A250; clear A250
       by_cases c26 : t378 = true
       ·subst c26
        have H1 : (if t370.length < 17592186044416 then (some (t351, t356, (t370 ++ [0]))) else (none)) = some (r1, r2, r3) := by rw [if_pos rfl] at H; exact H
        clear H; have H := H1; clear H1
        by_cases c27 : t370.length < 17592186044416
        ·rw [if_pos c27] at H; have LMc27 := Aside0.mk c27; clear c27
         obtain ⟨y381, hy381⟩ : ∃ y_ : List Int, y_ = (t370 ++ [0]) := ⟨_, rfl⟩
         replace H : (some (t351, t356, y381)) = some (r1, r2, r3) := by first | (rw [hy381]; with_reducible exact H) | (have H2_ := (Option.bind_some _ _).symm.trans H; rw [hy381]; with_reducible exact H2_) | (have H2_ := (Option.bind_some _ _).symm.trans H; with_reducible exact H2_) | with_reducible exact H | (rw [hy381]; exact H) | exact H
         have Ny381 := Aside0.mk hy381; clear hy381
         simp only [Option.some.injEq, Prod.mk.injEq] at H
         obtain ⟨rfl, rfl, rfl⟩ := H
         go_wp2_with (first | ((with_reducible refine gate_callee (f := 56) rfl ?_); refine goesL_ (some 49) rfl rfl Try.func56 (by kernel_rfl) rfl #[.pointer (some ⟨gb350, 0, none⟩), .int .i64 24] rfl (qJ10_5) ?_; (with_reducible refine (spec_l1Cur_one.calls gb350 l0 x351001_16 x351002_16 24 true t379 t380 w _ ?side1 ?side2 A25.out).mono ?_); (case side1 => exact (qJ10_1)); (case side2 => exact (qJ10_0)); rintro e w28 ⟨rfl, hi, hb, hk⟩; refine ⟨_, rfl, ?_⟩; have n0_ := Aside0.mk (Kd.R_mono (Kd.R_keep (IsS63.apart (show IsS63 w _ gb350 l0 x351001_16 x351002_16 from by repeat (first | (with_reducible first | exact HI350.out | apply IsS63.alloc | apply IsS63.drewN | apply IsS63.drew | apply IsS63.set_1 | apply IsS63.set_2) | exact HI350.out)) (qJ10_2) (by decide)) hk (fun _ h => h.2)) (fun _ h => h.1)); have n1_ := Aside0.mk (Kd.R_mono (Kd.R_keep (IsS63.apart (show IsS63 w _ gb350 l0 x351001_16 x351002_16 from by repeat (first | (with_reducible first | exact HI350.out | apply IsS63.alloc | apply IsS63.drewN | apply IsS63.drew | apply IsS63.set_1 | apply IsS63.set_2) | exact HI350.out)) (qJ10_4) (by decide)) hk (fun _ h => h.2)) (fun _ h => h.1)); have n2_ := Aside0.mk (Kd.R_mono (Kd.R_keep (IsS63.apart (show IsS63 w _ gb350 l0 x351001_16 x351002_16 from by repeat (first | (with_reducible first | exact HI350.out | apply IsS63.alloc | apply IsS63.drewN | apply IsS63.drew | apply IsS63.set_1 | apply IsS63.set_2) | exact HI350.out)) (qJ10_3) (by decide)) hk (fun _ h => h.2)) (fun _ h => h.1)); have n3_ := Aside0.mk (Kd.R_mono (Kd.R_keep (IsS63.apart (show IsS63 w _ gb350 l0 x351001_16 x351002_16 from by repeat (first | (with_reducible first | exact HI350.out | apply IsS63.alloc | apply IsS63.drewN | apply IsS63.drew | apply IsS63.set_1 | apply IsS63.set_2) | exact HI350.out)) (qJ10_6) (by decide)) hk (fun _ h => h.2)) (fun _ h => h.1)); have n4_ := Aside0.mk (hb); have n5_ := Aside0.mk (hi); clear HO_6 HO_7 HO_8 HO_10 HB HI350; have HO_6 := n0_; have HO_7 := n1_; have HO_8 := n2_; have HO_10 := n3_; have HB := n4_; have HI350 := n5_; clear n0_ n1_ n2_ n3_ n4_ n5_; (try clear hb); (try clear hb2); (try clear hk); (try clear hi)) | ((with_reducible refine gate_builtin (b := .append) (xs := #[.tmp 50, .tmp 51]) rfl ?_); at_builtin; refine Kd.R_append (Kd.int .i64) (w0 := w) w.heap.size rfl (.tmp 50) (.tmp 51) 23 3 (.int .i64 0) 8 rfl Try.underlying23 info3 rfl (by decide) (by omega) v373 t370 0 [.int .i64 0] (fun k_ => some k_ ≠ (.slice Ao19 t356.length co19 : Value).ownBlock ∧ some k_ ≠ (u8 : Value).ownBlock) (fun _ => False) rfl rfl ?aP (fun _ hk => hk.elim) ?aF ?aO ?aB ?aS ?aL ?_; (case aP => exact rfl); (case aB => exact (qJ10_0)); (case aF => exact (by exact (fun k_ hk => ⟨Kd.fresh' (Kd.R_lt (qJ10_4)) k_ hk, Kd.fresh' (Kd.R_lt (qJ10_3)) k_ hk⟩))); (case aO => exact (qJ10_6)); (case aS => exact (by exact (below_size (qJ10_0)))); (case aL => have := LMc27.out; omega); intro v382 w29 ho hb hg hat; rw [← Ny381.out] at ho; have n0_ := Aside0.mk (Kd.R_over' (qJ10_2) (Kd.R_typed (qJ10_6)) (by decide) hg); have n1_ := Aside0.mk (Kd.R_after (ok := (fun k_ => some k_ ≠ (u8 : Value).ownBlock)) (qJ10_4) hg hat); have n2_ := Aside0.mk (Kd.R_after (ok := (fun k_ => some k_ ≠ (.slice Ao19 t356.length co19 : Value).ownBlock)) (qJ10_3) hg hat); have n3_ := Aside0.mk (IsS63.grown (show IsS63 w _ gb350 l0 t379 t380 from by repeat (first | (with_reducible first | exact HI350.out | apply IsS63.alloc | apply IsS63.drewN | apply IsS63.drew | apply IsS63.set_1 | apply IsS63.set_2) | exact HI350.out)) hg (IsS63.own_ne HI350.out HO_10.out (by decide))); have n4_ := Aside0.mk (hb); have n5_ := Aside0.mk (ho); clear HO_6 HO_7 HO_8 HI350 HB HO_10; have HO_6 := n0_; have HO_7 := n1_; have HO_8 := n2_; have HI350 := n3_; have HB := n4_; have HO383 := n5_; clear n0_ n1_ n2_ n3_ n4_ n5_; clear ho hb hg hat))
         go_ret3
         exact ⟨_, _, _, (qJ10_9), (qJ10_2), (qJ10_8), (by (with_reducible repeat (first | apply Kd.R_alloc | apply Kd.R_drewN | apply Kd.R_drew)); exact Kd.R_mono HO383.out (fun _ hk => hk.1)), (qJ10_0)⟩
        ·rw [if_neg c27] at H
         exact absurd H (by simp)
       ·replace c26 := Bool.eq_false_iff.mpr c26
        subst c26
        have H1 : (some (t351, t356, t370)) = some (r1, r2, r3) := by rw [if_neg (show ¬ (false = true) by decide)] at H; exact H
        clear H; have H := H1; clear H1
        simp only [Option.some.injEq, Prod.mk.injEq] at H
        obtain ⟨rfl, rfl, rfl⟩ := H
        go_wp2_with (first | ((with_reducible refine gate_callee (f := 56) rfl ?_); refine goesL_ (some 49) rfl rfl Try.func56 (by kernel_rfl) rfl #[.pointer (some ⟨gb350, 0, none⟩), .int .i64 24] rfl (qJ10_5) ?_; (with_reducible refine (spec_l1Cur_one.calls gb350 l0 x351001_16 x351002_16 24 false t379 t380 w _ ?side1 ?side2 A25.out).mono ?_); (case side1 => exact (qJ10_1)); (case side2 => exact (qJ10_0)); rintro e w30 ⟨rfl, hi, hb, hk⟩; refine ⟨_, rfl, ?_⟩; have n0_ := Aside0.mk (Kd.R_mono (Kd.R_keep (IsS63.apart (show IsS63 w _ gb350 l0 x351001_16 x351002_16 from by repeat (first | (with_reducible first | exact HI350.out | apply IsS63.alloc | apply IsS63.drewN | apply IsS63.drew | apply IsS63.set_1 | apply IsS63.set_2) | exact HI350.out)) (qJ10_2) (by decide)) hk (fun _ h => h.2)) (fun _ h => h.1)); have n1_ := Aside0.mk (Kd.R_mono (Kd.R_keep (IsS63.apart (show IsS63 w _ gb350 l0 x351001_16 x351002_16 from by repeat (first | (with_reducible first | exact HI350.out | apply IsS63.alloc | apply IsS63.drewN | apply IsS63.drew | apply IsS63.set_1 | apply IsS63.set_2) | exact HI350.out)) (qJ10_4) (by decide)) hk (fun _ h => h.2)) (fun _ h => h.1)); have n2_ := Aside0.mk (Kd.R_mono (Kd.R_keep (IsS63.apart (show IsS63 w _ gb350 l0 x351001_16 x351002_16 from by repeat (first | (with_reducible first | exact HI350.out | apply IsS63.alloc | apply IsS63.drewN | apply IsS63.drew | apply IsS63.set_1 | apply IsS63.set_2) | exact HI350.out)) (qJ10_3) (by decide)) hk (fun _ h => h.2)) (fun _ h => h.1)); have n3_ := Aside0.mk (Kd.R_mono (Kd.R_keep (IsS63.apart (show IsS63 w _ gb350 l0 x351001_16 x351002_16 from by repeat (first | (with_reducible first | exact HI350.out | apply IsS63.alloc | apply IsS63.drewN | apply IsS63.drew | apply IsS63.set_1 | apply IsS63.set_2) | exact HI350.out)) (qJ10_6) (by decide)) hk (fun _ h => h.2)) (fun _ h => h.1)); have n4_ := Aside0.mk (hb); have n5_ := Aside0.mk (hi); clear HO_6 HO_7 HO_8 HO_10 HB HI350; have HO_6 := n0_; have HO_7 := n1_; have HO_8 := n2_; have HO_10 := n3_; have HB := n4_; have HI350 := n5_; clear n0_ n1_ n2_ n3_ n4_ n5_; (try clear hb); (try clear hb2); (try clear hk); (try clear hi)))
        go_ret3
        exact ⟨_, _, _, (qJ10_9), (qJ10_2), (qJ10_8), (by (with_reducible repeat (first | apply Kd.R_alloc | apply Kd.R_drewN | apply Kd.R_drew)); exact Kd.R_mono HO_10.out (fun _ hk => hk.1)), (qJ10_0)⟩
      ·replace c24 := Bool.eq_false_iff.mpr c24
       subst c24
       have H1 : ((spec_l1Cur_one.f l0 x351001_16 x351002_16 24).bind fun bt384 => (if bt384.1 = true then (if x8_1.length < 17592186044416 then (some (t351, t356, (x8_1 ++ [0]))) else (none)) else (some (t351, t356, x8_1)))) = some (r1, r2, r3) := by rw [if_neg (show ¬ (false = true) by decide)] at H; exact H
       clear H; have H := H1; clear H1; replace H := Option.bind_eq_some_iff.mp H; obtain ⟨⟨t384, t385, t386⟩, A310, H⟩ := H
       try dsimp only at H
       have A31 := Aside0.mk A310; clear A310
       by_cases c32 : t384 = true
       ·subst c32
        have H1 : (if x8_1.length < 17592186044416 then (some (t351, t356, (x8_1 ++ [0]))) else (none)) = some (r1, r2, r3) := by rw [if_pos rfl] at H; exact H
        clear H; have H := H1; clear H1
        by_cases c33 : x8_1.length < 17592186044416
        ·rw [if_pos c33] at H; have LMc33 := Aside0.mk c33; clear c33
         obtain ⟨y387, hy387⟩ : ∃ y_ : List Int, y_ = (x8_1 ++ [0]) := ⟨_, rfl⟩
         replace H : (some (t351, t356, y387)) = some (r1, r2, r3) := by first | (rw [hy387]; with_reducible exact H) | (have H2_ := (Option.bind_some _ _).symm.trans H; rw [hy387]; with_reducible exact H2_) | (have H2_ := (Option.bind_some _ _).symm.trans H; with_reducible exact H2_) | with_reducible exact H | (rw [hy387]; exact H) | exact H
         have Ny387 := Aside0.mk hy387; clear hy387
         simp only [Option.some.injEq, Prod.mk.injEq] at H
         obtain ⟨rfl, rfl, rfl⟩ := H
         go_wp2_with (first | ((with_reducible refine gate_callee (f := 56) rfl ?_); refine goesL_ (some 49) rfl rfl Try.func56 (by kernel_rfl) rfl #[.pointer (some ⟨gb350, 0, none⟩), .int .i64 24] rfl (qJ10_5) ?_; (with_reducible refine (spec_l1Cur_one.calls gb350 l0 x351001_16 x351002_16 24 true t385 t386 w _ ?side1 ?side2 A31.out).mono ?_); (case side1 => exact (qJ10_1)); (case side2 => exact (qJ10_0)); rintro e w34 ⟨rfl, hi, hb, hk⟩; refine ⟨_, rfl, ?_⟩; have n0_ := Aside0.mk (Kd.R_mono (Kd.R_keep (IsS63.apart (show IsS63 w _ gb350 l0 x351001_16 x351002_16 from by repeat (first | (with_reducible first | exact HI350.out | apply IsS63.alloc | apply IsS63.drewN | apply IsS63.drew | apply IsS63.set_1 | apply IsS63.set_2) | exact HI350.out)) (qJ10_2) (by decide)) hk (fun _ h => h.2)) (fun _ h => h.1)); have n1_ := Aside0.mk (Kd.R_mono (Kd.R_keep (IsS63.apart (show IsS63 w _ gb350 l0 x351001_16 x351002_16 from by repeat (first | (with_reducible first | exact HI350.out | apply IsS63.alloc | apply IsS63.drewN | apply IsS63.drew | apply IsS63.set_1 | apply IsS63.set_2) | exact HI350.out)) (qJ10_4) (by decide)) hk (fun _ h => h.2)) (fun _ h => h.1)); have n2_ := Aside0.mk (Kd.R_mono (Kd.R_keep (IsS63.apart (show IsS63 w _ gb350 l0 x351001_16 x351002_16 from by repeat (first | (with_reducible first | exact HI350.out | apply IsS63.alloc | apply IsS63.drewN | apply IsS63.drew | apply IsS63.set_1 | apply IsS63.set_2) | exact HI350.out)) (qJ10_3) (by decide)) hk (fun _ h => h.2)) (fun _ h => h.1)); have n3_ := Aside0.mk (Kd.R_mono (Kd.R_keep (IsS63.apart (show IsS63 w _ gb350 l0 x351001_16 x351002_16 from by repeat (first | (with_reducible first | exact HI350.out | apply IsS63.alloc | apply IsS63.drewN | apply IsS63.drew | apply IsS63.set_1 | apply IsS63.set_2) | exact HI350.out)) (qJ10_6) (by decide)) hk (fun _ h => h.2)) (fun _ h => h.1)); have n4_ := Aside0.mk (hb); have n5_ := Aside0.mk (hi); clear HO_6 HO_7 HO_8 HO_10 HB HI350; have HO_6 := n0_; have HO_7 := n1_; have HO_8 := n2_; have HO_10 := n3_; have HB := n4_; have HI350 := n5_; clear n0_ n1_ n2_ n3_ n4_ n5_; (try clear hb); (try clear hb2); (try clear hk); (try clear hi)) | ((with_reducible refine gate_builtin (b := .append) (xs := #[.tmp 50, .tmp 51]) rfl ?_); at_builtin; refine Kd.R_append (Kd.int .i64) (w0 := w) w.heap.size rfl (.tmp 50) (.tmp 51) 23 3 (.int .i64 0) 8 rfl Try.underlying23 info3 rfl (by decide) (by omega) u8 x8_1 0 [.int .i64 0] (fun k_ => some k_ ≠ (.slice Ao19 t356.length co19 : Value).ownBlock ∧ some k_ ≠ (v373 : Value).ownBlock) (fun _ => False) rfl rfl ?aP (fun _ hk => hk.elim) ?aF ?aO ?aB ?aS ?aL ?_; (case aP => exact rfl); (case aB => exact (qJ10_0)); (case aF => exact (by exact (fun k_ hk => ⟨Kd.fresh' (Kd.R_lt (qJ10_4)) k_ hk, Kd.fresh' (Kd.R_lt (qJ10_6)) k_ hk⟩))); (case aO => exact (qJ10_3)); (case aS => exact (by exact (below_size (qJ10_0)))); (case aL => have := LMc33.out; omega); intro v388 w35 ho hb hg hat; rw [← Ny387.out] at ho; have n0_ := Aside0.mk (Kd.R_over' (qJ10_2) (Kd.R_typed (qJ10_3)) (by decide) hg); have n1_ := Aside0.mk (Kd.R_after (ok := (fun k_ => some k_ ≠ (v373 : Value).ownBlock)) (by (with_reducible repeat (first | apply Kd.R_alloc | apply Kd.R_drewN | apply Kd.R_drew)); exact Kd.R_mono HO_7.out (fun _ hk => ⟨hk.2, hk.1⟩)) hg hat); have n2_ := Aside0.mk (Kd.R_after (ok := (fun k_ => some k_ ≠ (.slice Ao19 t356.length co19 : Value).ownBlock)) (qJ10_6) hg hat); have n3_ := Aside0.mk (IsS63.grown (show IsS63 w _ gb350 l0 t385 t386 from by repeat (first | (with_reducible first | exact HI350.out | apply IsS63.alloc | apply IsS63.drewN | apply IsS63.drew | apply IsS63.set_1 | apply IsS63.set_2) | exact HI350.out)) hg (IsS63.own_ne HI350.out HO_8.out (by decide))); have n4_ := Aside0.mk (hb); have n5_ := Aside0.mk (ho); clear HO_6 HO_7 HO_10 HI350 HB HO_8; have HO_6 := n0_; have HO_7 := n1_; have HO_10 := n2_; have HI350 := n3_; have HB := n4_; have HO389 := n5_; clear n0_ n1_ n2_ n3_ n4_ n5_; clear ho hb hg hat))
         go_ret3
         exact ⟨_, _, _, (qJ10_9), (qJ10_2), (qJ10_8), (by (with_reducible repeat (first | apply Kd.R_alloc | apply Kd.R_drewN | apply Kd.R_drew)); exact Kd.R_mono HO389.out (fun _ hk => hk.1)), (qJ10_0)⟩
        ·rw [if_neg c33] at H
         exact absurd H (by simp)
       ·replace c32 := Bool.eq_false_iff.mpr c32
        subst c32
        have H1 : (some (t351, t356, x8_1)) = some (r1, r2, r3) := by rw [if_neg (show ¬ (false = true) by decide)] at H; exact H
        clear H; have H := H1; clear H1
        simp only [Option.some.injEq, Prod.mk.injEq] at H
        obtain ⟨rfl, rfl, rfl⟩ := H
        go_wp2_with (first | ((with_reducible refine gate_callee (f := 56) rfl ?_); refine goesL_ (some 49) rfl rfl Try.func56 (by kernel_rfl) rfl #[.pointer (some ⟨gb350, 0, none⟩), .int .i64 24] rfl (qJ10_5) ?_; (with_reducible refine (spec_l1Cur_one.calls gb350 l0 x351001_16 x351002_16 24 false t385 t386 w _ ?side1 ?side2 A31.out).mono ?_); (case side1 => exact (qJ10_1)); (case side2 => exact (qJ10_0)); rintro e w36 ⟨rfl, hi, hb, hk⟩; refine ⟨_, rfl, ?_⟩; have n0_ := Aside0.mk (Kd.R_mono (Kd.R_keep (IsS63.apart (show IsS63 w _ gb350 l0 x351001_16 x351002_16 from by repeat (first | (with_reducible first | exact HI350.out | apply IsS63.alloc | apply IsS63.drewN | apply IsS63.drew | apply IsS63.set_1 | apply IsS63.set_2) | exact HI350.out)) (qJ10_2) (by decide)) hk (fun _ h => h.2)) (fun _ h => h.1)); have n1_ := Aside0.mk (Kd.R_mono (Kd.R_keep (IsS63.apart (show IsS63 w _ gb350 l0 x351001_16 x351002_16 from by repeat (first | (with_reducible first | exact HI350.out | apply IsS63.alloc | apply IsS63.drewN | apply IsS63.drew | apply IsS63.set_1 | apply IsS63.set_2) | exact HI350.out)) (qJ10_4) (by decide)) hk (fun _ h => h.2)) (fun _ h => h.1)); have n2_ := Aside0.mk (Kd.R_mono (Kd.R_keep (IsS63.apart (show IsS63 w _ gb350 l0 x351001_16 x351002_16 from by repeat (first | (with_reducible first | exact HI350.out | apply IsS63.alloc | apply IsS63.drewN | apply IsS63.drew | apply IsS63.set_1 | apply IsS63.set_2) | exact HI350.out)) (qJ10_3) (by decide)) hk (fun _ h => h.2)) (fun _ h => h.1)); have n3_ := Aside0.mk (Kd.R_mono (Kd.R_keep (IsS63.apart (show IsS63 w _ gb350 l0 x351001_16 x351002_16 from by repeat (first | (with_reducible first | exact HI350.out | apply IsS63.alloc | apply IsS63.drewN | apply IsS63.drew | apply IsS63.set_1 | apply IsS63.set_2) | exact HI350.out)) (qJ10_6) (by decide)) hk (fun _ h => h.2)) (fun _ h => h.1)); have n4_ := Aside0.mk (hb); have n5_ := Aside0.mk (hi); clear HO_6 HO_7 HO_8 HO_10 HB HI350; have HO_6 := n0_; have HO_7 := n1_; have HO_8 := n2_; have HO_10 := n3_; have HB := n4_; have HI350 := n5_; clear n0_ n1_ n2_ n3_ n4_ n5_; (try clear hb); (try clear hb2); (try clear hk); (try clear hi)))
        go_ret3
        exact ⟨_, _, _, (qJ10_9), (qJ10_2), (by (with_reducible repeat (first | apply Kd.R_alloc | apply Kd.R_drewN | apply Kd.R_drew)); exact Kd.R_mono HO_7.out (fun _ hk => hk.1)), (by (with_reducible repeat (first | apply Kd.R_alloc | apply Kd.R_drewN | apply Kd.R_drew)); exact Kd.R_mono HO_8.out (fun _ hk => hk.1)), (qJ10_0)⟩

end Go.Proofs.Ytfjpbochanekoaa.MJ
