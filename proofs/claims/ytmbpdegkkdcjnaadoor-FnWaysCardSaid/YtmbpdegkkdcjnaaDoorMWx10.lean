-- Written by a program of this session (wip/drv.py, wip/tight2.py). -- tight2
import Derived.Test.YtmbpdegkkdcjnaaDoorMWx0
import Derived.Test.YtmbpdegkkdcjnaaDoorMWx3
import Derived.Test.YtmbpdegkkdcjnaaDoorMWx9
namespace Go.Proofs.YtmbpdegkkdcjnaaDoor.MW
open Go.RowKit Go.Proofs.YtmbpdegkkdcjnaaDoorW.PrintWords Go.Proofs.YtmbpdegkkdcjnaaDoorW.PrintLast Go.Proofs.YtmbpdegkkdcjnaaDoorW.PrintMore
set_option maxHeartbeats 8000000
set_option maxRecDepth 100000
theorem qW10_c0 {p : Prop} (h : p := by
  simp only [Act.put, List.setIfInBounds_toArray, List.set_cons_zero, List.set_cons_succ, i64_w, i32_w]
  rfl) : p := h
theorem qW10_c1 {p : Prop} (h : p := by
  intro w'
  go_simp
  with_reducible rfl) : p := h
attribute [local go_sem] max2_int min2_int max_two min_two max_three min_three max_four min_four   -- for this text's walks alone
set_option linter.unusedVariables false
set_option linter.unusedSimpArgs false

/-! ### impl_ChainShift: function 34 -/
mutual
def impl_ChainShift.l0 : Nat → List (S59) → List (S59) → Int → Int → Int → Int → Int → Option (Int × Int × Int × Bool)
 | 0, _, _, _, _, _, _, _ => none
 | k + 1, x0, x11, x12, x13, x392000, x392001, x392002 => if x13 < x12 then (if 0 ≤ x13 then (if x13 < (x11.length : Int) then (if x13 > 0 then (if 0 ≤ (wrap64 (x13 - 1)) then (if (wrap64 (x13 - 1)) < (x0.length : Int) then (impl_ChainShift.j1 k x0 x11 x12 x13 (((rd_T59 x0 (wrap64 (x13 - 1))).f1) != ((rd_T59 x11 x13).f0)) x392000 x392001 x392002 ((rd_T59 x11 x13).f0) ((rd_T59 x11 x13).f1) ((rd_T59 x11 x13).f2) ((rd_T59 x11 x13).f3) ((rd_T59 x11 x13).f4)) else (none)) else (none)) else (impl_ChainShift.j1 k x0 x11 x12 x13 false x392000 x392001 x392002 ((rd_T59 x11 x13).f0) ((rd_T59 x11 x13).f1) ((rd_T59 x11 x13).f2) ((rd_T59 x11 x13).f3) ((rd_T59 x11 x13).f4))) else (none)) else (none)) else (some (x392000, x392001, x392002, true))
def impl_ChainShift.j1 : Nat → List (S59) → List (S59) → Int → Int → Bool → Int → Int → Int → Int → Int → Int → Int → Int → Option (Int × Int × Int × Bool)
 | 0, _, _, _, _, _, _, _, _, _, _, _, _, _ => none
 | k + 1, x0, x11, x12, x13, x30, x392000, x392001, x392002, x394000, x394001, x394002, x394003, x394004 => if x30 = true then (some (0, 0, 0, false)) else ((impl_Leg_shift.f k x394000 x394001 x394002 x394003 x394004).bind fun bt395 => ((impl_Shift_plus.f x392000 x392001 x392002 bt395.1 bt395.2.1 bt395.2.2 1).bind fun bt398 => (impl_ChainShift.l0 k x0 x11 x12 (wrap64 (x13 + 1)) bt398.1 bt398.2.1 bt398.2.2)))
end
def impl_ChainShift.f (k : Nat) (l0 : List (S59)) : Option (Int × Int × Int × Bool) := (impl_areLegs.f k l0).bind fun t390 => (if t390 = true then (impl_ChainShift.l0 k l0 l0 (l0.length : Int) 0 0 0 0) else (some (0, 0, 0, false)))
theorem impl_ChainShift.mono_l : ∀ k, (∀ y0 y1 y2 y3 y4 y5 y6, LeO (impl_ChainShift.l0 k y0 y1 y2 y3 y4 y5 y6) (impl_ChainShift.l0 (k + 1) y0 y1 y2 y3 y4 y5 y6)) ∧ (∀ y0 y1 y2 y3 y4 y5 y6 y7 y8 y9 y10 y11 y12, LeO (impl_ChainShift.j1 k y0 y1 y2 y3 y4 y5 y6 y7 y8 y9 y10 y11 y12) (impl_ChainShift.j1 (k + 1) y0 y1 y2 y3 y4 y5 y6 y7 y8 y9 y10 y11 y12))
 | 0 => ⟨fun _ _ _ _ _ _ _ r h => by simp [impl_ChainShift.l0] at h, fun _ _ _ _ _ _ _ _ _ _ _ _ _ r h => by simp [impl_ChainShift.j1] at h⟩
 | k + 1 => by
  obtain ⟨ih0, ih1⟩ := impl_ChainShift.mono_l k
  refine ⟨?_, ?_⟩
  ·intro y0 y1 y2 y3 y4 y5 y6
   unfold impl_ChainShift.l0
   have m0 := @impl_Leg_shift.mono; have m1 := @impl_areLegs.mono
   exact qmono
  ·intro y0 y1 y2 y3 y4 y5 y6 y7 y8 y9 y10 y11 y12
   unfold impl_ChainShift.j1
   have m0 := @impl_Leg_shift.mono; have m1 := @impl_areLegs.mono
   exact qmono
theorem impl_ChainShift.mono : ∀ a0 k, LeO (impl_ChainShift.f k a0) (impl_ChainShift.f (k + 1) a0) := by
 intro a0 k
 obtain ⟨ih0, ih1⟩ := impl_ChainShift.mono_l k
 unfold impl_ChainShift.f
 have m0 := @impl_Leg_shift.mono; have m1 := @impl_areLegs.mono
 exact qmono
def impl_ChainShift.T7 : Bool × List (List Nat × List Nat) := (true, [([], []), ([0], [0]), ([1], [1]), ([2], [2]), ([2], [2]), ([4, 2], [2, 4]), ([3, 5, 2], [2, 3, 5]), ([6, 2], [2, 6]), ([7, 2], [2, 7]), ([2], [2]), ([9, 2], [2, 9]), ([8, 10, 2], [2, 8, 10]), ([2, 11], [2, 11])])
def impl_ChainShift.B7 : List Nat := [0, 1, 3, 7, 7, 23, 63, 127, 255, 7, 519, 2047, 4095]
theorem impl_ChainShift.tab7 : rtab .any (opsOf Tryd.f34 7) = impl_ChainShift.T7 := by kernel_rfl
theorem impl_ChainShift.bits7 : waitsOk impl_ChainShift.T7.2 impl_ChainShift.B7 = true := by kernel_rfl
theorem impl_ChainShift.calls (k : Nat) (A0 : Option Addr) (c0 : Nat) (l0 : List (S59)) (r1 : Int) (r2 : Int) (r3 : Int) (r4 : Bool) (w : World) (hr0 : Kd.C k59 w A0 l0.length l0) (hc0 : l0.length ≤ c0) (h : impl_ChainShift.f k l0 = some (r1, r2, r3, r4)) (hsn : TabS w) :
  Calls Tryd.prog 34 #[.slice A0 l0.length c0] w fun e w' => e = .returned (.tuple #[.agg #[.int .i64 r1, .int .i64 r2, .int .i64 r3], .bool r4]) ∧ Below w.heap.size w w' := by
 have HSN := Aside0.mk hsn; clear hsn
 have hu63 := Tryd.underlying63
 have hu59 := Tryd.underlying59
 have HR0 := Aside0.mk hr0; have HC0 := Aside0.mk hc0; clear hr0 hc0
 have HB := Aside0.mk (Below.refl w.heap.size w)
 have H : ((impl_areLegs.f k l0).bind fun t390 => (if t390 = true then (impl_ChainShift.l0 k l0 l0 (l0.length : Int) 0 0 0 0) else (some (0, 0, 0, false)))) = some (r1, r2, r3, r4) := h
 clear h; replace H := Option.bind_eq_some_iff.mp H; obtain ⟨t390, A20, H⟩ := H
 try dsimp only at H
 have A2 := Aside0.mk A20; clear A20
 by_cases c3 : t390 = true
 ·subst c3; rw [if_pos rfl] at H
  have H' := Aside0.mk H
  clear H
  go_enter Tryd.func34, Tryd.ntmps34
  go_wp2_with (first | ((with_reducible refine gate_dst (N := 2) rfl ?_); refine box_event ?hg (N := 2) ?hd (cs := #[.int .i64 0, .int .i64 0, .int .i64 0]) (t := 63) ?hr ?_; (case hd => rfl); (case hg => rfl); (case hr => exact (qW22)); intro gb389 hg w4 hbox hb; have BK389 := Aside0.mk (hbox); have GW389 := Aside0.mk ((by rw [hg]; exact (below_size (qW0)) : w.heap.size ≤ gb389)); have GE389 := Aside0.mk ((by rw [hg]; exact (below_size (qW0)) : w.heap.size ≤ gb389)); replace HB := Aside0.mk (below_step (qW0) hb); clear hb hbox hg) | ((with_reducible refine gate_callee (f := 45) rfl ?_); refine goesL_ (some 8) rfl rfl Tryd.func45 (by kernel_rfl) rfl #[.slice A0 l0.length c0] rfl (qW1) ?_; (with_reducible refine (impl_areLegs.calls k _ _ l0 true _ ?side1 ?side2 A2.out).mono ?_); (case side1 => exact (qW25 HR0.out)); (case side2 => exact HC0.out); rintro e w5 ⟨rfl, hb⟩; refine ⟨_, rfl, ?_⟩; replace BK389 := Aside0.mk (blk_below (g := gb389) (o := .cells #[.int .i64 0, .int .i64 0, .int .i64 0] 63 (0, 0)) (qW5 BK389.out) hb); replace HB := Aside0.mk (below_step (qW10 GE389.out) hb); clear hb) | ((with_reducible refine gate_dst (N := 4) rfl ?_); refine box_event ?hg (N := 4) ?hd (cs := #[.int .i64 0, .int .i64 0, .int .i64 0]) (t := 63) ?hr ?_; (case hd => rfl); (case hg => rfl); (case hr => exact (qW22)); intro gb391 hg w6 hbox hb; have BK391 := Aside0.mk (hbox); have GW391 := Aside0.mk ((by rw [hg]; exact (below_size (qW10 GE389.out)) : w.heap.size ≤ gb391)); have GE391 := Aside0.mk ((by rw [hg]; exact (below_size (qW10 GE389.out)) : w.heap.size ≤ gb391)); replace HB := Aside0.mk (below_step (qW10 GE389.out) hb); have NB389_391 := Aside0.mk ((by rw [hg]; exact Nat.ne_of_lt (blk_lt (g := gb389) (o := .cells #[.int .i64 0, .int .i64 0, .int .i64 0] 63 (0, 0)) (qW5 BK389.out)) : gb389 ≠ gb391)); have NB391_389 := Aside0.mk ((by rw [hg]; exact Nat.ne_of_gt (blk_lt (g := gb389) (o := .cells #[.int .i64 0, .int .i64 0, .int .i64 0] 63 (0, 0)) (qW5 BK389.out)) : gb391 ≠ gb389)); replace BK389 := Aside0.mk (blk_below (g := gb389) (o := .cells #[.int .i64 0, .int .i64 0, .int .i64 0] 63 (0, 0)) (qW5 BK389.out) hb); clear hb hbox hg))
  go_loopg [13] k (fun kq v13 w' => ∃ (x13_1 : Int) (x390000_1 : Int) (x390001_1 : Int) (x390002_1 : Int) (x392000_1 : Int) (x392001_1 : Int) (x392002_1 : Int), v13 = .int .i64 x13_1 ∧ Aside0 (impl_ChainShift.l0 kq l0 l0 (l0.length : Int) x13_1 x392000_1 x392001_1 x392002_1 = some (r1, r2, r3, r4)) ∧ Aside0 (kq ≤ k) ∧ Aside0 (w'.heap[gb389]? = some (.cells #[.int .i64 x390000_1, .int .i64 x390001_1, .int .i64 x390002_1] 63 (0, 0))) ∧ Aside0 (w'.heap[gb391]? = some (.cells #[.int .i64 x392000_1, .int .i64 x392001_1, .int .i64 x392002_1] 63 (0, 0))) ∧ Aside0 (Below w.heap.size w w'))
  case atStart => exact ⟨(0), (0), (0), (0), (0), (0), (0), (qW14), H', ⟨Nat.le_refl _⟩, ⟨(qW5 BK389.out)⟩, ⟨(qW5 BK391.out)⟩, ⟨(qW20 GE389.out GE391.out)⟩⟩
  case round =>
   clear H'
   try clear p2
   try clear c3
   try clear c4
   obtain ⟨x13_1, x390000_1, x390001_1, x390002_1, x392000_1, x392001_1, x392002_1, rfl, HA, HK1, BK389, BK391, HB⟩ := hrel
   cases gk with
   | zero => exact absurd HA.out (by simp [impl_ChainShift.l0])
   | succ k1 =>
    have H := HA.out
    clear HA
    simp only [impl_ChainShift.l0] at H
    by_cases c7 : x13_1 < (l0.length : Int)
    ·rw [if_pos c7] at H
     have c7b0 : decide (x13_1 < (l0.length : Int)) = true := decide_eq_true c7
     clear c7
     by_cases c8 : 0 ≤ x13_1
     ·rw [if_pos c8] at H
      have c8b0 : decide (0 ≤ x13_1) = true := decide_eq_true c8
      clear c8
      by_cases c9 : x13_1 < (l0.length : Int)
      ·rw [if_pos c9] at H
       have c9b0 : decide (x13_1 < (l0.length : Int)) = true := decide_eq_true c9
       clear c9; have HC10 := Aside0.mk H; clear H
       have p392 : 0 ≤ (x13_1 : Int) := of_decide_eq_true (qW13)
       have q392 : x13_1 < (l0.length : Int) := of_decide_eq_true (qW13)
       obtain ⟨ad392, e392, hx392_0, hx392_1, hx392_2, hx392_3, hx392_4⟩ := at_T59 HR0.out x13_1 p392 q392
       cases e392
       replace hx392_0 := (HB.out.cell (World.block_lt_of_cell? w _ hx392_0)).trans hx392_0
       replace hx392_1 := (HB.out.cell (World.block_lt_of_cell? w _ hx392_1)).trans hx392_1
       replace hx392_2 := (HB.out.cell (World.block_lt_of_cell? w _ hx392_2)).trans hx392_2
       replace hx392_3 := (HB.out.cell (World.block_lt_of_cell? w _ hx392_3)).trans hx392_3
       replace hx392_4 := (HB.out.cell (World.block_lt_of_cell? w _ hx392_4)).trans hx392_4
       replace p392 := eq_true p392
       replace q392 := eq_true q392
       go_upto_region 7 with (first | ((with_reducible refine gate_dst (N := 6) rfl ?_); refine box_event ?hg (N := 6) ?hd (cs := #[.int .i64 0, .int .i64 0, .int .i64 0, .int .i64 0, .int .i64 0]) (t := 59) ?hr ?_; (case hd => rfl); (case hg => rfl); (case hr => exact (qW22)); intro gb393 hg w11 hbox hb; have BK393 := Aside0.mk (hbox); have GW393 := Aside0.mk ((by rw [hg]; exact (below_size (qW20 GE389.out GE391.out)) : w.heap.size ≤ gb393)); have GE393 := Aside0.mk ((by rw [hg]; exact (below_size (qW20 GE389.out GE391.out)) : w.heap.size ≤ gb393)); replace HB := Aside0.mk (below_step (qW20 GE389.out GE391.out) hb); have NB389_393 := Aside0.mk ((by rw [hg]; exact Nat.ne_of_lt (blk_lt (g := gb389) (o := .cells #[.int .i64 x390000_1, .int .i64 x390001_1, .int .i64 x390002_1] 63 (0, 0)) (qW5 BK389.out)) : gb389 ≠ gb393)); have NB393_389 := Aside0.mk ((by rw [hg]; exact Nat.ne_of_gt (blk_lt (g := gb389) (o := .cells #[.int .i64 x390000_1, .int .i64 x390001_1, .int .i64 x390002_1] 63 (0, 0)) (qW5 BK389.out)) : gb393 ≠ gb389)); replace BK389 := Aside0.mk (blk_below (g := gb389) (o := .cells #[.int .i64 x390000_1, .int .i64 x390001_1, .int .i64 x390002_1] 63 (0, 0)) (qW5 BK389.out) hb); have NB391_393 := Aside0.mk ((by rw [hg]; exact Nat.ne_of_lt (blk_lt (g := gb391) (o := .cells #[.int .i64 x392000_1, .int .i64 x392001_1, .int .i64 x392002_1] 63 (0, 0)) (qW5 BK391.out)) : gb391 ≠ gb393)); have NB393_391 := Aside0.mk ((by rw [hg]; exact Nat.ne_of_gt (blk_lt (g := gb391) (o := .cells #[.int .i64 x392000_1, .int .i64 x392001_1, .int .i64 x392002_1] 63 (0, 0)) (qW5 BK391.out)) : gb393 ≠ gb391)); replace BK391 := Aside0.mk (blk_below (g := gb391) (o := .cells #[.int .i64 x392000_1, .int .i64 x392001_1, .int .i64 x392002_1] 63 (0, 0)) (qW5 BK391.out) hb); clear hb hbox hg; have hnb12 := NB393_389.out; have hnc12 := NB389_393.out; have hnb13 := NB393_391.out; have hnc13 := NB391_393.out; have hcz14_0 : w11.cell? ⟨gb393, 0, none⟩ = some (.int .i64 0) := (blk_cell BK393.out 0).trans rfl; have hcz14_1 : w11.cell? ⟨gb393, 1, none⟩ = some (.int .i64 0) := (blk_cell BK393.out 1).trans rfl; have hcz14_2 : w11.cell? ⟨gb393, 2, none⟩ = some (.int .i64 0) := (blk_cell BK393.out 2).trans rfl; have hcz14_3 : w11.cell? ⟨gb393, 3, none⟩ = some (.int .i64 0) := (blk_cell BK393.out 3).trans rfl; have hcz14_4 : w11.cell? ⟨gb393, 4, none⟩ = some (.int .i64 0) := (blk_cell BK393.out 4).trans rfl; have hfz14_0 := blk_frozen BK393.out 0; have hfz14_1 := blk_frozen BK393.out 1; have hfz14_2 := blk_frozen BK393.out 2; have hfz14_3 := blk_frozen BK393.out 3; have hfz14_4 := blk_frozen BK393.out 4))
       (try simp only [Act.put, List.setIfInBounds_toArray, List.set_cons_zero, List.set_cons_succ])
       go_cut [30] (fun v30 wc => ∃ (kq : Nat) (x30_9 : Bool), v30 = .bool x30_9 ∧ Aside0 (impl_ChainShift.j1 kq l0 l0 (l0.length : Int) x13_1 x30_9 x392000_1 x392001_1 x392002_1 ((rd_T59 l0 x13_1).f0) ((rd_T59 l0 x13_1).f1) ((rd_T59 l0 x13_1).f2) ((rd_T59 l0 x13_1).f3) ((rd_T59 l0 x13_1).f4) = some (r1, r2, r3, r4)) ∧ Aside0 (kq ≤ k1) ∧ Aside0 (wc.heap[gb389]? = some (.cells #[.int .i64 x390000_1, .int .i64 x390001_1, .int .i64 x390002_1] 63 (0, 0))) ∧ Aside0 (wc.heap[gb391]? = some (.cells #[.int .i64 x392000_1, .int .i64 x392001_1, .int .i64 x392002_1] 63 (0, 0))) ∧ Aside0 (wc.heap[gb393]? = some (.cells #[.int .i64 ((rd_T59 l0 x13_1).f0), .int .i64 ((rd_T59 l0 x13_1).f1), .int .i64 ((rd_T59 l0 x13_1).f2), .int .i64 ((rd_T59 l0 x13_1).f3), .int .i64 ((rd_T59 l0 x13_1).f4)] 59 (0, 0))) ∧ Aside0 (Below w.heap.size w wc))
       case first =>
        have H := HC10.out
        clear HC10
        by_cases c15 : x13_1 > 0
        ·rw [if_pos c15] at H
         have c15b0 : decide (0 < x13_1) = true := decide_eq_true c15
         clear c15
         (first | rw [c15b0] | (simp only [i64_w, i32_w]; rw [c15b0]) | skip)
         obtain ⟨ji16, hji16⟩ : ∃ j_ : Int, (wrap64 (x13_1 - 1)) = j_ := ⟨_, rfl⟩
         replace H : (if 0 ≤ (ji16) then (if (ji16) < (l0.length : Int) then (impl_ChainShift.j1 k1 l0 l0 (l0.length : Int) x13_1 (((rd_T59 l0 (ji16)).f1) != ((rd_T59 l0 x13_1).f0)) x392000_1 x392001_1 x392002_1 ((rd_T59 l0 x13_1).f0) ((rd_T59 l0 x13_1).f1) ((rd_T59 l0 x13_1).f2) ((rd_T59 l0 x13_1).f3) ((rd_T59 l0 x13_1).f4)) else (none)) else (none)) = some (r1, r2, r3, r4) := by first | (rw [hji16] at H; exact H) | (simp only [hji16] at H ⊢; exact H)
         have hji16w : (IntKind.i64.wrap (x13_1 - 1)) = ji16 := (i64_w _).trans hji16
         by_cases c17 : 0 ≤ (ji16)
         ·rw [if_pos c17] at H
          have c17b0 : decide (0 ≤ (ji16)) = true := decide_eq_true c17
          clear c17
          by_cases c18 : (ji16) < (l0.length : Int)
          ·rw [if_pos c18] at H
           have c18b0 : decide ((ji16) < (l0.length : Int)) = true := decide_eq_true c18
           clear c18
           have H' := Aside0.mk H
           clear H
           try go_wp2
           have n0_ : Aside0 ((((((w11.setCell ⟨gb393, 0, none⟩ (.int .i64 ((rd_T59 l0 x13_1).f0))).setCell ⟨gb393, 1, none⟩ (.int .i64 ((rd_T59 l0 x13_1).f1))).setCell ⟨gb393, 2, none⟩ (.int .i64 ((rd_T59 l0 x13_1).f2))).setCell ⟨gb393, 3, none⟩ (.int .i64 ((rd_T59 l0 x13_1).f3))).setCell ⟨gb393, 4, none⟩ (.int .i64 ((rd_T59 l0 x13_1).f4))).heap[gb389]? = some (.cells #[.int .i64 x390000_1, .int .i64 x390001_1, .int .i64 x390002_1] 63 (0, 0))) := ⟨(qW19 NB389_393.out BK389.out)⟩
           have n1_ : Aside0 ((((((w11.setCell ⟨gb393, 0, none⟩ (.int .i64 ((rd_T59 l0 x13_1).f0))).setCell ⟨gb393, 1, none⟩ (.int .i64 ((rd_T59 l0 x13_1).f1))).setCell ⟨gb393, 2, none⟩ (.int .i64 ((rd_T59 l0 x13_1).f2))).setCell ⟨gb393, 3, none⟩ (.int .i64 ((rd_T59 l0 x13_1).f3))).setCell ⟨gb393, 4, none⟩ (.int .i64 ((rd_T59 l0 x13_1).f4))).heap[gb391]? = some (.cells #[.int .i64 x392000_1, .int .i64 x392001_1, .int .i64 x392002_1] 63 (0, 0))) := ⟨(qW19 NB391_393.out BK391.out)⟩
           have n2_ : Aside0 ((((((w11.setCell ⟨gb393, 0, none⟩ (.int .i64 ((rd_T59 l0 x13_1).f0))).setCell ⟨gb393, 1, none⟩ (.int .i64 ((rd_T59 l0 x13_1).f1))).setCell ⟨gb393, 2, none⟩ (.int .i64 ((rd_T59 l0 x13_1).f2))).setCell ⟨gb393, 3, none⟩ (.int .i64 ((rd_T59 l0 x13_1).f3))).setCell ⟨gb393, 4, none⟩ (.int .i64 ((rd_T59 l0 x13_1).f4))).heap[gb393]? = some (.cells #[.int .i64 ((rd_T59 l0 x13_1).f0), .int .i64 ((rd_T59 l0 x13_1).f1), .int .i64 ((rd_T59 l0 x13_1).f2), .int .i64 ((rd_T59 l0 x13_1).f3), .int .i64 ((rd_T59 l0 x13_1).f4)] 59 (0, 0))) := ⟨(qW38)⟩
           have n3_ : Aside0 (Below w.heap.size w (((((w11.setCell ⟨gb393, 0, none⟩ (.int .i64 ((rd_T59 l0 x13_1).f0))).setCell ⟨gb393, 1, none⟩ (.int .i64 ((rd_T59 l0 x13_1).f1))).setCell ⟨gb393, 2, none⟩ (.int .i64 ((rd_T59 l0 x13_1).f2))).setCell ⟨gb393, 3, none⟩ (.int .i64 ((rd_T59 l0 x13_1).f3))).setCell ⟨gb393, 4, none⟩ (.int .i64 ((rd_T59 l0 x13_1).f4)))) := ⟨(qW35)⟩
           (try clear BK389)
           (try clear BK391)
           (try clear BK393)
           (try clear HB)
           generalize (((((w11.setCell ⟨gb393, 0, none⟩ (.int .i64 ((rd_T59 l0 x13_1).f0))).setCell ⟨gb393, 1, none⟩ (.int .i64 ((rd_T59 l0 x13_1).f1))).setCell ⟨gb393, 2, none⟩ (.int .i64 ((rd_T59 l0 x13_1).f2))).setCell ⟨gb393, 3, none⟩ (.int .i64 ((rd_T59 l0 x13_1).f3))).setCell ⟨gb393, 4, none⟩ (.int .i64 ((rd_T59 l0 x13_1).f4))) = w19 at n0_ n1_ n2_ n3_ ⊢
           have BK389 := n0_
           have BK391 := n1_
           have BK393 := n2_
           have HB := n3_
           clear n0_ n1_ n2_ n3_
           replace BK389 := Aside0.mk (blk_drew BK389.out)
           replace BK391 := Aside0.mk (blk_drew BK391.out)
           replace BK393 := Aside0.mk (blk_drew BK393.out)
           replace HB := Aside0.mk (below_drew1 HB.out)
           have p394 : 0 ≤ ((ji16) : Int) := of_decide_eq_true (qW13)
           have q394 : (ji16) < (l0.length : Int) := of_decide_eq_true (qW13)
           obtain ⟨ad394, e394, hx394_0, hx394_1, hx394_2, hx394_3, hx394_4⟩ := at_T59 HR0.out (ji16) p394 q394
           have hw394_4 := hx394_4
           have hw394_3 := hx394_3
           have hw394_2 := hx394_2
           have hw394_1 := hx394_1
           have hw394_0 := hx394_0
           obtain rfl : ad392 = ad394 := (by injection e394)
           replace hx394_0 := (HB.out.cell (World.block_lt_of_cell? w _ hx394_0)).trans hx394_0
           replace hx394_1 := (HB.out.cell (World.block_lt_of_cell? w _ hx394_1)).trans hx394_1
           replace hx394_2 := (HB.out.cell (World.block_lt_of_cell? w _ hx394_2)).trans hx394_2
           replace hx394_3 := (HB.out.cell (World.block_lt_of_cell? w _ hx394_3)).trans hx394_3
           replace hx394_4 := (HB.out.cell (World.block_lt_of_cell? w _ hx394_4)).trans hx394_4
           replace p394 := eq_true p394
           replace q394 := eq_true q394
           refine start_ (n := 13) (S := fun w' => w'.cell? ⟨gb393, 0, none⟩ = some (.int .i64 ((rd_T59 l0 x13_1).f0)) ∧ w'.cell? ⟨gb393, 1, none⟩ = some (.int .i64 ((rd_T59 l0 x13_1).f1)) ∧ w'.cell? ⟨gb393, 2, none⟩ = some (.int .i64 ((rd_T59 l0 x13_1).f2)) ∧ w'.cell? ⟨gb393, 3, none⟩ = some (.int .i64 ((rd_T59 l0 x13_1).f3)) ∧ w'.cell? ⟨gb393, 4, none⟩ = some (.int .i64 ((rd_T59 l0 x13_1).f4)) ∧ w'.cell? (ad392.add (((ji16)).toNat * 5)) = some (.int .i64 ((rd_T59 l0 (ji16)).f0)) ∧ w'.cell? ⟨(ad392.add (((ji16)).toNat * 5)).block, (ad392.add (((ji16)).toNat * 5)).off + 1, none⟩ = some (.int .i64 ((rd_T59 l0 (ji16)).f1)) ∧ w'.cell? ⟨(ad392.add (((ji16)).toNat * 5)).block, (ad392.add (((ji16)).toNat * 5)).off + 2, none⟩ = some (.int .i64 ((rd_T59 l0 (ji16)).f2)) ∧ w'.cell? ⟨(ad392.add (((ji16)).toNat * 5)).block, (ad392.add (((ji16)).toNat * 5)).off + 3, none⟩ = some (.int .i64 ((rd_T59 l0 (ji16)).f3)) ∧ w'.cell? ⟨(ad392.add (((ji16)).toNat * 5)).block, (ad392.add (((ji16)).toNat * 5)).off + 4, none⟩ = some (.int .i64 ((rd_T59 l0 (ji16)).f4))) (ds := []) qWb0 (by kernel_rfl) rfl rfl ⟨(blk_cell BK393.out 0).trans rfl, (blk_cell BK393.out 1).trans rfl, (blk_cell BK393.out 2).trans rfl, (blk_cell BK393.out 3).trans rfl, (blk_cell BK393.out 4).trans rfl, ((HB.out.cell (World.block_lt_of_cell? w _ hw394_0)).trans hw394_0), ((HB.out.cell (World.block_lt_of_cell? w _ hw394_1)).trans hw394_1), ((HB.out.cell (World.block_lt_of_cell? w _ hw394_2)).trans hw394_2), ((HB.out.cell (World.block_lt_of_cell? w _ hw394_3)).trans hw394_3), ((HB.out.cell (World.block_lt_of_cell? w _ hw394_4)).trans hw394_4)⟩ (fun hHeld => ?_); refine with_tabW impl_ChainShift.tab7 impl_ChainShift.bits7 (fun HT_ HW_ => ?_)
           generalize w19.drew = w20 at BK389 BK391 BK393 HB hx394_0 hx394_1 hx394_2 hx394_3 hx394_4 hHeld ⊢
           refine pure_ (i := 0) (N := some 18) (v := ?_) (a' := ?_) qWb1 rfl rfl (qW18) (fun _ _ _ h => h) (Or.inl ⟨by rfl, ?_⟩) ?_ ?_
           rotate_left; exact qW10_c1; rotate_left; exact qW10_c0
           refine pure_ (i := 1) (N := some 19) (v := ?_) (a' := ?_) qWb2 rfl rfl (qW18) (fun _ _ _ h => h) (Or.inl ⟨by rfl, ?_⟩) ?_ ?_
           rotate_left; exact qW10_c1; rotate_left; exact qW10_c0
           refine pure_ (i := 2) (N := some 20) (v := ?_) (a' := ?_) qWb3 rfl rfl (qW18) (fun _ _ _ h => h) (Or.inl ⟨by rfl, ?_⟩) ?_ ?_
           rotate_left; exact qW10_c1; rotate_left; exact qW10_c0
           refine pure_ (i := 3) (N := some 21) (v := ?_) (a' := ?_) qWb4 rfl rfl (qW18) (fun _ _ _ h => h) (Or.inl ⟨by rfl, ?_⟩) ?_ ?_
           rotate_left; exact qW10_c1; rotate_left; exact qW10_c0
           refine pure_ (i := 4) (N := some 22) (v := ?_) (a' := ?_) qWb5 rfl rfl (qW18) (fun _ _ _ h => h) (Or.inl ⟨by rfl, ?_⟩) ?_ ?_
           rotate_left; exact qW10_c1; rotate_left; exact qW10_c0
           refine pure_ (i := 5) (N := some 23) (v := ?_) (a' := ?_) qWb6 rfl rfl (qW18) (fun _ _ _ h => h) (Or.inl ⟨by rfl, ?_⟩) ?_ ?_
           rotate_left; exact qW10_c1; rotate_left; exact qW10_c0
           refine pure_ (i := 6) (N := some 24) (v := ?_) (a' := ?_) qWb7 rfl rfl (qW18) (fun _ _ _ h => h) (Or.inl ⟨by rfl, ?_⟩) ?_ ?_
           rotate_left; exact qW10_c1; rotate_left; exact qW10_c0
           refine pure_ (i := 7) (N := some 25) (v := ?_) (a' := ?_) qWb8 rfl rfl (qW18) (fun _ _ _ h => h) (Or.inl ⟨by rfl, ?_⟩) ?_ ?_
           rotate_left; exact qW10_c1; rotate_left; exact qW10_c0
           refine pure_ (i := 9) (N := some 27) (v := ?_) (a' := ?_) #[true, true, true, true, true, true, true, true, false, true, false, false, false] rfl rfl (qW18) (fun _ _ _ h => h) (Or.inl ⟨by rfl, ?_⟩) ?_ ?_
           rotate_left; exact qW10_c1; rotate_left; exact qW10_c0
           refine take_ (i := 8) (N := some 26) (v := ?_) (a' := ?_) qWb9 rfl rfl (take_ofW HT_.out HW_.out (by kernel_rfl)) (fun _ _ _ h => h) (Or.inl ⟨by rfl, ?_⟩) hHeld ?_ ?_
           rotate_left
           ·rintro w' ⟨s0, s1, s2, s3, s4, s5, s6, s7, s8, s9⟩
            go_simp
            with_reducible rfl
           rotate_left
           ·exact qW10_c0
           refine take_ (i := 10) (N := some 28) (v := ?_) (a' := ?_) qWb10 rfl rfl (take_ofW HT_.out HW_.out (by kernel_rfl)) (fun _ _ _ h => h) (Or.inl ⟨by rfl, ?_⟩) hHeld ?_ ?_
           rotate_left
           ·rintro w' ⟨s0, s1, s2, s3, s4, s5, s6, s7, s8, s9⟩
            go_simp
            with_reducible rfl
           rotate_left
           ·exact qW10_c0
           refine pure_ (i := 11) (N := some 29) (v := ?_) (a' := ?_) qWb11 rfl rfl (qW18) (fun _ _ _ h => h) (Or.inl ⟨by rfl, ?_⟩) ?_ ?_
           rotate_left; exact qW10_c1; rotate_left; exact qW10_c0
           refine pure_ (i := 12) (N := some 30) (v := ?_) (a' := ?_) qWb12 rfl rfl (qW18) (fun _ _ _ h => h) (Or.inl ⟨by rfl, ?_⟩) ?_ ?_
           rotate_left; exact qW10_c1; rotate_left; exact qW10_c0
           refine done_ (qW62) ?_
           try go_wp2
           go_meet
           case rel => exact ⟨_, ((((rd_T59 l0 (ji16)).f1) != ((rd_T59 l0 x13_1).f0))), (by first | rfl | (simp; done) | (simp only [← hji16] <;> (first | rfl | simp)) | (simp [*]; done)), H', ⟨by have := HK1.out; first | omega | exact Nat.le_refl _⟩, ⟨(qW5 BK389.out)⟩, ⟨(qW5 BK391.out)⟩, ⟨(qW5 BK393.out)⟩, ⟨(qW35)⟩⟩
          ·rw [if_neg c18] at H
           exact absurd H (by simp)
         ·rw [if_neg c17] at H
          exact absurd H (by simp)
        ·rw [if_neg c15] at H
         have c15b0 : decide (0 < x13_1) = false := decide_eq_false c15
         clear c15
         (first | rw [c15b0] | (simp only [i64_w, i32_w]; rw [c15b0]) | skip)
         have H' := Aside0.mk H
         clear H
         try go_wp2
         have n0_ : Aside0 ((((((w11.setCell ⟨gb393, 0, none⟩ (.int .i64 ((rd_T59 l0 x13_1).f0))).setCell ⟨gb393, 1, none⟩ (.int .i64 ((rd_T59 l0 x13_1).f1))).setCell ⟨gb393, 2, none⟩ (.int .i64 ((rd_T59 l0 x13_1).f2))).setCell ⟨gb393, 3, none⟩ (.int .i64 ((rd_T59 l0 x13_1).f3))).setCell ⟨gb393, 4, none⟩ (.int .i64 ((rd_T59 l0 x13_1).f4))).heap[gb389]? = some (.cells #[.int .i64 x390000_1, .int .i64 x390001_1, .int .i64 x390002_1] 63 (0, 0))) := ⟨(qW19 NB389_393.out BK389.out)⟩
         have n1_ : Aside0 ((((((w11.setCell ⟨gb393, 0, none⟩ (.int .i64 ((rd_T59 l0 x13_1).f0))).setCell ⟨gb393, 1, none⟩ (.int .i64 ((rd_T59 l0 x13_1).f1))).setCell ⟨gb393, 2, none⟩ (.int .i64 ((rd_T59 l0 x13_1).f2))).setCell ⟨gb393, 3, none⟩ (.int .i64 ((rd_T59 l0 x13_1).f3))).setCell ⟨gb393, 4, none⟩ (.int .i64 ((rd_T59 l0 x13_1).f4))).heap[gb391]? = some (.cells #[.int .i64 x392000_1, .int .i64 x392001_1, .int .i64 x392002_1] 63 (0, 0))) := ⟨(qW19 NB391_393.out BK391.out)⟩
         have n2_ : Aside0 ((((((w11.setCell ⟨gb393, 0, none⟩ (.int .i64 ((rd_T59 l0 x13_1).f0))).setCell ⟨gb393, 1, none⟩ (.int .i64 ((rd_T59 l0 x13_1).f1))).setCell ⟨gb393, 2, none⟩ (.int .i64 ((rd_T59 l0 x13_1).f2))).setCell ⟨gb393, 3, none⟩ (.int .i64 ((rd_T59 l0 x13_1).f3))).setCell ⟨gb393, 4, none⟩ (.int .i64 ((rd_T59 l0 x13_1).f4))).heap[gb393]? = some (.cells #[.int .i64 ((rd_T59 l0 x13_1).f0), .int .i64 ((rd_T59 l0 x13_1).f1), .int .i64 ((rd_T59 l0 x13_1).f2), .int .i64 ((rd_T59 l0 x13_1).f3), .int .i64 ((rd_T59 l0 x13_1).f4)] 59 (0, 0))) := ⟨(qW38)⟩
         have n3_ : Aside0 (Below w.heap.size w (((((w11.setCell ⟨gb393, 0, none⟩ (.int .i64 ((rd_T59 l0 x13_1).f0))).setCell ⟨gb393, 1, none⟩ (.int .i64 ((rd_T59 l0 x13_1).f1))).setCell ⟨gb393, 2, none⟩ (.int .i64 ((rd_T59 l0 x13_1).f2))).setCell ⟨gb393, 3, none⟩ (.int .i64 ((rd_T59 l0 x13_1).f3))).setCell ⟨gb393, 4, none⟩ (.int .i64 ((rd_T59 l0 x13_1).f4)))) := ⟨(qW35)⟩
         (try clear BK389)
         (try clear BK391)
         (try clear BK393)
         (try clear HB)
         generalize (((((w11.setCell ⟨gb393, 0, none⟩ (.int .i64 ((rd_T59 l0 x13_1).f0))).setCell ⟨gb393, 1, none⟩ (.int .i64 ((rd_T59 l0 x13_1).f1))).setCell ⟨gb393, 2, none⟩ (.int .i64 ((rd_T59 l0 x13_1).f2))).setCell ⟨gb393, 3, none⟩ (.int .i64 ((rd_T59 l0 x13_1).f3))).setCell ⟨gb393, 4, none⟩ (.int .i64 ((rd_T59 l0 x13_1).f4))) = w21 at n0_ n1_ n2_ n3_ ⊢
         have BK389 := n0_
         have BK391 := n1_
         have BK393 := n2_
         have HB := n3_
         clear n0_ n1_ n2_ n3_
         replace BK389 := Aside0.mk (blk_drew BK389.out)
         replace BK391 := Aside0.mk (blk_drew BK391.out)
         replace BK393 := Aside0.mk (blk_drew BK393.out)
         replace HB := Aside0.mk (below_drew1 HB.out)
         refine start_ (n := 13) (S := fun w' => True) (ds := []) qWb0 (by kernel_rfl) rfl rfl trivial (fun hHeld => ?_); refine with_tabW impl_ChainShift.tab7 impl_ChainShift.bits7 (fun HT_ HW_ => ?_)
         generalize w21.drew = w22 at BK389 BK391 BK393 HB hHeld ⊢
         refine pure_ (i := 0) (N := some 18) (v := ?_) (a' := ?_) qWb1 rfl rfl (qW18) (fun _ _ _ h => h) (Or.inl ⟨by rfl, ?_⟩) ?_ ?_
         rotate_left; exact qW10_c1; rotate_left; exact qW10_c0
         refine pure_ (i := 1) (N := some 19) (v := ?_) (a' := ?_) qWb2 rfl rfl (qW18) (fun _ _ _ h => h) (Or.inl ⟨by rfl, ?_⟩) ?_ ?_
         rotate_left; exact qW10_c1; rotate_left; exact qW10_c0
         refine pure_ (i := 2) (N := some 20) (v := ?_) (a' := ?_) qWb3 rfl rfl (qW18) (fun _ _ _ h => h) (Or.inl ⟨by rfl, ?_⟩) ?_ ?_
         rotate_left; exact qW10_c1; rotate_left; exact qW10_c0
         refine pure_ (i := 3) (N := some 21) (v := undef) (a' := ?_) qWb4 rfl rfl (qW18) (fun _ _ _ h => h) (Or.inr ⟨by rfl, rfl⟩) ?_ ?_
         rotate_left
         ·exact qW10_c0
         refine pure_ (i := 4) (N := some 22) (v := undef) (a' := ?_) qWb5 rfl rfl (qW18) (fun _ _ _ h => h) (Or.inr ⟨by rfl, rfl⟩) ?_ ?_
         rotate_left
         ·exact qW10_c0
         refine pure_ (i := 5) (N := some 23) (v := undef) (a' := ?_) qWb6 rfl rfl (qW18) (fun _ _ _ h => h) (Or.inr ⟨by rfl, rfl⟩) ?_ ?_
         rotate_left
         ·exact qW10_c0
         refine pure_ (i := 6) (N := some 24) (v := undef) (a' := ?_) qWb7 rfl rfl (qW18) (fun _ _ _ h => h) (Or.inr ⟨by rfl, rfl⟩) ?_ ?_
         rotate_left
         ·exact qW10_c0
         refine pure_ (i := 7) (N := some 25) (v := undef) (a' := ?_) qWb8 rfl rfl (qW18) (fun _ _ _ h => h) (Or.inr ⟨by rfl, rfl⟩) ?_ ?_
         rotate_left
         ·exact qW10_c0
         refine pure_ (i := 8) (N := some 26) (v := undef) (a' := ?_) #[true, true, true, true, true, true, true, true, true, false, false, false, false] rfl rfl (qW18) (fun _ _ _ h => h) (Or.inr ⟨by rfl, rfl⟩) ?_ ?_
         rotate_left
         ·exact qW10_c0
         refine pure_ (i := 9) (N := some 27) (v := undef) (a' := ?_) qWb9 rfl rfl (qW18) (fun _ _ _ h => h) (Or.inr ⟨by rfl, rfl⟩) ?_ ?_
         rotate_left
         ·exact qW10_c0
         refine pure_ (i := 10) (N := some 28) (v := undef) (a' := ?_) qWb10 rfl rfl (qW18) (fun _ _ _ h => h) (Or.inr ⟨by rfl, rfl⟩) ?_ ?_
         rotate_left
         ·exact qW10_c0
         refine pure_ (i := 11) (N := some 29) (v := undef) (a' := ?_) qWb11 rfl rfl (qW18) (fun _ _ _ h => h) (Or.inr ⟨by rfl, rfl⟩) ?_ ?_
         rotate_left
         ·exact qW10_c0
         refine pure_ (i := 12) (N := some 30) (v := ?_) (a' := ?_) qWb12 rfl rfl (qW18) (fun _ _ _ h => h) (Or.inl ⟨by rfl, ?_⟩) ?_ ?_
         rotate_left; exact qW10_c1; rotate_left; exact qW10_c0
         refine done_ (qW62) ?_
         try go_wp2
         go_meet
         case rel => exact ⟨_, (false), (qW14), H', ⟨by have := HK1.out; first | omega | exact Nat.le_refl _⟩, ⟨(qW5 BK389.out)⟩, ⟨(qW5 BK391.out)⟩, ⟨(qW5 BK393.out)⟩, ⟨(qW35)⟩⟩
       case rest =>
        clear HC10
        try clear c1
        try clear p2
        try clear c3
        try clear p3
        try clear q3
        try clear hx3
        try clear c4
        try clear p6
        try clear c7
        try clear c7b0
        try clear c8
        try clear c8b0
        try clear c9
        try clear c9b0
        try clear c12
        try clear c13
        try clear c15
        try clear c15b0
        try clear c17
        try clear c17b0
        try clear c18
        try clear c18b0
        try clear hcz14_0
        try clear hcz14_1
        try clear hcz14_2
        try clear hcz14_3
        try clear hcz14_4
        try clear hfz14_0
        try clear hfz14_1
        try clear hfz14_2
        try clear hfz14_3
        try clear hfz14_4
        try clear hx392_0
        try clear hx392_1
        try clear hx392_2
        try clear hx392_3
        try clear hx392_4
        try clear hx394_0
        try clear hx394_1
        try clear hx394_2
        try clear hx394_3
        try clear hx394_4
        try clear p2
        try clear p392
        try clear p394
        try clear q392
        try clear q394
        obtain ⟨kq, x30_9, rfl, HA, HJ9, BK389, BK391, BK393, HB⟩ := hcut
        cases kq with
        | zero => exact absurd HA.out (by simp [impl_ChainShift.j1])
        | succ kj9 =>
         have H := HA.out
         clear HA
         simp only [impl_ChainShift.j1] at H
         by_cases c23 : x30_9 = true
         ·subst c23; rw [if_pos rfl] at H
          simp only [Option.some.injEq, Prod.mk.injEq] at H
          obtain ⟨rfl, rfl, rfl, rfl⟩ := H
          have hnb24 := NB389_391.out
          have hnc24 := NB391_389.out
          have hnb25 := NB389_393.out
          have hnc25 := NB393_389.out
          have hcz26_0 : wc.cell? ⟨gb389, 0, none⟩ = some (.int .i64 x390000_1) := (blk_cell BK389.out 0).trans rfl
          have hcz26_1 : wc.cell? ⟨gb389, 1, none⟩ = some (.int .i64 x390001_1) := (blk_cell BK389.out 1).trans rfl
          have hcz26_2 : wc.cell? ⟨gb389, 2, none⟩ = some (.int .i64 x390002_1) := (blk_cell BK389.out 2).trans rfl
          have hfz26_0 := blk_frozen BK389.out 0
          have hfz26_1 := blk_frozen BK389.out 1
          have hfz26_2 := blk_frozen BK389.out 2
          go_wp2
          refine bodyPost_ret (results_ct rfl _ _ gb389 63 #[.int .i64 0, .int .i64 0, .int .i64 0] (0, 0) _ rfl (by (with_reducible repeat (first | refine blk_drewN ?_ _ | refine blk_drew ?_ | refine blk_alloc ?_ _)); refine blk_put (cs := #[.int .i64 0, .int .i64 0, .int .i64 x390002_1]) ?_ 2 _ rfl; (with_reducible repeat (first | refine blk_drewN ?_ _ | refine blk_drew ?_ | refine blk_alloc ?_ _)); refine blk_put (cs := #[.int .i64 0, .int .i64 x390001_1, .int .i64 x390002_1]) ?_ 1 _ rfl; (with_reducible repeat (first | refine blk_drewN ?_ _ | refine blk_drew ?_ | refine blk_alloc ?_ _)); refine blk_put (cs := #[.int .i64 x390000_1, .int .i64 x390001_1, .int .i64 x390002_1]) ?_ 0 _ rfl; (with_reducible repeat (first | refine blk_drewN ?_ _ | refine blk_drew ?_ | refine blk_alloc ?_ _)); exact BK389.out) Tryd.underlying63 rfl (by kernel_rfl)) rfl ?_
          exact ⟨(qW9), (qW35)⟩
         ·replace c23 := Bool.eq_false_iff.mpr c23
          subst c23
          rw [if_neg (show ¬ (false = true) by decide)] at H
          replace H := Option.bind_eq_some_iff.mp H; obtain ⟨⟨t395, t396, t397⟩, A270, H⟩ := H
          try dsimp only at H
          have A27 := Aside0.mk A270; clear A270; replace H := Option.bind_eq_some_iff.mp H; obtain ⟨⟨t398, t399, t400⟩, A280, H⟩ := H
          try dsimp only at H
          have A28 := Aside0.mk A280; clear A280
          have H' := Aside0.mk H
          clear H
          try go_wp2
          replace BK389 := Aside0.mk (blk_drew BK389.out)
          replace BK391 := Aside0.mk (blk_drew BK391.out)
          replace BK393 := Aside0.mk (blk_drew BK393.out)
          replace HB := Aside0.mk (below_drew1 HB.out)
          refine start_ (n := 5) (S := fun w' => w'.cell? ⟨gb391, 0, none⟩ = some (.int .i64 x392000_1) ∧ w'.cell? ⟨gb391, 1, none⟩ = some (.int .i64 x392001_1) ∧ w'.cell? ⟨gb391, 2, none⟩ = some (.int .i64 x392002_1) ∧ w'.cell? ⟨gb393, 0, none⟩ = some (.int .i64 ((rd_T59 l0 x13_1).f0)) ∧ w'.cell? ⟨gb393, 1, none⟩ = some (.int .i64 ((rd_T59 l0 x13_1).f1)) ∧ w'.cell? ⟨gb393, 2, none⟩ = some (.int .i64 ((rd_T59 l0 x13_1).f2)) ∧ w'.cell? ⟨gb393, 3, none⟩ = some (.int .i64 ((rd_T59 l0 x13_1).f3)) ∧ w'.cell? ⟨gb393, 4, none⟩ = some (.int .i64 ((rd_T59 l0 x13_1).f4))) (ds := [4]) #[false, false, false, false, false] (by kernel_rfl) rfl rfl ⟨(blk_cell BK391.out 0).trans rfl, (blk_cell BK391.out 1).trans rfl, (blk_cell BK391.out 2).trans rfl, (blk_cell BK393.out 0).trans rfl, (blk_cell BK393.out 1).trans rfl, (blk_cell BK393.out 2).trans rfl, (blk_cell BK393.out 3).trans rfl, (blk_cell BK393.out 4).trans rfl⟩ (fun hHeld => ?_)
          generalize wc.drew = w29 at BK389 BK391 BK393 HB hHeld ⊢
          refine take_ (i := 0) (N := some 32) (v := ?_) (a' := ?_) #[true, false, false, false, false] rfl rfl (by kernel_rfl) (fun _ _ _ h => h) (Or.inl ⟨by rfl, ?_⟩) hHeld ?_ ?_
          rotate_left
          ·rintro w' ⟨s0, s1, s2, s3, s4, s5, s6, s7⟩
           go_simp
           with_reducible rfl
          rotate_left
          ·exact qW10_c0
          refine take_ (i := 1) (N := some 33) (v := ?_) (a' := ?_) #[true, true, false, false, false] rfl rfl (by kernel_rfl) (fun _ _ _ h => h) (Or.inl ⟨by rfl, ?_⟩) hHeld ?_ ?_
          rotate_left
          ·rintro w' ⟨s0, s1, s2, s3, s4, s5, s6, s7⟩
           go_simp
           with_reducible rfl
          rotate_left
          ·exact qW10_c0
          refine one_ (i := 2) (N := some 34) #[true, true, true, false, false] rfl rfl (by kernel_rfl) (by decide) (fun K hK => ?_)
          refine goes_ Tryd.func47 (by kernel_rfl) rfl #[.agg #[.int .i64 ((rd_T59 l0 x13_1).f0), .int .i64 ((rd_T59 l0 x13_1).f1), .int .i64 ((rd_T59 l0 x13_1).f2), .int .i64 ((rd_T59 l0 x13_1).f3), .int .i64 ((rd_T59 l0 x13_1).f4)]] (by rfl) rfl rfl (qW1) ?_
          with_reducible refine (impl_Leg_shift.calls (hsn := (qW70)) kj9 ((rd_T59 l0 x13_1).f0) ((rd_T59 l0 x13_1).f1) ((rd_T59 l0 x13_1).f2) ((rd_T59 l0 x13_1).f3) ((rd_T59 l0 x13_1).f4) t395 t396 t397 _ A27.out).mono ?_
          rintro e w30 ⟨rfl, hb⟩
          refine ⟨_, rfl, ?_⟩
          replace BK389 := Aside0.mk (blk_below (g := gb389) (o := .cells #[.int .i64 x390000_1, .int .i64 x390001_1, .int .i64 x390002_1] 63 (0, 0)) (qW5 BK389.out) hb)
          replace BK391 := Aside0.mk (blk_below (g := gb391) (o := .cells #[.int .i64 x392000_1, .int .i64 x392001_1, .int .i64 x392002_1] 63 (0, 0)) (qW5 BK391.out) hb)
          replace BK393 := Aside0.mk (blk_below (g := gb393) (o := .cells #[.int .i64 ((rd_T59 l0 x13_1).f0), .int .i64 ((rd_T59 l0 x13_1).f1), .int .i64 ((rd_T59 l0 x13_1).f2), .int .i64 ((rd_T59 l0 x13_1).f3), .int .i64 ((rd_T59 l0 x13_1).f4)] 59 (0, 0)) (qW5 BK393.out) hb)
          replace HB := Aside0.mk (below_step (qW35) hb)
          (try clear hb)
          (try clear hb2)
          (try clear hk)
          (try clear hi)
          refine hK.out _ _ ⟨(blk_cell BK391.out 0).trans rfl, (blk_cell BK391.out 1).trans rfl, (blk_cell BK391.out 2).trans rfl, (blk_cell BK393.out 0).trans rfl, (blk_cell BK393.out 1).trans rfl, (blk_cell BK393.out 2).trans rfl, (blk_cell BK393.out 3).trans rfl, (blk_cell BK393.out 4).trans rfl⟩ (fun hHeld => ?_)
          clear hK K
          refine norm_ (a' := ?_) ?_ ?_
          rotate_left
          ·show Act.put _ (some 34) _ = _
           simp only [Act.put, List.setIfInBounds_toArray, List.set_cons_zero, List.set_cons_succ, i64_w, i32_w]
           rfl
          refine one_ (i := 3) (N := some 35) #[true, true, true, true, false] rfl rfl (by kernel_rfl) (by decide) (fun K hK => ?_)
          refine goes_ Tryd.func46 (by kernel_rfl) rfl #[.agg #[.int .i64 x392000_1, .int .i64 x392001_1, .int .i64 x392002_1], .agg #[.int .i64 t395, .int .i64 t396, .int .i64 t397], .int .i64 1] (by rfl) rfl rfl (qW1) ?_
          with_reducible refine (impl_Shift_plus.calls x392000_1 x392001_1 x392002_1 t395 t396 t397 1 t398 t399 t400 _ A28.out).mono ?_
          rintro e w31 ⟨rfl, hb⟩
          refine ⟨_, rfl, ?_⟩
          replace BK389 := Aside0.mk (blk_below (g := gb389) (o := .cells #[.int .i64 x390000_1, .int .i64 x390001_1, .int .i64 x390002_1] 63 (0, 0)) (qW5 BK389.out) hb)
          replace BK391 := Aside0.mk (blk_below (g := gb391) (o := .cells #[.int .i64 x392000_1, .int .i64 x392001_1, .int .i64 x392002_1] 63 (0, 0)) (qW5 BK391.out) hb)
          replace BK393 := Aside0.mk (blk_below (g := gb393) (o := .cells #[.int .i64 ((rd_T59 l0 x13_1).f0), .int .i64 ((rd_T59 l0 x13_1).f1), .int .i64 ((rd_T59 l0 x13_1).f2), .int .i64 ((rd_T59 l0 x13_1).f3), .int .i64 ((rd_T59 l0 x13_1).f4)] 59 (0, 0)) (qW5 BK393.out) hb)
          replace HB := Aside0.mk (below_step (qW35) hb)
          (try clear hb)
          (try clear hb2)
          (try clear hk)
          (try clear hi)
          refine hK.out _ _ ⟨(blk_cell BK391.out 0).trans rfl, (blk_cell BK391.out 1).trans rfl, (blk_cell BK391.out 2).trans rfl, (blk_cell BK393.out 0).trans rfl, (blk_cell BK393.out 1).trans rfl, (blk_cell BK393.out 2).trans rfl, (blk_cell BK393.out 3).trans rfl, (blk_cell BK393.out 4).trans rfl⟩ (fun hHeld => ?_)
          clear hK K
          refine norm_ (a' := ?_) ?_ ?_
          rotate_left
          ·show Act.put _ (some 35) _ = _
           simp only [Act.put, List.setIfInBounds_toArray, List.set_cons_zero, List.set_cons_succ, i64_w, i32_w]
           rfl
          refine last_ (i := 4) (N := none) #[true, true, true, true, true] rfl rfl (by kernel_rfl) (by decide) (fun K hK => ?_)
          have hs32 : w31.cell? ⟨gb391, 0, none⟩ = some (.int .i64 x392000_1) := (blk_cell BK391.out 0).trans rfl
          have hfs32 := blk_frozen BK391.out 0
          have hns32_0 := NB389_391.out
          have hns32_2 := NB393_391.out
          have hms32_0 := NB391_389.out
          have hms32_2 := NB391_393.out
          have hs33 : w31.cell? ⟨gb391, 1, none⟩ = some (.int .i64 x392001_1) := (blk_cell BK391.out 1).trans rfl
          have hfs33 := blk_frozen BK391.out 1
          have hns33_0 := NB389_391.out
          have hns33_2 := NB393_391.out
          have hms33_0 := NB391_389.out
          have hms33_2 := NB391_393.out
          have hs34 : w31.cell? ⟨gb391, 2, none⟩ = some (.int .i64 x392002_1) := (blk_cell BK391.out 2).trans rfl
          have hfs34 := blk_frozen BK391.out 2
          have hns34_0 := NB389_391.out
          have hns34_2 := NB393_391.out
          have hms34_0 := NB391_389.out
          have hms34_2 := NB391_393.out
          refine skip_ (w1 := ?_) (by rfl) rfl ?_ ?_
          rotate_left
          ·go_simp
           rfl
          refine hK.out _ _ ?_
          clear hK K
          refine done_ (by kernel_rfl) ?_
          try go_wp2
          go_roundg kj9
          case measure => have := HK1.out; have := HJ9.out; omega
          case rel => exact ⟨(wrap64 (x13_1 + 1)), (x390000_1), (x390001_1), (x390002_1), (t398), (t399), (t400), (qW14), H', ⟨by have := HK1.out; have := HJ9.out; omega⟩, ⟨(by (with_reducible repeat (first | refine blk_drewN ?_ _ | refine blk_drew ?_ | refine blk_alloc ?_ _)); refine blk_far ?_ NB389_391.out _; (with_reducible repeat (first | refine blk_drewN ?_ _ | refine blk_drew ?_ | refine blk_alloc ?_ _)); refine blk_far ?_ NB389_391.out _; (with_reducible repeat (first | refine blk_drewN ?_ _ | refine blk_drew ?_ | refine blk_alloc ?_ _)); refine blk_far ?_ NB389_391.out _; (with_reducible repeat (first | refine blk_drewN ?_ _ | refine blk_drew ?_ | refine blk_alloc ?_ _)); exact BK389.out)⟩, ⟨(by (with_reducible repeat (first | refine blk_drewN ?_ _ | refine blk_drew ?_ | refine blk_alloc ?_ _)); refine blk_put (cs := #[.int .i64 t398, .int .i64 t399, .int .i64 x392002_1]) ?_ 2 _ rfl; (with_reducible repeat (first | refine blk_drewN ?_ _ | refine blk_drew ?_ | refine blk_alloc ?_ _)); refine blk_put (cs := #[.int .i64 t398, .int .i64 x392001_1, .int .i64 x392002_1]) ?_ 1 _ rfl; (with_reducible repeat (first | refine blk_drewN ?_ _ | refine blk_drew ?_ | refine blk_alloc ?_ _)); refine blk_put (cs := #[.int .i64 x392000_1, .int .i64 x392001_1, .int .i64 x392002_1]) ?_ 0 _ rfl; (with_reducible repeat (first | refine blk_drewN ?_ _ | refine blk_drew ?_ | refine blk_alloc ?_ _)); exact BK391.out)⟩, ⟨(qW35)⟩⟩
      ·rw [if_neg c9] at H
       exact absurd H (by simp)
     ·rw [if_neg c8] at H
      exact absurd H (by simp)
    ·rw [if_neg c7] at H
     have c7b0 : decide (x13_1 < (l0.length : Int)) = false := decide_eq_false c7
     clear c7
     simp only [Option.some.injEq, Prod.mk.injEq] at H
     obtain ⟨rfl, rfl, rfl, rfl⟩ := H
     have hnb35 := NB391_389.out
     have hnc35 := NB389_391.out
     have hcz36_0 : wr.cell? ⟨gb391, 0, none⟩ = some (.int .i64 x392000_1) := (blk_cell BK391.out 0).trans rfl
     have hcz36_1 : wr.cell? ⟨gb391, 1, none⟩ = some (.int .i64 x392001_1) := (blk_cell BK391.out 1).trans rfl
     have hcz36_2 : wr.cell? ⟨gb391, 2, none⟩ = some (.int .i64 x392002_1) := (blk_cell BK391.out 2).trans rfl
     have hfz36_0 := blk_frozen BK391.out 0
     have hfz36_1 := blk_frozen BK391.out 1
     have hfz36_2 := blk_frozen BK391.out 2
     have hcz37_0 : wr.cell? ⟨gb389, 0, none⟩ = some (.int .i64 x390000_1) := (blk_cell BK389.out 0).trans rfl
     have hcz37_1 : wr.cell? ⟨gb389, 1, none⟩ = some (.int .i64 x390001_1) := (blk_cell BK389.out 1).trans rfl
     have hcz37_2 : wr.cell? ⟨gb389, 2, none⟩ = some (.int .i64 x390002_1) := (blk_cell BK389.out 2).trans rfl
     have hfz37_0 := blk_frozen BK389.out 0
     have hfz37_1 := blk_frozen BK389.out 1
     have hfz37_2 := blk_frozen BK389.out 2
     go_wp2
     refine bodyPost_ret (results_ct rfl _ _ gb389 63 #[.int .i64 x392000_1, .int .i64 x392001_1, .int .i64 x392002_1] (0, 0) _ rfl (by (with_reducible repeat (first | refine blk_drewN ?_ _ | refine blk_drew ?_ | refine blk_alloc ?_ _)); refine blk_put (cs := #[.int .i64 x392000_1, .int .i64 x392001_1, .int .i64 x390002_1]) ?_ 2 _ rfl; (with_reducible repeat (first | refine blk_drewN ?_ _ | refine blk_drew ?_ | refine blk_alloc ?_ _)); refine blk_put (cs := #[.int .i64 x392000_1, .int .i64 x390001_1, .int .i64 x390002_1]) ?_ 1 _ rfl; (with_reducible repeat (first | refine blk_drewN ?_ _ | refine blk_drew ?_ | refine blk_alloc ?_ _)); refine blk_put (cs := #[.int .i64 x390000_1, .int .i64 x390001_1, .int .i64 x390002_1]) ?_ 0 _ rfl; (with_reducible repeat (first | refine blk_drewN ?_ _ | refine blk_drew ?_ | refine blk_alloc ?_ _)); exact BK389.out) Tryd.underlying63 rfl (by kernel_rfl)) rfl ?_
     exact ⟨(qW9), (qW20 GE389.out GE391.out)⟩
 ·replace c3 := Bool.eq_false_iff.mpr c3
  subst c3
  rw [if_neg (show ¬ (false = true) by decide)] at H
  simp only [Option.some.injEq, Prod.mk.injEq] at H
  obtain ⟨rfl, rfl, rfl, rfl⟩ := H
  go_enter Tryd.func34, Tryd.ntmps34
  go_wp2_with (first | ((with_reducible refine gate_dst (N := 2) rfl ?_); refine box_event ?hg (N := 2) ?hd (cs := #[.int .i64 0, .int .i64 0, .int .i64 0]) (t := 63) ?hr ?_; (case hd => rfl); (case hg => rfl); (case hr => exact (qW22)); intro gb389 hg w38 hbox hb; have BK389 := Aside0.mk (hbox); have GW389 := Aside0.mk ((by rw [hg]; exact (below_size (qW0)) : w.heap.size ≤ gb389)); have GE389 := Aside0.mk ((by rw [hg]; exact (below_size (qW0)) : w.heap.size ≤ gb389)); replace HB := Aside0.mk (below_step (qW0) hb); clear hb hbox hg) | ((with_reducible refine gate_callee (f := 45) rfl ?_); refine goesL_ (some 8) rfl rfl Tryd.func45 (by kernel_rfl) rfl #[.slice A0 l0.length c0] rfl (qW1) ?_; (with_reducible refine (impl_areLegs.calls k _ _ l0 false _ ?side1 ?side2 A2.out).mono ?_); (case side1 => exact (qW25 HR0.out)); (case side2 => exact HC0.out); rintro e w39 ⟨rfl, hb⟩; refine ⟨_, rfl, ?_⟩; replace BK389 := Aside0.mk (blk_below (g := gb389) (o := .cells #[.int .i64 0, .int .i64 0, .int .i64 0] 63 (0, 0)) (qW5 BK389.out) hb); replace HB := Aside0.mk (below_step (qW10 GE389.out) hb); clear hb; have hcz40_0 : w39.cell? ⟨gb389, 0, none⟩ = some (.int .i64 0) := (blk_cell BK389.out 0).trans rfl; have hcz40_1 : w39.cell? ⟨gb389, 1, none⟩ = some (.int .i64 0) := (blk_cell BK389.out 1).trans rfl; have hcz40_2 : w39.cell? ⟨gb389, 2, none⟩ = some (.int .i64 0) := (blk_cell BK389.out 2).trans rfl; have hfz40_0 := blk_frozen BK389.out 0; have hfz40_1 := blk_frozen BK389.out 1; have hfz40_2 := blk_frozen BK389.out 2))
  refine bodyPost_ret (results_ct rfl _ _ gb389 63 #[.int .i64 0, .int .i64 0, .int .i64 0] (0, 0) _ rfl (by (with_reducible repeat (first | refine blk_drewN ?_ _ | refine blk_drew ?_ | refine blk_alloc ?_ _)); refine blk_put (cs := #[.int .i64 0, .int .i64 0, .int .i64 0]) ?_ 2 _ rfl; (with_reducible repeat (first | refine blk_drewN ?_ _ | refine blk_drew ?_ | refine blk_alloc ?_ _)); refine blk_put (cs := #[.int .i64 0, .int .i64 0, .int .i64 0]) ?_ 1 _ rfl; (with_reducible repeat (first | refine blk_drewN ?_ _ | refine blk_drew ?_ | refine blk_alloc ?_ _)); refine blk_put (cs := #[.int .i64 0, .int .i64 0, .int .i64 0]) ?_ 0 _ rfl; (with_reducible repeat (first | refine blk_drewN ?_ _ | refine blk_drew ?_ | refine blk_alloc ?_ _)); exact BK389.out) Tryd.underlying63 rfl (by kernel_rfl)) rfl ?_
  exact ⟨(qW9), (qW10 GE389.out)⟩

/-! ### impl_WayOfLegs: function 20 -/
def impl_WayOfLegs.l0 : Nat → List (S44) → List (S59) → Int → Int → Option ((List (S44)) × Bool)
 | 0, _, _, _, _ => none
 | k + 1, x6, x18, x19, x20 => if x20 < x19 then (if 0 ≤ x20 then (if x20 < (x18.length : Int) then ((impl_partOf.f k ((rd_T59 x18 x20).f2) ((rd_T59 x18 x20).f4)).bind fun bt408 => (if x6.length < 8796093022208 then (impl_WayOfLegs.l0 k (x6 ++ [(⟨bt408.1, bt408.2⟩ : S44)]) x18 x19 (wrap64 (x20 + 1))) else (none))) else (none)) else (none)) else ((impl_IsWay.f k x6).bind fun t413 => (if t413 = true then (some (x6, true)) else (some (([] : List (S44)), false))))
def impl_WayOfLegs.f (k : Nat) (l0 : List (S59)) : Option ((List (S44)) × Bool) := (impl_ChainShift.f k l0).bind fun bt401 => (if bt401.2.2.2 = true then (impl_WayOfLegs.l0 k ([] : List (S44)) l0 (l0.length : Int) 0) else (some (([] : List (S44)), false)))
theorem impl_WayOfLegs.mono_l : ∀ k, (∀ y0 y1 y2 y3, LeO (impl_WayOfLegs.l0 k y0 y1 y2 y3) (impl_WayOfLegs.l0 (k + 1) y0 y1 y2 y3))
 | 0 => fun _ _ _ _ r h => by simp [impl_WayOfLegs.l0] at h
 | k + 1 => by
  have ih0 := impl_WayOfLegs.mono_l k
  ·intro y0 y1 y2 y3
   unfold impl_WayOfLegs.l0
   have m0 := @impl_ChainShift.mono; have m1 := @impl_IsWay.mono; have m2 := @impl_partOf.mono
   exact qmono
theorem impl_WayOfLegs.mono : ∀ a0 k, LeO (impl_WayOfLegs.f k a0) (impl_WayOfLegs.f (k + 1) a0) := by
 intro a0 k
 have ih0 := impl_WayOfLegs.mono_l k
 unfold impl_WayOfLegs.f
 have m0 := @impl_ChainShift.mono; have m1 := @impl_IsWay.mono; have m2 := @impl_partOf.mono
 exact qmono
theorem impl_WayOfLegs.calls (k : Nat) (A0 : Option Addr) (c0 : Nat) (l0 : List (S59)) (r1 : List (S44)) (r2 : Bool) (w : World) (hr0 : Kd.C k59 w A0 l0.length l0) (hc0 : l0.length ≤ c0) (h : impl_WayOfLegs.f k l0 = some (r1, r2)) (hsn : TabS w) :
  Calls Tryd.prog 20 #[.slice A0 l0.length c0] w fun e w' => ∃ v0_ : Value, e = .returned (.tuple #[v0_, .bool r2]) ∧ Kd.R k44 44 w' w.heap.size (fun _ => True) v0_ r1 ∧ Below w.heap.size w w' := by
 have HSN := Aside0.mk hsn; clear hsn
 have hu63 := Tryd.underlying63
 have hu59 := Tryd.underlying59
 have hu44 := Tryd.underlying44
 have HR0 := Aside0.mk hr0; have HC0 := Aside0.mk hc0; clear hr0 hc0
 have HB := Aside0.mk (Below.refl w.heap.size w)
 have H : ((impl_ChainShift.f k l0).bind fun bt401 => (if bt401.2.2.2 = true then (impl_WayOfLegs.l0 k ([] : List (S44)) l0 (l0.length : Int) 0) else (some (([] : List (S44)), false)))) = some (r1, r2) := h
 clear h; replace H := Option.bind_eq_some_iff.mp H; obtain ⟨⟨t401, t402, t403, t404⟩, A20, H⟩ := H
 try dsimp only at H
 have A2 := Aside0.mk A20; clear A20
 by_cases c3 : t404 = true
 ·subst c3; rw [if_pos rfl] at H
  have H' := Aside0.mk H
  clear H
  go_enter Tryd.func20, Tryd.ntmps20
  go_wp2_with (first | ((with_reducible refine gate_callee (f := 34) rfl ?_); refine goesL_ (some 13) rfl rfl Tryd.func34 (by kernel_rfl) rfl #[.slice A0 l0.length c0] rfl (qW1) ?_; (with_reducible refine (impl_ChainShift.calls (hsn := (qW70)) k _ _ l0 t401 t402 t403 true _ ?side1 ?side2 A2.out).mono ?_); (case side1 => exact (qW26)); (case side2 => exact HC0.out); rintro e w4 ⟨rfl, hb⟩; refine ⟨_, rfl, ?_⟩; replace HB := Aside0.mk (below_step (qW0) hb); clear hb) | ((with_reducible refine gate_dst (N := 4) rfl ?_); refine box_event ?hg (N := 4) ?hd (cs := #[.int .i64 0, .int .i64 0, .int .i64 0]) (t := 63) ?hr ?_; (case hd => rfl); (case hg => rfl); (case hr => exact (qW22)); intro gb405 hg w5 hbox hb; have BK405 := Aside0.mk (hbox); have GW405 := Aside0.mk ((by rw [hg]; exact (below_size (qW0)) : w.heap.size ≤ gb405)); have GE405 := Aside0.mk ((by rw [hg]; exact (below_size (qW0)) : w.heap.size ≤ gb405)); replace HB := Aside0.mk (below_step (qW0) hb); clear hb hbox hg; have hcz6_0 : w5.cell? ⟨gb405, 0, none⟩ = some (.int .i64 0) := (blk_cell BK405.out 0).trans rfl; have hcz6_1 : w5.cell? ⟨gb405, 1, none⟩ = some (.int .i64 0) := (blk_cell BK405.out 1).trans rfl; have hcz6_2 : w5.cell? ⟨gb405, 2, none⟩ = some (.int .i64 0) := (blk_cell BK405.out 2).trans rfl; have hfz6_0 := blk_frozen BK405.out 0; have hfz6_1 := blk_frozen BK405.out 1; have hfz6_2 := blk_frozen BK405.out 2))
  go_loopg [6, 20] k (fun kq v6 v20 w' => ∃ (x6_1 : List (S44)) (x20_1 : Int), v20 = .int .i64 x20_1 ∧ Aside0 (impl_WayOfLegs.l0 kq x6_1 l0 (l0.length : Int) x20_1 = some (r1, r2)) ∧ Aside0 (kq ≤ k) ∧ Aside0 (Kd.R k44 44 w' w.heap.size (fun _ => True) v6 x6_1) ∧ Aside0 (w'.heap[gb405]? = some (.cells #[.int .i64 t401, .int .i64 t402, .int .i64 t403] 63 (0, 0))) ∧ Aside0 (Below w.heap.size w w'))
  case atStart => exact ⟨(([] : List (S44))), (0), (qW14), H', ⟨Nat.le_refl _⟩, ⟨by first | exact Kd.R_nil _ _ _ _ _ | exact Kd.N_nil _ _ _ _ _ | exact Kd.V_nil _ _ _ _ _ | exact Kd.Q_nil _ _ _ _ _ | exact Kd.S_nil _ _ _ _ _⟩, ⟨(by (with_reducible repeat (first | refine blk_drewN ?_ _ | refine blk_drew ?_ | refine blk_alloc ?_ _)); refine blk_put (cs := #[.int .i64 t401, .int .i64 t402, .int .i64 0]) ?_ 2 _ rfl; (with_reducible repeat (first | refine blk_drewN ?_ _ | refine blk_drew ?_ | refine blk_alloc ?_ _)); refine blk_put (cs := #[.int .i64 t401, .int .i64 0, .int .i64 0]) ?_ 1 _ rfl; (with_reducible repeat (first | refine blk_drewN ?_ _ | refine blk_drew ?_ | refine blk_alloc ?_ _)); refine blk_put (cs := #[.int .i64 0, .int .i64 0, .int .i64 0]) ?_ 0 _ rfl; (with_reducible repeat (first | refine blk_drewN ?_ _ | refine blk_drew ?_ | refine blk_alloc ?_ _)); exact BK405.out)⟩, ⟨(qW10 GE405.out)⟩⟩
  case round =>
   clear H'
   try clear c2
   try clear p2
   try clear c3
   try clear hcz6_0
   try clear hcz6_1
   try clear hcz6_2
   try clear hfz6_0
   try clear hfz6_1
   try clear hfz6_2
   obtain ⟨x6_1, x20_1, rfl, HA, HK1, HO_6, BK405, HB⟩ := hrel
   cases gk with
   | zero => exact absurd HA.out (by simp [impl_WayOfLegs.l0])
   | succ k1 =>
    have H := HA.out
    clear HA
    simp only [impl_WayOfLegs.l0] at H
    by_cases c7 : x20_1 < (l0.length : Int)
    ·rw [if_pos c7] at H
     have c7b0 : decide (x20_1 < (l0.length : Int)) = true := decide_eq_true c7
     clear c7
     by_cases c8 : 0 ≤ x20_1
     ·rw [if_pos c8] at H
      have c8b0 : decide (0 ≤ x20_1) = true := decide_eq_true c8
      clear c8
      by_cases c9 : x20_1 < (l0.length : Int)
      ·rw [if_pos c9] at H
       have c9b0 : decide (x20_1 < (l0.length : Int)) = true := decide_eq_true c9
       clear c9; replace H := Option.bind_eq_some_iff.mp H; obtain ⟨⟨t408, t409⟩, A100, H⟩ := H
       try dsimp only at H
       have A10 := Aside0.mk A100; clear A100
       by_cases c11 : x6_1.length < 8796093022208
       ·rw [if_pos c11] at H; have LMc11 := Aside0.mk c11; clear c11
        obtain ⟨y410, hy410⟩ : ∃ y_ : List (S44), y_ = (x6_1 ++ [(⟨t408, t409⟩ : S44)]) := ⟨_, rfl⟩
        replace H : (impl_WayOfLegs.l0 k1 y410 l0 (l0.length : Int) (wrap64 (x20_1 + 1))) = some (r1, r2) := (qW7 hy410)
        have Ny410 := Aside0.mk hy410; clear hy410
        have H' := Aside0.mk H
        clear H
        have p406 : 0 ≤ (x20_1 : Int) := of_decide_eq_true (qW13)
        have q406 : x20_1 < (l0.length : Int) := of_decide_eq_true (qW13)
        obtain ⟨ad406, e406, hx406_0, hx406_1, hx406_2, hx406_3, hx406_4⟩ := at_T59 HR0.out x20_1 p406 q406
        cases e406
        replace hx406_0 := (HB.out.cell (World.block_lt_of_cell? w _ hx406_0)).trans hx406_0
        replace hx406_1 := (HB.out.cell (World.block_lt_of_cell? w _ hx406_1)).trans hx406_1
        replace hx406_2 := (HB.out.cell (World.block_lt_of_cell? w _ hx406_2)).trans hx406_2
        replace hx406_3 := (HB.out.cell (World.block_lt_of_cell? w _ hx406_3)).trans hx406_3
        replace hx406_4 := (HB.out.cell (World.block_lt_of_cell? w _ hx406_4)).trans hx406_4
        replace p406 := eq_true p406
        replace q406 := eq_true q406
        go_wp2_with (first | ((with_reducible refine gate_dst (N := 8) rfl ?_); refine box_event ?hg (N := 8) ?hd (cs := #[.int .i64 0, .int .i64 0, .int .i64 0, .int .i64 0, .int .i64 0]) (t := 59) ?hr ?_; (case hd => rfl); (case hg => rfl); (case hr => exact (qW22)); intro gb407 hg w12 hbox hb; replace HO_6 := Aside0.mk (Kd.R_below (qW2 HO_6.out) hb); have BK407 := Aside0.mk (hbox); have GW407 := Aside0.mk ((by rw [hg]; exact (below_size (qW10 GE405.out)) : w.heap.size ≤ gb407)); have GE407 := Aside0.mk ((by rw [hg]; exact (below_size (qW10 GE405.out)) : w.heap.size ≤ gb407)); replace HB := Aside0.mk (below_step (qW10 GE405.out) hb); have NB405_407 := Aside0.mk ((by rw [hg]; exact Nat.ne_of_lt (blk_lt (g := gb405) (o := .cells #[.int .i64 t401, .int .i64 t402, .int .i64 t403] 63 (0, 0)) (qW5 BK405.out)) : gb405 ≠ gb407)); have NB407_405 := Aside0.mk ((by rw [hg]; exact Nat.ne_of_gt (blk_lt (g := gb405) (o := .cells #[.int .i64 t401, .int .i64 t402, .int .i64 t403] 63 (0, 0)) (qW5 BK405.out)) : gb407 ≠ gb405)); replace BK405 := Aside0.mk (blk_below (g := gb405) (o := .cells #[.int .i64 t401, .int .i64 t402, .int .i64 t403] 63 (0, 0)) (qW5 BK405.out) hb); clear hb hbox hg; have hnb13 := NB407_405.out; have hnc13 := NB405_407.out; have hcz14_0 : w12.cell? ⟨gb407, 0, none⟩ = some (.int .i64 0) := (blk_cell BK407.out 0).trans rfl; have hcz14_1 : w12.cell? ⟨gb407, 1, none⟩ = some (.int .i64 0) := (blk_cell BK407.out 1).trans rfl; have hcz14_2 : w12.cell? ⟨gb407, 2, none⟩ = some (.int .i64 0) := (blk_cell BK407.out 2).trans rfl; have hcz14_3 : w12.cell? ⟨gb407, 3, none⟩ = some (.int .i64 0) := (blk_cell BK407.out 3).trans rfl; have hcz14_4 : w12.cell? ⟨gb407, 4, none⟩ = some (.int .i64 0) := (blk_cell BK407.out 4).trans rfl; have hfz14_0 := blk_frozen BK407.out 0; have hfz14_1 := blk_frozen BK407.out 1; have hfz14_2 := blk_frozen BK407.out 2; have hfz14_3 := blk_frozen BK407.out 3; have hfz14_4 := blk_frozen BK407.out 4) | ((with_reducible refine gate_callee (f := 35) rfl ?_); refine goesL_ (some 29) rfl rfl Tryd.func35 (by kernel_rfl) rfl #[.int .i64 ((rd_T59 l0 x20_1).f2), .int .i64 ((rd_T59 l0 x20_1).f4)] rfl (qW1) ?_; (with_reducible refine (impl_partOf.calls (hsn := (qW73 GE405.out GE407.out)) k1 ((rd_T59 l0 x20_1).f2) ((rd_T59 l0 x20_1).f4) t408 t409 _ A10.out).mono ?_); rintro e w' ⟨rfl, ⟨nd, rfl⟩⟩; refine ⟨_, rfl, ?_⟩) | ((with_reducible refine gate_builtin (b := .append) (xs := #[.tmp 32, .tmp 36]) rfl ?_); at_builtin; refine Kd.R_append k44 (w0 := w) w.heap.size rfl (.tmp 32) (.tmp 36) 24 44 (.agg #[(.int .i64 0), (.int .i64 0)]) 16 rfl Tryd.underlying24 info44 rfl (by decide) (by omega) u6 x6_1 (⟨t408, t409⟩ : S44) [.int .i64 t408, .int .i64 t409] (fun _ => True) (fun _ => False) rfl (qW22) ?aP (fun _ hk => hk.elim) ?aF ?aO ?aB ?aS ?aL ?_; (case aP => exact (by exact k44_mkM _ _ _ (⟨t408, t409⟩ : S44))); (case aB => exact (qW20 GE405.out GE407.out)); (case aF => exact (fun _ _ => trivial)); (case aO => exact (by (with_reducible repeat (first | apply Kd.R_alloc | apply Kd.R_drewN | apply Kd.R_drew)); exact Kd.R_mono (Kd.R_far (p := ⟨gb407, 4, none⟩) (Kd.R_far (p := ⟨gb407, 3, none⟩) (Kd.R_far (p := ⟨gb407, 2, none⟩) (Kd.R_far (p := ⟨gb407, 1, none⟩) (Kd.R_far (p := ⟨gb407, 0, none⟩) (Kd.R_types HO_6.out BK407.out (by decide)) (fun _ hk => hk.2) (.int .i64 ((rd_T59 l0 x20_1).f0))) (fun _ hk => hk.2) (.int .i64 ((rd_T59 l0 x20_1).f1))) (fun _ hk => hk.2) (.int .i64 ((rd_T59 l0 x20_1).f2))) (fun _ hk => hk.2) (.int .i64 ((rd_T59 l0 x20_1).f3))) (fun _ hk => hk.2) (.int .i64 ((rd_T59 l0 x20_1).f4))) (fun _ hk => trivial))); (case aS => exact (by exact (below_size (qW20 GE405.out GE407.out)))); (case aL => have := LMc11.out; omega); intro v411 w15 ho hb hg hat; rw [← Ny410.out] at ho; replace BK405 := Aside0.mk (blk_grown (g := gb405) (o := .cells #[.int .i64 t401, .int .i64 t402, .int .i64 t403] 63 (0, 0)) (qW19 NB405_407.out BK405.out) hg (Kd.R_ne HO_6.out BK405.out (by decide))); replace BK407 := Aside0.mk (blk_grown (g := gb407) (o := .cells #[.int .i64 ((rd_T59 l0 x20_1).f0), .int .i64 ((rd_T59 l0 x20_1).f1), .int .i64 ((rd_T59 l0 x20_1).f2), .int .i64 ((rd_T59 l0 x20_1).f3), .int .i64 ((rd_T59 l0 x20_1).f4)] 59 (0, 0)) (by (with_reducible repeat (first | refine blk_drewN ?_ _ | refine blk_drew ?_ | refine blk_alloc ?_ _)); refine blk_put (cs := #[.int .i64 ((rd_T59 l0 x20_1).f0), .int .i64 ((rd_T59 l0 x20_1).f1), .int .i64 ((rd_T59 l0 x20_1).f2), .int .i64 ((rd_T59 l0 x20_1).f3), .int .i64 0]) ?_ 4 _ rfl; (with_reducible repeat (first | refine blk_drewN ?_ _ | refine blk_drew ?_ | refine blk_alloc ?_ _)); refine blk_put (cs := #[.int .i64 ((rd_T59 l0 x20_1).f0), .int .i64 ((rd_T59 l0 x20_1).f1), .int .i64 ((rd_T59 l0 x20_1).f2), .int .i64 0, .int .i64 0]) ?_ 3 _ rfl; (with_reducible repeat (first | refine blk_drewN ?_ _ | refine blk_drew ?_ | refine blk_alloc ?_ _)); refine blk_put (cs := #[.int .i64 ((rd_T59 l0 x20_1).f0), .int .i64 ((rd_T59 l0 x20_1).f1), .int .i64 0, .int .i64 0, .int .i64 0]) ?_ 2 _ rfl; (with_reducible repeat (first | refine blk_drewN ?_ _ | refine blk_drew ?_ | refine blk_alloc ?_ _)); refine blk_put (cs := #[.int .i64 ((rd_T59 l0 x20_1).f0), .int .i64 0, .int .i64 0, .int .i64 0, .int .i64 0]) ?_ 1 _ rfl; (with_reducible repeat (first | refine blk_drewN ?_ _ | refine blk_drew ?_ | refine blk_alloc ?_ _)); refine blk_put (cs := #[.int .i64 0, .int .i64 0, .int .i64 0, .int .i64 0, .int .i64 0]) ?_ 0 _ rfl; (with_reducible repeat (first | refine blk_drewN ?_ _ | refine blk_drew ?_ | refine blk_alloc ?_ _)); exact BK407.out) hg (Kd.R_ne HO_6.out BK407.out (by decide))); replace HB := Aside0.mk (hb); have HO412 := Aside0.mk (ho); clear HO_6; clear ho hb hg hat))
        go_roundg k1
        case measure => have := HK1.out; omega
        case rel => exact ⟨(y410), (wrap64 (x20_1 + 1)), (qW14), H', ⟨by have := HK1.out; omega⟩, ⟨(qW2 HO412.out)⟩, ⟨(qW5 BK405.out)⟩, ⟨(qW20 GE405.out GE407.out)⟩⟩
       ·rw [if_neg c11] at H
        exact absurd H (by simp)
      ·rw [if_neg c9] at H
       exact absurd H (by simp)
     ·rw [if_neg c8] at H
      exact absurd H (by simp)
    ·rw [if_neg c7] at H
     have c7b0 : decide (x20_1 < (l0.length : Int)) = false := decide_eq_false c7
     clear c7; replace H := Option.bind_eq_some_iff.mp H; obtain ⟨t413, A160, H⟩ := H
     try dsimp only at H
     have A16 := Aside0.mk A160; clear A160
     by_cases c17 : t413 = true
     ·subst c17; rw [if_pos rfl] at H
      simp only [Option.some.injEq, Prod.mk.injEq] at H
      obtain ⟨rfl, rfl⟩ := H
      obtain ⟨Ao18, co18, eo18⟩ := Kd.R_slice HO_6.out
      subst eo18
      go_wp2_with (first | ((with_reducible refine gate_callee (f := 9) rfl ?_); refine goesL_ (some 40) rfl rfl Tryd.func9 (by kernel_rfl) rfl #[.slice Ao18 x6_1.length co18] rfl (qW1) ?_; (with_reducible refine (impl_IsWay.calls k1 _ _ x6_1 true _ ?side1 ?side2 A16.out).mono ?_); (case side1 => exact (qW6 HO_6.out)); (case side2 => exact (qW41 HO_6.out)); rintro e w19 ⟨rfl, hb⟩; refine ⟨_, rfl, ?_⟩; replace HO_6 := Aside0.mk (Kd.R_below (qW2 HO_6.out) hb); replace BK405 := Aside0.mk (blk_below (g := gb405) (o := .cells #[.int .i64 t401, .int .i64 t402, .int .i64 t403] 63 (0, 0)) (qW5 BK405.out) hb); replace HB := Aside0.mk (below_step (qW10 GE405.out) hb); clear hb))
      go_ret2
      exact ⟨_, (qW9), (qW2 HO_6.out), (qW10 GE405.out)⟩
     ·replace c17 := Bool.eq_false_iff.mpr c17
      subst c17
      rw [if_neg (show ¬ (false = true) by decide)] at H
      simp only [Option.some.injEq, Prod.mk.injEq] at H
      obtain ⟨rfl, rfl⟩ := H
      obtain ⟨Ao20, co20, eo20⟩ := Kd.R_slice HO_6.out
      subst eo20
      go_wp2_with (first | ((with_reducible refine gate_callee (f := 9) rfl ?_); refine goesL_ (some 40) rfl rfl Tryd.func9 (by kernel_rfl) rfl #[.slice Ao20 x6_1.length co20] rfl (qW1) ?_; (with_reducible refine (impl_IsWay.calls k1 _ _ x6_1 false _ ?side1 ?side2 A16.out).mono ?_); (case side1 => exact (qW6 HO_6.out)); (case side2 => exact (qW41 HO_6.out)); rintro e w21 ⟨rfl, hb⟩; refine ⟨_, rfl, ?_⟩; replace HO_6 := Aside0.mk (Kd.R_below (qW2 HO_6.out) hb); replace BK405 := Aside0.mk (blk_below (g := gb405) (o := .cells #[.int .i64 t401, .int .i64 t402, .int .i64 t403] 63 (0, 0)) (qW5 BK405.out) hb); replace HB := Aside0.mk (below_step (qW10 GE405.out) hb); clear hb))
      go_ret2
      exact ⟨_, (qW9), by first | exact Kd.R_nil _ _ _ _ _ | exact Kd.N_nil _ _ _ _ _ | exact Kd.V_nil _ _ _ _ _ | exact Kd.Q_nil _ _ _ _ _ | exact Kd.S_nil _ _ _ _ _, (qW10 GE405.out)⟩
 ·replace c3 := Bool.eq_false_iff.mpr c3
  subst c3
  rw [if_neg (show ¬ (false = true) by decide)] at H
  simp only [Option.some.injEq, Prod.mk.injEq] at H
  obtain ⟨rfl, rfl⟩ := H
  go_enter Tryd.func20, Tryd.ntmps20
  go_wp2_with (first | ((with_reducible refine gate_callee (f := 34) rfl ?_); refine goesL_ (some 13) rfl rfl Tryd.func34 (by kernel_rfl) rfl #[.slice A0 l0.length c0] rfl (qW1) ?_; (with_reducible refine (impl_ChainShift.calls (hsn := (qW70)) k _ _ l0 t401 t402 t403 false _ ?side1 ?side2 A2.out).mono ?_); (case side1 => exact (qW26)); (case side2 => exact HC0.out); rintro e w22 ⟨rfl, hb⟩; refine ⟨_, rfl, ?_⟩; replace HB := Aside0.mk (below_step (qW0) hb); clear hb) | ((with_reducible refine gate_dst (N := 4) rfl ?_); refine box_event ?hg (N := 4) ?hd (cs := #[.int .i64 0, .int .i64 0, .int .i64 0]) (t := 63) ?hr ?_; (case hd => rfl); (case hg => rfl); (case hr => exact (qW22)); intro gb405 hg w23 hbox hb; have BK405 := Aside0.mk (hbox); have GW405 := Aside0.mk ((by rw [hg]; exact (below_size (qW0)) : w.heap.size ≤ gb405)); have GE405 := Aside0.mk ((by rw [hg]; exact (below_size (qW0)) : w.heap.size ≤ gb405)); replace HB := Aside0.mk (below_step (qW0) hb); clear hb hbox hg; have hcz24_0 : w23.cell? ⟨gb405, 0, none⟩ = some (.int .i64 0) := (blk_cell BK405.out 0).trans rfl; have hcz24_1 : w23.cell? ⟨gb405, 1, none⟩ = some (.int .i64 0) := (blk_cell BK405.out 1).trans rfl; have hcz24_2 : w23.cell? ⟨gb405, 2, none⟩ = some (.int .i64 0) := (blk_cell BK405.out 2).trans rfl; have hfz24_0 := blk_frozen BK405.out 0; have hfz24_1 := blk_frozen BK405.out 1; have hfz24_2 := blk_frozen BK405.out 2))
  go_ret2
  exact ⟨_, (qW9), by first | exact Kd.R_nil _ _ _ _ _ | exact Kd.N_nil _ _ _ _ _ | exact Kd.V_nil _ _ _ _ _ | exact Kd.Q_nil _ _ _ _ _ | exact Kd.S_nil _ _ _ _ _, (qW10 GE405.out)⟩

/-! ### spec_l4Station: function 51 -/
def spec_l4Station.f (a0 : Int) : Option (Bool) := (spec_l1In.f a0 0 7).bind fun t414 => (some t414)
theorem spec_l4Station.calls (a0 : Int) (r : Bool) (w : World) (h : spec_l4Station.f a0 = some r) :
  Calls Tryd.prog 51 #[.int .i64 a0] w fun e w' => e = .returned (.bool r) ∧ Drawn0 w w' := by
 have H : ((spec_l1In.f a0 0 7).bind fun t414 => (some t414)) = some r := h
 clear h; replace H := Option.bind_eq_some_iff.mp H; obtain ⟨t414, A20, H⟩ := H
 replace H : (some t414) = some r := H
 have A2 := Aside0.mk A20; clear A20; obtain rfl := Option.some.inj H
 go_enter Tryd.func51, Tryd.ntmps51
 go_wp2_with (first | ((with_reducible refine gate_callee (f := 52) rfl ?_); refine goesL_ (some 4) rfl rfl Tryd.func52 (by kernel_rfl) rfl #[.int .i64 a0, .int .i64 0, .int .i64 7] rfl (qW1) ?_; (with_reducible refine (spec_l1In.calls a0 0 7 t414 _ A2.out).mono ?_); rintro e w' ⟨rfl, ⟨nd, rfl⟩⟩; refine ⟨_, rfl, ?_⟩))
 go_ret
 exact ⟨(qW14), (qW32)⟩

end Go.Proofs.YtmbpdegkkdcjnaaDoor.MW
