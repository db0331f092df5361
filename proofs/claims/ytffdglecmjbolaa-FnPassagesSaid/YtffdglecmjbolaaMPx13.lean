-- Written by a program of this session (wip/drv.py, wip/tight2.py). -- tight2
import Derived.Test.YtffdglecmjbolaaMPx0
import Derived.Test.YtffdglecmjbolaaMPx3
import Derived.Test.YtffdglecmjbolaaMPx4
import Derived.Test.YtffdglecmjbolaaMPx5
import Derived.Test.YtffdglecmjbolaaMPx6
namespace Go.Proofs.Ytffdglecmjbolaa.MP
open Go.RowKit Go.Proofs.YtffdglecmjbolaaW.PrintWords Go.Proofs.YtffdglecmjbolaaW.PrintLast Go.Proofs.YtffdglecmjbolaaW.PrintMore
set_option maxHeartbeats 8000000
set_option maxRecDepth 100000
theorem qP13_c0 {p : Prop} (h : p := by
  simp only [Act.put, List.setIfInBounds_toArray, List.set_cons_zero, List.set_cons_succ, i64_w, i32_w]
  rfl) : p := h
theorem qP13_c1 {p : Prop} (h : p := by
  rintro w' ⟨s0, s1, s2, s3, s4, s5, s6, s7, s8, s9⟩
  go_simp
  with_reducible rfl) : p := h
attribute [local go_sem] max2_int min2_int max_two min_two max_three min_three max_four min_four   -- for this text's walks alone
set_option linter.unusedVariables false
set_option linter.unusedSimpArgs false

/-! ### impl_MeanArea: function 20 -/
mutual
def impl_MeanArea.j0 : Nat → List (S60) → Bool → Option (Int × Int × Bool)
 | 0, _, _ => none
 | k + 1, x0, x17 => if x17 = true then (some (0, 0, false)) else (impl_MeanArea.l0 k x0 0 x0 (x0.length : Int) 0)
def impl_MeanArea.l0 : Nat → List (S60) → Int → List (S60) → Int → Int → Option (Int × Int × Bool)
 | 0, _, _, _, _, _ => none
 | k + 1, x0, x5, x18, x19, x20 => if x20 < x19 then (if 0 ≤ x20 then (if x20 < (x18.length : Int) then ((impl_Passage_area.f ((rd_T60 x18 x20).f0) ((rd_T60 x18 x20).f1) ((rd_T60 x18 x20).f2) ((rd_T60 x18 x20).f3) ((rd_T60 x18 x20).f4)).bind fun t452 => (impl_MeanArea.l0 k x0 (wrap64 (x5 + t452)) x18 x19 (wrap64 (x20 + 1)))) else (none)) else (none)) else ((impl_reduced.f k x5 (x0.length : Int)).bind fun bt453 => (some (bt453.1, bt453.2, true)))
end
def impl_MeanArea.f (k : Nat) (l0 : List (S60)) : Option (Int × Int × Bool) := (impl_ArePassages.f k l0).bind fun t449 => (if t449 = true then (impl_MeanArea.j0 k l0 ((l0.length : Int) == 0)) else (impl_MeanArea.j0 k l0 true))
theorem impl_MeanArea.mono_l : ∀ k, (∀ y0 y1, LeO (impl_MeanArea.j0 k y0 y1) (impl_MeanArea.j0 (k + 1) y0 y1)) ∧ (∀ y0 y1 y2 y3 y4, LeO (impl_MeanArea.l0 k y0 y1 y2 y3 y4) (impl_MeanArea.l0 (k + 1) y0 y1 y2 y3 y4))
 | 0 => ⟨fun _ _ r h => by simp [impl_MeanArea.j0] at h, fun _ _ _ _ _ r h => by simp [impl_MeanArea.l0] at h⟩
 | k + 1 => by
  obtain ⟨ih0, ih1⟩ := impl_MeanArea.mono_l k
  refine ⟨?_, ?_⟩
  ·intro y0 y1
   unfold impl_MeanArea.j0
   have m0 := @impl_ArePassages.mono; have m1 := @impl_reduced.mono
   exact qmono
  ·intro y0 y1 y2 y3 y4
   unfold impl_MeanArea.l0
   have m0 := @impl_ArePassages.mono; have m1 := @impl_reduced.mono
   exact qmono
theorem impl_MeanArea.mono : ∀ a0 k, LeO (impl_MeanArea.f k a0) (impl_MeanArea.f (k + 1) a0) := by
 intro a0 k; obtain ⟨ih0, ih1⟩ := impl_MeanArea.mono_l k
 unfold impl_MeanArea.f
 have m0 := @impl_ArePassages.mono; have m1 := @impl_reduced.mono
 exact qmono
theorem impl_MeanArea.calls (k : Nat) (A0 : Option Addr) (c0 : Nat) (l0 : List (S60)) (r1 : Int) (r2 : Int) (r3 : Bool) (w : World) (hr0 : Kd.C k60 w A0 l0.length l0) (hc0 : l0.length ≤ c0) (h : impl_MeanArea.f k l0 = some (r1, r2, r3)) :
  Calls Try.prog 20 #[.slice A0 l0.length c0] w fun e w' => e = .returned (.tuple #[.int .i64 r1, .int .i64 r2, .bool r3]) ∧ Below w.heap.size w w' := by
 have hu60 := Try.underlying60; have HR0 := Aside0.mk hr0; have HC0 := Aside0.mk hc0; clear hr0 hc0; have HB := Aside0.mk (Below.refl w.heap.size w); have H : ((impl_ArePassages.f k l0).bind fun t449 => (if t449 = true then (impl_MeanArea.j0 k l0 ((l0.length : Int) == 0)) else (impl_MeanArea.j0 k l0 true))) = some (r1, r2, r3) := h; clear h; have HC2 := Aside0.mk H; clear H
 go_enter Try.func20, Try.ntmps20
 go_upto_region 1 with (fail)
 go_cut [17] (fun v17 wc => ∃ (kq : Nat) (x17_1 : Bool), v17 = .bool x17_1 ∧ Aside0 (impl_MeanArea.j0 kq l0 x17_1 = some (r1, r2, r3)) ∧ Aside0 (kq ≤ k) ∧ Aside0 (Below w.heap.size w wc))
 case first =>
  have H := HC2.out; clear HC2; replace H := bindA H; obtain ⟨t449, A3, H⟩ := H; (try dsimp only at H)
  by_cases c4 : t449 = true
  ·subst c4; rw [if_pos rfl] at H; have H' := Aside0.mk H; clear H
   go_wp2_with (first | ((with_reducible refine gate_callee (f := 8) rfl ?_); refine goesL_ (some 11) rfl rfl Try.func8 (by kernel_rfl) rfl #[.slice A0 l0.length c0] rfl (qP2) ?_; (with_reducible refine (impl_ArePassages.calls k _ _ l0 true _ ?s1 ?s2 A3.out).mono ?_); (case s1 => exact (qP13 HR0.out)); (case s2 => exact HC0.out); rintro e w5 ⟨rfl, hb⟩; refine ⟨_, rfl, ?_⟩; replace HB := Aside0.mk (qP57); clear hb))
   go_meet
   case rel => exact ⟨_, (((l0.length : Int) == 0)), (qP14), H', ⟨by first | omega | exact Nat.le_refl _⟩, ⟨(qP0)⟩⟩
  ·replace c4 := Bool.eq_false_iff.mpr c4; subst c4; rw [if_neg (show ¬ (false = true) by decide)] at H; have H' := Aside0.mk H; clear H
   go_wp2_with (first | ((with_reducible refine gate_callee (f := 8) rfl ?_); refine goesL_ (some 11) rfl rfl Try.func8 (by kernel_rfl) rfl #[.slice A0 l0.length c0] rfl (qP2) ?_; (with_reducible refine (impl_ArePassages.calls k _ _ l0 false _ ?s1 ?s2 A3.out).mono ?_); (case s1 => exact (qP13 HR0.out)); (case s2 => exact HC0.out); rintro e w6 ⟨rfl, hb⟩; refine ⟨_, rfl, ?_⟩; replace HB := Aside0.mk (qP57); clear hb))
   go_meet
   case rel => exact ⟨_, (true), (qP14), H', ⟨by first | omega | exact Nat.le_refl _⟩, ⟨(qP0)⟩⟩
 case rest =>
  clear HC2; (try clear c2); (try clear p2); (try clear c4); obtain ⟨kq, x17_1, rfl, HA, HJ1, HB⟩ := hcut
  cases kq with
  | zero => exact absurd HA.out (by simp [impl_MeanArea.j0])
  | succ kj1 =>
   have H := HA.out; clear HA; simp only [impl_MeanArea.j0] at H
   by_cases c7 : x17_1 = true
   ·subst c7; rw [if_pos rfl] at H; simp only [Option.some.injEq, Prod.mk.injEq] at H; obtain ⟨rfl, rfl, rfl⟩ := H
    go_wp2
    go_ret3
    exact ⟨(qP8), (qP0)⟩
   ·replace c7 := Bool.eq_false_iff.mpr c7; subst c7; rw [if_neg (show ¬ (false = true) by decide)] at H; have H' := Aside0.mk H; clear H
    go_wp2
    go_loopg [5, 20] kj1 (fun kq v5 v20 w' => ∃ (x5_2 : Int) (x20_2 : Int), v5 = .int .i64 x5_2 ∧ v20 = .int .i64 x20_2 ∧ Aside0 (impl_MeanArea.l0 kq l0 x5_2 l0 (l0.length : Int) x20_2 = some (r1, r2, r3)) ∧ Aside0 (kq ≤ kj1) ∧ Aside0 (Below w.heap.size w w'))
    case atStart => exact ⟨(0), (0), (qP14), (qP14), H', ⟨Nat.le_refl _⟩, ⟨(qP0)⟩⟩
    case round =>
     clear H'; (try clear c2); (try clear p2); (try clear c4); (try clear c7); (try clear p2); obtain ⟨x5_2, x20_2, rfl, rfl, HA, HK2, HB⟩ := hrel
     cases gk with
     | zero => exact absurd HA.out (by simp [impl_MeanArea.l0])
     | succ k2 =>
      have H := HA.out; clear HA; simp only [impl_MeanArea.l0] at H
      by_cases c8 : x20_2 < (l0.length : Int)
      ·rw [if_pos c8] at H; have c8b0 : decide (x20_2 < (l0.length : Int)) = true := decide_eq_true c8; clear c8
       by_cases c9 : 0 ≤ x20_2
       ·rw [if_pos c9] at H; have c9b0 : decide (0 ≤ x20_2) = true := decide_eq_true c9; clear c9
        by_cases c10 : x20_2 < (l0.length : Int)
        ·rw [if_pos c10] at H; have c10b0 : decide (x20_2 < (l0.length : Int)) = true := decide_eq_true c10; clear c10; replace H := bindA H; obtain ⟨t452, A11, H⟩ := H; (try dsimp only at H); have H' := Aside0.mk H; clear H; have p450 : 0 ≤ (x20_2 : Int) := of_decide_eq_true (qP12); have q450 : x20_2 < (l0.length : Int) := of_decide_eq_true (qP12); obtain ⟨ad450, e450, hx450_0, hx450_1, hx450_2, hx450_3, hx450_4⟩ := at_T60 HR0.out x20_2 p450 q450; cases e450; replace hx450_0 := (HB.out.cell (World.block_lt_of_cell? w _ hx450_0)).trans hx450_0; replace hx450_1 := (HB.out.cell (World.block_lt_of_cell? w _ hx450_1)).trans hx450_1; replace hx450_2 := (HB.out.cell (World.block_lt_of_cell? w _ hx450_2)).trans hx450_2; replace hx450_3 := (HB.out.cell (World.block_lt_of_cell? w _ hx450_3)).trans hx450_3; replace hx450_4 := (HB.out.cell (World.block_lt_of_cell? w _ hx450_4)).trans hx450_4; replace p450 := eq_true p450; replace q450 := eq_true q450
         go_wp2_with (first | ((with_reducible refine gate_dst (N := 7) rfl ?_); (try (refine gate_guard (by rfl) ?_; dsimp only)); refine box_event ?hg (N := 7) ?hd (cs := #[.int .i64 0, .int .i64 0, .int .i64 0, .int .i64 0, .int .i64 0]) (t := 60) ?hr ?_; (case hd => rfl); (case hg => rfl); (case hr => exact (qP23)); intro gb451 hg w12 hbox hb; have BK451 := Aside0.mk (hbox); have GW451 := Aside0.mk (by exact (by rw [hg]; exact (below_size (qP0)) : w.heap.size ≤ gb451)); have GE451 := Aside0.mk (by exact (by rw [hg]; exact (below_size (qP0)) : w.heap.size ≤ gb451)); replace HB := Aside0.mk (qP57); clear hb hbox hg; have hcz13_0 : w12.cell? ⟨gb451, 0, none⟩ = some (.int .i64 0) := (blk_cell BK451.out 0).trans rfl; have hcz13_1 : w12.cell? ⟨gb451, 1, none⟩ = some (.int .i64 0) := (blk_cell BK451.out 1).trans rfl; have hcz13_2 : w12.cell? ⟨gb451, 2, none⟩ = some (.int .i64 0) := (blk_cell BK451.out 2).trans rfl; have hcz13_3 : w12.cell? ⟨gb451, 3, none⟩ = some (.int .i64 0) := (blk_cell BK451.out 3).trans rfl; have hcz13_4 : w12.cell? ⟨gb451, 4, none⟩ = some (.int .i64 0) := (blk_cell BK451.out 4).trans rfl; have hfz13_0 := blk_frozen BK451.out 0; have hfz13_1 := blk_frozen BK451.out 1; have hfz13_2 := blk_frozen BK451.out 2; have hfz13_3 := blk_frozen BK451.out 3; have hfz13_4 := blk_frozen BK451.out 4) | ((with_reducible refine gate_callee (f := 41) rfl ?_); refine goesL_ (some 26) rfl rfl Try.func41 (by kernel_rfl) rfl #[.agg #[.int .i64 ((rd_T60 l0 x20_2).f0), .int .i64 ((rd_T60 l0 x20_2).f1), .int .i64 ((rd_T60 l0 x20_2).f2), .int .i64 ((rd_T60 l0 x20_2).f3), .int .i64 ((rd_T60 l0 x20_2).f4)]] rfl (qP2) ?_; (with_reducible refine (impl_Passage_area.calls ((rd_T60 l0 x20_2).f0) ((rd_T60 l0 x20_2).f1) ((rd_T60 l0 x20_2).f2) ((rd_T60 l0 x20_2).f3) ((rd_T60 l0 x20_2).f4) t452 _ A11.out).mono ?_); rintro e w14 ⟨rfl, hb⟩; refine ⟨_, rfl, ?_⟩; replace BK451 := Aside0.mk (blk_below (g := gb451) (o := .cells #[.int .i64 ((rd_T60 l0 x20_2).f0), .int .i64 ((rd_T60 l0 x20_2).f1), .int .i64 ((rd_T60 l0 x20_2).f2), .int .i64 ((rd_T60 l0 x20_2).f3), .int .i64 ((rd_T60 l0 x20_2).f4)] 60 (0, 0)) (qP24 BK451.out) hb); replace HB := Aside0.mk (below_step (qP5 GE451.out) hb); clear hb))
         go_roundg k2
         case measure => have := HJ1.out; have := HK2.out; omega
         case rel => exact ⟨(wrap64 (x5_2 + t452)), (wrap64 (x20_2 + 1)), (qP14), (qP14), H', ⟨by have := HJ1.out; have := HK2.out; omega⟩, ⟨(qP5 GE451.out)⟩⟩
        ·rw [if_neg c10] at H
         exact absurd H (by simp)
       ·rw [if_neg c9] at H
        exact absurd H (by simp)
      ·rw [if_neg c8] at H; have c8b0 : decide (x20_2 < (l0.length : Int)) = false := decide_eq_false c8; clear c8; replace H := Option.bind_eq_some_iff.mp H; obtain ⟨⟨t453, t454⟩, A150, H⟩ := H; replace H : (some (t453, t454, true)) = some (r1, r2, r3) := H; have A15 := Aside0.mk A150; clear A150; simp only [Option.some.injEq, Prod.mk.injEq] at H; obtain ⟨rfl, rfl, rfl⟩ := H
       go_wp2_with (first | ((with_reducible refine gate_callee (f := 28) rfl ?_); refine goesL_ (some 33) rfl rfl Try.func28 (by kernel_rfl) rfl #[.int .i64 x5_2, .int .i64 (l0.length : Int)] rfl (qP2) ?_; (with_reducible refine (impl_reduced.calls k2 x5_2 (l0.length : Int) t453 t454 _ A15.out).mono ?_); rintro e w16 ⟨rfl, hb⟩; refine ⟨_, rfl, ?_⟩; replace HB := Aside0.mk (qP57); clear hb))
       go_ret3
       exact ⟨(qP8), (qP0)⟩

/-! ### spec_MeanArea: function 21 -/
mutual
def spec_MeanArea.j0 : Nat → List (S60) → Bool → Option (Int × Int × Bool)
 | 0, _, _ => none
 | k + 1, x0, x16 => if x16 = true then (some (0, 0, false)) else (spec_MeanArea.l0 k x0 0 0)
def spec_MeanArea.l0 : Nat → List (S60) → Int → Int → Option (Int × Int × Bool)
 | 0, _, _, _ => none
 | k + 1, x0, x5, x6 => if x6 < (x0.length : Int) then (if 0 ≤ x6 then ((spec_l12Area.f ((rd_T60 x0 x6).f0) ((rd_T60 x0 x6).f1) ((rd_T60 x0 x6).f2) ((rd_T60 x0 x6).f3) ((rd_T60 x0 x6).f4)).bind fun t457 => (spec_MeanArea.l0 k x0 (wrap64 (x5 + t457)) (wrap64 (x6 + 1)))) else (none)) else ((spec_l9Reduce.f k x5 (x0.length : Int)).bind fun bt458 => (some (bt458.1, bt458.2, true)))
end
def spec_MeanArea.f (k : Nat) (l0 : List (S60)) : Option (Int × Int × Bool) := (spec_l12Good.f k l0).bind fun t455 => (if t455 = true then (spec_MeanArea.j0 k l0 ((l0.length : Int) == 0)) else (spec_MeanArea.j0 k l0 true))
theorem spec_MeanArea.mono_l : ∀ k, (∀ y0 y1, LeO (spec_MeanArea.j0 k y0 y1) (spec_MeanArea.j0 (k + 1) y0 y1)) ∧ (∀ y0 y1 y2, LeO (spec_MeanArea.l0 k y0 y1 y2) (spec_MeanArea.l0 (k + 1) y0 y1 y2))
 | 0 => ⟨fun _ _ r h => by simp [spec_MeanArea.j0] at h, fun _ _ _ r h => by simp [spec_MeanArea.l0] at h⟩
 | k + 1 => by
  obtain ⟨ih0, ih1⟩ := spec_MeanArea.mono_l k
  refine ⟨?_, ?_⟩
  ·intro y0 y1
   unfold spec_MeanArea.j0
   have m0 := @spec_l12Good.mono; have m1 := @spec_l9Reduce.mono
   exact qmono
  ·intro y0 y1 y2
   unfold spec_MeanArea.l0
   have m0 := @spec_l12Good.mono; have m1 := @spec_l9Reduce.mono
   exact qmono
theorem spec_MeanArea.mono : ∀ a0 k, LeO (spec_MeanArea.f k a0) (spec_MeanArea.f (k + 1) a0) := by
 intro a0 k; obtain ⟨ih0, ih1⟩ := spec_MeanArea.mono_l k
 unfold spec_MeanArea.f
 have m0 := @spec_l12Good.mono; have m1 := @spec_l9Reduce.mono
 exact qmono
theorem spec_MeanArea.calls (k : Nat) (A0 : Option Addr) (c0 : Nat) (l0 : List (S60)) (r1 : Int) (r2 : Int) (r3 : Bool) (w : World) (hr0 : Kd.C k60 w A0 l0.length l0) (hc0 : l0.length ≤ c0) (h : spec_MeanArea.f k l0 = some (r1, r2, r3)) :
  Calls Try.prog 21 #[.slice A0 l0.length c0] w fun e w' => e = .returned (.tuple #[.int .i64 r1, .int .i64 r2, .bool r3]) ∧ Below w.heap.size w w' := by
 have hu60 := Try.underlying60; have HR0 := Aside0.mk hr0; have HC0 := Aside0.mk hc0; clear hr0 hc0; have HB := Aside0.mk (Below.refl w.heap.size w); have H : ((spec_l12Good.f k l0).bind fun t455 => (if t455 = true then (spec_MeanArea.j0 k l0 ((l0.length : Int) == 0)) else (spec_MeanArea.j0 k l0 true))) = some (r1, r2, r3) := h; clear h; have HC2 := Aside0.mk H; clear H
 go_enter Try.func21, Try.ntmps21
 go_upto_region 1 with (fail)
 go_cut [16] (fun v16 wc => ∃ (kq : Nat) (x16_1 : Bool), v16 = .bool x16_1 ∧ Aside0 (spec_MeanArea.j0 kq l0 x16_1 = some (r1, r2, r3)) ∧ Aside0 (kq ≤ k) ∧ Aside0 (Below w.heap.size w wc))
 case first =>
  have H := HC2.out; clear HC2; replace H := bindA H; obtain ⟨t455, A3, H⟩ := H; (try dsimp only at H)
  by_cases c4 : t455 = true
  ·subst c4; rw [if_pos rfl] at H; have H' := Aside0.mk H; clear H
   go_wp2_with (first | ((with_reducible refine gate_callee (f := 29) rfl ?_); refine goesL_ (some 10) rfl rfl Try.func29 (by kernel_rfl) rfl #[.slice A0 l0.length c0] rfl (qP2) ?_; (with_reducible refine (spec_l12Good.calls k _ _ l0 true _ ?s1 ?s2 A3.out).mono ?_); (case s1 => exact (qP13 HR0.out)); (case s2 => exact HC0.out); rintro e w5 ⟨rfl, hb⟩; refine ⟨_, rfl, ?_⟩; replace HB := Aside0.mk (qP57); clear hb))
   go_meet
   case rel => exact ⟨_, (((l0.length : Int) == 0)), (qP14), H', ⟨by first | omega | exact Nat.le_refl _⟩, ⟨(qP0)⟩⟩
  ·replace c4 := Bool.eq_false_iff.mpr c4; subst c4; rw [if_neg (show ¬ (false = true) by decide)] at H; have H' := Aside0.mk H; clear H
   go_wp2_with (first | ((with_reducible refine gate_callee (f := 29) rfl ?_); refine goesL_ (some 10) rfl rfl Try.func29 (by kernel_rfl) rfl #[.slice A0 l0.length c0] rfl (qP2) ?_; (with_reducible refine (spec_l12Good.calls k _ _ l0 false _ ?s1 ?s2 A3.out).mono ?_); (case s1 => exact (qP13 HR0.out)); (case s2 => exact HC0.out); rintro e w6 ⟨rfl, hb⟩; refine ⟨_, rfl, ?_⟩; replace HB := Aside0.mk (qP57); clear hb))
   go_meet
   case rel => exact ⟨_, (true), (qP14), H', ⟨by first | omega | exact Nat.le_refl _⟩, ⟨(qP0)⟩⟩
 case rest =>
  clear HC2; (try clear c2); (try clear p2); (try clear c4); obtain ⟨kq, x16_1, rfl, HA, HJ1, HB⟩ := hcut
  cases kq with
  | zero => exact absurd HA.out (by simp [spec_MeanArea.j0])
  | succ kj1 =>
   have H := HA.out; clear HA; simp only [spec_MeanArea.j0] at H
   by_cases c7 : x16_1 = true
   ·subst c7; rw [if_pos rfl] at H; simp only [Option.some.injEq, Prod.mk.injEq] at H; obtain ⟨rfl, rfl, rfl⟩ := H
    go_wp2
    go_ret3
    exact ⟨(qP8), (qP0)⟩
   ·replace c7 := Bool.eq_false_iff.mpr c7; subst c7; rw [if_neg (show ¬ (false = true) by decide)] at H; have H' := Aside0.mk H; clear H
    go_wp2
    go_loopg [5, 6] kj1 (fun kq v5 v6 w' => ∃ (x5_2 : Int) (x6_2 : Int), v5 = .int .i64 x5_2 ∧ v6 = .int .i64 x6_2 ∧ Aside0 (spec_MeanArea.l0 kq l0 x5_2 x6_2 = some (r1, r2, r3)) ∧ Aside0 (kq ≤ kj1) ∧ Aside0 (Below w.heap.size w w'))
    case atStart => exact ⟨(0), (0), (qP14), (qP14), H', ⟨Nat.le_refl _⟩, ⟨(qP0)⟩⟩
    case round =>
     clear H'; (try clear c2); (try clear p2); (try clear c4); (try clear c7); (try clear p2); obtain ⟨x5_2, x6_2, rfl, rfl, HA, HK2, HB⟩ := hrel
     cases gk with
     | zero => exact absurd HA.out (by simp [spec_MeanArea.l0])
     | succ k2 =>
      have H := HA.out; clear HA; simp only [spec_MeanArea.l0] at H
      by_cases c8 : x6_2 < (l0.length : Int)
      ·rw [if_pos c8] at H; have c8b0 : decide (x6_2 < (l0.length : Int)) = true := decide_eq_true c8; clear c8
       by_cases c9 : 0 ≤ x6_2
       ·rw [if_pos c9] at H; have c9b0 : decide (0 ≤ x6_2) = true := decide_eq_true c9; clear c9; replace H := bindA H; obtain ⟨t457, A10, H⟩ := H; (try dsimp only at H); have H' := Aside0.mk H; clear H; have p456 : 0 ≤ (x6_2 : Int) := of_decide_eq_true (qP12); have q456 : x6_2 < (l0.length : Int) := of_decide_eq_true (qP12); obtain ⟨ad456, e456, hx456_0, hx456_1, hx456_2, hx456_3, hx456_4⟩ := at_T60 HR0.out x6_2 p456 q456; cases e456; replace hx456_0 := (HB.out.cell (World.block_lt_of_cell? w _ hx456_0)).trans hx456_0; replace hx456_1 := (HB.out.cell (World.block_lt_of_cell? w _ hx456_1)).trans hx456_1; replace hx456_2 := (HB.out.cell (World.block_lt_of_cell? w _ hx456_2)).trans hx456_2; replace hx456_3 := (HB.out.cell (World.block_lt_of_cell? w _ hx456_3)).trans hx456_3; replace hx456_4 := (HB.out.cell (World.block_lt_of_cell? w _ hx456_4)).trans hx456_4; replace p456 := eq_true p456; replace q456 := eq_true q456
        go_wp2_with (first | ((with_reducible refine gate_callee (f := 42) rfl ?_); refine goesL_ (some 28) rfl rfl Try.func42 (by kernel_rfl) rfl #[.agg #[.int .i64 ((rd_T60 l0 x6_2).f0), .int .i64 ((rd_T60 l0 x6_2).f1), .int .i64 ((rd_T60 l0 x6_2).f2), .int .i64 ((rd_T60 l0 x6_2).f3), .int .i64 ((rd_T60 l0 x6_2).f4)]] rfl (qP2) ?_; (with_reducible refine (spec_l12Area.calls ((rd_T60 l0 x6_2).f0) ((rd_T60 l0 x6_2).f1) ((rd_T60 l0 x6_2).f2) ((rd_T60 l0 x6_2).f3) ((rd_T60 l0 x6_2).f4) t457 _ A10.out).mono ?_); rintro e w11 ⟨rfl, hb⟩; refine ⟨_, rfl, ?_⟩; replace HB := Aside0.mk (qP57); clear hb))
        go_roundg k2
        case measure => have := HJ1.out; have := HK2.out; omega
        case rel => exact ⟨(wrap64 (x5_2 + t457)), (wrap64 (x6_2 + 1)), (qP14), (qP14), H', ⟨by have := HJ1.out; have := HK2.out; omega⟩, ⟨(qP0)⟩⟩
       ·rw [if_neg c9] at H
        exact absurd H (by simp)
      ·rw [if_neg c8] at H; have c8b0 : decide (x6_2 < (l0.length : Int)) = false := decide_eq_false c8; clear c8; replace H := Option.bind_eq_some_iff.mp H; obtain ⟨⟨t458, t459⟩, A120, H⟩ := H; replace H : (some (t458, t459, true)) = some (r1, r2, r3) := H; have A12 := Aside0.mk A120; clear A120; simp only [Option.some.injEq, Prod.mk.injEq] at H; obtain ⟨rfl, rfl, rfl⟩ := H
       go_wp2_with (first | ((with_reducible refine gate_callee (f := 32) rfl ?_); refine goesL_ (some 34) rfl rfl Try.func32 (by kernel_rfl) rfl #[.int .i64 x5_2, .int .i64 (l0.length : Int)] rfl (qP2) ?_; (with_reducible refine (spec_l9Reduce.calls k2 x5_2 (l0.length : Int) t458 t459 _ A12.out).mono ?_); rintro e w' ⟨rfl, ⟨nd, rfl⟩⟩; refine ⟨_, rfl, ?_⟩))
       go_ret3
       exact ⟨(qP8), (qP0)⟩

/-! ### impl_WidestPassage: function 22 -/
mutual
def impl_WidestPassage.j0 : Nat → List (S60) → Bool → Option (Int × Bool)
 | 0, _, _ => none
 | k + 1, x0, x14 => if x14 = true then (some (0, false)) else (if 0 < (x0.length : Int) then (impl_WidestPassage.l0 k x0 (x0.length : Int) 0 ((rd_T60 x0 0).f0) ((rd_T60 x0 0).f1) ((rd_T60 x0 0).f2) ((rd_T60 x0 0).f3) ((rd_T60 x0 0).f4)) else (none))
def impl_WidestPassage.l0 : Nat → List (S60) → Int → Int → Int → Int → Int → Int → Int → Option (Int × Bool)
 | 0, _, _, _, _, _, _, _, _ => none
 | k + 1, x18, x19, x20, x463000, x463001, x463002, x463003, x463004 => if x20 < x19 then (if 0 ≤ x20 then (if x20 < (x18.length : Int) then ((impl_Passage_area.f ((rd_T60 x18 x20).f0) ((rd_T60 x18 x20).f1) ((rd_T60 x18 x20).f2) ((rd_T60 x18 x20).f3) ((rd_T60 x18 x20).f4)).bind fun t465 => ((impl_Passage_area.f x463000 x463001 x463002 x463003 x463004).bind fun t466 => (if t465 > t466 then (impl_WidestPassage.l0 k x18 x19 (wrap64 (x20 + 1)) ((rd_T60 x18 x20).f0) ((rd_T60 x18 x20).f1) ((rd_T60 x18 x20).f2) ((rd_T60 x18 x20).f3) ((rd_T60 x18 x20).f4)) else (impl_WidestPassage.l0 k x18 x19 (wrap64 (x20 + 1)) x463000 x463001 x463002 x463003 x463004)))) else (none)) else (none)) else (some (x463000, true))
end
def impl_WidestPassage.f (k : Nat) (l0 : List (S60)) : Option (Int × Bool) := (impl_ArePassages.f k l0).bind fun t460 => (if t460 = true then (impl_WidestPassage.j0 k l0 ((l0.length : Int) == 0)) else (impl_WidestPassage.j0 k l0 true))
theorem impl_WidestPassage.mono_l : ∀ k, (∀ y0 y1, LeO (impl_WidestPassage.j0 k y0 y1) (impl_WidestPassage.j0 (k + 1) y0 y1)) ∧ (∀ y0 y1 y2 y3 y4 y5 y6 y7, LeO (impl_WidestPassage.l0 k y0 y1 y2 y3 y4 y5 y6 y7) (impl_WidestPassage.l0 (k + 1) y0 y1 y2 y3 y4 y5 y6 y7))
 | 0 => ⟨fun _ _ r h => by simp [impl_WidestPassage.j0] at h, fun _ _ _ _ _ _ _ _ r h => by simp [impl_WidestPassage.l0] at h⟩
 | k + 1 => by
  obtain ⟨ih0, ih1⟩ := impl_WidestPassage.mono_l k
  refine ⟨?_, ?_⟩
  ·intro y0 y1
   unfold impl_WidestPassage.j0
   have m0 := @impl_ArePassages.mono
   exact qmono
  ·intro y0 y1 y2 y3 y4 y5 y6 y7
   unfold impl_WidestPassage.l0
   have m0 := @impl_ArePassages.mono
   exact qmono
theorem impl_WidestPassage.mono : ∀ a0 k, LeO (impl_WidestPassage.f k a0) (impl_WidestPassage.f (k + 1) a0) := by
 intro a0 k; obtain ⟨ih0, ih1⟩ := impl_WidestPassage.mono_l k
 unfold impl_WidestPassage.f
 have m0 := @impl_ArePassages.mono
 exact qmono
theorem impl_WidestPassage.calls (k : Nat) (A0 : Option Addr) (c0 : Nat) (l0 : List (S60)) (r1 : Int) (r2 : Bool) (w : World) (hr0 : Kd.C k60 w A0 l0.length l0) (hc0 : l0.length ≤ c0) (h : impl_WidestPassage.f k l0 = some (r1, r2)) :
  Calls Try.prog 22 #[.slice A0 l0.length c0] w fun e w' => e = .returned (.tuple #[.int .i64 r1, .bool r2]) ∧ Below w.heap.size w w' := by
 have hu60 := Try.underlying60; have HR0 := Aside0.mk hr0; have HC0 := Aside0.mk hc0; clear hr0 hc0; have HB := Aside0.mk (Below.refl w.heap.size w); have H : ((impl_ArePassages.f k l0).bind fun t460 => (if t460 = true then (impl_WidestPassage.j0 k l0 ((l0.length : Int) == 0)) else (impl_WidestPassage.j0 k l0 true))) = some (r1, r2) := h; clear h; have HC2 := Aside0.mk H; clear H
 go_enter Try.func22, Try.ntmps22
 go_upto_region 1 with (fail)
 go_cut [14] (fun v14 wc => ∃ (kq : Nat) (x14_1 : Bool), v14 = .bool x14_1 ∧ Aside0 (impl_WidestPassage.j0 kq l0 x14_1 = some (r1, r2)) ∧ Aside0 (kq ≤ k) ∧ Aside0 (Below w.heap.size w wc))
 case first =>
  have H := HC2.out; clear HC2; replace H := bindA H; obtain ⟨t460, A3, H⟩ := H; (try dsimp only at H)
  by_cases c4 : t460 = true
  ·subst c4; rw [if_pos rfl] at H; have H' := Aside0.mk H; clear H
   go_wp2_with (first | ((with_reducible refine gate_callee (f := 8) rfl ?_); refine goesL_ (some 8) rfl rfl Try.func8 (by kernel_rfl) rfl #[.slice A0 l0.length c0] rfl (qP2) ?_; (with_reducible refine (impl_ArePassages.calls k _ _ l0 true _ ?s1 ?s2 A3.out).mono ?_); (case s1 => exact (qP13 HR0.out)); (case s2 => exact HC0.out); rintro e w5 ⟨rfl, hb⟩; refine ⟨_, rfl, ?_⟩; replace HB := Aside0.mk (qP57); clear hb))
   go_meet
   case rel => exact ⟨_, (((l0.length : Int) == 0)), (qP14), H', ⟨by first | omega | exact Nat.le_refl _⟩, ⟨(qP0)⟩⟩
  ·replace c4 := Bool.eq_false_iff.mpr c4; subst c4; rw [if_neg (show ¬ (false = true) by decide)] at H; have H' := Aside0.mk H; clear H
   go_wp2_with (first | ((with_reducible refine gate_callee (f := 8) rfl ?_); refine goesL_ (some 8) rfl rfl Try.func8 (by kernel_rfl) rfl #[.slice A0 l0.length c0] rfl (qP2) ?_; (with_reducible refine (impl_ArePassages.calls k _ _ l0 false _ ?s1 ?s2 A3.out).mono ?_); (case s1 => exact (qP13 HR0.out)); (case s2 => exact HC0.out); rintro e w6 ⟨rfl, hb⟩; refine ⟨_, rfl, ?_⟩; replace HB := Aside0.mk (qP57); clear hb))
   go_meet
   case rel => exact ⟨_, (true), (qP14), H', ⟨by first | omega | exact Nat.le_refl _⟩, ⟨(qP0)⟩⟩
 case rest =>
  clear HC2; (try clear c2); (try clear p2); (try clear c4); obtain ⟨kq, x14_1, rfl, HA, HJ1, HB⟩ := hcut
  cases kq with
  | zero => exact absurd HA.out (by simp [impl_WidestPassage.j0])
  | succ kj1 =>
   have H := HA.out; clear HA; simp only [impl_WidestPassage.j0] at H
   by_cases c7 : x14_1 = true
   ·subst c7; rw [if_pos rfl] at H; simp only [Option.some.injEq, Prod.mk.injEq] at H; obtain ⟨rfl, rfl⟩ := H
    go_wp2
    go_ret2
    exact ⟨(qP8), (qP0)⟩
   ·replace c7 := Bool.eq_false_iff.mpr c7; subst c7; rw [if_neg (show ¬ (false = true) by decide)] at H
    by_cases c8 : 0 < (l0.length : Int)
    ·rw [if_pos c8] at H; have c8b0 : decide (0 < (l0.length : Int)) = true := decide_eq_true c8; have c8b1 : decide (0 < l0.length) = true := decide_eq_true (by omega); clear c8; have H' := Aside0.mk H; clear H; have p461 : 0 ≤ (0 : Int) := (by omega); have q461 : 0 < (l0.length : Int) := of_decide_eq_true (qP12); obtain ⟨ad461, e461, hx461_0, hx461_1, hx461_2, hx461_3, hx461_4⟩ := at_T60 HR0.out 0 p461 q461; cases e461; have qi461 : (0 < l0.length) = True := eq_true (by omega)
     (try rw [show ((0 : Int)).toNat = 0 from rfl] at hx461_0)
     (try rw [show 0 * 5 = 0 from rfl] at hx461_0)
     (try rw [Addr.add_zero'] at hx461_0)
     (try rw [show ((0 : Int)).toNat = 0 from rfl] at hx461_1)
     (try rw [show 0 * 5 = 0 from rfl] at hx461_1)
     (try rw [Addr.add_zero'] at hx461_1)
     (try rw [show ((0 : Int)).toNat = 0 from rfl] at hx461_2)
     (try rw [show 0 * 5 = 0 from rfl] at hx461_2)
     (try rw [Addr.add_zero'] at hx461_2)
     (try rw [show ((0 : Int)).toNat = 0 from rfl] at hx461_3)
     (try rw [show 0 * 5 = 0 from rfl] at hx461_3)
     (try rw [Addr.add_zero'] at hx461_3)
     (try rw [show ((0 : Int)).toNat = 0 from rfl] at hx461_4)
     (try rw [show 0 * 5 = 0 from rfl] at hx461_4)
     (try rw [Addr.add_zero'] at hx461_4); replace hx461_0 := (HB.out.cell (World.block_lt_of_cell? w _ hx461_0)).trans hx461_0; replace hx461_1 := (HB.out.cell (World.block_lt_of_cell? w _ hx461_1)).trans hx461_1; replace hx461_2 := (HB.out.cell (World.block_lt_of_cell? w _ hx461_2)).trans hx461_2; replace hx461_3 := (HB.out.cell (World.block_lt_of_cell? w _ hx461_3)).trans hx461_3; replace hx461_4 := (HB.out.cell (World.block_lt_of_cell? w _ hx461_4)).trans hx461_4; replace p461 := eq_true p461; replace q461 := eq_true q461
     go_wp2_with (first | ((with_reducible refine gate_dst (N := 4) rfl ?_); (try (refine gate_guard (by rfl) ?_; dsimp only)); refine box_event ?hg (N := 4) ?hd (cs := #[.int .i64 0, .int .i64 0, .int .i64 0, .int .i64 0, .int .i64 0]) (t := 60) ?hr ?_; (case hd => rfl); (case hg => rfl); (case hr => exact (qP23)); intro gb462 hg w9 hbox hb; have BK462 := Aside0.mk (hbox); have GW462 := Aside0.mk (by exact (by rw [hg]; exact (below_size (qP0)) : w.heap.size ≤ gb462)); have GE462 := Aside0.mk (by exact (by rw [hg]; exact (below_size (qP0)) : w.heap.size ≤ gb462)); replace HB := Aside0.mk (qP57); clear hb hbox hg; have hcz10_0 : w9.cell? ⟨gb462, 0, none⟩ = some (.int .i64 0) := (blk_cell BK462.out 0).trans rfl; have hcz10_1 : w9.cell? ⟨gb462, 1, none⟩ = some (.int .i64 0) := (blk_cell BK462.out 1).trans rfl; have hcz10_2 : w9.cell? ⟨gb462, 2, none⟩ = some (.int .i64 0) := (blk_cell BK462.out 2).trans rfl; have hcz10_3 : w9.cell? ⟨gb462, 3, none⟩ = some (.int .i64 0) := (blk_cell BK462.out 3).trans rfl; have hcz10_4 : w9.cell? ⟨gb462, 4, none⟩ = some (.int .i64 0) := (blk_cell BK462.out 4).trans rfl; have hfz10_0 := blk_frozen BK462.out 0; have hfz10_1 := blk_frozen BK462.out 1; have hfz10_2 := blk_frozen BK462.out 2; have hfz10_3 := blk_frozen BK462.out 3; have hfz10_4 := blk_frozen BK462.out 4))
     go_loopg [20] kj1 (fun kq v20 w' => ∃ (x20_2 : Int) (x463000_2 : Int) (x463001_2 : Int) (x463002_2 : Int) (x463003_2 : Int) (x463004_2 : Int), v20 = .int .i64 x20_2 ∧ Aside0 (impl_WidestPassage.l0 kq l0 (l0.length : Int) x20_2 x463000_2 x463001_2 x463002_2 x463003_2 x463004_2 = some (r1, r2)) ∧ Aside0 (kq ≤ kj1) ∧ Aside0 (w'.heap[gb462]? = some (.cells #[.int .i64 x463000_2, .int .i64 x463001_2, .int .i64 x463002_2, .int .i64 x463003_2, .int .i64 x463004_2] 60 (0, 0))) ∧ Aside0 (Below w.heap.size w w'))
     case atStart => exact ⟨(0), ((rd_T60 l0 0).f0), ((rd_T60 l0 0).f1), ((rd_T60 l0 0).f2), ((rd_T60 l0 0).f3), ((rd_T60 l0 0).f4), (qP14), H', ⟨Nat.le_refl _⟩, ⟨(by (with_reducible repeat (first | refine blk_drewN ?_ _ | refine blk_drew ?_ | refine blk_alloc ?_ _)); refine blk_put (cs := #[.int .i64 ((rd_T60 l0 0).f0), .int .i64 ((rd_T60 l0 0).f1), .int .i64 ((rd_T60 l0 0).f2), .int .i64 ((rd_T60 l0 0).f3), .int .i64 0]) ?_ 4 _ rfl; (with_reducible repeat (first | refine blk_drewN ?_ _ | refine blk_drew ?_ | refine blk_alloc ?_ _)); refine blk_put (cs := #[.int .i64 ((rd_T60 l0 0).f0), .int .i64 ((rd_T60 l0 0).f1), .int .i64 ((rd_T60 l0 0).f2), .int .i64 0, .int .i64 0]) ?_ 3 _ rfl; (with_reducible repeat (first | refine blk_drewN ?_ _ | refine blk_drew ?_ | refine blk_alloc ?_ _)); refine blk_put (cs := #[.int .i64 ((rd_T60 l0 0).f0), .int .i64 ((rd_T60 l0 0).f1), .int .i64 0, .int .i64 0, .int .i64 0]) ?_ 2 _ rfl; (with_reducible repeat (first | refine blk_drewN ?_ _ | refine blk_drew ?_ | refine blk_alloc ?_ _)); refine blk_put (cs := #[.int .i64 ((rd_T60 l0 0).f0), .int .i64 0, .int .i64 0, .int .i64 0, .int .i64 0]) ?_ 1 _ rfl; (with_reducible repeat (first | refine blk_drewN ?_ _ | refine blk_drew ?_ | refine blk_alloc ?_ _)); refine blk_put (cs := #[.int .i64 0, .int .i64 0, .int .i64 0, .int .i64 0, .int .i64 0]) ?_ 0 _ rfl; (with_reducible repeat (first | refine blk_drewN ?_ _ | refine blk_drew ?_ | refine blk_alloc ?_ _)); exact BK462.out)⟩, ⟨(qP5 GE462.out)⟩⟩
     case round =>
      clear H'; (try clear c2); (try clear p2); (try clear c4); (try clear p4); (try clear q4); (try clear hx4); (try clear qi4); (try clear c7); (try clear c8); (try clear c8b0); (try clear c8b1); (try clear hcz10_0); (try clear hcz10_1); (try clear hcz10_2); (try clear hcz10_3); (try clear hcz10_4); (try clear hfz10_0); (try clear hfz10_1); (try clear hfz10_2); (try clear hfz10_3); (try clear hfz10_4); (try clear hx461_0); (try clear hx461_1); (try clear hx461_2); (try clear hx461_3); (try clear hx461_4); (try clear p2); (try clear p461); (try clear q461); obtain ⟨x20_2, x463000_2, x463001_2, x463002_2, x463003_2, x463004_2, rfl, HA, HK2, BK462, HB⟩ := hrel
      cases gk with
      | zero => exact absurd HA.out (by simp [impl_WidestPassage.l0])
      | succ k2 =>
       have H := HA.out; clear HA; simp only [impl_WidestPassage.l0] at H
       by_cases c11 : x20_2 < (l0.length : Int)
       ·rw [if_pos c11] at H; have c11b0 : decide (x20_2 < (l0.length : Int)) = true := decide_eq_true c11; clear c11
        by_cases c12 : 0 ≤ x20_2
        ·rw [if_pos c12] at H; have c12b0 : decide (0 ≤ x20_2) = true := decide_eq_true c12; clear c12
         by_cases c13 : x20_2 < (l0.length : Int)
         ·rw [if_pos c13] at H; have c13b0 : decide (x20_2 < (l0.length : Int)) = true := decide_eq_true c13; clear c13; replace H := bindA H; obtain ⟨t465, A14, H⟩ := H; (try dsimp only at H); replace H := bindA H; obtain ⟨t466, A15, H⟩ := H; (try dsimp only at H)
          by_cases c16 : t465 > t466
          ·rw [if_pos c16] at H; have c16b0 : decide (t466 < t465) = true := decide_eq_true c16; clear c16; have H' := Aside0.mk H; clear H; have p463 : 0 ≤ (x20_2 : Int) := of_decide_eq_true (qP12); have q463 : x20_2 < (l0.length : Int) := of_decide_eq_true (qP12); obtain ⟨ad463, e463, hx463_0, hx463_1, hx463_2, hx463_3, hx463_4⟩ := at_T60 HR0.out x20_2 p463 q463; obtain rfl : ad461 = ad463 := (by injection e463); replace hx463_0 := (HB.out.cell (World.block_lt_of_cell? w _ hx463_0)).trans hx463_0; replace hx463_1 := (HB.out.cell (World.block_lt_of_cell? w _ hx463_1)).trans hx463_1; replace hx463_2 := (HB.out.cell (World.block_lt_of_cell? w _ hx463_2)).trans hx463_2; replace hx463_3 := (HB.out.cell (World.block_lt_of_cell? w _ hx463_3)).trans hx463_3; replace hx463_4 := (HB.out.cell (World.block_lt_of_cell? w _ hx463_4)).trans hx463_4; replace p463 := eq_true p463; replace q463 := eq_true q463
           try go_wp2_with (first | ((with_reducible refine gate_dst (N := 6) rfl ?_); (try (refine gate_guard (by rfl) ?_; dsimp only)); refine box_event ?hg (N := 6) ?hd (cs := #[.int .i64 0, .int .i64 0, .int .i64 0, .int .i64 0, .int .i64 0]) (t := 60) ?hr ?_; (case hd => rfl); (case hg => rfl); (case hr => exact (qP23)); intro gb464 hg w17 hbox hb; have BK464 := Aside0.mk (hbox); have GW464 := Aside0.mk ((by rw [hg]; exact (below_size (qP5 GE462.out)) : w.heap.size ≤ gb464)); have GE464 := Aside0.mk ((by rw [hg]; exact (below_size (qP5 GE462.out)) : w.heap.size ≤ gb464)); replace HB := Aside0.mk (below_step (qP5 GE462.out) hb); have NB462_464 := Aside0.mk ((by rw [hg]; exact Nat.ne_of_lt (blk_lt (g := gb462) (o := .cells #[.int .i64 x463000_2, .int .i64 x463001_2, .int .i64 x463002_2, .int .i64 x463003_2, .int .i64 x463004_2] 60 (0, 0)) (qP9 BK462.out)) : gb462 ≠ gb464)); have NB464_462 := Aside0.mk ((by rw [hg]; exact Nat.ne_of_gt (blk_lt (g := gb462) (o := .cells #[.int .i64 x463000_2, .int .i64 x463001_2, .int .i64 x463002_2, .int .i64 x463003_2, .int .i64 x463004_2] 60 (0, 0)) (qP9 BK462.out)) : gb464 ≠ gb462)); replace BK462 := Aside0.mk (blk_below (g := gb462) (o := .cells #[.int .i64 x463000_2, .int .i64 x463001_2, .int .i64 x463002_2, .int .i64 x463003_2, .int .i64 x463004_2] 60 (0, 0)) (qP9 BK462.out) hb); clear hb hbox hg; have hnb18 := NB464_462.out; have hnc18 := NB462_464.out; have hcz19_0 : w17.cell? ⟨gb464, 0, none⟩ = some (.int .i64 0) := (blk_cell BK464.out 0).trans rfl; have hcz19_1 : w17.cell? ⟨gb464, 1, none⟩ = some (.int .i64 0) := (blk_cell BK464.out 1).trans rfl; have hcz19_2 : w17.cell? ⟨gb464, 2, none⟩ = some (.int .i64 0) := (blk_cell BK464.out 2).trans rfl; have hcz19_3 : w17.cell? ⟨gb464, 3, none⟩ = some (.int .i64 0) := (blk_cell BK464.out 3).trans rfl; have hcz19_4 : w17.cell? ⟨gb464, 4, none⟩ = some (.int .i64 0) := (blk_cell BK464.out 4).trans rfl; have hfz19_0 := blk_frozen BK464.out 0; have hfz19_1 := blk_frozen BK464.out 1; have hfz19_2 := blk_frozen BK464.out 2; have hfz19_3 := blk_frozen BK464.out 3; have hfz19_4 := blk_frozen BK464.out 4))
           have n0_ : Aside0 ((((((w17.setCell ⟨gb464, 0, none⟩ (.int .i64 ((rd_T60 l0 x20_2).f0))).setCell ⟨gb464, 1, none⟩ (.int .i64 ((rd_T60 l0 x20_2).f1))).setCell ⟨gb464, 2, none⟩ (.int .i64 ((rd_T60 l0 x20_2).f2))).setCell ⟨gb464, 3, none⟩ (.int .i64 ((rd_T60 l0 x20_2).f3))).setCell ⟨gb464, 4, none⟩ (.int .i64 ((rd_T60 l0 x20_2).f4))).heap[gb462]? = some (.cells #[.int .i64 x463000_2, .int .i64 x463001_2, .int .i64 x463002_2, .int .i64 x463003_2, .int .i64 x463004_2] 60 (0, 0))) := ⟨(qP22 NB462_464.out BK462.out)⟩; have n1_ : Aside0 ((((((w17.setCell ⟨gb464, 0, none⟩ (.int .i64 ((rd_T60 l0 x20_2).f0))).setCell ⟨gb464, 1, none⟩ (.int .i64 ((rd_T60 l0 x20_2).f1))).setCell ⟨gb464, 2, none⟩ (.int .i64 ((rd_T60 l0 x20_2).f2))).setCell ⟨gb464, 3, none⟩ (.int .i64 ((rd_T60 l0 x20_2).f3))).setCell ⟨gb464, 4, none⟩ (.int .i64 ((rd_T60 l0 x20_2).f4))).heap[gb464]? = some (.cells #[.int .i64 ((rd_T60 l0 x20_2).f0), .int .i64 ((rd_T60 l0 x20_2).f1), .int .i64 ((rd_T60 l0 x20_2).f2), .int .i64 ((rd_T60 l0 x20_2).f3), .int .i64 ((rd_T60 l0 x20_2).f4)] 60 (0, 0))) := ⟨(qP24 BK464.out)⟩; have n2_ : Aside0 (Below w.heap.size w (((((w17.setCell ⟨gb464, 0, none⟩ (.int .i64 ((rd_T60 l0 x20_2).f0))).setCell ⟨gb464, 1, none⟩ (.int .i64 ((rd_T60 l0 x20_2).f1))).setCell ⟨gb464, 2, none⟩ (.int .i64 ((rd_T60 l0 x20_2).f2))).setCell ⟨gb464, 3, none⟩ (.int .i64 ((rd_T60 l0 x20_2).f3))).setCell ⟨gb464, 4, none⟩ (.int .i64 ((rd_T60 l0 x20_2).f4)))) := ⟨(qP18 GE462.out GE464.out)⟩
           (try clear BK462)
           (try clear BK464)
           (try clear HB)
           generalize (((((w17.setCell ⟨gb464, 0, none⟩ (.int .i64 ((rd_T60 l0 x20_2).f0))).setCell ⟨gb464, 1, none⟩ (.int .i64 ((rd_T60 l0 x20_2).f1))).setCell ⟨gb464, 2, none⟩ (.int .i64 ((rd_T60 l0 x20_2).f2))).setCell ⟨gb464, 3, none⟩ (.int .i64 ((rd_T60 l0 x20_2).f3))).setCell ⟨gb464, 4, none⟩ (.int .i64 ((rd_T60 l0 x20_2).f4))) = w20 at n0_ n1_ n2_ ⊢
           have BK462 := n0_; have BK464 := n1_; have HB := n2_; clear n0_ n1_ n2_; replace BK462 := Aside0.mk (blk_drew BK462.out); replace BK464 := Aside0.mk (blk_drew BK464.out); replace HB := Aside0.mk (below_drew1 HB.out)
           refine start_ (n := 5) (S := fun w' => w'.cell? ⟨gb464, 0, none⟩ = some (.int .i64 ((rd_T60 l0 x20_2).f0)) ∧ w'.cell? ⟨gb464, 1, none⟩ = some (.int .i64 ((rd_T60 l0 x20_2).f1)) ∧ w'.cell? ⟨gb464, 2, none⟩ = some (.int .i64 ((rd_T60 l0 x20_2).f2)) ∧ w'.cell? ⟨gb464, 3, none⟩ = some (.int .i64 ((rd_T60 l0 x20_2).f3)) ∧ w'.cell? ⟨gb464, 4, none⟩ = some (.int .i64 ((rd_T60 l0 x20_2).f4)) ∧ w'.cell? ⟨gb462, 0, none⟩ = some (.int .i64 x463000_2) ∧ w'.cell? ⟨gb462, 1, none⟩ = some (.int .i64 x463001_2) ∧ w'.cell? ⟨gb462, 2, none⟩ = some (.int .i64 x463002_2) ∧ w'.cell? ⟨gb462, 3, none⟩ = some (.int .i64 x463003_2) ∧ w'.cell? ⟨gb462, 4, none⟩ = some (.int .i64 x463004_2)) (ds := []) #[false, false, false, false, false] (by kernel_rfl) rfl rfl ⟨(blk_cell BK464.out 0).trans rfl, (blk_cell BK464.out 1).trans rfl, (blk_cell BK464.out 2).trans rfl, (blk_cell BK464.out 3).trans rfl, (blk_cell BK464.out 4).trans rfl, (blk_cell BK462.out 0).trans rfl, (blk_cell BK462.out 1).trans rfl, (blk_cell BK462.out 2).trans rfl, (blk_cell BK462.out 3).trans rfl, (blk_cell BK462.out 4).trans rfl⟩ (fun hHeld => ?_)
           generalize w20.drew = w21 at BK462 BK464 HB hHeld ⊢
           refine take_ (i := 0) (N := some 24) (v := ?_) (a' := ?_) #[true, false, false, false, false] rfl rfl (by kernel_rfl) (fun _ _ _ h => h) (Or.inl ⟨by rfl, ?_⟩) hHeld ?_ ?_
           rotate_left; exact qP13_c1; rotate_left; exact qP13_c0
           refine take_ (i := 2) (N := some 26) (v := ?_) (a' := ?_) #[true, false, true, false, false] rfl rfl (by kernel_rfl) (fun _ _ _ h => h) (Or.inl ⟨by rfl, ?_⟩) hHeld ?_ ?_
           rotate_left; exact qP13_c1; rotate_left; exact qP13_c0
           refine one_ (i := 1) (N := some 25) #[true, true, true, false, false] rfl rfl (by kernel_rfl) (by decide) (fun K hK => ?_)
           refine goes_ Try.func41 (by kernel_rfl) rfl #[.agg #[.int .i64 ((rd_T60 l0 x20_2).f0), .int .i64 ((rd_T60 l0 x20_2).f1), .int .i64 ((rd_T60 l0 x20_2).f2), .int .i64 ((rd_T60 l0 x20_2).f3), .int .i64 ((rd_T60 l0 x20_2).f4)]] (by rfl) rfl rfl (qP2) ?_
           with_reducible refine (impl_Passage_area.calls ((rd_T60 l0 x20_2).f0) ((rd_T60 l0 x20_2).f1) ((rd_T60 l0 x20_2).f2) ((rd_T60 l0 x20_2).f3) ((rd_T60 l0 x20_2).f4) t465 _ A14.out).mono ?_
           rintro e w22 ⟨rfl, hb⟩
           refine ⟨_, rfl, ?_⟩
           replace BK462 := Aside0.mk (blk_below (g := gb462) (o := .cells #[.int .i64 x463000_2, .int .i64 x463001_2, .int .i64 x463002_2, .int .i64 x463003_2, .int .i64 x463004_2] 60 (0, 0)) (qP9 BK462.out) hb); replace BK464 := Aside0.mk (blk_below (g := gb464) (o := .cells #[.int .i64 ((rd_T60 l0 x20_2).f0), .int .i64 ((rd_T60 l0 x20_2).f1), .int .i64 ((rd_T60 l0 x20_2).f2), .int .i64 ((rd_T60 l0 x20_2).f3), .int .i64 ((rd_T60 l0 x20_2).f4)] 60 (0, 0)) (qP9 BK464.out) hb); replace HB := Aside0.mk (below_step (qP18 GE462.out GE464.out) hb)
           (try clear hb)
           (try clear hb2)
           (try clear hk)
           (try clear hi)
           refine hK.out _ _ ⟨(blk_cell BK464.out 0).trans rfl, (blk_cell BK464.out 1).trans rfl, (blk_cell BK464.out 2).trans rfl, (blk_cell BK464.out 3).trans rfl, (blk_cell BK464.out 4).trans rfl, (blk_cell BK462.out 0).trans rfl, (blk_cell BK462.out 1).trans rfl, (blk_cell BK462.out 2).trans rfl, (blk_cell BK462.out 3).trans rfl, (blk_cell BK462.out 4).trans rfl⟩ (fun hHeld => ?_)
           clear hK K
           refine norm_ (a' := ?_) ?_ ?_
           rotate_left
           ·show Act.put _ (some 25) _ = _
            simp only [Act.put, List.setIfInBounds_toArray, List.set_cons_zero, List.set_cons_succ, i64_w, i32_w]
            rfl
           refine one_ (i := 3) (N := some 27) #[true, true, true, true, false] rfl rfl (by kernel_rfl) (by decide) (fun K hK => ?_)
           refine goes_ Try.func41 (by kernel_rfl) rfl #[.agg #[.int .i64 x463000_2, .int .i64 x463001_2, .int .i64 x463002_2, .int .i64 x463003_2, .int .i64 x463004_2]] (by rfl) rfl rfl (qP2) ?_
           with_reducible refine (impl_Passage_area.calls x463000_2 x463001_2 x463002_2 x463003_2 x463004_2 t466 _ A15.out).mono ?_
           rintro e w23 ⟨rfl, hb⟩
           refine ⟨_, rfl, ?_⟩
           replace BK462 := Aside0.mk (blk_below (g := gb462) (o := .cells #[.int .i64 x463000_2, .int .i64 x463001_2, .int .i64 x463002_2, .int .i64 x463003_2, .int .i64 x463004_2] 60 (0, 0)) (qP9 BK462.out) hb); replace BK464 := Aside0.mk (blk_below (g := gb464) (o := .cells #[.int .i64 ((rd_T60 l0 x20_2).f0), .int .i64 ((rd_T60 l0 x20_2).f1), .int .i64 ((rd_T60 l0 x20_2).f2), .int .i64 ((rd_T60 l0 x20_2).f3), .int .i64 ((rd_T60 l0 x20_2).f4)] 60 (0, 0)) (qP9 BK464.out) hb); replace HB := Aside0.mk (below_step (qP18 GE462.out GE464.out) hb)
           (try clear hb)
           (try clear hb2)
           (try clear hk)
           (try clear hi)
           refine hK.out _ _ ⟨(blk_cell BK464.out 0).trans rfl, (blk_cell BK464.out 1).trans rfl, (blk_cell BK464.out 2).trans rfl, (blk_cell BK464.out 3).trans rfl, (blk_cell BK464.out 4).trans rfl, (blk_cell BK462.out 0).trans rfl, (blk_cell BK462.out 1).trans rfl, (blk_cell BK462.out 2).trans rfl, (blk_cell BK462.out 3).trans rfl, (blk_cell BK462.out 4).trans rfl⟩ (fun hHeld => ?_)
           clear hK K
           refine norm_ (a' := ?_) ?_ ?_
           rotate_left
           ·show Act.put _ (some 27) _ = _
            simp only [Act.put, List.setIfInBounds_toArray, List.set_cons_zero, List.set_cons_succ, i64_w, i32_w]
            rfl
           refine pure_ (i := 4) (N := some 28) (v := ?_) (a' := ?_) #[true, true, true, true, true] rfl rfl (by kernel_rfl) (fun _ _ _ h => h) (Or.inl ⟨by rfl, ?_⟩) ?_ ?_
           rotate_left
           ·intro w'
            go_simp
            with_reducible rfl
           rotate_left
           ·exact qP13_c0
           refine done_ (by kernel_rfl) ?_
           have hcz24_0 : w23.cell? ⟨gb464, 0, none⟩ = some (.int .i64 ((rd_T60 l0 x20_2).f0)) := (blk_cell BK464.out 0).trans rfl; have hcz24_1 : w23.cell? ⟨gb464, 1, none⟩ = some (.int .i64 ((rd_T60 l0 x20_2).f1)) := (blk_cell BK464.out 1).trans rfl; have hcz24_2 : w23.cell? ⟨gb464, 2, none⟩ = some (.int .i64 ((rd_T60 l0 x20_2).f2)) := (blk_cell BK464.out 2).trans rfl; have hcz24_3 : w23.cell? ⟨gb464, 3, none⟩ = some (.int .i64 ((rd_T60 l0 x20_2).f3)) := (blk_cell BK464.out 3).trans rfl; have hcz24_4 : w23.cell? ⟨gb464, 4, none⟩ = some (.int .i64 ((rd_T60 l0 x20_2).f4)) := (blk_cell BK464.out 4).trans rfl; have hfz24_0 := blk_frozen BK464.out 0; have hfz24_1 := blk_frozen BK464.out 1; have hfz24_2 := blk_frozen BK464.out 2; have hfz24_3 := blk_frozen BK464.out 3; have hfz24_4 := blk_frozen BK464.out 4; have hcz25_0 : w23.cell? ⟨gb462, 0, none⟩ = some (.int .i64 x463000_2) := (blk_cell BK462.out 0).trans rfl; have hcz25_1 : w23.cell? ⟨gb462, 1, none⟩ = some (.int .i64 x463001_2) := (blk_cell BK462.out 1).trans rfl; have hcz25_2 : w23.cell? ⟨gb462, 2, none⟩ = some (.int .i64 x463002_2) := (blk_cell BK462.out 2).trans rfl; have hcz25_3 : w23.cell? ⟨gb462, 3, none⟩ = some (.int .i64 x463003_2) := (blk_cell BK462.out 3).trans rfl; have hcz25_4 : w23.cell? ⟨gb462, 4, none⟩ = some (.int .i64 x463004_2) := (blk_cell BK462.out 4).trans rfl; have hfz25_0 := blk_frozen BK462.out 0; have hfz25_1 := blk_frozen BK462.out 1; have hfz25_2 := blk_frozen BK462.out 2; have hfz25_3 := blk_frozen BK462.out 3
           have hfz25_4 := blk_frozen BK462.out 4
           try go_wp2
           go_roundg k2
           case measure => have := HJ1.out; have := HK2.out; omega
           case rel => exact ⟨(wrap64 (x20_2 + 1)), ((rd_T60 l0 x20_2).f0), ((rd_T60 l0 x20_2).f1), ((rd_T60 l0 x20_2).f2), ((rd_T60 l0 x20_2).f3), ((rd_T60 l0 x20_2).f4), (qP14), H', ⟨by have := HJ1.out; have := HK2.out; omega⟩, ⟨(by (with_reducible repeat (first | refine blk_drewN ?_ _ | refine blk_drew ?_ | refine blk_alloc ?_ _)); refine blk_put (cs := #[.int .i64 ((rd_T60 l0 x20_2).f0), .int .i64 ((rd_T60 l0 x20_2).f1), .int .i64 ((rd_T60 l0 x20_2).f2), .int .i64 ((rd_T60 l0 x20_2).f3), .int .i64 x463004_2]) ?_ 4 _ rfl; (with_reducible repeat (first | refine blk_drewN ?_ _ | refine blk_drew ?_ | refine blk_alloc ?_ _)); refine blk_put (cs := #[.int .i64 ((rd_T60 l0 x20_2).f0), .int .i64 ((rd_T60 l0 x20_2).f1), .int .i64 ((rd_T60 l0 x20_2).f2), .int .i64 x463003_2, .int .i64 x463004_2]) ?_ 3 _ rfl; (with_reducible repeat (first | refine blk_drewN ?_ _ | refine blk_drew ?_ | refine blk_alloc ?_ _)); refine blk_put (cs := #[.int .i64 ((rd_T60 l0 x20_2).f0), .int .i64 ((rd_T60 l0 x20_2).f1), .int .i64 x463002_2, .int .i64 x463003_2, .int .i64 x463004_2]) ?_ 2 _ rfl; (with_reducible repeat (first | refine blk_drewN ?_ _ | refine blk_drew ?_ | refine blk_alloc ?_ _)); refine blk_put (cs := #[.int .i64 ((rd_T60 l0 x20_2).f0), .int .i64 x463001_2, .int .i64 x463002_2, .int .i64 x463003_2, .int .i64 x463004_2]) ?_ 1 _ rfl; (with_reducible repeat (first | refine blk_drewN ?_ _ | refine blk_drew ?_ | refine blk_alloc ?_ _)); refine blk_put (cs := #[.int .i64 x463000_2, .int .i64 x463001_2, .int .i64 x463002_2, .int .i64 x463003_2, .int .i64 x463004_2]) ?_ 0 _ rfl; (with_reducible repeat (first | refine blk_drewN ?_ _ | refine blk_drew ?_ | refine blk_alloc ?_ _)); exact BK462.out)⟩, ⟨(qP18 GE462.out GE464.out)⟩⟩
          ·rw [if_neg c16] at H; have c16b0 : decide (t466 < t465) = false := decide_eq_false c16; clear c16; have H' := Aside0.mk H; clear H; have p463 : 0 ≤ (x20_2 : Int) := of_decide_eq_true (qP12); have q463 : x20_2 < (l0.length : Int) := of_decide_eq_true (qP12); obtain ⟨ad463, e463, hx463_0, hx463_1, hx463_2, hx463_3, hx463_4⟩ := at_T60 HR0.out x20_2 p463 q463; obtain rfl : ad461 = ad463 := (by injection e463); replace hx463_0 := (HB.out.cell (World.block_lt_of_cell? w _ hx463_0)).trans hx463_0; replace hx463_1 := (HB.out.cell (World.block_lt_of_cell? w _ hx463_1)).trans hx463_1; replace hx463_2 := (HB.out.cell (World.block_lt_of_cell? w _ hx463_2)).trans hx463_2; replace hx463_3 := (HB.out.cell (World.block_lt_of_cell? w _ hx463_3)).trans hx463_3; replace hx463_4 := (HB.out.cell (World.block_lt_of_cell? w _ hx463_4)).trans hx463_4; replace p463 := eq_true p463; replace q463 := eq_true q463
           try go_wp2_with (first | ((with_reducible refine gate_dst (N := 6) rfl ?_); (try (refine gate_guard (by rfl) ?_; dsimp only)); refine box_event ?hg (N := 6) ?hd (cs := #[.int .i64 0, .int .i64 0, .int .i64 0, .int .i64 0, .int .i64 0]) (t := 60) ?hr ?_; (case hd => rfl); (case hg => rfl); (case hr => exact (qP23)); intro gb464 hg w26 hbox hb; have BK464 := Aside0.mk (hbox); have GW464 := Aside0.mk ((by rw [hg]; exact (below_size (qP5 GE462.out)) : w.heap.size ≤ gb464)); have GE464 := Aside0.mk ((by rw [hg]; exact (below_size (qP5 GE462.out)) : w.heap.size ≤ gb464)); replace HB := Aside0.mk (below_step (qP5 GE462.out) hb); have NB462_464 := Aside0.mk ((by rw [hg]; exact Nat.ne_of_lt (blk_lt (g := gb462) (o := .cells #[.int .i64 x463000_2, .int .i64 x463001_2, .int .i64 x463002_2, .int .i64 x463003_2, .int .i64 x463004_2] 60 (0, 0)) (qP9 BK462.out)) : gb462 ≠ gb464)); have NB464_462 := Aside0.mk ((by rw [hg]; exact Nat.ne_of_gt (blk_lt (g := gb462) (o := .cells #[.int .i64 x463000_2, .int .i64 x463001_2, .int .i64 x463002_2, .int .i64 x463003_2, .int .i64 x463004_2] 60 (0, 0)) (qP9 BK462.out)) : gb464 ≠ gb462)); replace BK462 := Aside0.mk (blk_below (g := gb462) (o := .cells #[.int .i64 x463000_2, .int .i64 x463001_2, .int .i64 x463002_2, .int .i64 x463003_2, .int .i64 x463004_2] 60 (0, 0)) (qP9 BK462.out) hb); clear hb hbox hg; have hnb27 := NB464_462.out; have hnc27 := NB462_464.out; have hcz28_0 : w26.cell? ⟨gb464, 0, none⟩ = some (.int .i64 0) := (blk_cell BK464.out 0).trans rfl; have hcz28_1 : w26.cell? ⟨gb464, 1, none⟩ = some (.int .i64 0) := (blk_cell BK464.out 1).trans rfl; have hcz28_2 : w26.cell? ⟨gb464, 2, none⟩ = some (.int .i64 0) := (blk_cell BK464.out 2).trans rfl; have hcz28_3 : w26.cell? ⟨gb464, 3, none⟩ = some (.int .i64 0) := (blk_cell BK464.out 3).trans rfl; have hcz28_4 : w26.cell? ⟨gb464, 4, none⟩ = some (.int .i64 0) := (blk_cell BK464.out 4).trans rfl; have hfz28_0 := blk_frozen BK464.out 0; have hfz28_1 := blk_frozen BK464.out 1; have hfz28_2 := blk_frozen BK464.out 2; have hfz28_3 := blk_frozen BK464.out 3; have hfz28_4 := blk_frozen BK464.out 4))
           have n0_ : Aside0 ((((((w26.setCell ⟨gb464, 0, none⟩ (.int .i64 ((rd_T60 l0 x20_2).f0))).setCell ⟨gb464, 1, none⟩ (.int .i64 ((rd_T60 l0 x20_2).f1))).setCell ⟨gb464, 2, none⟩ (.int .i64 ((rd_T60 l0 x20_2).f2))).setCell ⟨gb464, 3, none⟩ (.int .i64 ((rd_T60 l0 x20_2).f3))).setCell ⟨gb464, 4, none⟩ (.int .i64 ((rd_T60 l0 x20_2).f4))).heap[gb462]? = some (.cells #[.int .i64 x463000_2, .int .i64 x463001_2, .int .i64 x463002_2, .int .i64 x463003_2, .int .i64 x463004_2] 60 (0, 0))) := ⟨(qP22 NB462_464.out BK462.out)⟩; have n1_ : Aside0 ((((((w26.setCell ⟨gb464, 0, none⟩ (.int .i64 ((rd_T60 l0 x20_2).f0))).setCell ⟨gb464, 1, none⟩ (.int .i64 ((rd_T60 l0 x20_2).f1))).setCell ⟨gb464, 2, none⟩ (.int .i64 ((rd_T60 l0 x20_2).f2))).setCell ⟨gb464, 3, none⟩ (.int .i64 ((rd_T60 l0 x20_2).f3))).setCell ⟨gb464, 4, none⟩ (.int .i64 ((rd_T60 l0 x20_2).f4))).heap[gb464]? = some (.cells #[.int .i64 ((rd_T60 l0 x20_2).f0), .int .i64 ((rd_T60 l0 x20_2).f1), .int .i64 ((rd_T60 l0 x20_2).f2), .int .i64 ((rd_T60 l0 x20_2).f3), .int .i64 ((rd_T60 l0 x20_2).f4)] 60 (0, 0))) := ⟨(qP24 BK464.out)⟩; have n2_ : Aside0 (Below w.heap.size w (((((w26.setCell ⟨gb464, 0, none⟩ (.int .i64 ((rd_T60 l0 x20_2).f0))).setCell ⟨gb464, 1, none⟩ (.int .i64 ((rd_T60 l0 x20_2).f1))).setCell ⟨gb464, 2, none⟩ (.int .i64 ((rd_T60 l0 x20_2).f2))).setCell ⟨gb464, 3, none⟩ (.int .i64 ((rd_T60 l0 x20_2).f3))).setCell ⟨gb464, 4, none⟩ (.int .i64 ((rd_T60 l0 x20_2).f4)))) := ⟨(qP18 GE462.out GE464.out)⟩
           (try clear BK462)
           (try clear BK464)
           (try clear HB)
           generalize (((((w26.setCell ⟨gb464, 0, none⟩ (.int .i64 ((rd_T60 l0 x20_2).f0))).setCell ⟨gb464, 1, none⟩ (.int .i64 ((rd_T60 l0 x20_2).f1))).setCell ⟨gb464, 2, none⟩ (.int .i64 ((rd_T60 l0 x20_2).f2))).setCell ⟨gb464, 3, none⟩ (.int .i64 ((rd_T60 l0 x20_2).f3))).setCell ⟨gb464, 4, none⟩ (.int .i64 ((rd_T60 l0 x20_2).f4))) = w29 at n0_ n1_ n2_ ⊢
           have BK462 := n0_; have BK464 := n1_; have HB := n2_; clear n0_ n1_ n2_; replace BK462 := Aside0.mk (blk_drew BK462.out); replace BK464 := Aside0.mk (blk_drew BK464.out); replace HB := Aside0.mk (below_drew1 HB.out)
           refine start_ (n := 5) (S := fun w' => w'.cell? ⟨gb464, 0, none⟩ = some (.int .i64 ((rd_T60 l0 x20_2).f0)) ∧ w'.cell? ⟨gb464, 1, none⟩ = some (.int .i64 ((rd_T60 l0 x20_2).f1)) ∧ w'.cell? ⟨gb464, 2, none⟩ = some (.int .i64 ((rd_T60 l0 x20_2).f2)) ∧ w'.cell? ⟨gb464, 3, none⟩ = some (.int .i64 ((rd_T60 l0 x20_2).f3)) ∧ w'.cell? ⟨gb464, 4, none⟩ = some (.int .i64 ((rd_T60 l0 x20_2).f4)) ∧ w'.cell? ⟨gb462, 0, none⟩ = some (.int .i64 x463000_2) ∧ w'.cell? ⟨gb462, 1, none⟩ = some (.int .i64 x463001_2) ∧ w'.cell? ⟨gb462, 2, none⟩ = some (.int .i64 x463002_2) ∧ w'.cell? ⟨gb462, 3, none⟩ = some (.int .i64 x463003_2) ∧ w'.cell? ⟨gb462, 4, none⟩ = some (.int .i64 x463004_2)) (ds := []) #[false, false, false, false, false] (by kernel_rfl) rfl rfl ⟨(blk_cell BK464.out 0).trans rfl, (blk_cell BK464.out 1).trans rfl, (blk_cell BK464.out 2).trans rfl, (blk_cell BK464.out 3).trans rfl, (blk_cell BK464.out 4).trans rfl, (blk_cell BK462.out 0).trans rfl, (blk_cell BK462.out 1).trans rfl, (blk_cell BK462.out 2).trans rfl, (blk_cell BK462.out 3).trans rfl, (blk_cell BK462.out 4).trans rfl⟩ (fun hHeld => ?_)
           generalize w29.drew = w30 at BK462 BK464 HB hHeld ⊢
           refine take_ (i := 0) (N := some 24) (v := ?_) (a' := ?_) #[true, false, false, false, false] rfl rfl (by kernel_rfl) (fun _ _ _ h => h) (Or.inl ⟨by rfl, ?_⟩) hHeld ?_ ?_
           rotate_left; exact qP13_c1; rotate_left; exact qP13_c0
           refine take_ (i := 2) (N := some 26) (v := ?_) (a' := ?_) #[true, false, true, false, false] rfl rfl (by kernel_rfl) (fun _ _ _ h => h) (Or.inl ⟨by rfl, ?_⟩) hHeld ?_ ?_
           rotate_left; exact qP13_c1; rotate_left; exact qP13_c0
           refine one_ (i := 1) (N := some 25) #[true, true, true, false, false] rfl rfl (by kernel_rfl) (by decide) (fun K hK => ?_)
           refine goes_ Try.func41 (by kernel_rfl) rfl #[.agg #[.int .i64 ((rd_T60 l0 x20_2).f0), .int .i64 ((rd_T60 l0 x20_2).f1), .int .i64 ((rd_T60 l0 x20_2).f2), .int .i64 ((rd_T60 l0 x20_2).f3), .int .i64 ((rd_T60 l0 x20_2).f4)]] (by rfl) rfl rfl (qP2) ?_
           with_reducible refine (impl_Passage_area.calls ((rd_T60 l0 x20_2).f0) ((rd_T60 l0 x20_2).f1) ((rd_T60 l0 x20_2).f2) ((rd_T60 l0 x20_2).f3) ((rd_T60 l0 x20_2).f4) t465 _ A14.out).mono ?_
           rintro e w31 ⟨rfl, hb⟩
           refine ⟨_, rfl, ?_⟩
           replace BK462 := Aside0.mk (blk_below (g := gb462) (o := .cells #[.int .i64 x463000_2, .int .i64 x463001_2, .int .i64 x463002_2, .int .i64 x463003_2, .int .i64 x463004_2] 60 (0, 0)) (qP9 BK462.out) hb); replace BK464 := Aside0.mk (blk_below (g := gb464) (o := .cells #[.int .i64 ((rd_T60 l0 x20_2).f0), .int .i64 ((rd_T60 l0 x20_2).f1), .int .i64 ((rd_T60 l0 x20_2).f2), .int .i64 ((rd_T60 l0 x20_2).f3), .int .i64 ((rd_T60 l0 x20_2).f4)] 60 (0, 0)) (qP9 BK464.out) hb); replace HB := Aside0.mk (below_step (qP18 GE462.out GE464.out) hb)
           (try clear hb)
           (try clear hb2)
           (try clear hk)
           (try clear hi)
           refine hK.out _ _ ⟨(blk_cell BK464.out 0).trans rfl, (blk_cell BK464.out 1).trans rfl, (blk_cell BK464.out 2).trans rfl, (blk_cell BK464.out 3).trans rfl, (blk_cell BK464.out 4).trans rfl, (blk_cell BK462.out 0).trans rfl, (blk_cell BK462.out 1).trans rfl, (blk_cell BK462.out 2).trans rfl, (blk_cell BK462.out 3).trans rfl, (blk_cell BK462.out 4).trans rfl⟩ (fun hHeld => ?_)
           clear hK K
           refine norm_ (a' := ?_) ?_ ?_
           rotate_left
           ·show Act.put _ (some 25) _ = _
            simp only [Act.put, List.setIfInBounds_toArray, List.set_cons_zero, List.set_cons_succ, i64_w, i32_w]
            rfl
           refine one_ (i := 3) (N := some 27) #[true, true, true, true, false] rfl rfl (by kernel_rfl) (by decide) (fun K hK => ?_)
           refine goes_ Try.func41 (by kernel_rfl) rfl #[.agg #[.int .i64 x463000_2, .int .i64 x463001_2, .int .i64 x463002_2, .int .i64 x463003_2, .int .i64 x463004_2]] (by rfl) rfl rfl (qP2) ?_
           with_reducible refine (impl_Passage_area.calls x463000_2 x463001_2 x463002_2 x463003_2 x463004_2 t466 _ A15.out).mono ?_
           rintro e w32 ⟨rfl, hb⟩
           refine ⟨_, rfl, ?_⟩
           replace BK462 := Aside0.mk (blk_below (g := gb462) (o := .cells #[.int .i64 x463000_2, .int .i64 x463001_2, .int .i64 x463002_2, .int .i64 x463003_2, .int .i64 x463004_2] 60 (0, 0)) (qP9 BK462.out) hb); replace BK464 := Aside0.mk (blk_below (g := gb464) (o := .cells #[.int .i64 ((rd_T60 l0 x20_2).f0), .int .i64 ((rd_T60 l0 x20_2).f1), .int .i64 ((rd_T60 l0 x20_2).f2), .int .i64 ((rd_T60 l0 x20_2).f3), .int .i64 ((rd_T60 l0 x20_2).f4)] 60 (0, 0)) (qP9 BK464.out) hb); replace HB := Aside0.mk (below_step (qP18 GE462.out GE464.out) hb)
           (try clear hb)
           (try clear hb2)
           (try clear hk)
           (try clear hi)
           refine hK.out _ _ ⟨(blk_cell BK464.out 0).trans rfl, (blk_cell BK464.out 1).trans rfl, (blk_cell BK464.out 2).trans rfl, (blk_cell BK464.out 3).trans rfl, (blk_cell BK464.out 4).trans rfl, (blk_cell BK462.out 0).trans rfl, (blk_cell BK462.out 1).trans rfl, (blk_cell BK462.out 2).trans rfl, (blk_cell BK462.out 3).trans rfl, (blk_cell BK462.out 4).trans rfl⟩ (fun hHeld => ?_)
           clear hK K
           refine norm_ (a' := ?_) ?_ ?_
           rotate_left
           ·show Act.put _ (some 27) _ = _
            simp only [Act.put, List.setIfInBounds_toArray, List.set_cons_zero, List.set_cons_succ, i64_w, i32_w]
            rfl
           refine pure_ (i := 4) (N := some 28) (v := ?_) (a' := ?_) #[true, true, true, true, true] rfl rfl (by kernel_rfl) (fun _ _ _ h => h) (Or.inl ⟨by rfl, ?_⟩) ?_ ?_
           rotate_left
           ·intro w'
            go_simp
            with_reducible rfl
           rotate_left
           ·exact qP13_c0
           refine done_ (by kernel_rfl) ?_
           try go_wp2
           go_roundg k2
           case measure => have := HJ1.out; have := HK2.out; omega
           case rel => exact ⟨(wrap64 (x20_2 + 1)), (x463000_2), (x463001_2), (x463002_2), (x463003_2), (x463004_2), (qP14), H', ⟨by have := HJ1.out; have := HK2.out; omega⟩, ⟨(qP9 BK462.out)⟩, ⟨(qP18 GE462.out GE464.out)⟩⟩
         ·rw [if_neg c13] at H
          exact absurd H (by simp)
        ·rw [if_neg c12] at H
         exact absurd H (by simp)
       ·rw [if_neg c11] at H; have c11b0 : decide (x20_2 < (l0.length : Int)) = false := decide_eq_false c11; clear c11; simp only [Option.some.injEq, Prod.mk.injEq] at H; obtain ⟨rfl, rfl⟩ := H; have hcz33_0 : wr.cell? ⟨gb462, 0, none⟩ = some (.int .i64 x463000_2) := (blk_cell BK462.out 0).trans rfl; have hcz33_1 : wr.cell? ⟨gb462, 1, none⟩ = some (.int .i64 x463001_2) := (blk_cell BK462.out 1).trans rfl; have hcz33_2 : wr.cell? ⟨gb462, 2, none⟩ = some (.int .i64 x463002_2) := (blk_cell BK462.out 2).trans rfl; have hcz33_3 : wr.cell? ⟨gb462, 3, none⟩ = some (.int .i64 x463003_2) := (blk_cell BK462.out 3).trans rfl; have hcz33_4 : wr.cell? ⟨gb462, 4, none⟩ = some (.int .i64 x463004_2) := (blk_cell BK462.out 4).trans rfl; have hfz33_0 := blk_frozen BK462.out 0; have hfz33_1 := blk_frozen BK462.out 1; have hfz33_2 := blk_frozen BK462.out 2; have hfz33_3 := blk_frozen BK462.out 3; have hfz33_4 := blk_frozen BK462.out 4
        go_wp2
        go_ret2
        exact ⟨(qP8), (qP5 GE462.out)⟩
    ·rw [if_neg c8] at H
     exact absurd H (by simp)

/-! ### impl_AreaAt: function 23 -/
def impl_AreaAt.f (k : Nat) (l0 : List (S60)) (a1 : Int) : Option (Int × Bool) := (impl_ArePassages.f k l0).bind fun t467 => (if t467 = true then ((impl_isStation.f a1).bind fun t468 => (if t468 = true then ((impl_areaAt.f l0 a1).bind fun t469 => (some (t469, true))) else (some (0, false)))) else (some (0, false)))
theorem impl_AreaAt.mono : ∀ a0 a1 k, LeO (impl_AreaAt.f k a0 a1) (impl_AreaAt.f (k + 1) a0 a1) := by
 intro a0 a1 k
 unfold impl_AreaAt.f
 have m0 := @impl_ArePassages.mono
 exact qmono
theorem impl_AreaAt.calls (k : Nat) (A0 : Option Addr) (c0 : Nat) (l0 : List (S60)) (a1 : Int) (r1 : Int) (r2 : Bool) (w : World) (hr0 : Kd.C k60 w A0 l0.length l0) (hc0 : l0.length ≤ c0) (h : impl_AreaAt.f k l0 a1 = some (r1, r2)) :
  Calls Try.prog 23 #[.slice A0 l0.length c0, .int .i64 a1] w fun e w' => e = .returned (.tuple #[.int .i64 r1, .bool r2]) ∧ Below w.heap.size w w' := by
 have HR0 := Aside0.mk hr0; have HC0 := Aside0.mk hc0; clear hr0 hc0; have HB := Aside0.mk (Below.refl w.heap.size w); have H : ((impl_ArePassages.f k l0).bind fun t467 => (if t467 = true then ((impl_isStation.f a1).bind fun t468 => (if t468 = true then ((impl_areaAt.f l0 a1).bind fun t469 => (some (t469, true))) else (some (0, false)))) else (some (0, false)))) = some (r1, r2) := h; clear h; replace H := bindA H; obtain ⟨t467, A3, H⟩ := H; (try dsimp only at H)
 by_cases c4 : t467 = true
 ·subst c4; rw [if_pos rfl] at H; replace H := bindA H; obtain ⟨t468, A5, H⟩ := H; (try dsimp only at H)
  by_cases c6 : t468 = true
  ·subst c6; rw [if_pos rfl] at H; replace H := Option.bind_eq_some_iff.mp H; obtain ⟨t469, A70, H⟩ := H; replace H : (some (t469, true)) = some (r1, r2) := H; have A7 := Aside0.mk A70; clear A70; simp only [Option.some.injEq, Prod.mk.injEq] at H; obtain ⟨rfl, rfl⟩ := H
   go_enter Try.func23, Try.ntmps23
   go_wp2_with (first | ((with_reducible refine gate_callee (f := 8) rfl ?_); refine goesL_ (some 7) rfl rfl Try.func8 (by kernel_rfl) rfl #[.slice A0 l0.length c0] rfl (qP2) ?_; (with_reducible refine (impl_ArePassages.calls k _ _ l0 true _ ?s1 ?s2 A3.out).mono ?_); (case s1 => exact (qP28 HR0.out)); (case s2 => exact HC0.out); rintro e w8 ⟨rfl, hb⟩; refine ⟨_, rfl, ?_⟩; replace HB := Aside0.mk (qP57); clear hb) | (go_at_call 43; (with_reducible refine (impl_isStation.calls a1 true _ A5.out).mono ?_); rintro e w' ⟨rfl, ⟨nd, rfl⟩⟩) | ((with_reducible refine gate_callee (f := 27) rfl ?_); refine goesL_ (some 16) rfl rfl Try.func27 (by kernel_rfl) rfl #[.slice A0 l0.length c0, .int .i64 a1] rfl (qP2) ?_; (with_reducible refine (impl_areaAt.calls _ _ l0 a1 t469 _ ?s1 ?s2 A7.out).mono ?_); (case s1 => exact (qP83 HR0.out)); (case s2 => exact HC0.out); rintro e w9 ⟨rfl, hb⟩; refine ⟨_, rfl, ?_⟩; replace HB := Aside0.mk (qP57); clear hb))
   go_ret2
   exact ⟨(qP8), (qP0)⟩
  ·replace c6 := Bool.eq_false_iff.mpr c6; subst c6; rw [if_neg (show ¬ (false = true) by decide)] at H; simp only [Option.some.injEq, Prod.mk.injEq] at H; obtain ⟨rfl, rfl⟩ := H
   go_enter Try.func23, Try.ntmps23
   go_wp2_with (first | ((with_reducible refine gate_callee (f := 8) rfl ?_); refine goesL_ (some 7) rfl rfl Try.func8 (by kernel_rfl) rfl #[.slice A0 l0.length c0] rfl (qP2) ?_; (with_reducible refine (impl_ArePassages.calls k _ _ l0 true _ ?s1 ?s2 A3.out).mono ?_); (case s1 => exact (qP28 HR0.out)); (case s2 => exact HC0.out); rintro e w10 ⟨rfl, hb⟩; refine ⟨_, rfl, ?_⟩; replace HB := Aside0.mk (qP57); clear hb) | (go_at_call 43; (with_reducible refine (impl_isStation.calls a1 false _ A5.out).mono ?_); rintro e w' ⟨rfl, ⟨nd, rfl⟩⟩))
   go_ret2
   exact ⟨(qP8), (qP0)⟩
 ·replace c4 := Bool.eq_false_iff.mpr c4; subst c4; rw [if_neg (show ¬ (false = true) by decide)] at H; simp only [Option.some.injEq, Prod.mk.injEq] at H; obtain ⟨rfl, rfl⟩ := H
  go_enter Try.func23, Try.ntmps23
  go_wp2_with (first | ((with_reducible refine gate_callee (f := 8) rfl ?_); refine goesL_ (some 7) rfl rfl Try.func8 (by kernel_rfl) rfl #[.slice A0 l0.length c0] rfl (qP2) ?_; (with_reducible refine (impl_ArePassages.calls k _ _ l0 false _ ?s1 ?s2 A3.out).mono ?_); (case s1 => exact (qP28 HR0.out)); (case s2 => exact HC0.out); rintro e w11 ⟨rfl, hb⟩; refine ⟨_, rfl, ?_⟩; replace HB := Aside0.mk (qP57); clear hb))
  go_ret2
  exact ⟨(qP8), (qP0)⟩

end Go.Proofs.Ytffdglecmjbolaa.MP
