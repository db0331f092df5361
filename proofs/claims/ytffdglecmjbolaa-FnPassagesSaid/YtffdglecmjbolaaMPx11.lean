-- Written by a program of this session (wip/drv.py, wip/tight2.py). -- tight2
import Derived.Test.YtffdglecmjbolaaMPx0
import Derived.Test.YtffdglecmjbolaaMPx3
import Derived.Test.YtffdglecmjbolaaMPx5
namespace Go.Proofs.Ytffdglecmjbolaa.MP
open Go.RowKit Go.Proofs.YtffdglecmjbolaaW.PrintWords Go.Proofs.YtffdglecmjbolaaW.PrintLast Go.Proofs.YtffdglecmjbolaaW.PrintMore
set_option maxHeartbeats 8000000
set_option maxRecDepth 100000
attribute [local go_sem] max2_int min2_int max_two min_two max_three min_three max_four min_four   -- for this text's walks alone
set_option linter.unusedVariables false
set_option linter.unusedSimpArgs false

/-! ### impl_Passage_fits: function 38 -/
def impl_Passage_fits.f (a0_0 : Int) (a0_1 : Int) (a0_2 : Int) (a0_3 : Int) (a0_4 : Int) (a1 : Int) (a2 : Int) : Option (Bool) := if (wrap64 (a0_1 + a0_2)) ≥ a1 then (some (decide ((wrap64 (a0_3 + a0_4)) ≥ a2))) else (some false)
theorem impl_Passage_fits.calls (a0_0 : Int) (a0_1 : Int) (a0_2 : Int) (a0_3 : Int) (a0_4 : Int) (a1 : Int) (a2 : Int) (r : Bool) (w : World) (h : impl_Passage_fits.f a0_0 a0_1 a0_2 a0_3 a0_4 a1 a2 = some r) :
  Calls Try.prog 38 #[.agg #[.int .i64 a0_0, .int .i64 a0_1, .int .i64 a0_2, .int .i64 a0_3, .int .i64 a0_4], .int .i64 a1, .int .i64 a2] w fun e w' => e = .returned (.bool r) ∧ Below w.heap.size w w' := by
 have hu60 := Try.underlying60; have HB := Aside0.mk (Below.refl w.heap.size w); have H : (if (wrap64 (a0_1 + a0_2)) ≥ a1 then (some (decide ((wrap64 (a0_3 + a0_4)) ≥ a2))) else (some false)) = some r := h; clear h
 by_cases c4 : (wrap64 (a0_1 + a0_2)) ≥ a1
 ·rw [if_pos c4] at H; have c4b0 : decide (a1 ≤ (wrap64 (a0_1 + a0_2))) = true := decide_eq_true c4; clear c4; obtain rfl := Option.some.inj H
  go_enter Try.func38, Try.ntmps38
  go_wp2_with (first | ((with_reducible refine gate_dst (N := 3) rfl ?_); refine box_event ?hg (N := 3) ?hd (cs := #[.int .i64 a0_0, .int .i64 a0_1, .int .i64 a0_2, .int .i64 a0_3, .int .i64 a0_4]) (t := 60) ?hr ?_; (case hd => rfl); (case hg => rfl); (case hr => exact (qP23)); intro gb415 hg w5 hbox hb; have BK415 := Aside0.mk (hbox); have GW415 := Aside0.mk (qP78); have GE415 := Aside0.mk (qP78); replace HB := Aside0.mk (qP57); clear hb hbox hg; have hcz6_0 : w5.cell? ⟨gb415, 0, none⟩ = some (.int .i64 a0_0) := (blk_cell BK415.out 0).trans rfl; have hcz6_1 : w5.cell? ⟨gb415, 1, none⟩ = some (.int .i64 a0_1) := (blk_cell BK415.out 1).trans rfl; have hcz6_2 : w5.cell? ⟨gb415, 2, none⟩ = some (.int .i64 a0_2) := (blk_cell BK415.out 2).trans rfl; have hcz6_3 : w5.cell? ⟨gb415, 3, none⟩ = some (.int .i64 a0_3) := (blk_cell BK415.out 3).trans rfl; have hcz6_4 : w5.cell? ⟨gb415, 4, none⟩ = some (.int .i64 a0_4) := (blk_cell BK415.out 4).trans rfl; have hfz6_0 := blk_frozen BK415.out 0; have hfz6_1 := blk_frozen BK415.out 1; have hfz6_2 := blk_frozen BK415.out 2; have hfz6_3 := blk_frozen BK415.out 3; have hfz6_4 := blk_frozen BK415.out 4))
  go_ret
  exact ⟨(qP8), (qP5 GE415.out)⟩
 ·rw [if_neg c4] at H; have c4b0 : decide (a1 ≤ (wrap64 (a0_1 + a0_2))) = false := decide_eq_false c4; clear c4; obtain rfl := Option.some.inj H
  go_enter Try.func38, Try.ntmps38
  go_wp2_with (first | ((with_reducible refine gate_dst (N := 3) rfl ?_); refine box_event ?hg (N := 3) ?hd (cs := #[.int .i64 a0_0, .int .i64 a0_1, .int .i64 a0_2, .int .i64 a0_3, .int .i64 a0_4]) (t := 60) ?hr ?_; (case hd => rfl); (case hg => rfl); (case hr => exact (qP23)); intro gb415 hg w7 hbox hb; have BK415 := Aside0.mk (hbox); have GW415 := Aside0.mk (qP78); have GE415 := Aside0.mk (qP78); replace HB := Aside0.mk (qP57); clear hb hbox hg; have hcz8_0 : w7.cell? ⟨gb415, 0, none⟩ = some (.int .i64 a0_0) := (blk_cell BK415.out 0).trans rfl; have hcz8_1 : w7.cell? ⟨gb415, 1, none⟩ = some (.int .i64 a0_1) := (blk_cell BK415.out 1).trans rfl; have hcz8_2 : w7.cell? ⟨gb415, 2, none⟩ = some (.int .i64 a0_2) := (blk_cell BK415.out 2).trans rfl; have hcz8_3 : w7.cell? ⟨gb415, 3, none⟩ = some (.int .i64 a0_3) := (blk_cell BK415.out 3).trans rfl; have hcz8_4 : w7.cell? ⟨gb415, 4, none⟩ = some (.int .i64 a0_4) := (blk_cell BK415.out 4).trans rfl; have hfz8_0 := blk_frozen BK415.out 0; have hfz8_1 := blk_frozen BK415.out 1; have hfz8_2 := blk_frozen BK415.out 2; have hfz8_3 := blk_frozen BK415.out 3; have hfz8_4 := blk_frozen BK415.out 4))
  go_ret
  exact ⟨(qP8), (qP5 GE415.out)⟩

/-! ### impl_FittingStations: function 15 -/
mutual
def impl_FittingStations.j0 : Nat → List (S60) → Int → Int → Bool → Option (List Int × Bool)
 | 0, _, _, _, _ => none
 | k + 1, x0, x1, x2, x21 => if x21 = true then (some (([] : List Int), false)) else (impl_FittingStations.l0 k x1 x2 ([] : List Int) x0 (x0.length : Int) 0)
def impl_FittingStations.l0 : Nat → Int → Int → List Int → List (S60) → Int → Int → Option (List Int × Bool)
 | 0, _, _, _, _, _, _ => none
 | k + 1, x1, x2, x8, x22, x23, x24 => if x24 < x23 then (if 0 ≤ x24 then (if x24 < (x22.length : Int) then ((impl_Passage_fits.f ((rd_T60 x22 x24).f0) ((rd_T60 x22 x24).f1) ((rd_T60 x22 x24).f2) ((rd_T60 x22 x24).f3) ((rd_T60 x22 x24).f4) x1 x2).bind fun t419 => (if t419 = true then (if x8.length < 17592186044416 then (impl_FittingStations.l0 k x1 x2 (x8 ++ [(rd_T60 x22 x24).f0]) x22 x23 (wrap64 (x24 + 1))) else (none)) else (impl_FittingStations.l0 k x1 x2 x8 x22 x23 (wrap64 (x24 + 1))))) else (none)) else (none)) else (some (x8, true))
end
def impl_FittingStations.f (k : Nat) (l0 : List (S60)) (a1 : Int) (a2 : Int) : Option (List Int × Bool) := (impl_ArePassages.f k l0).bind fun t416 => (if t416 = true then (if a1 < 1 then (impl_FittingStations.j0 k l0 a1 a2 true) else (impl_FittingStations.j0 k l0 a1 a2 (decide (a2 < 1)))) else (impl_FittingStations.j0 k l0 a1 a2 true))
theorem impl_FittingStations.mono_l : ∀ k, (∀ y0 y1 y2 y3, LeO (impl_FittingStations.j0 k y0 y1 y2 y3) (impl_FittingStations.j0 (k + 1) y0 y1 y2 y3)) ∧ (∀ y0 y1 y2 y3 y4 y5, LeO (impl_FittingStations.l0 k y0 y1 y2 y3 y4 y5) (impl_FittingStations.l0 (k + 1) y0 y1 y2 y3 y4 y5))
 | 0 => ⟨fun _ _ _ _ r h => by simp [impl_FittingStations.j0] at h, fun _ _ _ _ _ _ r h => by simp [impl_FittingStations.l0] at h⟩
 | k + 1 => by
  obtain ⟨ih0, ih1⟩ := impl_FittingStations.mono_l k
  refine ⟨?_, ?_⟩
  ·intro y0 y1 y2 y3
   unfold impl_FittingStations.j0
   have m0 := @impl_ArePassages.mono
   exact qmono
  ·intro y0 y1 y2 y3 y4 y5
   unfold impl_FittingStations.l0
   have m0 := @impl_ArePassages.mono
   exact qmono
theorem impl_FittingStations.mono : ∀ a0 a1 a2 k, LeO (impl_FittingStations.f k a0 a1 a2) (impl_FittingStations.f (k + 1) a0 a1 a2) := by
 intro a0 a1 a2 k; obtain ⟨ih0, ih1⟩ := impl_FittingStations.mono_l k
 unfold impl_FittingStations.f
 have m0 := @impl_ArePassages.mono
 exact qmono
theorem impl_FittingStations.calls (k : Nat) (A0 : Option Addr) (c0 : Nat) (l0 : List (S60)) (a1 : Int) (a2 : Int) (r1 : List Int) (r2 : Bool) (w : World) (hr0 : Kd.C k60 w A0 l0.length l0) (hc0 : l0.length ≤ c0) (h : impl_FittingStations.f k l0 a1 a2 = some (r1, r2)) :
  Calls Try.prog 15 #[.slice A0 l0.length c0, .int .i64 a1, .int .i64 a2] w fun e w' => ∃ v0_ : Value, e = .returned (.tuple #[v0_, .bool r2]) ∧ Kd.R (Kd.int .i64) 3 w' w.heap.size (fun _ => True) v0_ r1 ∧ Below w.heap.size w w' := by
 have hu60 := Try.underlying60; have HR0 := Aside0.mk hr0; have HC0 := Aside0.mk hc0; clear hr0 hc0; have HB := Aside0.mk (Below.refl w.heap.size w); have H : ((impl_ArePassages.f k l0).bind fun t416 => (if t416 = true then (if a1 < 1 then (impl_FittingStations.j0 k l0 a1 a2 true) else (impl_FittingStations.j0 k l0 a1 a2 (decide (a2 < 1)))) else (impl_FittingStations.j0 k l0 a1 a2 true))) = some (r1, r2) := h; clear h; have HC4 := Aside0.mk H; clear H
 go_enter Try.func15, Try.ntmps15
 go_upto_region 1 with (fail)
 go_cut [21] (fun v21 wc => ∃ (kq : Nat) (x21_3 : Bool), v21 = .bool x21_3 ∧ Aside0 (impl_FittingStations.j0 kq l0 a1 a2 x21_3 = some (r1, r2)) ∧ Aside0 (kq ≤ k) ∧ Aside0 (Below w.heap.size w wc))
 case first =>
  have H := HC4.out; clear HC4; replace H := bindA H; obtain ⟨t416, A5, H⟩ := H; (try dsimp only at H)
  by_cases c6 : t416 = true
  ·subst c6; rw [if_pos rfl] at H
   by_cases c7 : a1 < 1
   ·rw [if_pos c7] at H; have c7b0 : decide (a1 < 1) = true := decide_eq_true c7; clear c7
    (first | rw [c7b0] | (simp only [i64_w, i32_w]; rw [c7b0]) | skip)
    have H' := Aside0.mk H; clear H
    go_wp2_with (first | ((with_reducible refine gate_callee (f := 8) rfl ?_); refine goesL_ (some 12) rfl rfl Try.func8 (by kernel_rfl) rfl #[.slice A0 l0.length c0] rfl (qP2) ?_; (with_reducible refine (impl_ArePassages.calls k _ _ l0 true _ ?s1 ?s2 A5.out).mono ?_); (case s1 => exact (qP13 HR0.out)); (case s2 => exact HC0.out); rintro e w8 ⟨rfl, hb⟩; refine ⟨_, rfl, ?_⟩; replace HB := Aside0.mk (qP57); clear hb))
    go_meet
    case rel => exact ⟨_, (true), (qP14), H', ⟨by first | omega | exact Nat.le_refl _⟩, ⟨(qP0)⟩⟩
   ·rw [if_neg c7] at H; have c7b0 : decide (a1 < 1) = false := decide_eq_false c7; clear c7
    (first | rw [c7b0] | (simp only [i64_w, i32_w]; rw [c7b0]) | skip)
    have H' := Aside0.mk H; clear H
    go_wp2_with (first | ((with_reducible refine gate_callee (f := 8) rfl ?_); refine goesL_ (some 12) rfl rfl Try.func8 (by kernel_rfl) rfl #[.slice A0 l0.length c0] rfl (qP2) ?_; (with_reducible refine (impl_ArePassages.calls k _ _ l0 true _ ?s1 ?s2 A5.out).mono ?_); (case s1 => exact (qP13 HR0.out)); (case s2 => exact HC0.out); rintro e w9 ⟨rfl, hb⟩; refine ⟨_, rfl, ?_⟩; replace HB := Aside0.mk (qP57); clear hb))
    go_meet
    case rel => exact ⟨_, (decide (a2 < 1)), (qP14), H', ⟨by first | omega | exact Nat.le_refl _⟩, ⟨(qP0)⟩⟩
  ·replace c6 := Bool.eq_false_iff.mpr c6; subst c6; rw [if_neg (show ¬ (false = true) by decide)] at H; have H' := Aside0.mk H; clear H
   go_wp2_with (first | ((with_reducible refine gate_callee (f := 8) rfl ?_); refine goesL_ (some 12) rfl rfl Try.func8 (by kernel_rfl) rfl #[.slice A0 l0.length c0] rfl (qP2) ?_; (with_reducible refine (impl_ArePassages.calls k _ _ l0 false _ ?s1 ?s2 A5.out).mono ?_); (case s1 => exact (qP13 HR0.out)); (case s2 => exact HC0.out); rintro e w10 ⟨rfl, hb⟩; refine ⟨_, rfl, ?_⟩; replace HB := Aside0.mk (qP57); clear hb))
   go_meet
   case rel => exact ⟨_, (true), (qP14), H', ⟨by first | omega | exact Nat.le_refl _⟩, ⟨(qP0)⟩⟩
 case rest =>
  clear HC4; (try clear c1); (try clear p2); (try clear c6); (try clear c7); (try clear c7b0); (try clear c8); obtain ⟨kq, x21_3, rfl, HA, HJ3, HB⟩ := hcut
  cases kq with
  | zero => exact absurd HA.out (by simp [impl_FittingStations.j0])
  | succ kj3 =>
   have H := HA.out; clear HA; simp only [impl_FittingStations.j0] at H
   by_cases c11 : x21_3 = true
   ·subst c11; rw [if_pos rfl] at H; simp only [Option.some.injEq, Prod.mk.injEq] at H; obtain ⟨rfl, rfl⟩ := H
    go_wp2
    go_ret2
    exact ⟨_, (qP8), by first | exact Kd.R_nil _ _ _ _ _ | exact Kd.N_nil _ _ _ _ _ | exact Kd.V_nil _ _ _ _ _ | exact Kd.Q_nil _ _ _ _ _ | exact Kd.S_nil _ _ _ _ _, (qP0)⟩
   ·replace c11 := Bool.eq_false_iff.mpr c11; subst c11; rw [if_neg (show ¬ (false = true) by decide)] at H; have H' := Aside0.mk H; clear H
    go_wp2
    go_loopg [8, 24] kj3 (fun kq v8 v24 w' => ∃ (x8_2 : List Int) (x24_2 : Int), v24 = .int .i64 x24_2 ∧ Aside0 (impl_FittingStations.l0 kq a1 a2 x8_2 l0 (l0.length : Int) x24_2 = some (r1, r2)) ∧ Aside0 (kq ≤ kj3) ∧ Aside0 (Kd.R (Kd.int .i64) 3 w' w.heap.size (fun _ => True) v8 x8_2) ∧ Aside0 (Below w.heap.size w w'))
    case atStart => exact ⟨(([] : List Int)), (0), (qP14), H', ⟨Nat.le_refl _⟩, ⟨by first | exact Kd.R_nil _ _ _ _ _ | exact Kd.N_nil _ _ _ _ _ | exact Kd.V_nil _ _ _ _ _ | exact Kd.Q_nil _ _ _ _ _ | exact Kd.S_nil _ _ _ _ _⟩, ⟨(qP0)⟩⟩
    case round =>
     clear H'; (try clear c1); (try clear p2); (try clear c6); (try clear c7); (try clear c7b0); (try clear c8); (try clear c11); (try clear p2); obtain ⟨x8_2, x24_2, rfl, HA, HK2, HO_8, HB⟩ := hrel
     cases gk with
     | zero => exact absurd HA.out (by simp [impl_FittingStations.l0])
     | succ k2 =>
      have H := HA.out; clear HA; simp only [impl_FittingStations.l0] at H
      by_cases c12 : x24_2 < (l0.length : Int)
      ·rw [if_pos c12] at H; have c12b0 : decide (x24_2 < (l0.length : Int)) = true := decide_eq_true c12; clear c12
       by_cases c13 : 0 ≤ x24_2
       ·rw [if_pos c13] at H; have c13b0 : decide (0 ≤ x24_2) = true := decide_eq_true c13; clear c13
        by_cases c14 : x24_2 < (l0.length : Int)
        ·rw [if_pos c14] at H; have c14b0 : decide (x24_2 < (l0.length : Int)) = true := decide_eq_true c14; clear c14; replace H := bindA H; obtain ⟨t419, A15, H⟩ := H; (try dsimp only at H)
         by_cases c16 : t419 = true
         ·subst c16; rw [if_pos rfl] at H
          by_cases c17 : x8_2.length < 17592186044416
          ·rw [if_pos c17] at H; have LMc17 := Aside0.mk c17; clear c17; obtain ⟨y420, hy420⟩ : ∃ y_ : List Int, y_ = (x8_2 ++ [(rd_T60 l0 x24_2).f0]) := ⟨_, rfl⟩; replace H : (impl_FittingStations.l0 k2 a1 a2 y420 l0 (l0.length : Int) (wrap64 (x24_2 + 1))) = some (r1, r2) := (qP10 hy420); have Ny420 := Aside0.mk hy420; clear hy420; have H' := Aside0.mk H; clear H; have p417 : 0 ≤ (x24_2 : Int) := of_decide_eq_true (qP12); have q417 : x24_2 < (l0.length : Int) := of_decide_eq_true (qP12); obtain ⟨ad417, e417, hx417_0, hx417_1, hx417_2, hx417_3, hx417_4⟩ := at_T60 HR0.out x24_2 p417 q417; cases e417; replace hx417_0 := (HB.out.cell (World.block_lt_of_cell? w _ hx417_0)).trans hx417_0; replace hx417_1 := (HB.out.cell (World.block_lt_of_cell? w _ hx417_1)).trans hx417_1; replace hx417_2 := (HB.out.cell (World.block_lt_of_cell? w _ hx417_2)).trans hx417_2; replace hx417_3 := (HB.out.cell (World.block_lt_of_cell? w _ hx417_3)).trans hx417_3; replace hx417_4 := (HB.out.cell (World.block_lt_of_cell? w _ hx417_4)).trans hx417_4; replace p417 := eq_true p417; replace q417 := eq_true q417
           go_wp2_with (first | ((with_reducible refine gate_dst (N := 10) rfl ?_); refine box_event ?hg (N := 10) ?hd (cs := #[.int .i64 0, .int .i64 0, .int .i64 0, .int .i64 0, .int .i64 0]) (t := 60) ?hr ?_; (case hd => rfl); (case hg => rfl); (case hr => exact (qP23)); intro gb418 hg w18 hbox hb; replace HO_8 := Aside0.mk (qP59 HO_8.out); have BK418 := Aside0.mk (hbox); have GW418 := Aside0.mk (qP77); have GE418 := Aside0.mk (qP77); replace HB := Aside0.mk (qP57); clear hb hbox hg; have hcz19_0 : w18.cell? ⟨gb418, 0, none⟩ = some (.int .i64 0) := (blk_cell BK418.out 0).trans rfl; have hcz19_1 : w18.cell? ⟨gb418, 1, none⟩ = some (.int .i64 0) := (blk_cell BK418.out 1).trans rfl; have hcz19_2 : w18.cell? ⟨gb418, 2, none⟩ = some (.int .i64 0) := (blk_cell BK418.out 2).trans rfl; have hcz19_3 : w18.cell? ⟨gb418, 3, none⟩ = some (.int .i64 0) := (blk_cell BK418.out 3).trans rfl; have hcz19_4 : w18.cell? ⟨gb418, 4, none⟩ = some (.int .i64 0) := (blk_cell BK418.out 4).trans rfl; have hfz19_0 := blk_frozen BK418.out 0; have hfz19_1 := blk_frozen BK418.out 1; have hfz19_2 := blk_frozen BK418.out 2; have hfz19_3 := blk_frozen BK418.out 3; have hfz19_4 := blk_frozen BK418.out 4) | ((with_reducible refine gate_callee (f := 38) rfl ?_); refine goesL_ (some 31) rfl rfl Try.func38 (by kernel_rfl) rfl #[.agg #[.int .i64 ((rd_T60 l0 x24_2).f0), .int .i64 ((rd_T60 l0 x24_2).f1), .int .i64 ((rd_T60 l0 x24_2).f2), .int .i64 ((rd_T60 l0 x24_2).f3), .int .i64 ((rd_T60 l0 x24_2).f4)], .int .i64 a1, .int .i64 a2] rfl (qP2) ?_; (with_reducible refine (impl_Passage_fits.calls ((rd_T60 l0 x24_2).f0) ((rd_T60 l0 x24_2).f1) ((rd_T60 l0 x24_2).f2) ((rd_T60 l0 x24_2).f3) ((rd_T60 l0 x24_2).f4) a1 a2 true _ A15.out).mono ?_); rintro e w20 ⟨rfl, hb⟩; refine ⟨_, rfl, ?_⟩; replace HO_8 := Aside0.mk (qP39); replace BK418 := Aside0.mk (blk_below (g := gb418) (o := .cells #[.int .i64 ((rd_T60 l0 x24_2).f0), .int .i64 ((rd_T60 l0 x24_2).f1), .int .i64 ((rd_T60 l0 x24_2).f2), .int .i64 ((rd_T60 l0 x24_2).f3), .int .i64 ((rd_T60 l0 x24_2).f4)] 60 (0, 0)) (qP32) hb); replace HB := Aside0.mk (below_step (qP5 GE418.out) hb); clear hb; have hcz21_0 : w20.cell? ⟨gb418, 0, none⟩ = some (.int .i64 ((rd_T60 l0 x24_2).f0)) := (blk_cell BK418.out 0).trans rfl; have hcz21_1 : w20.cell? ⟨gb418, 1, none⟩ = some (.int .i64 ((rd_T60 l0 x24_2).f1)) := (blk_cell BK418.out 1).trans rfl; have hcz21_2 : w20.cell? ⟨gb418, 2, none⟩ = some (.int .i64 ((rd_T60 l0 x24_2).f2)) := (blk_cell BK418.out 2).trans rfl; have hcz21_3 : w20.cell? ⟨gb418, 3, none⟩ = some (.int .i64 ((rd_T60 l0 x24_2).f3)) := (blk_cell BK418.out 3).trans rfl; have hcz21_4 : w20.cell? ⟨gb418, 4, none⟩ = some (.int .i64 ((rd_T60 l0 x24_2).f4)) := (blk_cell BK418.out 4).trans rfl; have hfz21_0 := blk_frozen BK418.out 0; have hfz21_1 := blk_frozen BK418.out 1; have hfz21_2 := blk_frozen BK418.out 2; have hfz21_3 := blk_frozen BK418.out 3; have hfz21_4 := blk_frozen BK418.out 4) | ((with_reducible refine gate_builtin (b := .append) (xs := #[.tmp 32, .tmp 35]) rfl ?_); at_builtin; refine Kd.R_append (Kd.int .i64) (w0 := w) w.heap.size rfl (.tmp 32) (.tmp 35) 38 3 (.int .i64 0) 8 rfl Try.underlying38 info3 rfl (by decide) (by omega) u8 x8_2 ((rd_T60 l0 x24_2).f0) [.int .i64 ((rd_T60 l0 x24_2).f0)] (fun _ => True) (fun _ => False) rfl rfl ?aP (fun _ hk => hk.elim) ?aF ?aO ?aB ?aS ?aL ?_; (case aP => exact rfl); (case aB => exact (qP5 GE418.out)); (case aF => exact (fun _ _ => trivial)); (case aO => exact (qP1 HO_8.out)); (case aS => exact (by exact (below_size (qP5 GE418.out)))); (case aL => have := LMc17.out; omega); intro v421 w22 ho hb hg hat; rw [← Ny420.out] at ho; replace BK418 := Aside0.mk (blk_grown (g := gb418) (o := .cells #[.int .i64 ((rd_T60 l0 x24_2).f0), .int .i64 ((rd_T60 l0 x24_2).f1), .int .i64 ((rd_T60 l0 x24_2).f2), .int .i64 ((rd_T60 l0 x24_2).f3), .int .i64 ((rd_T60 l0 x24_2).f4)] 60 (0, 0)) (qP9 BK418.out) hg (Kd.R_ne HO_8.out BK418.out (by decide))); replace HB := Aside0.mk (hb); have HO422 := Aside0.mk (ho); clear HO_8; clear ho hb hg hat))
           go_roundg k2
           case measure => have := HJ3.out; have := HK2.out; omega
           case rel => exact ⟨(y420), (wrap64 (x24_2 + 1)), (qP14), H', ⟨by have := HJ3.out; have := HK2.out; omega⟩, ⟨(qP1 HO422.out)⟩, ⟨(qP5 GE418.out)⟩⟩
          ·rw [if_neg c17] at H
           exact absurd H (by simp)
         ·replace c16 := Bool.eq_false_iff.mpr c16; subst c16; rw [if_neg (show ¬ (false = true) by decide)] at H; have H' := Aside0.mk H; clear H; have p417 : 0 ≤ (x24_2 : Int) := of_decide_eq_true (qP12); have q417 : x24_2 < (l0.length : Int) := of_decide_eq_true (qP12); obtain ⟨ad417, e417, hx417_0, hx417_1, hx417_2, hx417_3, hx417_4⟩ := at_T60 HR0.out x24_2 p417 q417; cases e417; replace hx417_0 := (HB.out.cell (World.block_lt_of_cell? w _ hx417_0)).trans hx417_0; replace hx417_1 := (HB.out.cell (World.block_lt_of_cell? w _ hx417_1)).trans hx417_1; replace hx417_2 := (HB.out.cell (World.block_lt_of_cell? w _ hx417_2)).trans hx417_2; replace hx417_3 := (HB.out.cell (World.block_lt_of_cell? w _ hx417_3)).trans hx417_3; replace hx417_4 := (HB.out.cell (World.block_lt_of_cell? w _ hx417_4)).trans hx417_4; replace p417 := eq_true p417; replace q417 := eq_true q417
          go_wp2_with (first | ((with_reducible refine gate_dst (N := 10) rfl ?_); refine box_event ?hg (N := 10) ?hd (cs := #[.int .i64 0, .int .i64 0, .int .i64 0, .int .i64 0, .int .i64 0]) (t := 60) ?hr ?_; (case hd => rfl); (case hg => rfl); (case hr => exact (qP23)); intro gb418 hg w23 hbox hb; replace HO_8 := Aside0.mk (qP59 HO_8.out); have BK418 := Aside0.mk (hbox); have GW418 := Aside0.mk (qP77); have GE418 := Aside0.mk (qP77); replace HB := Aside0.mk (qP57); clear hb hbox hg; have hcz24_0 : w23.cell? ⟨gb418, 0, none⟩ = some (.int .i64 0) := (blk_cell BK418.out 0).trans rfl; have hcz24_1 : w23.cell? ⟨gb418, 1, none⟩ = some (.int .i64 0) := (blk_cell BK418.out 1).trans rfl; have hcz24_2 : w23.cell? ⟨gb418, 2, none⟩ = some (.int .i64 0) := (blk_cell BK418.out 2).trans rfl; have hcz24_3 : w23.cell? ⟨gb418, 3, none⟩ = some (.int .i64 0) := (blk_cell BK418.out 3).trans rfl; have hcz24_4 : w23.cell? ⟨gb418, 4, none⟩ = some (.int .i64 0) := (blk_cell BK418.out 4).trans rfl; have hfz24_0 := blk_frozen BK418.out 0; have hfz24_1 := blk_frozen BK418.out 1; have hfz24_2 := blk_frozen BK418.out 2; have hfz24_3 := blk_frozen BK418.out 3; have hfz24_4 := blk_frozen BK418.out 4) | ((with_reducible refine gate_callee (f := 38) rfl ?_); refine goesL_ (some 31) rfl rfl Try.func38 (by kernel_rfl) rfl #[.agg #[.int .i64 ((rd_T60 l0 x24_2).f0), .int .i64 ((rd_T60 l0 x24_2).f1), .int .i64 ((rd_T60 l0 x24_2).f2), .int .i64 ((rd_T60 l0 x24_2).f3), .int .i64 ((rd_T60 l0 x24_2).f4)], .int .i64 a1, .int .i64 a2] rfl (qP2) ?_; (with_reducible refine (impl_Passage_fits.calls ((rd_T60 l0 x24_2).f0) ((rd_T60 l0 x24_2).f1) ((rd_T60 l0 x24_2).f2) ((rd_T60 l0 x24_2).f3) ((rd_T60 l0 x24_2).f4) a1 a2 false _ A15.out).mono ?_); rintro e w25 ⟨rfl, hb⟩; refine ⟨_, rfl, ?_⟩; replace HO_8 := Aside0.mk (qP39); replace BK418 := Aside0.mk (blk_below (g := gb418) (o := .cells #[.int .i64 ((rd_T60 l0 x24_2).f0), .int .i64 ((rd_T60 l0 x24_2).f1), .int .i64 ((rd_T60 l0 x24_2).f2), .int .i64 ((rd_T60 l0 x24_2).f3), .int .i64 ((rd_T60 l0 x24_2).f4)] 60 (0, 0)) (qP32) hb); replace HB := Aside0.mk (below_step (qP5 GE418.out) hb); clear hb))
          go_roundg k2
          case measure => have := HJ3.out; have := HK2.out; omega
          case rel => exact ⟨(x8_2), (wrap64 (x24_2 + 1)), (qP14), H', ⟨by have := HJ3.out; have := HK2.out; omega⟩, ⟨(qP1 HO_8.out)⟩, ⟨(qP5 GE418.out)⟩⟩
        ·rw [if_neg c14] at H
         exact absurd H (by simp)
       ·rw [if_neg c13] at H
        exact absurd H (by simp)
      ·rw [if_neg c12] at H; have c12b0 : decide (x24_2 < (l0.length : Int)) = false := decide_eq_false c12; clear c12; simp only [Option.some.injEq, Prod.mk.injEq] at H; obtain ⟨rfl, rfl⟩ := H
       go_wp2
       go_ret2
       exact ⟨_, (qP8), (qP1 HO_8.out), (qP0)⟩

/-! ### spec_FittingStations: function 16 -/
mutual
def spec_FittingStations.j0 : Nat → List (S60) → Int → Int → List Int → Bool → Option (List Int × Bool)
 | 0, _, _, _, _, _ => none
 | k + 1, x0, x1, x2, x8, x21 => if x21 = true then (some (x8, false)) else (spec_FittingStations.l0 k x0 x1 x2 x8 0)
def spec_FittingStations.l0 : Nat → List (S60) → Int → Int → List Int → Int → Option (List Int × Bool)
 | 0, _, _, _, _, _ => none
 | k + 1, x0, x1, x2, x8, x9 => if x9 < (x0.length : Int) then (if 0 ≤ x9 then (if (wrap64 (((rd_T60 x0 x9).f1) + ((rd_T60 x0 x9).f2))) ≥ x1 then (if (wrap64 (((rd_T60 x0 x9).f3) + ((rd_T60 x0 x9).f4))) ≥ x2 then (if x8.length < 17592186044416 then (spec_FittingStations.l0 k x0 x1 x2 (x8 ++ [(rd_T60 x0 x9).f0]) (wrap64 (x9 + 1))) else (none)) else (spec_FittingStations.l0 k x0 x1 x2 x8 (wrap64 (x9 + 1)))) else (spec_FittingStations.l0 k x0 x1 x2 x8 (wrap64 (x9 + 1)))) else (none)) else (some (x8, true))
end
def spec_FittingStations.f (k : Nat) (l0 : List (S60)) (a1 : Int) (a2 : Int) : Option (List Int × Bool) := (some (([] : List Int) : List Int)).bind fun y423 => ((spec_l12Good.f k l0).bind fun t426 => (if t426 = true then (if a1 < 1 then (spec_FittingStations.j0 k l0 a1 a2 y423 true) else (spec_FittingStations.j0 k l0 a1 a2 y423 (decide (a2 < 1)))) else (spec_FittingStations.j0 k l0 a1 a2 y423 true)))
theorem spec_FittingStations.mono_l : ∀ k, (∀ y0 y1 y2 y3 y4, LeO (spec_FittingStations.j0 k y0 y1 y2 y3 y4) (spec_FittingStations.j0 (k + 1) y0 y1 y2 y3 y4)) ∧ (∀ y0 y1 y2 y3 y4, LeO (spec_FittingStations.l0 k y0 y1 y2 y3 y4) (spec_FittingStations.l0 (k + 1) y0 y1 y2 y3 y4))
 | 0 => ⟨fun _ _ _ _ _ r h => by simp [spec_FittingStations.j0] at h, fun _ _ _ _ _ r h => by simp [spec_FittingStations.l0] at h⟩
 | k + 1 => by
  obtain ⟨ih0, ih1⟩ := spec_FittingStations.mono_l k
  refine ⟨?_, ?_⟩
  ·intro y0 y1 y2 y3 y4
   unfold spec_FittingStations.j0
   have m0 := @spec_l12Good.mono
   exact qmono
  ·intro y0 y1 y2 y3 y4
   unfold spec_FittingStations.l0
   have m0 := @spec_l12Good.mono
   exact qmono
theorem spec_FittingStations.mono : ∀ a0 a1 a2 k, LeO (spec_FittingStations.f k a0 a1 a2) (spec_FittingStations.f (k + 1) a0 a1 a2) := by
 intro a0 a1 a2 k; obtain ⟨ih0, ih1⟩ := spec_FittingStations.mono_l k
 unfold spec_FittingStations.f
 have m0 := @spec_l12Good.mono
 exact qmono
theorem spec_FittingStations.calls (k : Nat) (A0 : Option Addr) (c0 : Nat) (l0 : List (S60)) (a1 : Int) (a2 : Int) (r1 : List Int) (r2 : Bool) (w : World) (hr0 : Kd.C k60 w A0 l0.length l0) (hc0 : l0.length ≤ c0) (h : spec_FittingStations.f k l0 a1 a2 = some (r1, r2)) :
  Calls Try.prog 16 #[.slice A0 l0.length c0, .int .i64 a1, .int .i64 a2] w fun e w' => ∃ v0_ : Value, e = .returned (.tuple #[v0_, .bool r2]) ∧ Kd.R (Kd.int .i64) 3 w' w.heap.size (fun _ => True) v0_ r1 ∧ Below w.heap.size w w' := by
 have HR0 := Aside0.mk hr0; have HC0 := Aside0.mk hc0; clear hr0 hc0; have HB := Aside0.mk (Below.refl w.heap.size w); have H : ((some (([] : List Int) : List Int)).bind fun y423 => ((spec_l12Good.f k l0).bind fun t426 => (if t426 = true then (if a1 < 1 then (spec_FittingStations.j0 k l0 a1 a2 y423 true) else (spec_FittingStations.j0 k l0 a1 a2 y423 (decide (a2 < 1)))) else (spec_FittingStations.j0 k l0 a1 a2 y423 true)))) = some (r1, r2) := h; clear h; obtain ⟨y423, hy423⟩ : ∃ y_ : List Int, y_ = (([] : List Int)) := ⟨_, rfl⟩; replace H : ((spec_l12Good.f k l0).bind fun t426 => (if t426 = true then (if a1 < 1 then (spec_FittingStations.j0 k l0 a1 a2 y423 true) else (spec_FittingStations.j0 k l0 a1 a2 y423 (decide (a2 < 1)))) else (spec_FittingStations.j0 k l0 a1 a2 y423 true))) = some (r1, r2) := (qP10 hy423); have Ny423 := Aside0.mk hy423; clear hy423; have HC4 := Aside0.mk H; clear H
 go_enter Try.func16, Try.ntmps16
 go_upto_region 2 with (first | ((with_reducible refine gate_dst (N := 10) rfl ?_); refine Kd.R_lit (Kd.int .i64) _ 3 ?hg (N := 10) ?hd (xs := ([] : List Int)) (inner := []) (ok := fun _ => True) (okp := fun _ => True) ?hr ?hp (fun _ hk => hk) trivial (Below.refl _ _) (Nat.le_refl _) (by simp) ?_; (case hd => rfl); (case hg => rfl); (case hr => exact (qP23)); (case hp => exact (Reps.none _ _)); intro v424 w5 ho6 hb hg_ hnew_; clear hg_ hnew_; (first | rw [← Ny423.out] at ho6 | (simp only [Int.reduceToNat] at ho6; rw [← Ny423.out] at ho6)); have HO425 := Aside0.mk (qP71 ho6); replace HB := Aside0.mk (qP57); clear hb ho6))
 repeat (go_quiet (first | ((with_reducible refine gate_dst (N := 10) rfl ?_); refine Kd.R_lit (Kd.int .i64) _ 3 ?hg (N := 10) ?hd (xs := ([] : List Int)) (inner := []) (ok := fun _ => True) (okp := fun _ => True) ?hr ?hp (fun _ hk => hk) trivial (Below.refl _ _) (Nat.le_refl _) (by simp) ?_; (case hd => rfl); (case hg => rfl); (case hr => exact (qP23)); (case hp => exact (Reps.none _ _)); intro v424 w5 ho6 hb hg_ hnew_; clear hg_ hnew_; (first | rw [← Ny423.out] at ho6 | (simp only [Int.reduceToNat] at ho6; rw [← Ny423.out] at ho6)); have HO425 := Aside0.mk (qP71 ho6); replace HB := Aside0.mk (qP57); clear hb ho6)); go_upto_region 2 with (first | ((with_reducible refine gate_dst (N := 10) rfl ?_); refine Kd.R_lit (Kd.int .i64) _ 3 ?hg (N := 10) ?hd (xs := ([] : List Int)) (inner := []) (ok := fun _ => True) (okp := fun _ => True) ?hr ?hp (fun _ hk => hk) trivial (Below.refl _ _) (Nat.le_refl _) (by simp) ?_; (case hd => rfl); (case hg => rfl); (case hr => exact (qP23)); (case hp => exact (Reps.none _ _)); intro v424 w5 ho6 hb hg_ hnew_; clear hg_ hnew_; (first | rw [← Ny423.out] at ho6 | (simp only [Int.reduceToNat] at ho6; rw [← Ny423.out] at ho6)); have HO425 := Aside0.mk (qP71 ho6); replace HB := Aside0.mk (qP57); clear hb ho6)))
 (try simp only [Act.put, List.setIfInBounds_toArray, List.set_cons_zero, List.set_cons_succ])
 go_cut [21] (fun v21 wc => ∃ (kq : Nat) (x21_3 : Bool), v21 = .bool x21_3 ∧ Aside0 (spec_FittingStations.j0 kq l0 a1 a2 y423 x21_3 = some (r1, r2)) ∧ Aside0 (kq ≤ k) ∧ Aside0 (Kd.R (Kd.int .i64) 3 wc w.heap.size (fun _ => True) v424 y423) ∧ Aside0 (Below w.heap.size w wc))
 case first =>
  have H := HC4.out; clear HC4; replace H := bindA H; obtain ⟨t426, A7, H⟩ := H; (try dsimp only at H)
  by_cases c8 : t426 = true
  ·subst c8; rw [if_pos rfl] at H
   by_cases c9 : a1 < 1
   ·rw [if_pos c9] at H; have c9b0 : decide (a1 < 1) = true := decide_eq_true c9; clear c9
    (first | rw [c9b0] | (simp only [i64_w, i32_w]; rw [c9b0]) | skip)
    have H' := Aside0.mk H; clear H
    go_wp2_with (first | (go_at_call 29; (with_reducible refine (spec_l12Good.calls k _ _ l0 true _ ?s1 ?s2 A7.out).mono ?_); (case s1 => exact (qP13 HR0.out)); (case s2 => exact HC0.out); rintro e w10 ⟨rfl, hb⟩; replace HO425 := Aside0.mk (qP59 HO425.out); replace HB := Aside0.mk (qP57); clear hb))
    repeat (go_quiet (first | (go_at_call 29; (with_reducible refine (spec_l12Good.calls k _ _ l0 true _ ?s1 ?s2 A7.out).mono ?_); (case s1 => exact (qP13 HR0.out)); (case s2 => exact HC0.out); rintro e w10 ⟨rfl, hb⟩; replace HO425 := Aside0.mk (qP59 HO425.out); replace HB := Aside0.mk (qP57); clear hb)); try go_wp2_with (first | (go_at_call 29; (with_reducible refine (spec_l12Good.calls k _ _ l0 true _ ?s1 ?s2 A7.out).mono ?_); (case s1 => exact (qP13 HR0.out)); (case s2 => exact HC0.out); rintro e w10 ⟨rfl, hb⟩; replace HO425 := Aside0.mk (qP59 HO425.out); replace HB := Aside0.mk (qP57); clear hb)))
    go_meet
    case rel => exact ⟨_, (true), (qP14), H', ⟨by first | omega | exact Nat.le_refl _⟩, ⟨(qP1 HO425.out)⟩, ⟨(qP0)⟩⟩
   ·rw [if_neg c9] at H; have c9b0 : decide (a1 < 1) = false := decide_eq_false c9; clear c9
    (first | rw [c9b0] | (simp only [i64_w, i32_w]; rw [c9b0]) | skip)
    have H' := Aside0.mk H; clear H
    go_wp2_with (first | (go_at_call 29; (with_reducible refine (spec_l12Good.calls k _ _ l0 true _ ?s1 ?s2 A7.out).mono ?_); (case s1 => exact (qP13 HR0.out)); (case s2 => exact HC0.out); rintro e w11 ⟨rfl, hb⟩; replace HO425 := Aside0.mk (qP59 HO425.out); replace HB := Aside0.mk (qP57); clear hb))
    repeat (go_quiet (first | (go_at_call 29; (with_reducible refine (spec_l12Good.calls k _ _ l0 true _ ?s1 ?s2 A7.out).mono ?_); (case s1 => exact (qP13 HR0.out)); (case s2 => exact HC0.out); rintro e w11 ⟨rfl, hb⟩; replace HO425 := Aside0.mk (qP59 HO425.out); replace HB := Aside0.mk (qP57); clear hb)); try go_wp2_with (first | (go_at_call 29; (with_reducible refine (spec_l12Good.calls k _ _ l0 true _ ?s1 ?s2 A7.out).mono ?_); (case s1 => exact (qP13 HR0.out)); (case s2 => exact HC0.out); rintro e w11 ⟨rfl, hb⟩; replace HO425 := Aside0.mk (qP59 HO425.out); replace HB := Aside0.mk (qP57); clear hb)))
    go_meet
    case rel => exact ⟨_, (decide (a2 < 1)), (qP14), H', ⟨by first | omega | exact Nat.le_refl _⟩, ⟨(qP1 HO425.out)⟩, ⟨(qP0)⟩⟩
  ·replace c8 := Bool.eq_false_iff.mpr c8; subst c8; rw [if_neg (show ¬ (false = true) by decide)] at H; have H' := Aside0.mk H; clear H
   go_wp2_with (first | (go_at_call 29; (with_reducible refine (spec_l12Good.calls k _ _ l0 false _ ?s1 ?s2 A7.out).mono ?_); (case s1 => exact (qP13 HR0.out)); (case s2 => exact HC0.out); rintro e w12 ⟨rfl, hb⟩; replace HO425 := Aside0.mk (qP59 HO425.out); replace HB := Aside0.mk (qP57); clear hb))
   repeat (go_quiet (first | (go_at_call 29; (with_reducible refine (spec_l12Good.calls k _ _ l0 false _ ?s1 ?s2 A7.out).mono ?_); (case s1 => exact (qP13 HR0.out)); (case s2 => exact HC0.out); rintro e w12 ⟨rfl, hb⟩; replace HO425 := Aside0.mk (qP59 HO425.out); replace HB := Aside0.mk (qP57); clear hb)); try go_wp2_with (first | (go_at_call 29; (with_reducible refine (spec_l12Good.calls k _ _ l0 false _ ?s1 ?s2 A7.out).mono ?_); (case s1 => exact (qP13 HR0.out)); (case s2 => exact HC0.out); rintro e w12 ⟨rfl, hb⟩; replace HO425 := Aside0.mk (qP59 HO425.out); replace HB := Aside0.mk (qP57); clear hb)))
   go_meet
   case rel => exact ⟨_, (true), (qP14), H', ⟨by first | omega | exact Nat.le_refl _⟩, ⟨(qP1 HO425.out)⟩, ⟨(qP0)⟩⟩
 case rest =>
  clear HC4; (try clear c1); (try clear p2); (try clear c8); (try clear c9); (try clear c9b0); obtain ⟨kq, x21_3, rfl, HA, HJ3, HO_8, HB⟩ := hcut
  cases kq with
  | zero => exact absurd HA.out (by simp [spec_FittingStations.j0])
  | succ kj3 =>
   have H := HA.out; clear HA; simp only [spec_FittingStations.j0] at H
   by_cases c13 : x21_3 = true
   ·subst c13; rw [if_pos rfl] at H; simp only [Option.some.injEq, Prod.mk.injEq] at H; obtain ⟨rfl, rfl⟩ := H
    go_wp2
    repeat (go_quiet (fail); try go_wp2)
    go_ret2
    exact ⟨_, (qP8), (qP1 HO_8.out), (qP0)⟩
   ·replace c13 := Bool.eq_false_iff.mpr c13; subst c13; rw [if_neg (show ¬ (false = true) by decide)] at H; have H' := Aside0.mk H; clear H
    go_wp2
    repeat (go_quiet (fail); try go_wp2)
    go_loopg [8, 9] kj3 (fun kq v8 v9 w' => ∃ (x8_2 : List Int) (x9_2 : Int), v9 = .int .i64 x9_2 ∧ Aside0 (spec_FittingStations.l0 kq l0 a1 a2 x8_2 x9_2 = some (r1, r2)) ∧ Aside0 (kq ≤ kj3) ∧ Aside0 (Kd.R (Kd.int .i64) 3 w' w.heap.size (fun _ => True) v8 x8_2) ∧ Aside0 (Below w.heap.size w w'))
    case atStart => exact ⟨(y423), (0), (qP14), H', ⟨Nat.le_refl _⟩, ⟨(qP1 HO_8.out)⟩, ⟨(qP0)⟩⟩
    case round =>
     clear H'; (try clear c1); (try clear p2); (try clear c8); (try clear c9); (try clear c9b0); (try clear c13); (try clear p2); obtain ⟨x8_2, x9_2, rfl, HA, HK2, HO_8, HB⟩ := hrel
     cases gk with
     | zero => exact absurd HA.out (by simp [spec_FittingStations.l0])
     | succ k2 =>
      have H := HA.out; clear HA; simp only [spec_FittingStations.l0] at H
      by_cases c14 : x9_2 < (l0.length : Int)
      ·rw [if_pos c14] at H; have c14b0 : decide (x9_2 < (l0.length : Int)) = true := decide_eq_true c14; clear c14
       by_cases c15 : 0 ≤ x9_2
       ·rw [if_pos c15] at H; have c15b0 : decide (0 ≤ x9_2) = true := decide_eq_true c15; clear c15
        by_cases c16 : (wrap64 (((rd_T60 l0 x9_2).f1) + ((rd_T60 l0 x9_2).f2))) ≥ a1
        ·rw [if_pos c16] at H; have c16b0 : decide (a1 ≤ (wrap64 (((rd_T60 l0 x9_2).f1) + ((rd_T60 l0 x9_2).f2)))) = true := decide_eq_true c16; clear c16
         by_cases c17 : (wrap64 (((rd_T60 l0 x9_2).f3) + ((rd_T60 l0 x9_2).f4))) ≥ a2
         ·rw [if_pos c17] at H; have c17b0 : decide (a2 ≤ (wrap64 (((rd_T60 l0 x9_2).f3) + ((rd_T60 l0 x9_2).f4)))) = true := decide_eq_true c17; clear c17
          by_cases c18 : x8_2.length < 17592186044416
          ·rw [if_pos c18] at H; have LMc18 := Aside0.mk c18; clear c18; obtain ⟨y432, hy432⟩ : ∃ y_ : List Int, y_ = (x8_2 ++ [(rd_T60 l0 x9_2).f0]) := ⟨_, rfl⟩; replace H : (spec_FittingStations.l0 k2 l0 a1 a2 y432 (wrap64 (x9_2 + 1))) = some (r1, r2) := (qP10 hy432); have Ny432 := Aside0.mk hy432; clear hy432; have H' := Aside0.mk H; clear H; have p427 : 0 ≤ (x9_2 : Int) := of_decide_eq_true (qP12); have q427 : x9_2 < (l0.length : Int) := of_decide_eq_true (qP12); obtain ⟨ad427, e427, hx427_0, hx427_1, hx427_2, hx427_3, hx427_4⟩ := at_T60 HR0.out x9_2 p427 q427; cases e427; replace hx427_0 := (HB.out.cell (World.block_lt_of_cell? w _ hx427_0)).trans hx427_0; replace hx427_1 := (HB.out.cell (World.block_lt_of_cell? w _ hx427_1)).trans hx427_1; replace hx427_2 := (HB.out.cell (World.block_lt_of_cell? w _ hx427_2)).trans hx427_2; replace hx427_3 := (HB.out.cell (World.block_lt_of_cell? w _ hx427_3)).trans hx427_3; replace hx427_4 := (HB.out.cell (World.block_lt_of_cell? w _ hx427_4)).trans hx427_4; replace p427 := eq_true p427; replace q427 := eq_true q427; have p428 : 0 ≤ (x9_2 : Int) := of_decide_eq_true (qP12); have q428 : x9_2 < (l0.length : Int) := of_decide_eq_true (qP12); obtain ⟨ad428, e428, hx428_0, hx428_1, hx428_2, hx428_3, hx428_4⟩ := at_T60 HR0.out x9_2 p428 q428; obtain rfl : ad427 = ad428 := (by injection e428); replace hx428_0 := (HB.out.cell (World.block_lt_of_cell? w _ hx428_0)).trans hx428_0; replace hx428_1 := (HB.out.cell (World.block_lt_of_cell? w _ hx428_1)).trans hx428_1
           replace hx428_2 := (HB.out.cell (World.block_lt_of_cell? w _ hx428_2)).trans hx428_2; replace hx428_3 := (HB.out.cell (World.block_lt_of_cell? w _ hx428_3)).trans hx428_3; replace hx428_4 := (HB.out.cell (World.block_lt_of_cell? w _ hx428_4)).trans hx428_4; replace p428 := eq_true p428; replace q428 := eq_true q428; have p429 : 0 ≤ (x9_2 : Int) := of_decide_eq_true (qP12); have q429 : x9_2 < (l0.length : Int) := of_decide_eq_true (qP12); obtain ⟨ad429, e429, hx429_0, hx429_1, hx429_2, hx429_3, hx429_4⟩ := at_T60 HR0.out x9_2 p429 q429; obtain rfl : ad427 = ad429 := (by injection e429); replace hx429_0 := (HB.out.cell (World.block_lt_of_cell? w _ hx429_0)).trans hx429_0; replace hx429_1 := (HB.out.cell (World.block_lt_of_cell? w _ hx429_1)).trans hx429_1; replace hx429_2 := (HB.out.cell (World.block_lt_of_cell? w _ hx429_2)).trans hx429_2; replace hx429_3 := (HB.out.cell (World.block_lt_of_cell? w _ hx429_3)).trans hx429_3; replace hx429_4 := (HB.out.cell (World.block_lt_of_cell? w _ hx429_4)).trans hx429_4; replace p429 := eq_true p429; replace q429 := eq_true q429; have p430 : 0 ≤ (x9_2 : Int) := of_decide_eq_true (qP12); have q430 : x9_2 < (l0.length : Int) := of_decide_eq_true (qP12); obtain ⟨ad430, e430, hx430_0, hx430_1, hx430_2, hx430_3, hx430_4⟩ := at_T60 HR0.out x9_2 p430 q430; obtain rfl : ad427 = ad430 := (by injection e430); replace hx430_0 := (HB.out.cell (World.block_lt_of_cell? w _ hx430_0)).trans hx430_0; replace hx430_1 := (HB.out.cell (World.block_lt_of_cell? w _ hx430_1)).trans hx430_1
           replace hx430_2 := (HB.out.cell (World.block_lt_of_cell? w _ hx430_2)).trans hx430_2; replace hx430_3 := (HB.out.cell (World.block_lt_of_cell? w _ hx430_3)).trans hx430_3; replace hx430_4 := (HB.out.cell (World.block_lt_of_cell? w _ hx430_4)).trans hx430_4; replace p430 := eq_true p430; replace q430 := eq_true q430; have p431 : 0 ≤ (x9_2 : Int) := of_decide_eq_true (qP12); have q431 : x9_2 < (l0.length : Int) := of_decide_eq_true (qP12); obtain ⟨ad431, e431, hx431_0, hx431_1, hx431_2, hx431_3, hx431_4⟩ := at_T60 HR0.out x9_2 p431 q431; obtain rfl : ad427 = ad431 := (by injection e431); replace hx431_0 := (HB.out.cell (World.block_lt_of_cell? w _ hx431_0)).trans hx431_0; replace hx431_1 := (HB.out.cell (World.block_lt_of_cell? w _ hx431_1)).trans hx431_1; replace hx431_2 := (HB.out.cell (World.block_lt_of_cell? w _ hx431_2)).trans hx431_2; replace hx431_3 := (HB.out.cell (World.block_lt_of_cell? w _ hx431_3)).trans hx431_3; replace hx431_4 := (HB.out.cell (World.block_lt_of_cell? w _ hx431_4)).trans hx431_4; replace p431 := eq_true p431; replace q431 := eq_true q431
           go_wp2_with (first | ((with_reducible refine gate_builtin (b := .append) (xs := #[.tmp 57, .tmp 63]) rfl ?_); at_builtin; refine Kd.R_append (Kd.int .i64) (w0 := w) w.heap.size rfl (.tmp 57) (.tmp 63) 38 3 (.int .i64 0) 8 rfl Try.underlying38 info3 rfl (by decide) (by omega) u8 x8_2 ((rd_T60 l0 x9_2).f0) [.int .i64 ((rd_T60 l0 x9_2).f0)] (fun _ => True) (fun _ => False) rfl rfl ?aP (fun _ hk => hk.elim) ?aF ?aO ?aB ?aS ?aL ?_; (case aP => exact rfl); (case aB => exact (qP0)); (case aF => exact (fun _ _ => trivial)); (case aO => exact (qP1 HO_8.out)); (case aS => exact (qP86)); (case aL => have := LMc18.out; omega); intro v433 w19 ho hb hg hat; rw [← Ny432.out] at ho; replace HB := Aside0.mk (hb); have HO434 := Aside0.mk (ho); clear HO_8; clear ho hb hg hat))
           repeat (go_quiet (first | ((with_reducible refine gate_builtin (b := .append) (xs := #[.tmp 57, .tmp 63]) rfl ?_); at_builtin; refine Kd.R_append (Kd.int .i64) (w0 := w) w.heap.size rfl (.tmp 57) (.tmp 63) 38 3 (.int .i64 0) 8 rfl Try.underlying38 info3 rfl (by decide) (by omega) u8 x8_2 ((rd_T60 l0 x9_2).f0) [.int .i64 ((rd_T60 l0 x9_2).f0)] (fun _ => True) (fun _ => False) rfl rfl ?aP (fun _ hk => hk.elim) ?aF ?aO ?aB ?aS ?aL ?_; (case aP => exact rfl); (case aB => exact (qP0)); (case aF => exact (fun _ _ => trivial)); (case aO => exact (qP1 HO_8.out)); (case aS => exact (qP86)); (case aL => have := LMc18.out; omega); intro v433 w19 ho hb hg hat; rw [← Ny432.out] at ho; replace HB := Aside0.mk (hb); have HO434 := Aside0.mk (ho); clear HO_8; clear ho hb hg hat)); try go_wp2_with (first | ((with_reducible refine gate_builtin (b := .append) (xs := #[.tmp 57, .tmp 63]) rfl ?_); at_builtin; refine Kd.R_append (Kd.int .i64) (w0 := w) w.heap.size rfl (.tmp 57) (.tmp 63) 38 3 (.int .i64 0) 8 rfl Try.underlying38 info3 rfl (by decide) (by omega) u8 x8_2 ((rd_T60 l0 x9_2).f0) [.int .i64 ((rd_T60 l0 x9_2).f0)] (fun _ => True) (fun _ => False) rfl rfl ?aP (fun _ hk => hk.elim) ?aF ?aO ?aB ?aS ?aL ?_; (case aP => exact rfl); (case aB => exact (qP0)); (case aF => exact (fun _ _ => trivial)); (case aO => exact (qP1 HO_8.out)); (case aS => exact (qP86)); (case aL => have := LMc18.out; omega); intro v433 w19 ho hb hg hat; rw [← Ny432.out] at ho; replace HB := Aside0.mk (hb); have HO434 := Aside0.mk (ho); clear HO_8; clear ho hb hg hat)))
           go_roundg k2
           case measure => have := HJ3.out; have := HK2.out; omega
           case rel => exact ⟨(y432), (wrap64 (x9_2 + 1)), (qP14), H', ⟨by have := HJ3.out; have := HK2.out; omega⟩, ⟨(qP1 HO434.out)⟩, ⟨(qP0)⟩⟩
          ·rw [if_neg c18] at H
           exact absurd H (by simp)
         ·rw [if_neg c17] at H; have c17b0 : decide (a2 ≤ (wrap64 (((rd_T60 l0 x9_2).f3) + ((rd_T60 l0 x9_2).f4)))) = false := decide_eq_false c17; clear c17; have H' := Aside0.mk H; clear H; have p427 : 0 ≤ (x9_2 : Int) := of_decide_eq_true (qP12); have q427 : x9_2 < (l0.length : Int) := of_decide_eq_true (qP12); obtain ⟨ad427, e427, hx427_0, hx427_1, hx427_2, hx427_3, hx427_4⟩ := at_T60 HR0.out x9_2 p427 q427; cases e427; replace hx427_0 := (HB.out.cell (World.block_lt_of_cell? w _ hx427_0)).trans hx427_0; replace hx427_1 := (HB.out.cell (World.block_lt_of_cell? w _ hx427_1)).trans hx427_1; replace hx427_2 := (HB.out.cell (World.block_lt_of_cell? w _ hx427_2)).trans hx427_2; replace hx427_3 := (HB.out.cell (World.block_lt_of_cell? w _ hx427_3)).trans hx427_3; replace hx427_4 := (HB.out.cell (World.block_lt_of_cell? w _ hx427_4)).trans hx427_4; replace p427 := eq_true p427; replace q427 := eq_true q427; have p428 : 0 ≤ (x9_2 : Int) := of_decide_eq_true (qP12); have q428 : x9_2 < (l0.length : Int) := of_decide_eq_true (qP12); obtain ⟨ad428, e428, hx428_0, hx428_1, hx428_2, hx428_3, hx428_4⟩ := at_T60 HR0.out x9_2 p428 q428; obtain rfl : ad427 = ad428 := (by injection e428); replace hx428_0 := (HB.out.cell (World.block_lt_of_cell? w _ hx428_0)).trans hx428_0; replace hx428_1 := (HB.out.cell (World.block_lt_of_cell? w _ hx428_1)).trans hx428_1; replace hx428_2 := (HB.out.cell (World.block_lt_of_cell? w _ hx428_2)).trans hx428_2; replace hx428_3 := (HB.out.cell (World.block_lt_of_cell? w _ hx428_3)).trans hx428_3
          replace hx428_4 := (HB.out.cell (World.block_lt_of_cell? w _ hx428_4)).trans hx428_4; replace p428 := eq_true p428; replace q428 := eq_true q428; have p429 : 0 ≤ (x9_2 : Int) := of_decide_eq_true (qP12); have q429 : x9_2 < (l0.length : Int) := of_decide_eq_true (qP12); obtain ⟨ad429, e429, hx429_0, hx429_1, hx429_2, hx429_3, hx429_4⟩ := at_T60 HR0.out x9_2 p429 q429; obtain rfl : ad427 = ad429 := (by injection e429); replace hx429_0 := (HB.out.cell (World.block_lt_of_cell? w _ hx429_0)).trans hx429_0; replace hx429_1 := (HB.out.cell (World.block_lt_of_cell? w _ hx429_1)).trans hx429_1; replace hx429_2 := (HB.out.cell (World.block_lt_of_cell? w _ hx429_2)).trans hx429_2; replace hx429_3 := (HB.out.cell (World.block_lt_of_cell? w _ hx429_3)).trans hx429_3; replace hx429_4 := (HB.out.cell (World.block_lt_of_cell? w _ hx429_4)).trans hx429_4; replace p429 := eq_true p429; replace q429 := eq_true q429; have p430 : 0 ≤ (x9_2 : Int) := of_decide_eq_true (qP12); have q430 : x9_2 < (l0.length : Int) := of_decide_eq_true (qP12); obtain ⟨ad430, e430, hx430_0, hx430_1, hx430_2, hx430_3, hx430_4⟩ := at_T60 HR0.out x9_2 p430 q430; obtain rfl : ad427 = ad430 := (by injection e430); replace hx430_0 := (HB.out.cell (World.block_lt_of_cell? w _ hx430_0)).trans hx430_0; replace hx430_1 := (HB.out.cell (World.block_lt_of_cell? w _ hx430_1)).trans hx430_1; replace hx430_2 := (HB.out.cell (World.block_lt_of_cell? w _ hx430_2)).trans hx430_2; replace hx430_3 := (HB.out.cell (World.block_lt_of_cell? w _ hx430_3)).trans hx430_3
          replace hx430_4 := (HB.out.cell (World.block_lt_of_cell? w _ hx430_4)).trans hx430_4; replace p430 := eq_true p430; replace q430 := eq_true q430
          go_wp2
          repeat (go_quiet (fail); try go_wp2)
          go_roundg k2
          case measure => have := HJ3.out; have := HK2.out; omega
          case rel => exact ⟨(x8_2), (wrap64 (x9_2 + 1)), (qP14), H', ⟨by have := HJ3.out; have := HK2.out; omega⟩, ⟨(qP1 HO_8.out)⟩, ⟨(qP0)⟩⟩
        ·rw [if_neg c16] at H; have c16b0 : decide (a1 ≤ (wrap64 (((rd_T60 l0 x9_2).f1) + ((rd_T60 l0 x9_2).f2)))) = false := decide_eq_false c16; clear c16; have H' := Aside0.mk H; clear H; have p427 : 0 ≤ (x9_2 : Int) := of_decide_eq_true (qP12); have q427 : x9_2 < (l0.length : Int) := of_decide_eq_true (qP12); obtain ⟨ad427, e427, hx427_0, hx427_1, hx427_2, hx427_3, hx427_4⟩ := at_T60 HR0.out x9_2 p427 q427; cases e427; replace hx427_0 := (HB.out.cell (World.block_lt_of_cell? w _ hx427_0)).trans hx427_0; replace hx427_1 := (HB.out.cell (World.block_lt_of_cell? w _ hx427_1)).trans hx427_1; replace hx427_2 := (HB.out.cell (World.block_lt_of_cell? w _ hx427_2)).trans hx427_2; replace hx427_3 := (HB.out.cell (World.block_lt_of_cell? w _ hx427_3)).trans hx427_3; replace hx427_4 := (HB.out.cell (World.block_lt_of_cell? w _ hx427_4)).trans hx427_4; replace p427 := eq_true p427; replace q427 := eq_true q427; have p428 : 0 ≤ (x9_2 : Int) := of_decide_eq_true (qP12); have q428 : x9_2 < (l0.length : Int) := of_decide_eq_true (qP12); obtain ⟨ad428, e428, hx428_0, hx428_1, hx428_2, hx428_3, hx428_4⟩ := at_T60 HR0.out x9_2 p428 q428; obtain rfl : ad427 = ad428 := (by injection e428); replace hx428_0 := (HB.out.cell (World.block_lt_of_cell? w _ hx428_0)).trans hx428_0; replace hx428_1 := (HB.out.cell (World.block_lt_of_cell? w _ hx428_1)).trans hx428_1; replace hx428_2 := (HB.out.cell (World.block_lt_of_cell? w _ hx428_2)).trans hx428_2; replace hx428_3 := (HB.out.cell (World.block_lt_of_cell? w _ hx428_3)).trans hx428_3
         replace hx428_4 := (HB.out.cell (World.block_lt_of_cell? w _ hx428_4)).trans hx428_4; replace p428 := eq_true p428; replace q428 := eq_true q428
         go_wp2
         repeat (go_quiet (fail); try go_wp2)
         go_roundg k2
         case measure => have := HJ3.out; have := HK2.out; omega
         case rel => exact ⟨(x8_2), (wrap64 (x9_2 + 1)), (qP14), H', ⟨by have := HJ3.out; have := HK2.out; omega⟩, ⟨(qP1 HO_8.out)⟩, ⟨(qP0)⟩⟩
       ·rw [if_neg c15] at H
        exact absurd H (by simp)
      ·rw [if_neg c14] at H; have c14b0 : decide (x9_2 < (l0.length : Int)) = false := decide_eq_false c14; clear c14; simp only [Option.some.injEq, Prod.mk.injEq] at H; obtain ⟨rfl, rfl⟩ := H
       go_wp2
       repeat (go_quiet (fail); try go_wp2)
       go_ret2
       exact ⟨_, (qP8), (qP1 HO_8.out), (qP0)⟩

/-! ### laws_vInts: function 17 -/
def laws_vInts.l0 : Nat → List Int → List Int → Int → Option (Bool)
 | 0, _, _, _ => none
 | k + 1, x0, x1, x5 => if x5 < (x0.length : Int) then (if 0 ≤ x5 then (if x5 < (x1.length : Int) then (if (rd x0 x5) = (rd x1 x5) then (laws_vInts.l0 k x0 x1 (wrap64 (x5 + 1))) else (some false)) else (none)) else (none)) else (some true)
def laws_vInts.f (k : Nat) (l0 : List Int) (l1 : List Int) : Option (Bool) := if (l0.length : Int) = (l1.length : Int) then (laws_vInts.l0 k l0 l1 0) else (some false)
theorem laws_vInts.mono_l : ∀ k, (∀ y0 y1 y2, LeO (laws_vInts.l0 k y0 y1 y2) (laws_vInts.l0 (k + 1) y0 y1 y2))
 | 0 => fun _ _ _ r h => by simp [laws_vInts.l0] at h
 | k + 1 => by
  have ih0 := laws_vInts.mono_l k
  ·intro y0 y1 y2
   unfold laws_vInts.l0
   exact qmono
theorem laws_vInts.mono : ∀ a0 a1 k, LeO (laws_vInts.f k a0 a1) (laws_vInts.f (k + 1) a0 a1) := by
 intro a0 a1 k; have ih0 := laws_vInts.mono_l k
 unfold laws_vInts.f
 exact qmono
theorem laws_vInts.calls (k : Nat) (A0 : Option Addr) (c0 : Nat) (l0 : List Int) (A1 : Option Addr) (c1 : Nat) (l1 : List Int) (r : Bool) (w : World) (hr0 : Kd.C (Kd.int .i64) w A0 l0.length l0) (hc0 : l0.length ≤ c0) (hr1 : Kd.C (Kd.int .i64) w A1 l1.length l1) (hc1 : l1.length ≤ c1) (h : laws_vInts.f k l0 l1 = some r) :
  Calls Try.prog 17 #[.slice A0 l0.length c0, .slice A1 l1.length c1] w fun e w' => e = .returned (.bool r) ∧ Drawn0 w w' := by
 have HR0 := Aside0.mk hr0; have HC0 := Aside0.mk hc0; clear hr0 hc0; have HR1 := Aside0.mk hr1; have HC1 := Aside0.mk hc1; clear hr1 hc1; have H : (if (l0.length : Int) = (l1.length : Int) then (laws_vInts.l0 k l0 l1 0) else (some false)) = some r := h; clear h
 by_cases c3 : (l0.length : Int) = (l1.length : Int)
 ·rw [if_pos c3] at H; have c3b0 : ((l0.length : Int) == (l1.length : Int)) = true := beq_iff_eq.mpr c3; have c3b1 : ((l0.length : Int) != (l1.length : Int)) = false := bne_eq_false_iff_eq.mpr c3
  have c3b2 : (l0.length == l1.length) = true := by first | simpa using c3 | (simp at c3 ⊢; omega)
  clear c3; have H' := Aside0.mk H; clear H
  go_enter Try.func17, Try.ntmps17
  go_wp2
  repeat (go_quiet (fail); try go_wp2)
  go_loopg [5] k (fun kq v5 w' => ∃ (x5_1 : Int), v5 = .int .i64 x5_1 ∧ Aside0 (laws_vInts.l0 kq l0 l1 x5_1 = some r) ∧ Aside0 (kq ≤ k) ∧ Drawn0 w w')
  case atStart => exact ⟨(0), (qP14), H', ⟨Nat.le_refl _⟩, (qP26)⟩
  case round =>
   clear H'; (try clear c1); (try clear p2); (try clear c3); (try clear c3b0); (try clear c3b1); (try clear c3b2); obtain ⟨x5_1, rfl, HA, HK1, ⟨m1, rfl⟩⟩ := hrel
   cases gk with
   | zero => exact absurd HA.out (by simp [laws_vInts.l0])
   | succ k1 =>
    have H := HA.out; clear HA; simp only [laws_vInts.l0] at H
    by_cases c4 : x5_1 < (l0.length : Int)
    ·rw [if_pos c4] at H; have c4b0 : decide (x5_1 < (l0.length : Int)) = true := decide_eq_true c4; clear c4
     by_cases c5 : 0 ≤ x5_1
     ·rw [if_pos c5] at H; have c5b0 : decide (0 ≤ x5_1) = true := decide_eq_true c5; clear c5
      by_cases c6 : x5_1 < (l1.length : Int)
      ·rw [if_pos c6] at H; have c6b0 : decide (x5_1 < (l1.length : Int)) = true := decide_eq_true c6; clear c6
       by_cases c7 : (rd l0 x5_1) = (rd l1 x5_1)
       ·rw [if_pos c7] at H; have c7b0 : ((rd l0 x5_1) == (rd l1 x5_1)) = true := beq_iff_eq.mpr c7; have c7b1 : ((rd l0 x5_1) != (rd l1 x5_1)) = false := bne_eq_false_iff_eq.mpr c7; clear c7; have H' := Aside0.mk H; clear H; have p435 : 0 ≤ (x5_1 : Int) := of_decide_eq_true (qP12); have q435 : x5_1 < (l0.length : Int) := of_decide_eq_true (qP12); obtain ⟨ad435, e435, hx435_0⟩ := Kd.at_int HR0.out x5_1 p435 q435; cases e435; replace p435 := eq_true p435; replace q435 := eq_true q435; have p436 : 0 ≤ (x5_1 : Int) := of_decide_eq_true (qP12); have q436 : x5_1 < (l1.length : Int) := of_decide_eq_true (qP12); obtain ⟨ad436, e436, hx436_0⟩ := Kd.at_int HR1.out x5_1 p436 q436; cases e436; replace p436 := eq_true p436; replace q436 := eq_true q436
        go_wp2
        repeat (go_quiet (fail); try go_wp2)
        go_roundg k1
        case measure => have := HK1.out; omega
        case rel => exact ⟨(wrap64 (x5_1 + 1)), (qP14), H', ⟨by have := HK1.out; omega⟩, (qP26)⟩
       ·rw [if_neg c7] at H; have c7b0 : ((rd l0 x5_1) == (rd l1 x5_1)) = false := beq_eq_false_iff_ne.mpr c7; have c7b1 : ((rd l0 x5_1) != (rd l1 x5_1)) = true := bne_iff_ne.mpr c7; obtain rfl := Option.some.inj H; have p435 : 0 ≤ (x5_1 : Int) := of_decide_eq_true (qP12); have q435 : x5_1 < (l0.length : Int) := of_decide_eq_true (qP12); obtain ⟨ad435, e435, hx435_0⟩ := Kd.at_int HR0.out x5_1 p435 q435; cases e435; replace p435 := eq_true p435; replace q435 := eq_true q435; have p436 : 0 ≤ (x5_1 : Int) := of_decide_eq_true (qP12); have q436 : x5_1 < (l1.length : Int) := of_decide_eq_true (qP12); obtain ⟨ad436, e436, hx436_0⟩ := Kd.at_int HR1.out x5_1 p436 q436; cases e436; replace p436 := eq_true p436; replace q436 := eq_true q436
        go_wp2
        repeat (go_quiet (fail); try go_wp2)
        go_ret
        exact ⟨(qP14), (qP26)⟩
      ·rw [if_neg c6] at H
       exact absurd H (by simp)
     ·rw [if_neg c5] at H
      exact absurd H (by simp)
    ·rw [if_neg c4] at H; have c4b0 : decide (x5_1 < (l0.length : Int)) = false := decide_eq_false c4; clear c4; obtain rfl := Option.some.inj H
     go_wp2
     repeat (go_quiet (fail); try go_wp2)
     go_ret
     exact ⟨(qP14), (qP26)⟩
 ·rw [if_neg c3] at H; have c3b0 : ((l0.length : Int) == (l1.length : Int)) = false := beq_eq_false_iff_ne.mpr c3; have c3b1 : ((l0.length : Int) != (l1.length : Int)) = true := bne_iff_ne.mpr c3
  have c3b2 : (l0.length == l1.length) = false := by first | simpa using c3 | (simp at c3 ⊢; omega)
  obtain rfl := Option.some.inj H
  go_enter Try.func17, Try.ntmps17
  go_wp2
  repeat (go_quiet (fail); try go_wp2)
  go_ret
  exact ⟨(qP14), (qP26)⟩

/-! ### laws_vHas: function 39 -/
def laws_vHas.l0 : Nat → List Int → Int → Int → Option (Bool)
 | 0, _, _, _ => none
 | k + 1, x0, x1, x5 => if x5 < (x0.length : Int) then (if 0 ≤ x5 then (if (rd x0 x5) = x1 then (some true) else (laws_vHas.l0 k x0 x1 (wrap64 (x5 + 1)))) else (none)) else (some false)
def laws_vHas.f (k : Nat) (l0 : List Int) (a1 : Int) : Option (Bool) := laws_vHas.l0 k l0 a1 0
theorem laws_vHas.mono_l : ∀ k, (∀ y0 y1 y2, LeO (laws_vHas.l0 k y0 y1 y2) (laws_vHas.l0 (k + 1) y0 y1 y2))
 | 0 => fun _ _ _ r h => by simp [laws_vHas.l0] at h
 | k + 1 => by
  have ih0 := laws_vHas.mono_l k
  ·intro y0 y1 y2
   unfold laws_vHas.l0
   exact qmono
theorem laws_vHas.mono : ∀ a0 a1 k, LeO (laws_vHas.f k a0 a1) (laws_vHas.f (k + 1) a0 a1) := by
 intro a0 a1 k; have ih0 := laws_vHas.mono_l k
 unfold laws_vHas.f
 exact qmono
theorem laws_vHas.calls (k : Nat) (A0 : Option Addr) (c0 : Nat) (l0 : List Int) (a1 : Int) (r : Bool) (w : World) (hr0 : Kd.C (Kd.int .i64) w A0 l0.length l0) (hc0 : l0.length ≤ c0) (h : laws_vHas.f k l0 a1 = some r) :
  Calls Try.prog 39 #[.slice A0 l0.length c0, .int .i64 a1] w fun e w' => e = .returned (.bool r) ∧ Drawn0 w w' := by
 have HR0 := Aside0.mk hr0; have HC0 := Aside0.mk hc0; clear hr0 hc0; have H : (laws_vHas.l0 k l0 a1 0) = some r := h; clear h; have H' := Aside0.mk H; clear H
 go_enter Try.func39, Try.ntmps39
 go_wp2
 go_loopg [5] k (fun kq v5 w' => ∃ (x5_1 : Int), v5 = .int .i64 x5_1 ∧ Aside0 (laws_vHas.l0 kq l0 a1 x5_1 = some r) ∧ Aside0 (kq ≤ k) ∧ Drawn0 w w')
 case atStart => exact ⟨(0), (qP14), H', ⟨Nat.le_refl _⟩, (qP26)⟩
 case round =>
  clear H'; (try clear p2); obtain ⟨x5_1, rfl, HA, HK1, ⟨m1, rfl⟩⟩ := hrel
  cases gk with
  | zero => exact absurd HA.out (by simp [laws_vHas.l0])
  | succ k1 =>
   have H := HA.out; clear HA; simp only [laws_vHas.l0] at H
   by_cases c3 : x5_1 < (l0.length : Int)
   ·rw [if_pos c3] at H; have c3b0 : decide (x5_1 < (l0.length : Int)) = true := decide_eq_true c3; clear c3
    by_cases c4 : 0 ≤ x5_1
    ·rw [if_pos c4] at H; have c4b0 : decide (0 ≤ x5_1) = true := decide_eq_true c4; clear c4
     by_cases c5 : (rd l0 x5_1) = a1
     ·rw [if_pos c5] at H; have c5b0 : ((rd l0 x5_1) == a1) = true := beq_iff_eq.mpr c5; have c5b1 : ((rd l0 x5_1) != a1) = false := bne_eq_false_iff_eq.mpr c5; clear c5; obtain rfl := Option.some.inj H; have p437 : 0 ≤ (x5_1 : Int) := of_decide_eq_true (qP12); have q437 : x5_1 < (l0.length : Int) := of_decide_eq_true (qP12); obtain ⟨ad437, e437, hx437_0⟩ := Kd.at_int HR0.out x5_1 p437 q437; cases e437; replace p437 := eq_true p437; replace q437 := eq_true q437
      go_wp2
      go_ret
      exact ⟨(qP14), (qP26)⟩
     ·rw [if_neg c5] at H; have c5b0 : ((rd l0 x5_1) == a1) = false := beq_eq_false_iff_ne.mpr c5; have c5b1 : ((rd l0 x5_1) != a1) = true := bne_iff_ne.mpr c5; have H' := Aside0.mk H; clear H; have p437 : 0 ≤ (x5_1 : Int) := of_decide_eq_true (qP12); have q437 : x5_1 < (l0.length : Int) := of_decide_eq_true (qP12); obtain ⟨ad437, e437, hx437_0⟩ := Kd.at_int HR0.out x5_1 p437 q437; cases e437; replace p437 := eq_true p437; replace q437 := eq_true q437
      go_wp2
      go_roundg k1
      case measure => have := HK1.out; omega
      case rel => exact ⟨(wrap64 (x5_1 + 1)), (qP14), H', ⟨by have := HK1.out; omega⟩, (qP26)⟩
    ·rw [if_neg c4] at H
     exact absurd H (by simp)
   ·rw [if_neg c3] at H; have c3b0 : decide (x5_1 < (l0.length : Int)) = false := decide_eq_false c3; clear c3; obtain rfl := Option.some.inj H
    go_wp2
    go_ret
    exact ⟨(qP14), (qP26)⟩

/-! ### laws_vWithin: function 18 -/
def laws_vWithin.l0 : Nat → List Int → List Int → Int → Option (Bool)
 | 0, _, _, _ => none
 | k + 1, x0, x1, x5 => if x5 < (x0.length : Int) then (if 0 ≤ x5 then ((laws_vHas.f k x1 (rd x0 x5)).bind fun t439 => (if t439 = true then (laws_vWithin.l0 k x0 x1 (wrap64 (x5 + 1))) else (some false))) else (none)) else (some true)
def laws_vWithin.f (k : Nat) (l0 : List Int) (l1 : List Int) : Option (Bool) := laws_vWithin.l0 k l0 l1 0
theorem laws_vWithin.mono_l : ∀ k, (∀ y0 y1 y2, LeO (laws_vWithin.l0 k y0 y1 y2) (laws_vWithin.l0 (k + 1) y0 y1 y2))
 | 0 => fun _ _ _ r h => by simp [laws_vWithin.l0] at h
 | k + 1 => by
  have ih0 := laws_vWithin.mono_l k
  ·intro y0 y1 y2
   unfold laws_vWithin.l0
   have m0 := @laws_vHas.mono
   exact qmono
theorem laws_vWithin.mono : ∀ a0 a1 k, LeO (laws_vWithin.f k a0 a1) (laws_vWithin.f (k + 1) a0 a1) := by
 intro a0 a1 k; have ih0 := laws_vWithin.mono_l k
 unfold laws_vWithin.f
 have m0 := @laws_vHas.mono
 exact qmono
theorem laws_vWithin.calls (k : Nat) (A0 : Option Addr) (c0 : Nat) (l0 : List Int) (A1 : Option Addr) (c1 : Nat) (l1 : List Int) (r : Bool) (w : World) (hr0 : Kd.C (Kd.int .i64) w A0 l0.length l0) (hc0 : l0.length ≤ c0) (hr1 : Kd.C (Kd.int .i64) w A1 l1.length l1) (hc1 : l1.length ≤ c1) (h : laws_vWithin.f k l0 l1 = some r) :
  Calls Try.prog 18 #[.slice A0 l0.length c0, .slice A1 l1.length c1] w fun e w' => e = .returned (.bool r) ∧ Drawn0 w w' := by
 have HR0 := Aside0.mk hr0; have HC0 := Aside0.mk hc0; clear hr0 hc0; have HR1 := Aside0.mk hr1; have HC1 := Aside0.mk hc1; clear hr1 hc1; have H : (laws_vWithin.l0 k l0 l1 0) = some r := h; clear h; have H' := Aside0.mk H; clear H
 go_enter Try.func18, Try.ntmps18
 go_wp2
 go_loopg [5] k (fun kq v5 w' => ∃ (x5_1 : Int), v5 = .int .i64 x5_1 ∧ Aside0 (laws_vWithin.l0 kq l0 l1 x5_1 = some r) ∧ Aside0 (kq ≤ k) ∧ Drawn0 w w')
 case atStart => exact ⟨(0), (qP14), H', ⟨Nat.le_refl _⟩, (qP26)⟩
 case round =>
  clear H'; (try clear c1); (try clear p2); obtain ⟨x5_1, rfl, HA, HK1, ⟨m1, rfl⟩⟩ := hrel
  cases gk with
  | zero => exact absurd HA.out (by simp [laws_vWithin.l0])
  | succ k1 =>
   have H := HA.out; clear HA; simp only [laws_vWithin.l0] at H
   by_cases c3 : x5_1 < (l0.length : Int)
   ·rw [if_pos c3] at H; have c3b0 : decide (x5_1 < (l0.length : Int)) = true := decide_eq_true c3; clear c3
    by_cases c4 : 0 ≤ x5_1
    ·rw [if_pos c4] at H; have c4b0 : decide (0 ≤ x5_1) = true := decide_eq_true c4; clear c4; replace H := bindA H; obtain ⟨t439, A5, H⟩ := H; (try dsimp only at H)
     by_cases c6 : t439 = true
     ·subst c6; rw [if_pos rfl] at H; have H' := Aside0.mk H; clear H; have p438 : 0 ≤ (x5_1 : Int) := of_decide_eq_true (qP12); have q438 : x5_1 < (l0.length : Int) := of_decide_eq_true (qP12); obtain ⟨ad438, e438, hx438_0⟩ := Kd.at_int HR0.out x5_1 p438 q438; cases e438; replace p438 := eq_true p438; replace q438 := eq_true q438
      go_wp2_with (first | ((with_reducible refine gate_callee (f := 39) rfl ?_); refine goesL_ (some 17) rfl rfl Try.func39 (by kernel_rfl) rfl #[.slice A1 l1.length c1, .int .i64 (rd l0 x5_1)] rfl (qP2) ?_; (with_reducible refine (laws_vHas.calls k1 _ _ l1 (rd l0 x5_1) true _ ?s1 ?s2 A5.out).mono ?_); (case s1 => exact (qP28 HR1.out)); (case s2 => exact HC1.out); rintro e w' ⟨rfl, ⟨nd, rfl⟩⟩; refine ⟨_, rfl, ?_⟩))
      go_roundg k1
      case measure => have := HK1.out; omega
      case rel => exact ⟨(wrap64 (x5_1 + 1)), (qP14), H', ⟨by have := HK1.out; omega⟩, (qP26)⟩
     ·replace c6 := Bool.eq_false_iff.mpr c6; subst c6; rw [if_neg (show ¬ (false = true) by decide)] at H; obtain rfl := Option.some.inj H; have p438 : 0 ≤ (x5_1 : Int) := of_decide_eq_true (qP12); have q438 : x5_1 < (l0.length : Int) := of_decide_eq_true (qP12); obtain ⟨ad438, e438, hx438_0⟩ := Kd.at_int HR0.out x5_1 p438 q438; cases e438; replace p438 := eq_true p438; replace q438 := eq_true q438
      go_wp2_with (first | ((with_reducible refine gate_callee (f := 39) rfl ?_); refine goesL_ (some 17) rfl rfl Try.func39 (by kernel_rfl) rfl #[.slice A1 l1.length c1, .int .i64 (rd l0 x5_1)] rfl (qP2) ?_; (with_reducible refine (laws_vHas.calls k1 _ _ l1 (rd l0 x5_1) false _ ?s1 ?s2 A5.out).mono ?_); (case s1 => exact (qP28 HR1.out)); (case s2 => exact HC1.out); rintro e w' ⟨rfl, ⟨nd, rfl⟩⟩; refine ⟨_, rfl, ?_⟩))
      go_ret
      exact ⟨(qP14), (qP26)⟩
    ·rw [if_neg c4] at H
     exact absurd H (by simp)
   ·rw [if_neg c3] at H; have c3b0 : decide (x5_1 < (l0.length : Int)) = false := decide_eq_false c3; clear c3; obtain rfl := Option.some.inj H
    go_wp2
    go_ret
    exact ⟨(qP14), (qP26)⟩

end Go.Proofs.Ytffdglecmjbolaa.MP
