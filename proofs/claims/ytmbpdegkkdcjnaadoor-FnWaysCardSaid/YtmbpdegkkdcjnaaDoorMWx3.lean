-- Written by a program of this session (wip/drv.py, wip/tight2.py). -- tight2
import Derived.Test.YtmbpdegkkdcjnaaDoorMWx0
import Derived.Test.YtmbpdegkkdcjnaaDoorMWx1
namespace Go.Proofs.YtmbpdegkkdcjnaaDoor.MW
open Go.RowKit Go.Proofs.YtmbpdegkkdcjnaaDoorW.PrintWords Go.Proofs.YtmbpdegkkdcjnaaDoorW.PrintLast Go.Proofs.YtmbpdegkkdcjnaaDoorW.PrintMore
set_option maxHeartbeats 8000000
set_option maxRecDepth 100000
attribute [local go_sem] max2_int min2_int max_two min_two max_three min_three max_four min_four   -- for this text's walks alone
set_option linter.unusedVariables false
set_option linter.unusedSimpArgs false

attribute [local go_sem high] eqA44
/-! ### impl_within: function 25 -/
def impl_within.f (a0 : Int) (a1 : Int) (a2 : Int) : Option (Bool) := if a0 ≥ a1 then (some (decide (a0 ≤ a2))) else (some false)
theorem impl_within.calls (a0 : Int) (a1 : Int) (a2 : Int) (r : Bool) (w : World) (h : impl_within.f a0 a1 a2 = some r) :
  Calls Tryd.prog 25 #[.int .i64 a0, .int .i64 a1, .int .i64 a2] w fun e w' => e = .returned (.bool r) ∧ Drawn0 w w' := by
 have H : (if a0 ≥ a1 then (some (decide (a0 ≤ a2))) else (some false)) = some r := h
 clear h
 by_cases c4 : a0 ≥ a1
 ·rw [if_pos c4] at H
  have c4b0 : decide (a1 ≤ a0) = true := decide_eq_true c4
  clear c4; obtain rfl := Option.some.inj H
  go_enter Tryd.func25, Tryd.ntmps25
  go_wp2
  go_ret
  exact ⟨(qW14), (qW32)⟩
 ·rw [if_neg c4] at H
  have c4b0 : decide (a1 ≤ a0) = false := decide_eq_false c4
  clear c4; obtain rfl := Option.some.inj H
  go_enter Tryd.func25, Tryd.ntmps25
  go_wp2
  go_ret
  exact ⟨(qW14), (qW32)⟩

/-! ### impl_IsWay: function 9 -/
def impl_IsWay.l0 : Nat → List (S44) → List (S44) → Int → Int → Option (Bool)
 | 0, _, _, _, _ => none
 | k + 1, x0, x5, x6, x7 => if x7 < x6 then (if 0 ≤ x7 then (if x7 < (x5.length : Int) then ((impl_within.f ((rd_T44 x5 x7).f0) 0 500).bind fun t187 => (if t187 = true then ((impl_within.f ((rd_T44 x5 x7).f1) (-500) 500).bind fun t188 => (if t188 = true then (if (((rd_T44 x5 x7).f0) == 0 && (((rd_T44 x5 x7).f1) == 0)) = true then (some false) else (impl_IsWay.l0 k x0 x5 x6 (wrap64 (x7 + 1)))) else (some false))) else (some false))) else (none)) else (none)) else (some (decide ((x0.length : Int) ≤ 12)))
def impl_IsWay.f (k : Nat) (l0 : List (S44)) : Option (Bool) := impl_IsWay.l0 k l0 l0 (l0.length : Int) 0
theorem impl_IsWay.mono_l : ∀ k, (∀ y0 y1 y2 y3, LeO (impl_IsWay.l0 k y0 y1 y2 y3) (impl_IsWay.l0 (k + 1) y0 y1 y2 y3))
 | 0 => fun _ _ _ _ r h => by simp [impl_IsWay.l0] at h
 | k + 1 => by
  have ih0 := impl_IsWay.mono_l k
  ·intro y0 y1 y2 y3
   unfold impl_IsWay.l0
   exact qmono
theorem impl_IsWay.mono : ∀ a0 k, LeO (impl_IsWay.f k a0) (impl_IsWay.f (k + 1) a0) := by
 intro a0 k
 have ih0 := impl_IsWay.mono_l k
 unfold impl_IsWay.f
 exact qmono
theorem impl_IsWay.calls (k : Nat) (A0 : Option Addr) (c0 : Nat) (l0 : List (S44)) (r : Bool) (w : World) (hr0 : Kd.C k44 w A0 l0.length l0) (hc0 : l0.length ≤ c0) (h : impl_IsWay.f k l0 = some r) :
  Calls Tryd.prog 9 #[.slice A0 l0.length c0] w fun e w' => e = .returned (.bool r) ∧ Below w.heap.size w w' := by
 have hu44 := Tryd.underlying44
 have HR0 := Aside0.mk hr0; have HC0 := Aside0.mk hc0; clear hr0 hc0
 have HB := Aside0.mk (Below.refl w.heap.size w)
 have H : (impl_IsWay.l0 k l0 l0 (l0.length : Int) 0) = some r := h
 clear h
 have H' := Aside0.mk H
 clear H
 go_enter Tryd.func9, Tryd.ntmps9
 go_wp2
 go_loopg [7] k (fun kq v7 w' => ∃ (x7_1 : Int), v7 = .int .i64 x7_1 ∧ Aside0 (impl_IsWay.l0 kq l0 l0 (l0.length : Int) x7_1 = some r) ∧ Aside0 (kq ≤ k) ∧ Aside0 (Below w.heap.size w w'))
 case atStart => exact ⟨(0), (qW14), H', ⟨Nat.le_refl _⟩, ⟨(qW0)⟩⟩
 case round =>
  clear H'
  obtain ⟨x7_1, rfl, HA, HK1, HB⟩ := hrel
  cases gk with
  | zero => exact absurd HA.out (by simp [impl_IsWay.l0])
  | succ k1 =>
   have H := HA.out
   clear HA
   simp only [impl_IsWay.l0] at H
   by_cases c2 : x7_1 < (l0.length : Int)
   ·rw [if_pos c2] at H
    have c2b0 : decide (x7_1 < (l0.length : Int)) = true := decide_eq_true c2
    clear c2
    by_cases c3 : 0 ≤ x7_1
    ·rw [if_pos c3] at H
     have c3b0 : decide (0 ≤ x7_1) = true := decide_eq_true c3
     clear c3
     by_cases c4 : x7_1 < (l0.length : Int)
     ·rw [if_pos c4] at H
      have c4b0 : decide (x7_1 < (l0.length : Int)) = true := decide_eq_true c4
      clear c4; replace H := Option.bind_eq_some_iff.mp H; obtain ⟨t187, A50, H⟩ := H
      try dsimp only at H
      have A5 := Aside0.mk A50; clear A50
      by_cases c6 : t187 = true
      ·subst c6; rw [if_pos rfl] at H; replace H := Option.bind_eq_some_iff.mp H; obtain ⟨t188, A70, H⟩ := H
       try dsimp only at H
       have A7 := Aside0.mk A70; clear A70
       by_cases c8 : t188 = true
       ·subst c8; rw [if_pos rfl] at H
        by_cases c9 : (((rd_T44 l0 x7_1).f0) == 0 && (((rd_T44 l0 x7_1).f1) == 0)) = true
        ·rw [if_pos c9] at H
         have c9b0 : (((rd_T44 l0 x7_1).f0) == 0 && (((rd_T44 l0 x7_1).f1) == 0)) = true := c9
         (try (have c9b1 : decide (((rd_T44 l0 x7_1).f0) = 0 && (((rd_T44 l0 x7_1).f1) == 0)) = true := by simpa using c9))
         (try (have c9b2 : (((rd_T44 l0 x7_1).f0) == 0 && (((rd_T44 l0 x7_1).f1) == 0)) = true := by simpa using c9))
         clear c9; obtain rfl := Option.some.inj H
         have p185 : 0 ≤ (x7_1 : Int) := of_decide_eq_true (qW13)
         have q185 : x7_1 < (l0.length : Int) := of_decide_eq_true (qW13)
         obtain ⟨ad185, e185, hx185_0, hx185_1⟩ := at_T44 HR0.out x7_1 p185 q185
         cases e185
         replace hx185_0 := (HB.out.cell (World.block_lt_of_cell? w _ hx185_0)).trans hx185_0
         replace hx185_1 := (HB.out.cell (World.block_lt_of_cell? w _ hx185_1)).trans hx185_1
         replace p185 := eq_true p185
         replace q185 := eq_true q185
         go_wp2_with (first | ((with_reducible refine gate_dst (N := 4) rfl ?_); refine box_event ?hg (N := 4) ?hd (cs := #[.int .i64 0, .int .i64 0]) (t := 44) ?hr ?_; (case hd => rfl); (case hg => rfl); (case hr => exact (qW22)); intro gb186 hg w10 hbox hb; have BK186 := Aside0.mk (hbox); have GW186 := Aside0.mk ((by rw [hg]; exact (below_size (qW0)) : w.heap.size ≤ gb186)); have GE186 := Aside0.mk ((by rw [hg]; exact (below_size (qW0)) : w.heap.size ≤ gb186)); replace HB := Aside0.mk (below_step (qW0) hb); clear hb hbox hg; have hcz11_0 : w10.cell? ⟨gb186, 0, none⟩ = some (.int .i64 0) := (blk_cell BK186.out 0).trans rfl; have hcz11_1 : w10.cell? ⟨gb186, 1, none⟩ = some (.int .i64 0) := (blk_cell BK186.out 1).trans rfl; have hfz11_0 := blk_frozen BK186.out 0; have hfz11_1 := blk_frozen BK186.out 1) | ((with_reducible refine gate_callee (f := 25) rfl ?_); refine goesL_ (some 13) rfl rfl Tryd.func25 (by kernel_rfl) rfl #[.int .i64 ((rd_T44 l0 x7_1).f0), .int .i64 0, .int .i64 500] rfl (qW1) ?_; (with_reducible refine (impl_within.calls ((rd_T44 l0 x7_1).f0) 0 500 true _ A5.out).mono ?_); rintro e w' ⟨rfl, ⟨nd, rfl⟩⟩; refine ⟨_, rfl, ?_⟩) | (go_at_call 25; (with_reducible refine (impl_within.calls ((rd_T44 l0 x7_1).f1) (-500) 500 true _ A7.out).mono ?_); rintro e w' ⟨rfl, ⟨nd, rfl⟩⟩))
         go_ret
         exact ⟨(qW9), (qW10 GE186.out)⟩
        ·rw [if_neg c9] at H
         have c9b0 : (((rd_T44 l0 x7_1).f0) == 0 && (((rd_T44 l0 x7_1).f1) == 0)) = false := by simpa using c9
         (try (have c9b1 : decide (((rd_T44 l0 x7_1).f0) = 0 && (((rd_T44 l0 x7_1).f1) == 0)) = false := by simpa using c9))
         (try (have c9b2 : (((rd_T44 l0 x7_1).f0) == 0 && (((rd_T44 l0 x7_1).f1) == 0)) = false := by simpa using c9))
         (try (have c9b3 : ¬ (((rd_T44 l0 x7_1).f0) = 0 && (((rd_T44 l0 x7_1).f1) == 0)) := by simpa using c9))
         clear c9
         have H' := Aside0.mk H
         clear H
         have p185 : 0 ≤ (x7_1 : Int) := of_decide_eq_true (qW13)
         have q185 : x7_1 < (l0.length : Int) := of_decide_eq_true (qW13)
         obtain ⟨ad185, e185, hx185_0, hx185_1⟩ := at_T44 HR0.out x7_1 p185 q185
         cases e185
         replace hx185_0 := (HB.out.cell (World.block_lt_of_cell? w _ hx185_0)).trans hx185_0
         replace hx185_1 := (HB.out.cell (World.block_lt_of_cell? w _ hx185_1)).trans hx185_1
         replace p185 := eq_true p185
         replace q185 := eq_true q185
         go_wp2_with (first | ((with_reducible refine gate_dst (N := 4) rfl ?_); refine box_event ?hg (N := 4) ?hd (cs := #[.int .i64 0, .int .i64 0]) (t := 44) ?hr ?_; (case hd => rfl); (case hg => rfl); (case hr => exact (qW22)); intro gb186 hg w12 hbox hb; have BK186 := Aside0.mk (hbox); have GW186 := Aside0.mk ((by rw [hg]; exact (below_size (qW0)) : w.heap.size ≤ gb186)); have GE186 := Aside0.mk ((by rw [hg]; exact (below_size (qW0)) : w.heap.size ≤ gb186)); replace HB := Aside0.mk (below_step (qW0) hb); clear hb hbox hg; have hcz13_0 : w12.cell? ⟨gb186, 0, none⟩ = some (.int .i64 0) := (blk_cell BK186.out 0).trans rfl; have hcz13_1 : w12.cell? ⟨gb186, 1, none⟩ = some (.int .i64 0) := (blk_cell BK186.out 1).trans rfl; have hfz13_0 := blk_frozen BK186.out 0; have hfz13_1 := blk_frozen BK186.out 1) | ((with_reducible refine gate_callee (f := 25) rfl ?_); refine goesL_ (some 13) rfl rfl Tryd.func25 (by kernel_rfl) rfl #[.int .i64 ((rd_T44 l0 x7_1).f0), .int .i64 0, .int .i64 500] rfl (qW1) ?_; (with_reducible refine (impl_within.calls ((rd_T44 l0 x7_1).f0) 0 500 true _ A5.out).mono ?_); rintro e w' ⟨rfl, ⟨nd, rfl⟩⟩; refine ⟨_, rfl, ?_⟩) | (go_at_call 25; (with_reducible refine (impl_within.calls ((rd_T44 l0 x7_1).f1) (-500) 500 true _ A7.out).mono ?_); rintro e w' ⟨rfl, ⟨nd, rfl⟩⟩))
         go_roundg k1
         case measure => have := HK1.out; omega
         case rel => exact ⟨(wrap64 (x7_1 + 1)), (qW14), H', ⟨by have := HK1.out; omega⟩, ⟨(qW10 GE186.out)⟩⟩
       ·replace c8 := Bool.eq_false_iff.mpr c8
        subst c8
        rw [if_neg (show ¬ (false = true) by decide)] at H
        obtain rfl := Option.some.inj H
        have p185 : 0 ≤ (x7_1 : Int) := of_decide_eq_true (qW13)
        have q185 : x7_1 < (l0.length : Int) := of_decide_eq_true (qW13)
        obtain ⟨ad185, e185, hx185_0, hx185_1⟩ := at_T44 HR0.out x7_1 p185 q185
        cases e185
        replace hx185_0 := (HB.out.cell (World.block_lt_of_cell? w _ hx185_0)).trans hx185_0
        replace hx185_1 := (HB.out.cell (World.block_lt_of_cell? w _ hx185_1)).trans hx185_1
        replace p185 := eq_true p185
        replace q185 := eq_true q185
        go_wp2_with (first | ((with_reducible refine gate_dst (N := 4) rfl ?_); refine box_event ?hg (N := 4) ?hd (cs := #[.int .i64 0, .int .i64 0]) (t := 44) ?hr ?_; (case hd => rfl); (case hg => rfl); (case hr => exact (qW22)); intro gb186 hg w14 hbox hb; have BK186 := Aside0.mk (hbox); have GW186 := Aside0.mk ((by rw [hg]; exact (below_size (qW0)) : w.heap.size ≤ gb186)); have GE186 := Aside0.mk ((by rw [hg]; exact (below_size (qW0)) : w.heap.size ≤ gb186)); replace HB := Aside0.mk (below_step (qW0) hb); clear hb hbox hg; have hcz15_0 : w14.cell? ⟨gb186, 0, none⟩ = some (.int .i64 0) := (blk_cell BK186.out 0).trans rfl; have hcz15_1 : w14.cell? ⟨gb186, 1, none⟩ = some (.int .i64 0) := (blk_cell BK186.out 1).trans rfl; have hfz15_0 := blk_frozen BK186.out 0; have hfz15_1 := blk_frozen BK186.out 1) | ((with_reducible refine gate_callee (f := 25) rfl ?_); refine goesL_ (some 13) rfl rfl Tryd.func25 (by kernel_rfl) rfl #[.int .i64 ((rd_T44 l0 x7_1).f0), .int .i64 0, .int .i64 500] rfl (qW1) ?_; (with_reducible refine (impl_within.calls ((rd_T44 l0 x7_1).f0) 0 500 true _ A5.out).mono ?_); rintro e w' ⟨rfl, ⟨nd, rfl⟩⟩; refine ⟨_, rfl, ?_⟩) | (go_at_call 25; (with_reducible refine (impl_within.calls ((rd_T44 l0 x7_1).f1) (-500) 500 false _ A7.out).mono ?_); rintro e w' ⟨rfl, ⟨nd, rfl⟩⟩))
        go_ret
        exact ⟨(qW9), (qW10 GE186.out)⟩
      ·replace c6 := Bool.eq_false_iff.mpr c6
       subst c6
       rw [if_neg (show ¬ (false = true) by decide)] at H
       obtain rfl := Option.some.inj H
       have p185 : 0 ≤ (x7_1 : Int) := of_decide_eq_true (qW13)
       have q185 : x7_1 < (l0.length : Int) := of_decide_eq_true (qW13)
       obtain ⟨ad185, e185, hx185_0, hx185_1⟩ := at_T44 HR0.out x7_1 p185 q185
       cases e185
       replace hx185_0 := (HB.out.cell (World.block_lt_of_cell? w _ hx185_0)).trans hx185_0
       replace hx185_1 := (HB.out.cell (World.block_lt_of_cell? w _ hx185_1)).trans hx185_1
       replace p185 := eq_true p185
       replace q185 := eq_true q185
       go_wp2_with (first | ((with_reducible refine gate_dst (N := 4) rfl ?_); refine box_event ?hg (N := 4) ?hd (cs := #[.int .i64 0, .int .i64 0]) (t := 44) ?hr ?_; (case hd => rfl); (case hg => rfl); (case hr => exact (qW22)); intro gb186 hg w16 hbox hb; have BK186 := Aside0.mk (hbox); have GW186 := Aside0.mk ((by rw [hg]; exact (below_size (qW0)) : w.heap.size ≤ gb186)); have GE186 := Aside0.mk ((by rw [hg]; exact (below_size (qW0)) : w.heap.size ≤ gb186)); replace HB := Aside0.mk (below_step (qW0) hb); clear hb hbox hg; have hcz17_0 : w16.cell? ⟨gb186, 0, none⟩ = some (.int .i64 0) := (blk_cell BK186.out 0).trans rfl; have hcz17_1 : w16.cell? ⟨gb186, 1, none⟩ = some (.int .i64 0) := (blk_cell BK186.out 1).trans rfl; have hfz17_0 := blk_frozen BK186.out 0; have hfz17_1 := blk_frozen BK186.out 1) | ((with_reducible refine gate_callee (f := 25) rfl ?_); refine goesL_ (some 13) rfl rfl Tryd.func25 (by kernel_rfl) rfl #[.int .i64 ((rd_T44 l0 x7_1).f0), .int .i64 0, .int .i64 500] rfl (qW1) ?_; (with_reducible refine (impl_within.calls ((rd_T44 l0 x7_1).f0) 0 500 false _ A5.out).mono ?_); rintro e w' ⟨rfl, ⟨nd, rfl⟩⟩; refine ⟨_, rfl, ?_⟩))
       go_ret
       exact ⟨(qW9), (qW10 GE186.out)⟩
     ·rw [if_neg c4] at H
      exact absurd H (by simp)
    ·rw [if_neg c3] at H
     exact absurd H (by simp)
   ·rw [if_neg c2] at H
    have c2b0 : decide (x7_1 < (l0.length : Int)) = false := decide_eq_false c2
    clear c2; obtain rfl := Option.some.inj H
    go_wp2
    go_ret
    exact ⟨(qW9), (qW0)⟩

/-! ### impl_PointsOf: function 6 (by hand: wip/inj) -/
/-! ### impl_PointsOf: function 6 -/
def impl_PointsOf.l0 : Nat → Int → Int → List (List Int) → List (S44) → Int → Int → Option ((List (List Int)) × Bool)
 | 0, _, _, _, _, _, _ => none
 | k + 1, x4, x5, x6, x14, x15, x16 => if x16 < x15 then (if 0 ≤ x16 then (if x16 < (x14.length : Int) then (if x6.length < 5864062014805 then (impl_PointsOf.l0 k (wrap64 (x4 + ((rd_T44 x14 x16).f0))) (wrap64 (x5 + ((rd_T44 x14 x16).f1))) (x6 ++ [(([wrap64 (x4 + ((rd_T44 x14 x16).f0)), wrap64 (x5 + ((rd_T44 x14 x16).f1))] : List Int))]) x14 x15 (wrap64 (x16 + 1))) else (none)) else (none)) else (none)) else (some (x6, true))
def impl_PointsOf.f (k : Nat) (l0 : List (S44)) : Option ((List (List Int)) × Bool) := (impl_IsWay.f k l0).bind fun t189 => (if t189 = true then (impl_PointsOf.l0 k 0 0 (([(([0, 0] : List Int))] : List (List Int))) l0 (l0.length : Int) 0) else (some (([] : List (List Int)), false)))
theorem impl_PointsOf.mono_l : ∀ k, (∀ y0 y1 y2 y3 y4 y5, LeO (impl_PointsOf.l0 k y0 y1 y2 y3 y4 y5) (impl_PointsOf.l0 (k + 1) y0 y1 y2 y3 y4 y5))
 | 0 => fun _ _ _ _ _ _ r h => by simp [impl_PointsOf.l0] at h
 | k + 1 => by
  have ih0 := impl_PointsOf.mono_l k
  ·intro y0 y1 y2 y3 y4 y5
   unfold impl_PointsOf.l0
   have m0 := @impl_IsWay.mono
   exact qmono
theorem impl_PointsOf.mono : ∀ a0 k, LeO (impl_PointsOf.f k a0) (impl_PointsOf.f (k + 1) a0) := by
 intro a0 k
 have ih0 := impl_PointsOf.mono_l k
 unfold impl_PointsOf.f
 have m0 := @impl_IsWay.mono
 exact qmono
theorem S_one {α : Type} {d : Kd α} {e : Nat} {w : World} {base : Nat} {ok : Nat → Prop} {v : Value} {x : α} (h : d.R e w base ok v [x]) : Kd.S d e w base ok v [x] := by
 obtain ⟨h0, inner, ho, hr⟩ := h
 refine ⟨fun _ => 0, h0, inner, ho, hr.1, fun j p hj => ?_⟩
 match j, hj with
 | 0, hj =>
  obtain rfl : (x, 0) = p := by simpa using hj
  exact d.M_mono (fun k hk => ⟨hk, rfl⟩) (hr.2 0 x rfl)
 | j + 1, hj => simp at hj
theorem impl_PointsOf.calls (k : Nat) (A0 : Option Addr) (c0 : Nat) (l0 : List (S44)) (r1 : List (List Int)) (r2 : Bool) (w : World) (hr0 : Kd.C k44 w A0 l0.length l0) (hc0 : l0.length ≤ c0) (h : impl_PointsOf.f k l0 = some (r1, r2)) :
  Calls Tryd.prog 6 #[.slice A0 l0.length c0] w fun e w' => ∃ v0_ : Value, e = .returned (.tuple #[v0_, .bool r2]) ∧ Kd.S (Kd.slice 3 (Kd.int .i64)) 35 w' w.heap.size (fun _ => True) v0_ r1 ∧ Below w.heap.size w w' := by
 have hu57 := Tryd.underlying44
 obtain ⟨t, ht, h⟩ := Option.bind_eq_some_iff.mp h
 have HI := Aside0.mk (impl_IsWay.calls k A0 c0 l0 t w hr0 hc0 ht)
 have HR0 := Aside0.mk hr0; clear hr0 hc0 ht
 cases t with
 | false =>
  simp only [Bool.false_eq_true, if_false, Option.some.injEq, Prod.mk.injEq] at h
  obtain ⟨rfl, rfl⟩ := h
  go_enter Tryd.func6, Tryd.ntmps6
  go_wp2_with (go_at_call 9; refine HI.out.mono ?_; rintro e w1 ⟨rfl, hb⟩)
  go_ret2
  exact ⟨_, rfl, Kd.S_nil _ _ _ _ _, hb⟩
 | true =>
  rw [if_pos rfl] at h
  have H' := Aside0.mk h
  clear h
  obtain ⟨y146, hy146⟩ : ∃ y_ : List Int, y_ = (([0, 0] : List Int)) := ⟨_, rfl⟩
  have Ny146 := Aside0.mk hy146; clear hy146
  go_enter Tryd.func6, Tryd.ntmps6
  go_wp2_with (fail)
  go_at_call 9
  refine HI.out.mono ?_
  rintro e w1 ⟨rfl, hb⟩
  have HB1 := Aside0.mk hb; clear hb
  go_wp2_with (first | ((with_reducible refine gate_dst (N := 12) rfl ?_); refine Kd.R_lit (Kd.int .i64) _ 3 ?hg (N := 12) ?hd (xs := ([0, 0] : List Int)) (inner := [.int .i64 0, .int .i64 0]) (ok := fun _ => True) (okp := fun _ => True) ?hr ?hp (fun _ hk => hk) trivial (Below.refl _ _) (Nat.le_refl _) (by simp) ?_; (case hd => rfl); (case hg => rfl); (case hr => exact (qW22)); (case hp => exact (qW64)); intro v147 w5 ho6 hb hg_ hnew_; clear hg_ hnew_; rw [← Ny146.out] at ho6; have HB5 := Aside0.mk (HB1.out.trans (hb.mono HB1.out.size)); have HOa := Aside0.mk (Kd.R_lower ho6 HB1.out.size); clear hb ho6; obtain ⟨Ao7, co7, eo7⟩ := Kd.R_slice HOa.out; subst eo7) | ((with_reducible refine gate_dst (N := 13) rfl ?_); refine Kd.R_lit (Kd.slice 3 (Kd.int .i64)) (w0 := w) w.heap.size 35 ?hg (N := 13) ?hd (xs := ([y146] : List (List Int))) (inner := [.slice Ao7 y146.length co7]) (ok := fun _ => True) (okp := fun _ => True) ?hr ?hp (fun _ hk => hk) trivial HB5.out HB5.out.size (by simp) ?_; (case hd => rfl); (case hg => rfl); (case hr => exact (qW22)); (case hp => exact (by exact (Reps.one (show Kd.M (Kd.slice 3 (Kd.int .i64)) _ _ _ y146 [.slice Ao7 y146.length co7] from ⟨_, rfl, HOa.out⟩) (Reps.none _ _)))); intro v150 w8 ho9 hb hg_ hnew_; clear hg_ hnew_; have HO := Aside0.mk (S_one ho9); have HB := Aside0.mk hb; clear hb ho9))
  go_loopg [4, 5, 6, 16] k (fun kq v4 v5 v6 v16 w' => ∃ (x4_1 : Int) (x5_1 : Int) (x6_1 : List (List Int)) (x16_1 : Int), v4 = .int .i64 x4_1 ∧ v5 = .int .i64 x5_1 ∧ v16 = .int .i64 x16_1 ∧ Aside0 (impl_PointsOf.l0 kq x4_1 x5_1 x6_1 l0 (l0.length : Int) x16_1 = some (r1, r2)) ∧ Aside0 (Kd.S (Kd.slice 3 (Kd.int .i64)) 35 w' w.heap.size (fun _ => True) v6 x6_1) ∧ Aside0 (Below w.heap.size w w'))
  case atStart => exact ⟨0, 0, [y146], 0, rfl, rfl, rfl, ⟨by rw [Ny146.out]; exact H'.out⟩, HO, HB⟩
  case round =>
   clear H'
   obtain ⟨x4_1, x5_1, x6_1, x16_1, rfl, rfl, rfl, HA, HO, HB⟩ := hrel
   cases gk with
   | zero => exact absurd HA.out (by simp [impl_PointsOf.l0])
   | succ k1 =>
    have H := HA.out
    clear HA
    simp only [impl_PointsOf.l0] at H
    by_cases c10 : x16_1 < (l0.length : Int)
    ·rw [if_pos c10] at H
     have c10b0 : decide (x16_1 < (l0.length : Int)) = true := decide_eq_true c10
     have C10 := Aside0.mk c10; clear c10
     by_cases c11 : 0 ≤ x16_1
     ·rw [if_pos c11, if_pos C10.out] at H
      have c11b0 : decide (0 ≤ x16_1) = true := decide_eq_true c11
      have C11 := Aside0.mk c11; clear c11
      by_cases c13 : x6_1.length < 5864062014805
      ·rw [if_pos c13] at H; have LM := Aside0.mk c13; clear c13
       obtain ⟨y154, hy154⟩ : ∃ y_ : List Int, y_ = (([wrap64 (x4_1 + ((rd_T44 l0 x16_1).f0)), wrap64 (x5_1 + ((rd_T44 l0 x16_1).f1))] : List Int)) := ⟨_, rfl⟩
       rw [← hy154] at H
       have Ny154 := Aside0.mk hy154
       have H' := Aside0.mk H
       clear hy154 H
       have p152 : 0 ≤ (x16_1 : Int) := C11.out
       have q152 : x16_1 < (l0.length : Int) := C10.out
       obtain ⟨ad152, e152, hx152_0, hx152_1⟩ := at_T44 HR0.out x16_1 p152 q152
       cases e152
       replace hx152_0 := (HB.out.cell (World.block_lt_of_cell? w _ hx152_0)).trans hx152_0
       replace hx152_1 := (HB.out.cell (World.block_lt_of_cell? w _ hx152_1)).trans hx152_1
       replace p152 := eq_true p152
       replace q152 := eq_true q152
       have HOb := Aside0.mk (Kd.S_mono (Kd.S_bound HO.out) (fun k_ hk_ => hk_.2.2.1))
       have HOl := Aside0.mk (Kd.S_lt HO.out)
       go_wp2_with (first | ((with_reducible refine gate_dst (N := 8) rfl ?_); refine box_event ?hg (N := 8) ?hd (cs := #[.int .i64 0, .int .i64 0]) (t := 44) ?hr ?_; (case hd => rfl); (case hg => rfl); (case hr => exact (qW22)); intro gb153 hg w14 hbox hb; have HBX := Aside0.mk hb; have BK := Aside0.mk hbox; have GE : Aside0 (wr.heap.size ≤ gb153) := ⟨by rw [hg]; exact Nat.le_refl _⟩; clear hb hbox hg; have hcz15_0 : w14.cell? ⟨gb153, 0, none⟩ = some (.int .i64 0) := (blk_cell BK.out 0).trans rfl; have hcz15_1 : w14.cell? ⟨gb153, 1, none⟩ = some (.int .i64 0) := (blk_cell BK.out 1).trans rfl; have hfz15_0 := blk_frozen BK.out 0; have hfz15_1 := blk_frozen BK.out 1) | ((with_reducible refine gate_dst (N := 31) rfl ?_); refine Kd.R_lit (Kd.int .i64) _ 3 ?hg (N := 31) ?hd (xs := ([wrap64 (x4_1 + ((rd_T44 l0 x16_1).f0)), wrap64 (x5_1 + ((rd_T44 l0 x16_1).f1))] : List Int)) (inner := [.int .i64 (wrap64 (x4_1 + ((rd_T44 l0 x16_1).f0))), .int .i64 (wrap64 (x5_1 + ((rd_T44 l0 x16_1).f1)))]) (ok := fun _ => True) (okp := fun _ => True) ?hr ?hp (fun _ hk => hk) trivial (Below.refl _ _) (Nat.le_refl _) (by simp) ?_; (case hd => rfl); (case hg => rfl); (case hr => exact (qW22)); (case hp => exact (by exact (Reps.one (show Kd.M (Kd.int .i64) _ _ _ (wrap64 (x4_1 + ((rd_T44 l0 x16_1).f0))) [.int .i64 (wrap64 (x4_1 + ((rd_T44 l0 x16_1).f0)))] from rfl) (Reps.one (show Kd.M (Kd.int .i64) _ _ _ (wrap64 (x5_1 + ((rd_T44 l0 x16_1).f1))) [.int .i64 (wrap64 (x5_1 + ((rd_T44 l0 x16_1).f1)))] from rfl) (Reps.none _ _))))); intro v155 w16 ho17 hb hg_ hnew_; clear hg_ hnew_; rw [← Ny154.out] at ho17; have HBY : Aside0 (Below wr.heap.size wr ((w14.setCell ⟨gb153, 0, none⟩ (.int .i64 ((rd_T44 l0 x16_1).f0))).setCell ⟨gb153, 1, none⟩ (.int .i64 ((rd_T44 l0 x16_1).f1)))) := ⟨below_set (below_set HBX.out GE.out) GE.out⟩; have HBW := Aside0.mk (below_step HBY.out hb); have HN := Aside0.mk (Kd.R_mono (Kd.R_bound ho17) (fun k_ hk_ => (Nat.le_trans HBY.out.size hk_.2.1 : wr.heap.size ≤ k_))); have HNL := Aside0.mk HBY.out.size; clear hb ho17; obtain ⟨Ao19, co19, eo19⟩ := Kd.R_slice HN.out; subst eo19) | ((with_reducible refine gate_builtin (b := .append) (xs := #[.tmp 28, .tmp 32]) rfl ?_); at_builtin; refine Kd.S_append (Kd.slice 3 (Kd.int .i64)) (w0 := w) w.heap.size rfl (.tmp 28) (.tmp 32) 26 35 (.slice none 0 0) 24 rfl Tryd.underlying26 info35 rfl (by decide) (by omega) u6 x6_1 y154 [.slice Ao19 y154.length co19] (fun _ => True) (fun k_ => wr.heap.size ≤ k_) rfl rfl ?aP ?aK (fun _ _ => trivial) ?aO ?aB ?aS ?aL ?_; (case aP => exact (by exact ⟨_, rfl, Kd.R_lower HN.out (Nat.le_trans HB.out.size HNL.out)⟩)); (case aK => exact (by exact fun k_ hk_ => ⟨trivial, fun e_ => Nat.lt_irrefl _ (Nat.lt_of_lt_of_le (HOl.out k_ e_.symm) hk_)⟩)); (case aO => exact (by exact Kd.S_mono (Kd.S_below HOb.out HBW.out) (fun k_ hk_ => ⟨trivial, Nat.not_le.2 hk_⟩))); (case aB => exact (by exact HB.out.trans (HBW.out.mono HB.out.size))); (case aS => exact (by exact Nat.le_trans HB.out.size HBW.out.size)); (case aL => have := LM.out; omega); intro v158 w18 ho hb hg hat; have HO2 := Aside0.mk ho; have HB2 := Aside0.mk hb; clear ho hb hg hat))
       go_roundg k1
       case measure => omega
       case rel => exact ⟨_, _, x6_1 ++ [y154], wrap64 (x16_1 + 1), rfl, rfl, rfl, H', HO2, HB2⟩
      ·rw [if_neg c13] at H
       exact absurd H (by simp)
     ·rw [if_neg c11] at H
      exact absurd H (by simp)
    ·rw [if_neg c10] at H
     have c10b0 : decide (x16_1 < (l0.length : Int)) = false := decide_eq_false c10
     clear c10
     simp only [Option.some.injEq, Prod.mk.injEq] at H
     obtain ⟨rfl, rfl⟩ := H
     go_wp2
     go_ret2
     exact ⟨_, rfl, HO.out, HB.out⟩


/-! ### spec_l1In: function 52 -/
def spec_l1In.f (a0 : Int) (a1 : Int) (a2 : Int) : Option (Bool) := if a0 ≥ a1 then (some (decide (a0 ≤ a2))) else (some false)
theorem spec_l1In.calls (a0 : Int) (a1 : Int) (a2 : Int) (r : Bool) (w : World) (h : spec_l1In.f a0 a1 a2 = some r) :
  Calls Tryd.prog 52 #[.int .i64 a0, .int .i64 a1, .int .i64 a2] w fun e w' => e = .returned (.bool r) ∧ Drawn0 w w' := by
 have H : (if a0 ≥ a1 then (some (decide (a0 ≤ a2))) else (some false)) = some r := h
 clear h
 by_cases c4 : a0 ≥ a1
 ·rw [if_pos c4] at H
  have c4b0 : decide (a1 ≤ a0) = true := decide_eq_true c4
  clear c4; obtain rfl := Option.some.inj H
  go_enter Tryd.func52, Tryd.ntmps52
  go_wp2
  go_ret
  exact ⟨(qW14), (qW32)⟩
 ·rw [if_neg c4] at H
  have c4b0 : decide (a1 ≤ a0) = false := decide_eq_false c4
  clear c4; obtain rfl := Option.some.inj H
  go_enter Tryd.func52, Tryd.ntmps52
  go_wp2
  go_ret
  exact ⟨(qW14), (qW32)⟩

/-! ### spec_l14One: function 40 -/
def spec_l14One.f (a0_0 : Int) (a0_1 : Int) : Option (Bool) := (spec_l1In.f a0_0 0 500).bind fun t205 => (if t205 = true then ((spec_l1In.f a0_1 (-500) 500).bind fun t206 => (if t206 = true then (if a0_0 = 0 then (some (a0_1 != 0)) else (some true)) else (some false))) else (some false))
theorem spec_l14One.calls (a0_0 : Int) (a0_1 : Int) (r : Bool) (w : World) (h : spec_l14One.f a0_0 a0_1 = some r) :
  Calls Tryd.prog 40 #[.agg #[.int .i64 a0_0, .int .i64 a0_1]] w fun e w' => e = .returned (.bool r) ∧ Below w.heap.size w w' := by
 have hu44 := Tryd.underlying44
 have HB := Aside0.mk (Below.refl w.heap.size w)
 have H : ((spec_l1In.f a0_0 0 500).bind fun t205 => (if t205 = true then ((spec_l1In.f a0_1 (-500) 500).bind fun t206 => (if t206 = true then (if a0_0 = 0 then (some (a0_1 != 0)) else (some true)) else (some false))) else (some false))) = some r := h
 clear h; replace H := Option.bind_eq_some_iff.mp H; obtain ⟨t205, A20, H⟩ := H
 try dsimp only at H
 have A2 := Aside0.mk A20; clear A20
 by_cases c3 : t205 = true
 ·subst c3; rw [if_pos rfl] at H; replace H := Option.bind_eq_some_iff.mp H; obtain ⟨t206, A40, H⟩ := H
  try dsimp only at H
  have A4 := Aside0.mk A40; clear A40
  by_cases c5 : t206 = true
  ·subst c5; rw [if_pos rfl] at H
   by_cases c6 : a0_0 = 0
   ·rw [if_pos c6] at H
    have c6b0 : (a0_0 == 0) = true := beq_iff_eq.mpr c6
    have c6b1 : (a0_0 != 0) = false := bne_eq_false_iff_eq.mpr c6
    clear c6; obtain rfl := Option.some.inj H
    go_enter Tryd.func40, Tryd.ntmps40
    go_wp2_with (first | ((with_reducible refine gate_dst (N := 1) rfl ?_); refine box_event ?hg (N := 1) ?hd (cs := #[.int .i64 a0_0, .int .i64 a0_1]) (t := 44) ?hr ?_; (case hd => rfl); (case hg => rfl); (case hr => exact (qW22)); intro gb204 hg w7 hbox hb; have BK204 := Aside0.mk (hbox); have GW204 := Aside0.mk ((by rw [hg]; exact (below_size (qW0)) : w.heap.size ≤ gb204)); have GE204 := Aside0.mk ((by rw [hg]; exact (below_size (qW0)) : w.heap.size ≤ gb204)); replace HB := Aside0.mk (below_step (qW0) hb); clear hb hbox hg; have hcz8_0 : w7.cell? ⟨gb204, 0, none⟩ = some (.int .i64 a0_0) := (blk_cell BK204.out 0).trans rfl; have hcz8_1 : w7.cell? ⟨gb204, 1, none⟩ = some (.int .i64 a0_1) := (blk_cell BK204.out 1).trans rfl; have hfz8_0 := blk_frozen BK204.out 0; have hfz8_1 := blk_frozen BK204.out 1) | ((with_reducible refine gate_callee (f := 52) rfl ?_); refine goesL_ (some 5) rfl rfl Tryd.func52 (by kernel_rfl) rfl #[.int .i64 a0_0, .int .i64 0, .int .i64 500] rfl (qW1) ?_; (with_reducible refine (spec_l1In.calls a0_0 0 500 true _ A2.out).mono ?_); rintro e w' ⟨rfl, ⟨nd, rfl⟩⟩; refine ⟨_, rfl, ?_⟩) | (go_at_call 52; (with_reducible refine (spec_l1In.calls a0_1 (-500) 500 true _ A4.out).mono ?_); rintro e w' ⟨rfl, ⟨nd, rfl⟩⟩))
    go_ret
    exact ⟨(qW9), (qW10 GE204.out)⟩
   ·rw [if_neg c6] at H
    have c6b0 : (a0_0 == 0) = false := beq_eq_false_iff_ne.mpr c6
    have c6b1 : (a0_0 != 0) = true := bne_iff_ne.mpr c6
    obtain rfl := Option.some.inj H
    go_enter Tryd.func40, Tryd.ntmps40
    go_wp2_with (first | ((with_reducible refine gate_dst (N := 1) rfl ?_); refine box_event ?hg (N := 1) ?hd (cs := #[.int .i64 a0_0, .int .i64 a0_1]) (t := 44) ?hr ?_; (case hd => rfl); (case hg => rfl); (case hr => exact (qW22)); intro gb204 hg w9 hbox hb; have BK204 := Aside0.mk (hbox); have GW204 := Aside0.mk ((by rw [hg]; exact (below_size (qW0)) : w.heap.size ≤ gb204)); have GE204 := Aside0.mk ((by rw [hg]; exact (below_size (qW0)) : w.heap.size ≤ gb204)); replace HB := Aside0.mk (below_step (qW0) hb); clear hb hbox hg; have hcz10_0 : w9.cell? ⟨gb204, 0, none⟩ = some (.int .i64 a0_0) := (blk_cell BK204.out 0).trans rfl; have hcz10_1 : w9.cell? ⟨gb204, 1, none⟩ = some (.int .i64 a0_1) := (blk_cell BK204.out 1).trans rfl; have hfz10_0 := blk_frozen BK204.out 0; have hfz10_1 := blk_frozen BK204.out 1) | ((with_reducible refine gate_callee (f := 52) rfl ?_); refine goesL_ (some 5) rfl rfl Tryd.func52 (by kernel_rfl) rfl #[.int .i64 a0_0, .int .i64 0, .int .i64 500] rfl (qW1) ?_; (with_reducible refine (spec_l1In.calls a0_0 0 500 true _ A2.out).mono ?_); rintro e w' ⟨rfl, ⟨nd, rfl⟩⟩; refine ⟨_, rfl, ?_⟩) | (go_at_call 52; (with_reducible refine (spec_l1In.calls a0_1 (-500) 500 true _ A4.out).mono ?_); rintro e w' ⟨rfl, ⟨nd, rfl⟩⟩))
    go_ret
    exact ⟨(qW9), (qW10 GE204.out)⟩
  ·replace c5 := Bool.eq_false_iff.mpr c5
   subst c5
   rw [if_neg (show ¬ (false = true) by decide)] at H
   obtain rfl := Option.some.inj H
   go_enter Tryd.func40, Tryd.ntmps40
   go_wp2_with (first | ((with_reducible refine gate_dst (N := 1) rfl ?_); refine box_event ?hg (N := 1) ?hd (cs := #[.int .i64 a0_0, .int .i64 a0_1]) (t := 44) ?hr ?_; (case hd => rfl); (case hg => rfl); (case hr => exact (qW22)); intro gb204 hg w11 hbox hb; have BK204 := Aside0.mk (hbox); have GW204 := Aside0.mk ((by rw [hg]; exact (below_size (qW0)) : w.heap.size ≤ gb204)); have GE204 := Aside0.mk ((by rw [hg]; exact (below_size (qW0)) : w.heap.size ≤ gb204)); replace HB := Aside0.mk (below_step (qW0) hb); clear hb hbox hg; have hcz12_0 : w11.cell? ⟨gb204, 0, none⟩ = some (.int .i64 a0_0) := (blk_cell BK204.out 0).trans rfl; have hcz12_1 : w11.cell? ⟨gb204, 1, none⟩ = some (.int .i64 a0_1) := (blk_cell BK204.out 1).trans rfl; have hfz12_0 := blk_frozen BK204.out 0; have hfz12_1 := blk_frozen BK204.out 1) | ((with_reducible refine gate_callee (f := 52) rfl ?_); refine goesL_ (some 5) rfl rfl Tryd.func52 (by kernel_rfl) rfl #[.int .i64 a0_0, .int .i64 0, .int .i64 500] rfl (qW1) ?_; (with_reducible refine (spec_l1In.calls a0_0 0 500 true _ A2.out).mono ?_); rintro e w' ⟨rfl, ⟨nd, rfl⟩⟩; refine ⟨_, rfl, ?_⟩) | (go_at_call 52; (with_reducible refine (spec_l1In.calls a0_1 (-500) 500 false _ A4.out).mono ?_); rintro e w' ⟨rfl, ⟨nd, rfl⟩⟩))
   go_ret
   exact ⟨(qW9), (qW10 GE204.out)⟩
 ·replace c3 := Bool.eq_false_iff.mpr c3
  subst c3
  rw [if_neg (show ¬ (false = true) by decide)] at H
  obtain rfl := Option.some.inj H
  go_enter Tryd.func40, Tryd.ntmps40
  go_wp2_with (first | ((with_reducible refine gate_dst (N := 1) rfl ?_); refine box_event ?hg (N := 1) ?hd (cs := #[.int .i64 a0_0, .int .i64 a0_1]) (t := 44) ?hr ?_; (case hd => rfl); (case hg => rfl); (case hr => exact (qW22)); intro gb204 hg w13 hbox hb; have BK204 := Aside0.mk (hbox); have GW204 := Aside0.mk ((by rw [hg]; exact (below_size (qW0)) : w.heap.size ≤ gb204)); have GE204 := Aside0.mk ((by rw [hg]; exact (below_size (qW0)) : w.heap.size ≤ gb204)); replace HB := Aside0.mk (below_step (qW0) hb); clear hb hbox hg; have hcz14_0 : w13.cell? ⟨gb204, 0, none⟩ = some (.int .i64 a0_0) := (blk_cell BK204.out 0).trans rfl; have hcz14_1 : w13.cell? ⟨gb204, 1, none⟩ = some (.int .i64 a0_1) := (blk_cell BK204.out 1).trans rfl; have hfz14_0 := blk_frozen BK204.out 0; have hfz14_1 := blk_frozen BK204.out 1) | ((with_reducible refine gate_callee (f := 52) rfl ?_); refine goesL_ (some 5) rfl rfl Tryd.func52 (by kernel_rfl) rfl #[.int .i64 a0_0, .int .i64 0, .int .i64 500] rfl (qW1) ?_; (with_reducible refine (spec_l1In.calls a0_0 0 500 false _ A2.out).mono ?_); rintro e w' ⟨rfl, ⟨nd, rfl⟩⟩; refine ⟨_, rfl, ?_⟩))
  go_ret
  exact ⟨(qW9), (qW10 GE204.out)⟩

/-! ### spec_l14Good: function 23 -/
def spec_l14Good.l0 : Nat → List (S44) → Int → Option (Bool)
 | 0, _, _ => none
 | k + 1, x0, x3 => if x3 < (x0.length : Int) then (if 0 ≤ x3 then ((spec_l14One.f ((rd_T44 x0 x3).f0) ((rd_T44 x0 x3).f1)).bind fun t208 => (if t208 = true then (spec_l14Good.l0 k x0 (wrap64 (x3 + 1))) else (some false))) else (none)) else (some (decide ((x0.length : Int) ≤ 12)))
def spec_l14Good.f (k : Nat) (l0 : List (S44)) : Option (Bool) := spec_l14Good.l0 k l0 0
theorem spec_l14Good.mono_l : ∀ k, (∀ y0 y1, LeO (spec_l14Good.l0 k y0 y1) (spec_l14Good.l0 (k + 1) y0 y1))
 | 0 => fun _ _ r h => by simp [spec_l14Good.l0] at h
 | k + 1 => by
  have ih0 := spec_l14Good.mono_l k
  ·intro y0 y1
   unfold spec_l14Good.l0
   exact qmono
theorem spec_l14Good.mono : ∀ a0 k, LeO (spec_l14Good.f k a0) (spec_l14Good.f (k + 1) a0) := by
 intro a0 k
 have ih0 := spec_l14Good.mono_l k
 unfold spec_l14Good.f
 exact qmono
theorem spec_l14Good.calls (k : Nat) (A0 : Option Addr) (c0 : Nat) (l0 : List (S44)) (r : Bool) (w : World) (hr0 : Kd.C k44 w A0 l0.length l0) (hc0 : l0.length ≤ c0) (h : spec_l14Good.f k l0 = some r) :
  Calls Tryd.prog 23 #[.slice A0 l0.length c0] w fun e w' => e = .returned (.bool r) ∧ Below w.heap.size w w' := by
 have hu44 := Tryd.underlying44
 have HR0 := Aside0.mk hr0; have HC0 := Aside0.mk hc0; clear hr0 hc0
 have HB := Aside0.mk (Below.refl w.heap.size w)
 have H : (spec_l14Good.l0 k l0 0) = some r := h
 clear h
 have H' := Aside0.mk H
 clear H
 go_enter Tryd.func23, Tryd.ntmps23
 go_wp2
 go_loopg [3] k (fun kq v3 w' => ∃ (x3_1 : Int), v3 = .int .i64 x3_1 ∧ Aside0 (spec_l14Good.l0 kq l0 x3_1 = some r) ∧ Aside0 (kq ≤ k) ∧ Aside0 (Below w.heap.size w w'))
 case atStart => exact ⟨(0), (qW14), H', ⟨Nat.le_refl _⟩, ⟨(qW0)⟩⟩
 case round =>
  clear H'
  obtain ⟨x3_1, rfl, HA, HK1, HB⟩ := hrel
  cases gk with
  | zero => exact absurd HA.out (by simp [spec_l14Good.l0])
  | succ k1 =>
   have H := HA.out
   clear HA
   simp only [spec_l14Good.l0] at H
   by_cases c2 : x3_1 < (l0.length : Int)
   ·rw [if_pos c2] at H
    have c2b0 : decide (x3_1 < (l0.length : Int)) = true := decide_eq_true c2
    clear c2
    by_cases c3 : 0 ≤ x3_1
    ·rw [if_pos c3] at H
     have c3b0 : decide (0 ≤ x3_1) = true := decide_eq_true c3
     clear c3; replace H := Option.bind_eq_some_iff.mp H; obtain ⟨t208, A40, H⟩ := H
     try dsimp only at H
     have A4 := Aside0.mk A40; clear A40
     by_cases c5 : t208 = true
     ·subst c5; rw [if_pos rfl] at H
      have H' := Aside0.mk H
      clear H
      have p207 : 0 ≤ (x3_1 : Int) := of_decide_eq_true (qW13)
      have q207 : x3_1 < (l0.length : Int) := of_decide_eq_true (qW13)
      obtain ⟨ad207, e207, hx207_0, hx207_1⟩ := at_T44 HR0.out x3_1 p207 q207
      cases e207
      replace hx207_0 := (HB.out.cell (World.block_lt_of_cell? w _ hx207_0)).trans hx207_0
      replace hx207_1 := (HB.out.cell (World.block_lt_of_cell? w _ hx207_1)).trans hx207_1
      replace p207 := eq_true p207
      replace q207 := eq_true q207
      go_wp2_with (first | ((with_reducible refine gate_callee (f := 40) rfl ?_); refine goesL_ (some 14) rfl rfl Tryd.func40 (by kernel_rfl) rfl #[.agg #[.int .i64 ((rd_T44 l0 x3_1).f0), .int .i64 ((rd_T44 l0 x3_1).f1)]] rfl (qW1) ?_; (with_reducible refine (spec_l14One.calls ((rd_T44 l0 x3_1).f0) ((rd_T44 l0 x3_1).f1) true _ A4.out).mono ?_); rintro e w6 ⟨rfl, hb⟩; refine ⟨_, rfl, ?_⟩; replace HB := Aside0.mk (below_step (qW0) hb); clear hb))
      go_roundg k1
      case measure => have := HK1.out; omega
      case rel => exact ⟨(wrap64 (x3_1 + 1)), (qW14), H', ⟨by have := HK1.out; omega⟩, ⟨(qW0)⟩⟩
     ·replace c5 := Bool.eq_false_iff.mpr c5
      subst c5
      rw [if_neg (show ¬ (false = true) by decide)] at H
      obtain rfl := Option.some.inj H
      have p207 : 0 ≤ (x3_1 : Int) := of_decide_eq_true (qW13)
      have q207 : x3_1 < (l0.length : Int) := of_decide_eq_true (qW13)
      obtain ⟨ad207, e207, hx207_0, hx207_1⟩ := at_T44 HR0.out x3_1 p207 q207
      cases e207
      replace hx207_0 := (HB.out.cell (World.block_lt_of_cell? w _ hx207_0)).trans hx207_0
      replace hx207_1 := (HB.out.cell (World.block_lt_of_cell? w _ hx207_1)).trans hx207_1
      replace p207 := eq_true p207
      replace q207 := eq_true q207
      go_wp2_with (first | ((with_reducible refine gate_callee (f := 40) rfl ?_); refine goesL_ (some 14) rfl rfl Tryd.func40 (by kernel_rfl) rfl #[.agg #[.int .i64 ((rd_T44 l0 x3_1).f0), .int .i64 ((rd_T44 l0 x3_1).f1)]] rfl (qW1) ?_; (with_reducible refine (spec_l14One.calls ((rd_T44 l0 x3_1).f0) ((rd_T44 l0 x3_1).f1) false _ A4.out).mono ?_); rintro e w7 ⟨rfl, hb⟩; refine ⟨_, rfl, ?_⟩; replace HB := Aside0.mk (below_step (qW0) hb); clear hb))
      go_ret
      exact ⟨(qW9), (qW0)⟩
    ·rw [if_neg c3] at H
     exact absurd H (by simp)
   ·rw [if_neg c2] at H
    have c2b0 : decide (x3_1 < (l0.length : Int)) = false := decide_eq_false c2
    clear c2; obtain rfl := Option.some.inj H
    go_wp2
    go_ret
    exact ⟨(qW9), (qW0)⟩

/-! ### spec_PointsOf: function 7 -/
def spec_PointsOf.l0 : Nat → List (S44) → List (List Int) → Int → Int → Int → Option ((List (List Int)) × Bool)
 | 0, _, _, _, _, _ => none
 | k + 1, x0, x4, x5, x6, x7 => if x7 < (x0.length : Int) then (if 0 ≤ x7 then (if x4.length < 5864062014805 then (spec_PointsOf.l0 k x0 (x4 ++ [(([wrap64 (x5 + ((rd_T44 x0 x7).f0)), wrap64 (x6 + ((rd_T44 x0 x7).f1))] : List Int))]) (wrap64 (x5 + ((rd_T44 x0 x7).f0))) (wrap64 (x6 + ((rd_T44 x0 x7).f1))) (wrap64 (x7 + 1))) else (none)) else (none)) else (some (x4, true))
def spec_PointsOf.f (k : Nat) (l0 : List (S44)) : Option ((List (List Int)) × Bool) := (spec_l14Good.f k l0).bind fun t209 => (if t209 = true then (spec_PointsOf.l0 k l0 (([(([0, 0] : List Int))] : List (List Int))) 0 0 0) else (some ((([] : List (List Int))), false)))
theorem spec_PointsOf.mono_l : ∀ k, (∀ y0 y1 y2 y3 y4, LeO (spec_PointsOf.l0 k y0 y1 y2 y3 y4) (spec_PointsOf.l0 (k + 1) y0 y1 y2 y3 y4))
 | 0 => fun _ _ _ _ _ r h => by simp [spec_PointsOf.l0] at h
 | k + 1 => by
  have ih0 := spec_PointsOf.mono_l k
  ·intro y0 y1 y2 y3 y4
   unfold spec_PointsOf.l0
   have m0 := @spec_l14Good.mono
   exact qmono
theorem spec_PointsOf.mono : ∀ a0 k, LeO (spec_PointsOf.f k a0) (spec_PointsOf.f (k + 1) a0) := by
 intro a0 k
 have ih0 := spec_PointsOf.mono_l k
 unfold spec_PointsOf.f
 have m0 := @spec_l14Good.mono
 exact qmono
theorem spec_PointsOf.calls (k : Nat) (A0 : Option Addr) (c0 : Nat) (l0 : List (S44)) (r1 : List (List Int)) (r2 : Bool) (w : World) (hr0 : Kd.C k44 w A0 l0.length l0) (hc0 : l0.length ≤ c0) (h : spec_PointsOf.f k l0 = some (r1, r2)) :
  Calls Tryd.prog 7 #[.slice A0 l0.length c0] w fun e w' => ∃ v0_ : Value, e = .returned (.tuple #[v0_, .bool r2]) ∧ Kd.N (Kd.slice 3 (Kd.int .i64)) 35 w' w.heap.size (fun k_ => (w.heap.size ≤ k_)) v0_ r1 ∧ Below w.heap.size w w' := by
 have HR0 := Aside0.mk hr0; have HC0 := Aside0.mk hc0; clear hr0 hc0
 have HB := Aside0.mk (Below.refl w.heap.size w)
 have H : ((spec_l14Good.f k l0).bind fun t209 => (if t209 = true then (spec_PointsOf.l0 k l0 (([(([0, 0] : List Int))] : List (List Int))) 0 0 0) else (some ((([] : List (List Int))), false)))) = some (r1, r2) := h
 clear h; replace H := Option.bind_eq_some_iff.mp H; obtain ⟨t209, A20, H⟩ := H
 try dsimp only at H
 have A2 := Aside0.mk A20; clear A20
 by_cases c3 : t209 = true
 ·subst c3; rw [if_pos rfl] at H
  obtain ⟨y213, hy213⟩ : ∃ y_ : List Int, y_ = (([0, 0] : List Int)) := ⟨_, rfl⟩
  replace H : (spec_PointsOf.l0 k l0 (([y213] : List (List Int))) 0 0 0) = some (r1, r2) := (qW7 hy213)
  have Ny213 := Aside0.mk hy213; clear hy213
  obtain ⟨y216, hy216⟩ : ∃ y_ : List (List Int), y_ = (([y213] : List (List Int))) := ⟨_, rfl⟩
  replace H : (spec_PointsOf.l0 k l0 y216 0 0 0) = some (r1, r2) := (qW7 hy216)
  have Ny216 := Aside0.mk hy216; clear hy216
  have H' := Aside0.mk H
  clear H
  go_enter Tryd.func7, Tryd.ntmps7
  go_wp2_with (first | ((with_reducible refine gate_callee (f := 23) rfl ?_); refine goesL_ (some 9) rfl rfl Tryd.func23 (by kernel_rfl) rfl #[.slice A0 l0.length c0] rfl (qW1) ?_; (with_reducible refine (spec_l14Good.calls k _ _ l0 true _ ?side1 ?side2 A2.out).mono ?_); (case side1 => exact (qW26)); (case side2 => exact HC0.out); rintro e w4 ⟨rfl, hb⟩; refine ⟨_, rfl, ?_⟩; replace HB := Aside0.mk (below_step (qW0) hb); clear hb) | ((with_reducible refine gate_dst (N := 12) rfl ?_); refine Kd.R_lit (Kd.int .i64) _ 3 ?hg (N := 12) ?hd (xs := ([0, 0] : List Int)) (inner := [.int .i64 0, .int .i64 0]) (ok := fun _ => True) (okp := fun _ => True) ?hr ?hp (fun _ hk => hk) trivial (Below.refl _ _) (Nat.le_refl _) (by simp) ?_; (case hd => rfl); (case hg => rfl); (case hr => exact (qW22)); (case hp => exact (qW64)); intro v214 w5 ho6 hb hg_ hnew_; clear hg_ hnew_; (first | rw [← Ny213.out] at ho6 | (simp only [Int.reduceToNat] at ho6; rw [← Ny213.out] at ho6)); have HO215 := Aside0.mk (Kd.R_lower (Kd.R_newM (M := fun k_ => (w.heap.size ≤ k_)) ho6 (below_size (qW0)) (fun k_ h_ => h_)) (below_size (qW0))); replace HB := Aside0.mk (below_step (qW0) hb); clear hb ho6; obtain ⟨Ao7, co7, eo7⟩ := Kd.R_slice HO215.out; subst eo7) | ((with_reducible refine gate_dst (N := 13) rfl ?_); refine Kd.N_lit (Kd.slice 3 (Kd.int .i64)) _ 35 ?hg (N' := 13) ?hd (xs := ([y213] : List (List Int))) (inner := [.slice Ao7 y213.length co7]) (ok := (fun k_ => (w.heap.size ≤ k_))) (okp := (fun k_ => (w.heap.size ≤ k_))) ?hr ?hp (fun _ hk => hk) ((show ∀ k_, w5.heap.size ≤ k_ → (fun k_ => (w.heap.size ≤ k_)) k_ from fun k_ hk => (Nat.le_trans (below_size (qW0)) hk)) _ (Nat.le_refl _)) (Below.refl _ _) (Nat.le_refl _) (by simp) ?_; (case hd => rfl); (case hg => rfl); (case hr => exact (qW22)); (case hp => exact (by exact (Reps.one (show Kd.FK (Kd.slice 3 (Kd.int .i64)) _ _ y213 [.slice Ao7 y213.length co7] from (Kd.FK_slice_mk (Kd.R_reads' (Kd.R_mono (ok' := (fun k_ => (w.heap.size ≤ k_))) (HO215.out) (fun k_ hk => hk.1))).2.1 (Kd.R_F (Kd.R_mono (ok' := (fun k_ => (w.heap.size ≤ k_))) (HO215.out) (fun k_ hk => hk.1))))) (Reps.none _ _)))); intro v217 w8 ho9 hb hg_ hnew_; clear hg_ hnew_; (first | rw [← Ny216.out] at ho9 | (simp only [Int.reduceToNat] at ho9; rw [← Ny216.out] at ho9)); have HO218 := Aside0.mk (Kd.N_lower ho9 (below_size (qW0))); replace HB := Aside0.mk (below_step (qW0) hb); clear HO215; clear hb ho9))
  go_loopg [4, 5, 6, 7] k (fun kq v4 v5 v6 v7 w' => ∃ (x4_1 : List (List Int)) (x5_1 : Int) (x6_1 : Int) (x7_1 : Int), v5 = .int .i64 x5_1 ∧ v6 = .int .i64 x6_1 ∧ v7 = .int .i64 x7_1 ∧ Aside0 (spec_PointsOf.l0 kq l0 x4_1 x5_1 x6_1 x7_1 = some (r1, r2)) ∧ Aside0 (kq ≤ k) ∧ Aside0 (Kd.N (Kd.slice 3 (Kd.int .i64)) 35 w' w.heap.size (fun k_ => (w.heap.size ≤ k_)) v4 x4_1) ∧ Aside0 (Below w.heap.size w w'))
  case atStart => exact ⟨(y216), (0), (0), (0), (qW14), (qW14), (qW14), H', ⟨Nat.le_refl _⟩, ⟨(qW30 HO218.out)⟩, ⟨(qW0)⟩⟩
  case round =>
   clear H'
   try clear c2
   try clear p2
   try clear c3
   try clear c7
   obtain ⟨x4_1, x5_1, x6_1, x7_1, rfl, rfl, rfl, HA, HK1, HO_4, HB⟩ := hrel
   cases gk with
   | zero => exact absurd HA.out (by simp [spec_PointsOf.l0])
   | succ k1 =>
    have H := HA.out
    clear HA
    simp only [spec_PointsOf.l0] at H
    by_cases c10 : x7_1 < (l0.length : Int)
    ·rw [if_pos c10] at H
     have c10b0 : decide (x7_1 < (l0.length : Int)) = true := decide_eq_true c10
     clear c10
     by_cases c11 : 0 ≤ x7_1
     ·rw [if_pos c11] at H
      have c11b0 : decide (0 ≤ x7_1) = true := decide_eq_true c11
      clear c11
      obtain ⟨y221, hy221⟩ : ∃ y_ : List Int, y_ = (([wrap64 (x5_1 + ((rd_T44 l0 x7_1).f0)), wrap64 (x6_1 + ((rd_T44 l0 x7_1).f1))] : List Int)) := ⟨_, rfl⟩
      replace H : (if x4_1.length < 5864062014805 then (spec_PointsOf.l0 k1 l0 (x4_1 ++ [y221]) (wrap64 (x5_1 + ((rd_T44 l0 x7_1).f0))) (wrap64 (x6_1 + ((rd_T44 l0 x7_1).f1))) (wrap64 (x7_1 + 1))) else (none)) = some (r1, r2) := (qW7 hy221)
      have Ny221 := Aside0.mk hy221; clear hy221
      by_cases c12 : x4_1.length < 5864062014805
      ·rw [if_pos c12] at H; have LMc12 := Aside0.mk c12; clear c12
       obtain ⟨y224, hy224⟩ : ∃ y_ : List (List Int), y_ = (x4_1 ++ [y221]) := ⟨_, rfl⟩
       replace H : (spec_PointsOf.l0 k1 l0 y224 (wrap64 (x5_1 + ((rd_T44 l0 x7_1).f0))) (wrap64 (x6_1 + ((rd_T44 l0 x7_1).f1))) (wrap64 (x7_1 + 1))) = some (r1, r2) := (qW7 hy224)
       have Ny224 := Aside0.mk hy224; clear hy224
       have H' := Aside0.mk H
       clear H
       have p219 : 0 ≤ (x7_1 : Int) := of_decide_eq_true (qW13)
       have q219 : x7_1 < (l0.length : Int) := of_decide_eq_true (qW13)
       obtain ⟨ad219, e219, hx219_0, hx219_1⟩ := at_T44 HR0.out x7_1 p219 q219
       cases e219
       replace hx219_0 := (HB.out.cell (World.block_lt_of_cell? w _ hx219_0)).trans hx219_0
       replace hx219_1 := (HB.out.cell (World.block_lt_of_cell? w _ hx219_1)).trans hx219_1
       replace p219 := eq_true p219
       replace q219 := eq_true q219
       have p220 : 0 ≤ (x7_1 : Int) := of_decide_eq_true (qW13)
       have q220 : x7_1 < (l0.length : Int) := of_decide_eq_true (qW13)
       obtain ⟨ad220, e220, hx220_0, hx220_1⟩ := at_T44 HR0.out x7_1 p220 q220
       obtain rfl : ad219 = ad220 := (by injection e220)
       replace hx220_0 := (HB.out.cell (World.block_lt_of_cell? w _ hx220_0)).trans hx220_0
       replace hx220_1 := (HB.out.cell (World.block_lt_of_cell? w _ hx220_1)).trans hx220_1
       replace p220 := eq_true p220
       replace q220 := eq_true q220
       go_wp2_with (first | ((with_reducible refine gate_dst (N := 37) rfl ?_); refine Kd.R_lit (Kd.int .i64) _ 3 ?hg (N := 37) ?hd (xs := ([wrap64 (x5_1 + ((rd_T44 l0 x7_1).f0)), wrap64 (x6_1 + ((rd_T44 l0 x7_1).f1))] : List Int)) (inner := [.int .i64 (wrap64 (x5_1 + ((rd_T44 l0 x7_1).f0))), .int .i64 (wrap64 (x6_1 + ((rd_T44 l0 x7_1).f1)))]) (ok := fun _ => True) (okp := fun _ => True) ?hr ?hp (fun _ hk => hk) trivial (Below.refl _ _) (Nat.le_refl _) (by simp) ?_; (case hd => rfl); (case hg => rfl); (case hr => exact (qW22)); (case hp => exact (by exact (Reps.one (show Kd.M (Kd.int .i64) _ _ _ (wrap64 (x5_1 + ((rd_T44 l0 x7_1).f0))) [.int .i64 (wrap64 (x5_1 + ((rd_T44 l0 x7_1).f0)))] from rfl) (Reps.one (show Kd.M (Kd.int .i64) _ _ _ (wrap64 (x6_1 + ((rd_T44 l0 x7_1).f1))) [.int .i64 (wrap64 (x6_1 + ((rd_T44 l0 x7_1).f1)))] from rfl) (Reps.none _ _))))); intro v222 w13 ho14 hb hg_ hnew_; clear hg_ hnew_; (first | rw [← Ny221.out] at ho14 | (simp only [Int.reduceToNat] at ho14; rw [← Ny221.out] at ho14)); replace HO_4 := Aside0.mk (Kd.N_elder' (qW30 HO_4.out) (Kd.R_base ho14) hb); have HO223 := Aside0.mk (Kd.R_lower (Kd.R_newM (M := fun k_ => (w.heap.size ≤ k_)) ho14 (below_size (qW0)) (fun k_ h_ => h_)) (below_size (qW0))); replace HB := Aside0.mk (below_step (qW0) hb); clear hb ho14; obtain ⟨Ao16, co16, eo16⟩ := Kd.R_slice HO223.out; subst eo16) | ((with_reducible refine gate_builtin (b := .append) (xs := #[.tmp 34, .tmp 38]) rfl ?_); at_builtin; refine Kd.N_append (Kd.slice 3 (Kd.int .i64)) (w0 := w) w.heap.size rfl (.tmp 34) (.tmp 38) 26 35 (.slice none 0 0) 24 rfl Tryd.underlying26 info35 rfl (by decide) (by omega) u4 x4_1 y221 [.slice Ao16 y221.length co16] (fun k_ => (w.heap.size ≤ k_)) (fun k_ => ((fun k_ => (w.heap.size ≤ k_))) k_ ∧ some k_ ≠ (u4 : Value).ownBlock) rfl rfl ?aP (fun _ hk => hk) ?aF ?aO ?aB ?aS ?aL ?_; (case aP => exact (by exact (Kd.FK_slice_mk (Kd.R_reads' (Kd.R_mono (ok' := (fun k_ => ((fun k_ => (w.heap.size ≤ k_))) k_ ∧ some k_ ≠ (u4 : Value).ownBlock)) (Kd.R_apart' (HO223.out) (Kd.N_typed HO_4.out) (by decide)) (fun k_ hk => ⟨hk.1.1, hk.2⟩))).2.1 (Kd.R_F (Kd.R_mono (ok' := (fun k_ => ((fun k_ => (w.heap.size ≤ k_))) k_ ∧ some k_ ≠ (u4 : Value).ownBlock)) (Kd.R_apart' (HO223.out) (Kd.N_typed HO_4.out) (by decide)) (fun k_ hk => ⟨hk.1.1, hk.2⟩)))))); (case aB => exact (qW0)); (case aF => exact (by exact (fun k_ hk => (Nat.le_trans (below_size (qW0)) hk)))); (case aO => exact (qW59 HO_4.out)); (case aS => exact (qW75)); (case aL => have := LMc12.out; omega); intro v225 w15 ho hb hg hat; rw [← Ny224.out] at ho; replace HB := Aside0.mk (hb); have HO226 := Aside0.mk (ho); clear HO_4 HO223; clear ho hb hg hat))
       go_roundg k1
       case measure => have := HK1.out; omega
       case rel => exact ⟨(y224), (wrap64 (x5_1 + ((rd_T44 l0 x7_1).f0))), (wrap64 (x6_1 + ((rd_T44 l0 x7_1).f1))), (wrap64 (x7_1 + 1)), (qW14), (qW14), (qW14), H', ⟨by have := HK1.out; omega⟩, ⟨(qW30 HO226.out)⟩, ⟨(qW0)⟩⟩
      ·rw [if_neg c12] at H
       exact absurd H (by simp)
     ·rw [if_neg c11] at H
      exact absurd H (by simp)
    ·rw [if_neg c10] at H
     have c10b0 : decide (x7_1 < (l0.length : Int)) = false := decide_eq_false c10
     clear c10
     simp only [Option.some.injEq, Prod.mk.injEq] at H
     obtain ⟨rfl, rfl⟩ := H
     go_wp2
     go_ret2
     exact ⟨_, (qW9), (qW30 HO_4.out), (qW0)⟩
 ·replace c3 := Bool.eq_false_iff.mpr c3
  subst c3
  rw [if_neg (show ¬ (false = true) by decide)] at H
  obtain ⟨y210, hy210⟩ : ∃ y_ : List (List Int), y_ = (([] : List (List Int))) := ⟨_, rfl⟩
  replace H : (some (y210, false)) = some (r1, r2) := (qW7 hy210)
  have Ny210 := Aside0.mk hy210; clear hy210
  simp only [Option.some.injEq, Prod.mk.injEq] at H
  obtain ⟨rfl, rfl⟩ := H
  go_enter Tryd.func7, Tryd.ntmps7
  go_wp2_with (first | ((with_reducible refine gate_callee (f := 23) rfl ?_); refine goesL_ (some 9) rfl rfl Tryd.func23 (by kernel_rfl) rfl #[.slice A0 l0.length c0] rfl (qW1) ?_; (with_reducible refine (spec_l14Good.calls k _ _ l0 false _ ?side1 ?side2 A2.out).mono ?_); (case side1 => exact (qW26)); (case side2 => exact HC0.out); rintro e w17 ⟨rfl, hb⟩; refine ⟨_, rfl, ?_⟩; replace HB := Aside0.mk (below_step (qW0) hb); clear hb) | ((with_reducible refine gate_dst (N := 11) rfl ?_); refine Kd.N_lit (Kd.slice 3 (Kd.int .i64)) _ 35 ?hg (N' := 11) ?hd (xs := ([] : List (List Int))) (inner := []) (ok := (fun k_ => (w.heap.size ≤ k_))) (okp := (fun k_ => (w.heap.size ≤ k_))) ?hr ?hp (fun _ hk => hk) ((show ∀ k_, w17.heap.size ≤ k_ → (fun k_ => (w.heap.size ≤ k_)) k_ from fun k_ hk => (Nat.le_trans (below_size (qW0)) hk)) _ (Nat.le_refl _)) (Below.refl _ _) (Nat.le_refl _) (by simp) ?_; (case hd => rfl); (case hg => rfl); (case hr => exact (qW22)); (case hp => exact (Reps.none _ _)); intro v211 w18 ho19 hb hg_ hnew_; clear hg_ hnew_; (first | rw [← Ny210.out] at ho19 | (simp only [Int.reduceToNat] at ho19; rw [← Ny210.out] at ho19)); have HO212 := Aside0.mk (Kd.N_lower ho19 (below_size (qW0))); replace HB := Aside0.mk (below_step (qW0) hb); clear hb ho19))
  go_ret2
  exact ⟨_, (qW9), (qW30 HO212.out), (qW0)⟩

/-! ### laws_rInts: function 24 -/
def laws_rInts.l0 : Nat → List Int → List Int → Int → Option (Bool)
 | 0, _, _, _ => none
 | k + 1, x0, x1, x5 => if x5 < (x0.length : Int) then (if 0 ≤ x5 then (if x5 < (x1.length : Int) then (if (rd x0 x5) = (rd x1 x5) then (laws_rInts.l0 k x0 x1 (wrap64 (x5 + 1))) else (some false)) else (none)) else (none)) else (some true)
def laws_rInts.f (k : Nat) (l0 : List Int) (l1 : List Int) : Option (Bool) := if (l0.length : Int) = (l1.length : Int) then (laws_rInts.l0 k l0 l1 0) else (some false)
theorem laws_rInts.mono_l : ∀ k, (∀ y0 y1 y2, LeO (laws_rInts.l0 k y0 y1 y2) (laws_rInts.l0 (k + 1) y0 y1 y2))
 | 0 => fun _ _ _ r h => by simp [laws_rInts.l0] at h
 | k + 1 => by
  have ih0 := laws_rInts.mono_l k
  ·intro y0 y1 y2
   unfold laws_rInts.l0
   exact qmono
theorem laws_rInts.mono : ∀ a0 a1 k, LeO (laws_rInts.f k a0 a1) (laws_rInts.f (k + 1) a0 a1) := by
 intro a0 a1 k
 have ih0 := laws_rInts.mono_l k
 unfold laws_rInts.f
 exact qmono
theorem laws_rInts.calls (k : Nat) (A0 : Option Addr) (c0 : Nat) (l0 : List Int) (A1 : Option Addr) (c1 : Nat) (l1 : List Int) (r : Bool) (w : World) (hr0 : Kd.C (Kd.int .i64) w A0 l0.length l0) (hc0 : l0.length ≤ c0) (hr1 : Kd.C (Kd.int .i64) w A1 l1.length l1) (hc1 : l1.length ≤ c1) (h : laws_rInts.f k l0 l1 = some r) :
  Calls Tryd.prog 24 #[.slice A0 l0.length c0, .slice A1 l1.length c1] w fun e w' => e = .returned (.bool r) ∧ Drawn0 w w' := by
 have HR0 := Aside0.mk hr0; have HC0 := Aside0.mk hc0; clear hr0 hc0; have HR1 := Aside0.mk hr1; have HC1 := Aside0.mk hc1; clear hr1 hc1
 have H : (if (l0.length : Int) = (l1.length : Int) then (laws_rInts.l0 k l0 l1 0) else (some false)) = some r := h
 clear h
 by_cases c3 : (l0.length : Int) = (l1.length : Int)
 ·rw [if_pos c3] at H
  have c3b0 : ((l0.length : Int) == (l1.length : Int)) = true := beq_iff_eq.mpr c3
  have c3b1 : ((l0.length : Int) != (l1.length : Int)) = false := bne_eq_false_iff_eq.mpr c3
  have c3b2 : (l0.length == l1.length) = true := by first | simpa using c3 | (simp at c3 ⊢; omega)
  clear c3
  have H' := Aside0.mk H
  clear H
  go_enter Tryd.func24, Tryd.ntmps24
  go_wp2
  repeat (go_quiet (fail); try go_wp2)
  go_loopg [5] k (fun kq v5 w' => ∃ (x5_1 : Int), v5 = .int .i64 x5_1 ∧ Aside0 (laws_rInts.l0 kq l0 l1 x5_1 = some r) ∧ Aside0 (kq ≤ k) ∧ Drawn0 w w')
  case atStart => exact ⟨(0), (qW14), H', ⟨Nat.le_refl _⟩, (qW32)⟩
  case round =>
   clear H'
   try clear c1
   try clear c2
   try clear p2
   try clear c3
   try clear c3b0
   try clear c3b1
   try clear c3b2
   obtain ⟨x5_1, rfl, HA, HK1, ⟨m1, rfl⟩⟩ := hrel
   cases gk with
   | zero => exact absurd HA.out (by simp [laws_rInts.l0])
   | succ k1 =>
    have H := HA.out
    clear HA
    simp only [laws_rInts.l0] at H
    by_cases c4 : x5_1 < (l0.length : Int)
    ·rw [if_pos c4] at H
     have c4b0 : decide (x5_1 < (l0.length : Int)) = true := decide_eq_true c4
     clear c4
     by_cases c5 : 0 ≤ x5_1
     ·rw [if_pos c5] at H
      have c5b0 : decide (0 ≤ x5_1) = true := decide_eq_true c5
      clear c5
      by_cases c6 : x5_1 < (l1.length : Int)
      ·rw [if_pos c6] at H
       have c6b0 : decide (x5_1 < (l1.length : Int)) = true := decide_eq_true c6
       clear c6
       by_cases c7 : (rd l0 x5_1) = (rd l1 x5_1)
       ·rw [if_pos c7] at H
        have c7b0 : ((rd l0 x5_1) == (rd l1 x5_1)) = true := beq_iff_eq.mpr c7
        have c7b1 : ((rd l0 x5_1) != (rd l1 x5_1)) = false := bne_eq_false_iff_eq.mpr c7
        clear c7
        have H' := Aside0.mk H
        clear H
        have p227 : 0 ≤ (x5_1 : Int) := of_decide_eq_true (qW13)
        have q227 : x5_1 < (l0.length : Int) := of_decide_eq_true (qW13)
        obtain ⟨ad227, e227, hx227_0⟩ := Kd.at_int HR0.out x5_1 p227 q227
        cases e227
        replace p227 := eq_true p227
        replace q227 := eq_true q227
        have p228 : 0 ≤ (x5_1 : Int) := of_decide_eq_true (qW13)
        have q228 : x5_1 < (l1.length : Int) := of_decide_eq_true (qW13)
        obtain ⟨ad228, e228, hx228_0⟩ := Kd.at_int HR1.out x5_1 p228 q228
        cases e228
        replace p228 := eq_true p228
        replace q228 := eq_true q228
        go_wp2
        repeat (go_quiet (fail); try go_wp2)
        go_roundg k1
        case measure => have := HK1.out; omega
        case rel => exact ⟨(wrap64 (x5_1 + 1)), (qW14), H', ⟨by have := HK1.out; omega⟩, (qW32)⟩
       ·rw [if_neg c7] at H
        have c7b0 : ((rd l0 x5_1) == (rd l1 x5_1)) = false := beq_eq_false_iff_ne.mpr c7
        have c7b1 : ((rd l0 x5_1) != (rd l1 x5_1)) = true := bne_iff_ne.mpr c7
        obtain rfl := Option.some.inj H
        have p227 : 0 ≤ (x5_1 : Int) := of_decide_eq_true (qW13)
        have q227 : x5_1 < (l0.length : Int) := of_decide_eq_true (qW13)
        obtain ⟨ad227, e227, hx227_0⟩ := Kd.at_int HR0.out x5_1 p227 q227
        cases e227
        replace p227 := eq_true p227
        replace q227 := eq_true q227
        have p228 : 0 ≤ (x5_1 : Int) := of_decide_eq_true (qW13)
        have q228 : x5_1 < (l1.length : Int) := of_decide_eq_true (qW13)
        obtain ⟨ad228, e228, hx228_0⟩ := Kd.at_int HR1.out x5_1 p228 q228
        cases e228
        replace p228 := eq_true p228
        replace q228 := eq_true q228
        go_wp2
        repeat (go_quiet (fail); try go_wp2)
        go_ret
        exact ⟨(qW14), (qW32)⟩
      ·rw [if_neg c6] at H
       exact absurd H (by simp)
     ·rw [if_neg c5] at H
      exact absurd H (by simp)
    ·rw [if_neg c4] at H
     have c4b0 : decide (x5_1 < (l0.length : Int)) = false := decide_eq_false c4
     clear c4; obtain rfl := Option.some.inj H
     go_wp2
     repeat (go_quiet (fail); try go_wp2)
     go_ret
     exact ⟨(qW14), (qW32)⟩
 ·rw [if_neg c3] at H
  have c3b0 : ((l0.length : Int) == (l1.length : Int)) = false := beq_eq_false_iff_ne.mpr c3
  have c3b1 : ((l0.length : Int) != (l1.length : Int)) = true := bne_iff_ne.mpr c3
  have c3b2 : (l0.length == l1.length) = false := by first | simpa using c3 | (simp at c3 ⊢; omega)
  obtain rfl := Option.some.inj H
  go_enter Tryd.func24, Tryd.ntmps24
  go_wp2
  repeat (go_quiet (fail); try go_wp2)
  go_ret
  exact ⟨(qW14), (qW32)⟩

end Go.Proofs.YtmbpdegkkdcjnaaDoor.MW
