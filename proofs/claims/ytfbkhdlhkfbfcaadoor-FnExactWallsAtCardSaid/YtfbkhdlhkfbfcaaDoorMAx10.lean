-- Written by a program of this session (wip/drv.py, wip/tight.py).
import Derived.Test.YtfbkhdlhkfbfcaaDoorMAx0
namespace Go.Proofs.YtfbkhdlhkfbfcaaDoor.MA
open Go.RowKit Go.Proofs.YtfbkhdlhkfbfcaaDoorW.PrintWords Go.Proofs.YtfbkhdlhkfbfcaaDoorW.PrintLast Go.Proofs.YtfbkhdlhkfbfcaaDoorW.PrintMore
set_option maxHeartbeats 8000000
set_option maxRecDepth 100000
theorem qA10_0 {p : Prop} (h : p := by repeat (first | (with_reducible first | exact HB.out | apply below_alloc | apply pw_below_drewN | apply below_drew1) | exact HB.out)) : p := h
theorem qA10_1 {p : Prop} (h : p := by repeat (first | (with_reducible first | exact HB.out | apply below_alloc | apply pw_below_drewN | apply below_drew1 | refine below_set ?_ GE288.out) | exact HB.out)) : p := h
theorem qA10_2 {p : Prop} (h : p := by (with_reducible repeat (first | refine blk_drewN ?_ _ | refine blk_drew ?_ | refine blk_alloc ?_ _)); exact BK288.out) : p := h
theorem qA10_3 {p : Prop} (h : p := by repeat (first | (with_reducible first | exact HB.out | apply below_alloc | apply pw_below_drewN | apply below_drew1 | refine below_set ?_ GE286.out) | exact HB.out)) : p := h
theorem qA10_4 {p : Prop} (h : p := by (with_reducible repeat (first | refine blk_drewN ?_ _ | refine blk_drew ?_ | refine blk_alloc ?_ _)); exact BK286.out) : p := h
theorem qA10_5 {p : Prop} (h : p := by first | rfl | (simp [errW_none, errW_some] <;> rfl) | (simp [*, errW_none, errW_some] <;> rfl)) : p := h
theorem qA10_6 {p : Prop} (h : p := by repeat (first | (with_reducible first | exact HB.out | apply below_alloc | apply pw_below_drewN | apply below_drew1 | refine below_set ?_ GE288.out | refine below_set ?_ GE289.out) | exact HB.out)) : p := h
theorem qA10_7 {p : Prop} (h : p := by first | (go_simp; done) | (go_simp; rfl)) : p := h
theorem qA10_8 {p : Prop} (h : p := by repeat (first | (with_reducible first | exact HB.out | apply below_alloc | apply pw_below_drewN | apply below_drew1 | refine below_set ?_ GE286.out | refine below_set ?_ GE287.out) | exact HB.out)) : p := h
theorem qA10_9 {p : Prop} (h : p := by exact any_of HT_.out (by kernel_rfl)) : p := h
theorem qA10_10 {p : Prop} (h : p := by first | (with_reducible assumption) | assumption) : p := h
theorem qA10_11 {p : Prop} (h : p := by (try simp only [List.map_toArray, List.map_cons, List.map_nil]); first | done | rfl | (simp only [List.length_drop, List.length_take]; rfl)) : p := h
theorem qA10_12 {p : Prop} (h : p := by (with_reducible repeat (first | refine blk_drewN ?_ _ | refine blk_drew ?_ | refine blk_alloc ?_ _)); exact BK1.out) : p := h
theorem qA10_c0 {p : Prop} (h : p := by
  simp only [Act.put, List.setIfInBounds_toArray, List.set_cons_zero, List.set_cons_succ, i64_w, i32_w]
  rfl) : p := h
theorem qA10_c1 {p : Prop} (h : p := by
  intro w'
  go_simp
  with_reducible rfl) : p := h
theorem qA10_c2 {p : Prop} (h : p := by
  rintro w' ⟨s0, s1, s2, s3, s4, s5, s6, s7, s8, s9⟩
  go_simp
  with_reducible rfl) : p := h
abbrev qA10_b0 : Array Bool := #[false, false, false, false, false, false, false, false, false, false]
abbrev qA10_b1 : Array Bool := #[true, false, false, false, false, false, false, false, false, false]
abbrev qA10_b2 : Array Bool := #[true, true, false, false, false, false, false, false, false, false]
abbrev qA10_b3 : Array Bool := #[true, true, true, false, false, false, false, false, false, false]
abbrev qA10_b4 : Array Bool := #[true, true, true, false, true, false, false, false, false, false]
abbrev qA10_b5 : Array Bool := #[true, true, true, false, true, true, false, false, false, false]
abbrev qA10_b6 : Array Bool := #[true, true, true, false, true, true, true, false, false, false]
abbrev qA10_b7 : Array Bool := #[true, true, true, true, true, true, true, false, false, false]
abbrev qA10_b8 : Array Bool := #[true, true, true, true, true, true, true, true, false, false]
abbrev qA10_b9 : Array Bool := #[true, true, true, true, true, true, true, true, true, false]
abbrev qA10_b10 : Array Bool := #[true, true, true, true, true, true, true, true, true, true]
attribute [local go_sem] max2_int min2_int max_two min_two max_three min_three max_four min_four   -- for this text's walks alone
set_option linter.unusedVariables false
set_option linter.unusedSimpArgs false

/-! ### laws_eqShift: function 38 -/
def laws_eqShift.f (a0_0 : Int) (a0_1 : Int) (a0_2 : Int) (a1_0 : Int) (a1_1 : Int) (a1_2 : Int) : Option (Bool) := if a0_0 = a1_0 then (if a0_1 = a1_1 then (if a0_2 = a1_2 then (some true) else (some false)) else (some false)) else (some false)
theorem laws_eqShift.calls (a0_0 : Int) (a0_1 : Int) (a0_2 : Int) (a1_0 : Int) (a1_1 : Int) (a1_2 : Int) (r : Bool) (w : World) (h : laws_eqShift.f a0_0 a0_1 a0_2 a1_0 a1_1 a1_2 = some r) :
  Calls Tryd.prog 38 #[.agg #[.int .i64 a0_0, .int .i64 a0_1, .int .i64 a0_2], .agg #[.int .i64 a1_0, .int .i64 a1_1, .int .i64 a1_2]] w fun e w' => e = .returned (.bool r) ∧ Below w.heap.size w w' := by
 have hu27 := Tryd.underlying27
 have HB := Aside0.mk (Below.refl w.heap.size w)
 have H : (if a0_0 = a1_0 then (if a0_1 = a1_1 then (if a0_2 = a1_2 then (some true) else (some false)) else (some false)) else (some false)) = some r := h
 clear h
 by_cases c3 : a0_0 = a1_0
 ·rw [if_pos c3] at H
  have c3b0 : (a0_0 == a1_0) = true := beq_iff_eq.mpr c3
  have c3b1 : (a0_0 != a1_0) = false := bne_eq_false_iff_eq.mpr c3
  clear c3
  by_cases c4 : a0_1 = a1_1
  ·rw [if_pos c4] at H
   have c4b0 : (a0_1 == a1_1) = true := beq_iff_eq.mpr c4
   have c4b1 : (a0_1 != a1_1) = false := bne_eq_false_iff_eq.mpr c4
   clear c4
   by_cases c5 : a0_2 = a1_2
   ·rw [if_pos c5] at H
    have c5b0 : (a0_2 == a1_2) = true := beq_iff_eq.mpr c5
    have c5b1 : (a0_2 != a1_2) = false := bne_eq_false_iff_eq.mpr c5
    clear c5; obtain rfl := Option.some.inj H
    go_enter Tryd.func38, Tryd.ntmps38
    go_wp2_with (first | ((with_reducible refine gate_dst (N := 2) rfl ?_); refine box_event ?hg (N := 2) ?hd (cs := #[.int .i64 a0_0, .int .i64 a0_1, .int .i64 a0_2]) (t := 27) ?hr ?_; (case hd => rfl); (case hg => rfl); (case hr => exact (qA10_7)); intro gb286 hg w6 hbox hb; have n0_ := Aside0.mk (below_step (qA10_0) hb); have n1_ := Aside0.mk (hbox); have n2_ := Aside0.mk ((by rw [hg]; exact (below_size (qA10_0)) : w.heap.size ≤ gb286)); have n3_ := Aside0.mk ((by rw [hg]; exact (below_size (qA10_0)) : w.heap.size ≤ gb286)); clear HB; have HB := n0_; have BK286 := n1_; have GW286 := n2_; have GE286 := n3_; clear n0_ n1_ n2_ n3_; clear hb hbox hg) | ((with_reducible refine gate_dst (N := 3) rfl ?_); refine box_event ?hg (N := 3) ?hd (cs := #[.int .i64 a1_0, .int .i64 a1_1, .int .i64 a1_2]) (t := 27) ?hr ?_; (case hd => rfl); (case hg => rfl); (case hr => exact (qA10_7)); intro gb287 hg w7 hbox hb; have n0_ := Aside0.mk (blk_below (g := gb286) (o := .cells #[.int .i64 a0_0, .int .i64 a0_1, .int .i64 a0_2] 27 (0, 0)) (qA10_4) hb); have n1_ := Aside0.mk (below_step (qA10_3) hb); have n2_ := Aside0.mk (hbox); have n3_ := Aside0.mk ((by rw [hg]; exact (below_size (qA10_3)) : w.heap.size ≤ gb287)); have n4_ := Aside0.mk ((by rw [hg]; exact (below_size (qA10_3)) : w.heap.size ≤ gb287)); have n5_ := Aside0.mk ((by rw [hg]; exact Nat.ne_of_lt (blk_lt (g := gb286) (o := .cells #[.int .i64 a0_0, .int .i64 a0_1, .int .i64 a0_2] 27 (0, 0)) (qA10_4)) : gb286 ≠ gb287)); have n6_ := Aside0.mk ((by rw [hg]; exact Nat.ne_of_gt (blk_lt (g := gb286) (o := .cells #[.int .i64 a0_0, .int .i64 a0_1, .int .i64 a0_2] 27 (0, 0)) (qA10_4)) : gb287 ≠ gb286)); clear BK286 HB; have BK286 := n0_; have HB := n1_; have BK287 := n2_; have GW287 := n3_; have GE287 := n4_; have NB286_287 := n5_; have NB287_286 := n6_; clear n0_ n1_ n2_ n3_ n4_ n5_ n6_; clear hb hbox hg; have hnb8 := NB286_287.out; have hnc8 := NB287_286.out; have hcz9_0 : w7.cell? ⟨gb286, 0, none⟩ = some (.int .i64 a0_0) := (blk_cell BK286.out 0).trans rfl; have hcz9_1 : w7.cell? ⟨gb286, 1, none⟩ = some (.int .i64 a0_1) := (blk_cell BK286.out 1).trans rfl; have hcz9_2 : w7.cell? ⟨gb286, 2, none⟩ = some (.int .i64 a0_2) := (blk_cell BK286.out 2).trans rfl; have hfz9_0 := blk_frozen BK286.out 0; have hfz9_1 := blk_frozen BK286.out 1; have hfz9_2 := blk_frozen BK286.out 2; have hcz10_0 : w7.cell? ⟨gb287, 0, none⟩ = some (.int .i64 a1_0) := (blk_cell BK287.out 0).trans rfl; have hcz10_1 : w7.cell? ⟨gb287, 1, none⟩ = some (.int .i64 a1_1) := (blk_cell BK287.out 1).trans rfl; have hcz10_2 : w7.cell? ⟨gb287, 2, none⟩ = some (.int .i64 a1_2) := (blk_cell BK287.out 2).trans rfl; have hfz10_0 := blk_frozen BK287.out 0; have hfz10_1 := blk_frozen BK287.out 1; have hfz10_2 := blk_frozen BK287.out 2))
    go_ret
    exact ⟨(qA10_5), (qA10_8)⟩
   ·rw [if_neg c5] at H
    have c5b0 : (a0_2 == a1_2) = false := beq_eq_false_iff_ne.mpr c5
    have c5b1 : (a0_2 != a1_2) = true := bne_iff_ne.mpr c5
    obtain rfl := Option.some.inj H
    go_enter Tryd.func38, Tryd.ntmps38
    go_wp2_with (first | ((with_reducible refine gate_dst (N := 2) rfl ?_); refine box_event ?hg (N := 2) ?hd (cs := #[.int .i64 a0_0, .int .i64 a0_1, .int .i64 a0_2]) (t := 27) ?hr ?_; (case hd => rfl); (case hg => rfl); (case hr => exact (qA10_7)); intro gb286 hg w11 hbox hb; have n0_ := Aside0.mk (below_step (qA10_0) hb); have n1_ := Aside0.mk (hbox); have n2_ := Aside0.mk ((by rw [hg]; exact (below_size (qA10_0)) : w.heap.size ≤ gb286)); have n3_ := Aside0.mk ((by rw [hg]; exact (below_size (qA10_0)) : w.heap.size ≤ gb286)); clear HB; have HB := n0_; have BK286 := n1_; have GW286 := n2_; have GE286 := n3_; clear n0_ n1_ n2_ n3_; clear hb hbox hg) | ((with_reducible refine gate_dst (N := 3) rfl ?_); refine box_event ?hg (N := 3) ?hd (cs := #[.int .i64 a1_0, .int .i64 a1_1, .int .i64 a1_2]) (t := 27) ?hr ?_; (case hd => rfl); (case hg => rfl); (case hr => exact (qA10_7)); intro gb287 hg w12 hbox hb; have n0_ := Aside0.mk (blk_below (g := gb286) (o := .cells #[.int .i64 a0_0, .int .i64 a0_1, .int .i64 a0_2] 27 (0, 0)) (qA10_4) hb); have n1_ := Aside0.mk (below_step (qA10_3) hb); have n2_ := Aside0.mk (hbox); have n3_ := Aside0.mk ((by rw [hg]; exact (below_size (qA10_3)) : w.heap.size ≤ gb287)); have n4_ := Aside0.mk ((by rw [hg]; exact (below_size (qA10_3)) : w.heap.size ≤ gb287)); have n5_ := Aside0.mk ((by rw [hg]; exact Nat.ne_of_lt (blk_lt (g := gb286) (o := .cells #[.int .i64 a0_0, .int .i64 a0_1, .int .i64 a0_2] 27 (0, 0)) (qA10_4)) : gb286 ≠ gb287)); have n6_ := Aside0.mk ((by rw [hg]; exact Nat.ne_of_gt (blk_lt (g := gb286) (o := .cells #[.int .i64 a0_0, .int .i64 a0_1, .int .i64 a0_2] 27 (0, 0)) (qA10_4)) : gb287 ≠ gb286)); clear BK286 HB; have BK286 := n0_; have HB := n1_; have BK287 := n2_; have GW287 := n3_; have GE287 := n4_; have NB286_287 := n5_; have NB287_286 := n6_; clear n0_ n1_ n2_ n3_ n4_ n5_ n6_; clear hb hbox hg; have hnb13 := NB286_287.out; have hnc13 := NB287_286.out; have hcz14_0 : w12.cell? ⟨gb286, 0, none⟩ = some (.int .i64 a0_0) := (blk_cell BK286.out 0).trans rfl; have hcz14_1 : w12.cell? ⟨gb286, 1, none⟩ = some (.int .i64 a0_1) := (blk_cell BK286.out 1).trans rfl; have hcz14_2 : w12.cell? ⟨gb286, 2, none⟩ = some (.int .i64 a0_2) := (blk_cell BK286.out 2).trans rfl; have hfz14_0 := blk_frozen BK286.out 0; have hfz14_1 := blk_frozen BK286.out 1; have hfz14_2 := blk_frozen BK286.out 2; have hcz15_0 : w12.cell? ⟨gb287, 0, none⟩ = some (.int .i64 a1_0) := (blk_cell BK287.out 0).trans rfl; have hcz15_1 : w12.cell? ⟨gb287, 1, none⟩ = some (.int .i64 a1_1) := (blk_cell BK287.out 1).trans rfl; have hcz15_2 : w12.cell? ⟨gb287, 2, none⟩ = some (.int .i64 a1_2) := (blk_cell BK287.out 2).trans rfl; have hfz15_0 := blk_frozen BK287.out 0; have hfz15_1 := blk_frozen BK287.out 1; have hfz15_2 := blk_frozen BK287.out 2))
    go_ret
    exact ⟨(qA10_5), (qA10_8)⟩
  ·rw [if_neg c4] at H
   have c4b0 : (a0_1 == a1_1) = false := beq_eq_false_iff_ne.mpr c4
   have c4b1 : (a0_1 != a1_1) = true := bne_iff_ne.mpr c4
   obtain rfl := Option.some.inj H
   go_enter Tryd.func38, Tryd.ntmps38
   go_wp2_with (first | ((with_reducible refine gate_dst (N := 2) rfl ?_); refine box_event ?hg (N := 2) ?hd (cs := #[.int .i64 a0_0, .int .i64 a0_1, .int .i64 a0_2]) (t := 27) ?hr ?_; (case hd => rfl); (case hg => rfl); (case hr => exact (qA10_7)); intro gb286 hg w16 hbox hb; have n0_ := Aside0.mk (below_step (qA10_0) hb); have n1_ := Aside0.mk (hbox); have n2_ := Aside0.mk ((by rw [hg]; exact (below_size (qA10_0)) : w.heap.size ≤ gb286)); have n3_ := Aside0.mk ((by rw [hg]; exact (below_size (qA10_0)) : w.heap.size ≤ gb286)); clear HB; have HB := n0_; have BK286 := n1_; have GW286 := n2_; have GE286 := n3_; clear n0_ n1_ n2_ n3_; clear hb hbox hg) | ((with_reducible refine gate_dst (N := 3) rfl ?_); refine box_event ?hg (N := 3) ?hd (cs := #[.int .i64 a1_0, .int .i64 a1_1, .int .i64 a1_2]) (t := 27) ?hr ?_; (case hd => rfl); (case hg => rfl); (case hr => exact (qA10_7)); intro gb287 hg w17 hbox hb; have n0_ := Aside0.mk (blk_below (g := gb286) (o := .cells #[.int .i64 a0_0, .int .i64 a0_1, .int .i64 a0_2] 27 (0, 0)) (qA10_4) hb); have n1_ := Aside0.mk (below_step (qA10_3) hb); have n2_ := Aside0.mk (hbox); have n3_ := Aside0.mk ((by rw [hg]; exact (below_size (qA10_3)) : w.heap.size ≤ gb287)); have n4_ := Aside0.mk ((by rw [hg]; exact (below_size (qA10_3)) : w.heap.size ≤ gb287)); have n5_ := Aside0.mk ((by rw [hg]; exact Nat.ne_of_lt (blk_lt (g := gb286) (o := .cells #[.int .i64 a0_0, .int .i64 a0_1, .int .i64 a0_2] 27 (0, 0)) (qA10_4)) : gb286 ≠ gb287)); have n6_ := Aside0.mk ((by rw [hg]; exact Nat.ne_of_gt (blk_lt (g := gb286) (o := .cells #[.int .i64 a0_0, .int .i64 a0_1, .int .i64 a0_2] 27 (0, 0)) (qA10_4)) : gb287 ≠ gb286)); clear BK286 HB; have BK286 := n0_; have HB := n1_; have BK287 := n2_; have GW287 := n3_; have GE287 := n4_; have NB286_287 := n5_; have NB287_286 := n6_; clear n0_ n1_ n2_ n3_ n4_ n5_ n6_; clear hb hbox hg; have hnb18 := NB286_287.out; have hnc18 := NB287_286.out; have hcz19_0 : w17.cell? ⟨gb286, 0, none⟩ = some (.int .i64 a0_0) := (blk_cell BK286.out 0).trans rfl; have hcz19_1 : w17.cell? ⟨gb286, 1, none⟩ = some (.int .i64 a0_1) := (blk_cell BK286.out 1).trans rfl; have hcz19_2 : w17.cell? ⟨gb286, 2, none⟩ = some (.int .i64 a0_2) := (blk_cell BK286.out 2).trans rfl; have hfz19_0 := blk_frozen BK286.out 0; have hfz19_1 := blk_frozen BK286.out 1; have hfz19_2 := blk_frozen BK286.out 2; have hcz20_0 : w17.cell? ⟨gb287, 0, none⟩ = some (.int .i64 a1_0) := (blk_cell BK287.out 0).trans rfl; have hcz20_1 : w17.cell? ⟨gb287, 1, none⟩ = some (.int .i64 a1_1) := (blk_cell BK287.out 1).trans rfl; have hcz20_2 : w17.cell? ⟨gb287, 2, none⟩ = some (.int .i64 a1_2) := (blk_cell BK287.out 2).trans rfl; have hfz20_0 := blk_frozen BK287.out 0; have hfz20_1 := blk_frozen BK287.out 1; have hfz20_2 := blk_frozen BK287.out 2))
   go_ret
   exact ⟨(qA10_5), (qA10_8)⟩
 ·rw [if_neg c3] at H
  have c3b0 : (a0_0 == a1_0) = false := beq_eq_false_iff_ne.mpr c3
  have c3b1 : (a0_0 != a1_0) = true := bne_iff_ne.mpr c3
  obtain rfl := Option.some.inj H
  go_enter Tryd.func38, Tryd.ntmps38
  go_wp2_with (first | ((with_reducible refine gate_dst (N := 2) rfl ?_); refine box_event ?hg (N := 2) ?hd (cs := #[.int .i64 a0_0, .int .i64 a0_1, .int .i64 a0_2]) (t := 27) ?hr ?_; (case hd => rfl); (case hg => rfl); (case hr => exact (qA10_7)); intro gb286 hg w21 hbox hb; have n0_ := Aside0.mk (below_step (qA10_0) hb); have n1_ := Aside0.mk (hbox); have n2_ := Aside0.mk ((by rw [hg]; exact (below_size (qA10_0)) : w.heap.size ≤ gb286)); have n3_ := Aside0.mk ((by rw [hg]; exact (below_size (qA10_0)) : w.heap.size ≤ gb286)); clear HB; have HB := n0_; have BK286 := n1_; have GW286 := n2_; have GE286 := n3_; clear n0_ n1_ n2_ n3_; clear hb hbox hg) | ((with_reducible refine gate_dst (N := 3) rfl ?_); refine box_event ?hg (N := 3) ?hd (cs := #[.int .i64 a1_0, .int .i64 a1_1, .int .i64 a1_2]) (t := 27) ?hr ?_; (case hd => rfl); (case hg => rfl); (case hr => exact (qA10_7)); intro gb287 hg w22 hbox hb; have n0_ := Aside0.mk (blk_below (g := gb286) (o := .cells #[.int .i64 a0_0, .int .i64 a0_1, .int .i64 a0_2] 27 (0, 0)) (qA10_4) hb); have n1_ := Aside0.mk (below_step (qA10_3) hb); have n2_ := Aside0.mk (hbox); have n3_ := Aside0.mk ((by rw [hg]; exact (below_size (qA10_3)) : w.heap.size ≤ gb287)); have n4_ := Aside0.mk ((by rw [hg]; exact (below_size (qA10_3)) : w.heap.size ≤ gb287)); have n5_ := Aside0.mk ((by rw [hg]; exact Nat.ne_of_lt (blk_lt (g := gb286) (o := .cells #[.int .i64 a0_0, .int .i64 a0_1, .int .i64 a0_2] 27 (0, 0)) (qA10_4)) : gb286 ≠ gb287)); have n6_ := Aside0.mk ((by rw [hg]; exact Nat.ne_of_gt (blk_lt (g := gb286) (o := .cells #[.int .i64 a0_0, .int .i64 a0_1, .int .i64 a0_2] 27 (0, 0)) (qA10_4)) : gb287 ≠ gb286)); clear BK286 HB; have BK286 := n0_; have HB := n1_; have BK287 := n2_; have GW287 := n3_; have GE287 := n4_; have NB286_287 := n5_; have NB287_286 := n6_; clear n0_ n1_ n2_ n3_ n4_ n5_ n6_; clear hb hbox hg; have hnb23 := NB286_287.out; have hnc23 := NB287_286.out; have hcz24_0 : w22.cell? ⟨gb286, 0, none⟩ = some (.int .i64 a0_0) := (blk_cell BK286.out 0).trans rfl; have hcz24_1 : w22.cell? ⟨gb286, 1, none⟩ = some (.int .i64 a0_1) := (blk_cell BK286.out 1).trans rfl; have hcz24_2 : w22.cell? ⟨gb286, 2, none⟩ = some (.int .i64 a0_2) := (blk_cell BK286.out 2).trans rfl; have hfz24_0 := blk_frozen BK286.out 0; have hfz24_1 := blk_frozen BK286.out 1; have hfz24_2 := blk_frozen BK286.out 2; have hcz25_0 : w22.cell? ⟨gb287, 0, none⟩ = some (.int .i64 a1_0) := (blk_cell BK287.out 0).trans rfl; have hcz25_1 : w22.cell? ⟨gb287, 1, none⟩ = some (.int .i64 a1_1) := (blk_cell BK287.out 1).trans rfl; have hcz25_2 : w22.cell? ⟨gb287, 2, none⟩ = some (.int .i64 a1_2) := (blk_cell BK287.out 2).trans rfl; have hfz25_0 := blk_frozen BK287.out 0; have hfz25_1 := blk_frozen BK287.out 1; have hfz25_2 := blk_frozen BK287.out 2))
  go_ret
  exact ⟨(qA10_5), (qA10_8)⟩

/-! ### laws_eqShiftA4: function 10 (by hand: wip/inj) -/
theorem laws_eqShiftA4.one (x y z x' y' z' : Int) : laws_eqShift.f x y z x' y' z' = some (decide (x = x' ∧ y = y' ∧ z = z')) := by
 unfold laws_eqShift.f
 by_cases h1 : x = x' <;> by_cases h2 : y = y' <;> by_cases h3 : z = z' <;> simp [h1, h2, h3]
def laws_eqShiftA4.f (a0_0 : Int) (a0_1 : Int) (a0_2 : Int) (a0_3 : Int) (a0_4 : Int) (a0_5 : Int) (a0_6 : Int) (a0_7 : Int) (a0_8 : Int) (a0_9 : Int) (a0_10 : Int) (a0_11 : Int) (a1_0 : Int) (a1_1 : Int) (a1_2 : Int) (a1_3 : Int) (a1_4 : Int) (a1_5 : Int) (a1_6 : Int) (a1_7 : Int) (a1_8 : Int) (a1_9 : Int) (a1_10 : Int) (a1_11 : Int) : Option Bool := some (decide ((a0_0 = a1_0 ∧ a0_1 = a1_1 ∧ a0_2 = a1_2) ∧ (a0_3 = a1_3 ∧ a0_4 = a1_4 ∧ a0_5 = a1_5) ∧ (a0_6 = a1_6 ∧ a0_7 = a1_7 ∧ a0_8 = a1_8) ∧ (a0_9 = a1_9 ∧ a0_10 = a1_10 ∧ a0_11 = a1_11)))
theorem laws_eqShiftA4.calls (a0_0 : Int) (a0_1 : Int) (a0_2 : Int) (a0_3 : Int) (a0_4 : Int) (a0_5 : Int) (a0_6 : Int) (a0_7 : Int) (a0_8 : Int) (a0_9 : Int) (a0_10 : Int) (a0_11 : Int) (a1_0 : Int) (a1_1 : Int) (a1_2 : Int) (a1_3 : Int) (a1_4 : Int) (a1_5 : Int) (a1_6 : Int) (a1_7 : Int) (a1_8 : Int) (a1_9 : Int) (a1_10 : Int) (a1_11 : Int) (r : Bool) (w : World) (h : laws_eqShiftA4.f a0_0 a0_1 a0_2 a0_3 a0_4 a0_5 a0_6 a0_7 a0_8 a0_9 a0_10 a0_11 a1_0 a1_1 a1_2 a1_3 a1_4 a1_5 a1_6 a1_7 a1_8 a1_9 a1_10 a1_11 = some r) :
  Calls Tryd.prog 10 #[.agg #[.int .i64 a0_0, .int .i64 a0_1, .int .i64 a0_2, .int .i64 a0_3, .int .i64 a0_4, .int .i64 a0_5, .int .i64 a0_6, .int .i64 a0_7, .int .i64 a0_8, .int .i64 a0_9, .int .i64 a0_10, .int .i64 a0_11], .agg #[.int .i64 a1_0, .int .i64 a1_1, .int .i64 a1_2, .int .i64 a1_3, .int .i64 a1_4, .int .i64 a1_5, .int .i64 a1_6, .int .i64 a1_7, .int .i64 a1_8, .int .i64 a1_9, .int .i64 a1_10, .int .i64 a1_11]] w fun e w' => e = .returned (.bool r) ∧ Below w.heap.size w w' := by
 have huA := Tryd.underlying28
 have huS := Tryd.underlying27
 have HB := Aside0.mk (Below.refl w.heap.size w)
 have HRES := Aside0.mk (Option.some.inj h)
 clear h
 have HEQ : Aside0 (∀ x y z x' y' z' W, Calls Tryd.prog 38 #[.agg #[.int .i64 x, .int .i64 y, .int .i64 z], .agg #[.int .i64 x', .int .i64 y', .int .i64 z']] W fun e W' => e = .returned (.bool (decide (x = x' ∧ y = y' ∧ z = z'))) ∧ Below W.heap.size W W') := ⟨fun x y z x' y' z' W => laws_eqShift.calls x y z x' y' z' _ W (laws_eqShiftA4.one x y z x' y' z')⟩
 go_enter Tryd.func10, Tryd.ntmps10
 go_wp2_with (first | ((with_reducible refine gate_dst (N := 2) rfl ?_); refine box_event ?hg (N := 2) ?hd (cs := #[.int .i64 a0_0, .int .i64 a0_1, .int .i64 a0_2, .int .i64 a0_3, .int .i64 a0_4, .int .i64 a0_5, .int .i64 a0_6, .int .i64 a0_7, .int .i64 a0_8, .int .i64 a0_9, .int .i64 a0_10, .int .i64 a0_11]) (t := 28) ?hr ?_; (case hd => rfl); (case hg => rfl); (case hr => exact (qA10_7)); intro gb1 hg w8 hbox hb; have n0_ := Aside0.mk (below_step (qA10_0) hb); have n1_ := Aside0.mk (hbox); clear HB; have HB := n0_; have BK1 := n1_; clear n0_ n1_; clear hb hbox hg) | ((with_reducible refine gate_dst (N := 3) rfl ?_); refine box_event ?hg (N := 3) ?hd (cs := #[.int .i64 a1_0, .int .i64 a1_1, .int .i64 a1_2, .int .i64 a1_3, .int .i64 a1_4, .int .i64 a1_5, .int .i64 a1_6, .int .i64 a1_7, .int .i64 a1_8, .int .i64 a1_9, .int .i64 a1_10, .int .i64 a1_11]) (t := 28) ?hr ?_; (case hd => rfl); (case hg => rfl); (case hr => exact (qA10_7)); intro gb2 hg w9 hbox hb; have n0_ := Aside0.mk (blk_below (g := gb1) (o := .cells #[.int .i64 a0_0, .int .i64 a0_1, .int .i64 a0_2, .int .i64 a0_3, .int .i64 a0_4, .int .i64 a0_5, .int .i64 a0_6, .int .i64 a0_7, .int .i64 a0_8, .int .i64 a0_9, .int .i64 a0_10, .int .i64 a0_11] 28 (0, 0)) (qA10_12) hb); have n1_ := Aside0.mk (below_step (qA10_0) hb); have n2_ := Aside0.mk (hbox); clear BK1 HB; have BK1 := n0_; have HB := n1_; have BK2 := n2_; clear n0_ n1_ n2_; clear hb hbox hg))
 go_loopg [5] 4 (fun kq v5 w' => ∃ (j : Nat), v5 = .int .i64 (j : Int) ∧ Aside0 (kq + j = 4 ∧ (1 ≤ j → (a0_0 = a1_0 ∧ a0_1 = a1_1 ∧ a0_2 = a1_2)) ∧ (2 ≤ j → (a0_3 = a1_3 ∧ a0_4 = a1_4 ∧ a0_5 = a1_5)) ∧ (3 ≤ j → (a0_6 = a1_6 ∧ a0_7 = a1_7 ∧ a0_8 = a1_8)) ∧ (4 ≤ j → (a0_9 = a1_9 ∧ a0_10 = a1_10 ∧ a0_11 = a1_11))) ∧ Aside0 (w'.heap[gb1]? = some (.cells #[.int .i64 a0_0, .int .i64 a0_1, .int .i64 a0_2, .int .i64 a0_3, .int .i64 a0_4, .int .i64 a0_5, .int .i64 a0_6, .int .i64 a0_7, .int .i64 a0_8, .int .i64 a0_9, .int .i64 a0_10, .int .i64 a0_11] 28 (0, 0))) ∧ Aside0 (w'.heap[gb2]? = some (.cells #[.int .i64 a1_0, .int .i64 a1_1, .int .i64 a1_2, .int .i64 a1_3, .int .i64 a1_4, .int .i64 a1_5, .int .i64 a1_6, .int .i64 a1_7, .int .i64 a1_8, .int .i64 a1_9, .int .i64 a1_10, .int .i64 a1_11] 28 (0, 0))) ∧ Aside0 (Below w.heap.size w w'))
 case atStart => exact ⟨0, rfl, ⟨by omega, by omega, by omega, by omega, by omega⟩, ⟨(qA10_12)⟩, ⟨(by (with_reducible repeat (first | refine blk_drewN ?_ _ | refine blk_drew ?_ | refine blk_alloc ?_ _)); exact BK2.out)⟩, ⟨(qA10_0)⟩⟩
 case round =>
  clear BK1 BK2 HB; obtain ⟨j, rfl, HJ, BK1, BK2, HB⟩ := hrel
  obtain (rfl | rfl | rfl | rfl | rfl) : j = 0 ∨ j = 1 ∨ j = 2 ∨ j = 3 ∨ j = 4 := by have := HJ.out.1; omega
  ·obtain ⟨k2, rfl⟩ : ∃ k2, gk = k2 + 1 := ⟨gk - 1, by have := HJ.out.1; omega⟩
   obtain ⟨wd, hwd⟩ : ∃ wd, wd = wr.drew := ⟨_, rfl⟩
   have hz1_0 : wr.cell? ⟨gb1, 0, none⟩ = some (.int .i64 a0_0) := (blk_cell BK1.out 0).trans rfl
   have hz1_1 : wr.cell? ⟨gb1, 1, none⟩ = some (.int .i64 a0_1) := (blk_cell BK1.out 1).trans rfl
   have hz1_2 : wr.cell? ⟨gb1, 2, none⟩ = some (.int .i64 a0_2) := (blk_cell BK1.out 2).trans rfl
   have hz2_0 : wr.cell? ⟨gb2, 0, none⟩ = some (.int .i64 a1_0) := (blk_cell BK2.out 0).trans rfl
   have hz2_1 : wr.cell? ⟨gb2, 1, none⟩ = some (.int .i64 a1_1) := (blk_cell BK2.out 1).trans rfl
   have hz2_2 : wr.cell? ⟨gb2, 2, none⟩ = some (.int .i64 a1_2) := (blk_cell BK2.out 2).trans rfl
   clear hwd wd
   have HBd := Aside0.mk (below_drew1 HB.out)
   have HWd := Aside0.mk (below_drew1 (Below.refl wr.heap.size wr))
   by_cases hq : a0_0 = a1_0 ∧ a0_1 = a1_1 ∧ a0_2 = a1_2
   ·have dq : decide (a0_0 = a1_0 ∧ a0_1 = a1_1 ∧ a0_2 = a1_2) = true := decide_eq_true hq
    have HQ := Aside0.mk hq; clear hq
    go_wp2_with fail
    go_region_held3 (fun W' => Below wr.heap.size wr W' ∧ W'.cell? ⟨gb1, 0, none⟩ = some (.int .i64 a0_0) ∧ W'.cell? ⟨gb1, 1, none⟩ = some (.int .i64 a0_1) ∧ W'.cell? ⟨gb1, 2, none⟩ = some (.int .i64 a0_2) ∧ W'.cell? ⟨gb2, 0, none⟩ = some (.int .i64 a1_0) ∧ W'.cell? ⟨gb2, 1, none⟩ = some (.int .i64 a1_1) ∧ W'.cell? ⟨gb2, 2, none⟩ = some (.int .i64 a1_2)) ((first | exact ⟨HWd.out, hz1_0, hz1_1, hz1_2, hz2_0, hz2_1, hz2_2⟩ | exact ⟨hb, (blk_cell (blk_below BK1.out hb) 0).trans rfl, (blk_cell (blk_below BK1.out hb) 1).trans rfl, (blk_cell (blk_below BK1.out hb) 2).trans rfl, (blk_cell (blk_below BK2.out hb) 0).trans rfl, (blk_cell (blk_below BK2.out hb) 1).trans rfl, (blk_cell (blk_below BK2.out hb) 2).trans rfl⟩)) ((go_at_call 38; refine (HEQ.out _ _ _ _ _ _ _).mono ?_; rintro e w2 ⟨rfl, hb0⟩; have hb := HWd.out.trans (hb0.mono HWd.out.size); clear hb0))
    have K1 := Aside0.mk (blk_below BK1.out hb)
    have K2 := Aside0.mk (blk_below BK2.out hb)
    have K3 := Aside0.mk (below_step HB.out hb)
    clear hz1_0 hz1_1 hz1_2 hz2_0 hz2_1 hz2_2 hb HBd HWd BK1 BK2 HB
    go_wp2
    go_roundg k2
    case measure => omega
    case rel => exact ⟨1, rfl, ⟨by have := HJ.out.1; omega, fun _ => HQ.out, by omega, by omega, by omega⟩, K1, K2, K3⟩
   ·have dq : decide (a0_0 = a1_0 ∧ a0_1 = a1_1 ∧ a0_2 = a1_2) = false := decide_eq_false hq
    have HQ := Aside0.mk hq; clear hq
    go_wp2_with fail
    go_region_held3 (fun W' => Below wr.heap.size wr W' ∧ W'.cell? ⟨gb1, 0, none⟩ = some (.int .i64 a0_0) ∧ W'.cell? ⟨gb1, 1, none⟩ = some (.int .i64 a0_1) ∧ W'.cell? ⟨gb1, 2, none⟩ = some (.int .i64 a0_2) ∧ W'.cell? ⟨gb2, 0, none⟩ = some (.int .i64 a1_0) ∧ W'.cell? ⟨gb2, 1, none⟩ = some (.int .i64 a1_1) ∧ W'.cell? ⟨gb2, 2, none⟩ = some (.int .i64 a1_2)) ((first | exact ⟨HWd.out, hz1_0, hz1_1, hz1_2, hz2_0, hz2_1, hz2_2⟩ | exact ⟨hb, (blk_cell (blk_below BK1.out hb) 0).trans rfl, (blk_cell (blk_below BK1.out hb) 1).trans rfl, (blk_cell (blk_below BK1.out hb) 2).trans rfl, (blk_cell (blk_below BK2.out hb) 0).trans rfl, (blk_cell (blk_below BK2.out hb) 1).trans rfl, (blk_cell (blk_below BK2.out hb) 2).trans rfl⟩)) ((go_at_call 38; refine (HEQ.out _ _ _ _ _ _ _).mono ?_; rintro e w2 ⟨rfl, hb0⟩; have hb := HWd.out.trans (hb0.mono HWd.out.size); clear hb0))
    have K1 := Aside0.mk (blk_below BK1.out hb)
    have K2 := Aside0.mk (blk_below BK2.out hb)
    have K3 := Aside0.mk (below_step HB.out hb)
    clear hz1_0 hz1_1 hz1_2 hz2_0 hz2_1 hz2_2 hb HBd HWd BK1 BK2 HB
    go_wp2
    go_ret
    exact ⟨by rw [← HRES.out, decide_eq_false (fun h_ => HQ.out h_.1)]; rfl, K3.out⟩
  ·obtain ⟨k2, rfl⟩ : ∃ k2, gk = k2 + 1 := ⟨gk - 1, by have := HJ.out.1; omega⟩
   obtain ⟨wd, hwd⟩ : ∃ wd, wd = wr.drew := ⟨_, rfl⟩
   have hz1_0 : wr.cell? ⟨gb1, 3, none⟩ = some (.int .i64 a0_3) := (blk_cell BK1.out 3).trans rfl
   have hz1_1 : wr.cell? ⟨gb1, 4, none⟩ = some (.int .i64 a0_4) := (blk_cell BK1.out 4).trans rfl
   have hz1_2 : wr.cell? ⟨gb1, 5, none⟩ = some (.int .i64 a0_5) := (blk_cell BK1.out 5).trans rfl
   have hz2_0 : wr.cell? ⟨gb2, 3, none⟩ = some (.int .i64 a1_3) := (blk_cell BK2.out 3).trans rfl
   have hz2_1 : wr.cell? ⟨gb2, 4, none⟩ = some (.int .i64 a1_4) := (blk_cell BK2.out 4).trans rfl
   have hz2_2 : wr.cell? ⟨gb2, 5, none⟩ = some (.int .i64 a1_5) := (blk_cell BK2.out 5).trans rfl
   clear hwd wd
   have HBd := Aside0.mk (below_drew1 HB.out)
   have HWd := Aside0.mk (below_drew1 (Below.refl wr.heap.size wr))
   by_cases hq : a0_3 = a1_3 ∧ a0_4 = a1_4 ∧ a0_5 = a1_5
   ·have dq : decide (a0_3 = a1_3 ∧ a0_4 = a1_4 ∧ a0_5 = a1_5) = true := decide_eq_true hq
    have HQ := Aside0.mk hq; clear hq
    go_wp2_with fail
    go_region_held3 (fun W' => Below wr.heap.size wr W' ∧ W'.cell? ⟨gb1, 3, none⟩ = some (.int .i64 a0_3) ∧ W'.cell? ⟨gb1, 4, none⟩ = some (.int .i64 a0_4) ∧ W'.cell? ⟨gb1, 5, none⟩ = some (.int .i64 a0_5) ∧ W'.cell? ⟨gb2, 3, none⟩ = some (.int .i64 a1_3) ∧ W'.cell? ⟨gb2, 4, none⟩ = some (.int .i64 a1_4) ∧ W'.cell? ⟨gb2, 5, none⟩ = some (.int .i64 a1_5)) ((first | exact ⟨HWd.out, hz1_0, hz1_1, hz1_2, hz2_0, hz2_1, hz2_2⟩ | exact ⟨hb, (blk_cell (blk_below BK1.out hb) 3).trans rfl, (blk_cell (blk_below BK1.out hb) 4).trans rfl, (blk_cell (blk_below BK1.out hb) 5).trans rfl, (blk_cell (blk_below BK2.out hb) 3).trans rfl, (blk_cell (blk_below BK2.out hb) 4).trans rfl, (blk_cell (blk_below BK2.out hb) 5).trans rfl⟩)) ((go_at_call 38; refine (HEQ.out _ _ _ _ _ _ _).mono ?_; rintro e w2 ⟨rfl, hb0⟩; have hb := HWd.out.trans (hb0.mono HWd.out.size); clear hb0))
    have K1 := Aside0.mk (blk_below BK1.out hb)
    have K2 := Aside0.mk (blk_below BK2.out hb)
    have K3 := Aside0.mk (below_step HB.out hb)
    clear hz1_0 hz1_1 hz1_2 hz2_0 hz2_1 hz2_2 hb HBd HWd BK1 BK2 HB
    go_wp2
    go_roundg k2
    case measure => omega
    case rel => exact ⟨2, rfl, ⟨by have := HJ.out.1; omega, fun _ => HJ.out.2.1 (by omega), fun _ => HQ.out, by omega, by omega⟩, K1, K2, K3⟩
   ·have dq : decide (a0_3 = a1_3 ∧ a0_4 = a1_4 ∧ a0_5 = a1_5) = false := decide_eq_false hq
    have HQ := Aside0.mk hq; clear hq
    go_wp2_with fail
    go_region_held3 (fun W' => Below wr.heap.size wr W' ∧ W'.cell? ⟨gb1, 3, none⟩ = some (.int .i64 a0_3) ∧ W'.cell? ⟨gb1, 4, none⟩ = some (.int .i64 a0_4) ∧ W'.cell? ⟨gb1, 5, none⟩ = some (.int .i64 a0_5) ∧ W'.cell? ⟨gb2, 3, none⟩ = some (.int .i64 a1_3) ∧ W'.cell? ⟨gb2, 4, none⟩ = some (.int .i64 a1_4) ∧ W'.cell? ⟨gb2, 5, none⟩ = some (.int .i64 a1_5)) ((first | exact ⟨HWd.out, hz1_0, hz1_1, hz1_2, hz2_0, hz2_1, hz2_2⟩ | exact ⟨hb, (blk_cell (blk_below BK1.out hb) 3).trans rfl, (blk_cell (blk_below BK1.out hb) 4).trans rfl, (blk_cell (blk_below BK1.out hb) 5).trans rfl, (blk_cell (blk_below BK2.out hb) 3).trans rfl, (blk_cell (blk_below BK2.out hb) 4).trans rfl, (blk_cell (blk_below BK2.out hb) 5).trans rfl⟩)) ((go_at_call 38; refine (HEQ.out _ _ _ _ _ _ _).mono ?_; rintro e w2 ⟨rfl, hb0⟩; have hb := HWd.out.trans (hb0.mono HWd.out.size); clear hb0))
    have K1 := Aside0.mk (blk_below BK1.out hb)
    have K2 := Aside0.mk (blk_below BK2.out hb)
    have K3 := Aside0.mk (below_step HB.out hb)
    clear hz1_0 hz1_1 hz1_2 hz2_0 hz2_1 hz2_2 hb HBd HWd BK1 BK2 HB
    go_wp2
    go_ret
    exact ⟨by rw [← HRES.out, decide_eq_false (fun h_ => HQ.out h_.2.1)]; rfl, K3.out⟩
  ·obtain ⟨k2, rfl⟩ : ∃ k2, gk = k2 + 1 := ⟨gk - 1, by have := HJ.out.1; omega⟩
   obtain ⟨wd, hwd⟩ : ∃ wd, wd = wr.drew := ⟨_, rfl⟩
   have hz1_0 : wr.cell? ⟨gb1, 6, none⟩ = some (.int .i64 a0_6) := (blk_cell BK1.out 6).trans rfl
   have hz1_1 : wr.cell? ⟨gb1, 7, none⟩ = some (.int .i64 a0_7) := (blk_cell BK1.out 7).trans rfl
   have hz1_2 : wr.cell? ⟨gb1, 8, none⟩ = some (.int .i64 a0_8) := (blk_cell BK1.out 8).trans rfl
   have hz2_0 : wr.cell? ⟨gb2, 6, none⟩ = some (.int .i64 a1_6) := (blk_cell BK2.out 6).trans rfl
   have hz2_1 : wr.cell? ⟨gb2, 7, none⟩ = some (.int .i64 a1_7) := (blk_cell BK2.out 7).trans rfl
   have hz2_2 : wr.cell? ⟨gb2, 8, none⟩ = some (.int .i64 a1_8) := (blk_cell BK2.out 8).trans rfl
   clear hwd wd
   have HBd := Aside0.mk (below_drew1 HB.out)
   have HWd := Aside0.mk (below_drew1 (Below.refl wr.heap.size wr))
   by_cases hq : a0_6 = a1_6 ∧ a0_7 = a1_7 ∧ a0_8 = a1_8
   ·have dq : decide (a0_6 = a1_6 ∧ a0_7 = a1_7 ∧ a0_8 = a1_8) = true := decide_eq_true hq
    have HQ := Aside0.mk hq; clear hq
    go_wp2_with fail
    go_region_held3 (fun W' => Below wr.heap.size wr W' ∧ W'.cell? ⟨gb1, 6, none⟩ = some (.int .i64 a0_6) ∧ W'.cell? ⟨gb1, 7, none⟩ = some (.int .i64 a0_7) ∧ W'.cell? ⟨gb1, 8, none⟩ = some (.int .i64 a0_8) ∧ W'.cell? ⟨gb2, 6, none⟩ = some (.int .i64 a1_6) ∧ W'.cell? ⟨gb2, 7, none⟩ = some (.int .i64 a1_7) ∧ W'.cell? ⟨gb2, 8, none⟩ = some (.int .i64 a1_8)) ((first | exact ⟨HWd.out, hz1_0, hz1_1, hz1_2, hz2_0, hz2_1, hz2_2⟩ | exact ⟨hb, (blk_cell (blk_below BK1.out hb) 6).trans rfl, (blk_cell (blk_below BK1.out hb) 7).trans rfl, (blk_cell (blk_below BK1.out hb) 8).trans rfl, (blk_cell (blk_below BK2.out hb) 6).trans rfl, (blk_cell (blk_below BK2.out hb) 7).trans rfl, (blk_cell (blk_below BK2.out hb) 8).trans rfl⟩)) ((go_at_call 38; refine (HEQ.out _ _ _ _ _ _ _).mono ?_; rintro e w2 ⟨rfl, hb0⟩; have hb := HWd.out.trans (hb0.mono HWd.out.size); clear hb0))
    have K1 := Aside0.mk (blk_below BK1.out hb)
    have K2 := Aside0.mk (blk_below BK2.out hb)
    have K3 := Aside0.mk (below_step HB.out hb)
    clear hz1_0 hz1_1 hz1_2 hz2_0 hz2_1 hz2_2 hb HBd HWd BK1 BK2 HB
    go_wp2
    go_roundg k2
    case measure => omega
    case rel => exact ⟨3, rfl, ⟨by have := HJ.out.1; omega, fun _ => HJ.out.2.1 (by omega), fun _ => HJ.out.2.2.1 (by omega), fun _ => HQ.out, by omega⟩, K1, K2, K3⟩
   ·have dq : decide (a0_6 = a1_6 ∧ a0_7 = a1_7 ∧ a0_8 = a1_8) = false := decide_eq_false hq
    have HQ := Aside0.mk hq; clear hq
    go_wp2_with fail
    go_region_held3 (fun W' => Below wr.heap.size wr W' ∧ W'.cell? ⟨gb1, 6, none⟩ = some (.int .i64 a0_6) ∧ W'.cell? ⟨gb1, 7, none⟩ = some (.int .i64 a0_7) ∧ W'.cell? ⟨gb1, 8, none⟩ = some (.int .i64 a0_8) ∧ W'.cell? ⟨gb2, 6, none⟩ = some (.int .i64 a1_6) ∧ W'.cell? ⟨gb2, 7, none⟩ = some (.int .i64 a1_7) ∧ W'.cell? ⟨gb2, 8, none⟩ = some (.int .i64 a1_8)) ((first | exact ⟨HWd.out, hz1_0, hz1_1, hz1_2, hz2_0, hz2_1, hz2_2⟩ | exact ⟨hb, (blk_cell (blk_below BK1.out hb) 6).trans rfl, (blk_cell (blk_below BK1.out hb) 7).trans rfl, (blk_cell (blk_below BK1.out hb) 8).trans rfl, (blk_cell (blk_below BK2.out hb) 6).trans rfl, (blk_cell (blk_below BK2.out hb) 7).trans rfl, (blk_cell (blk_below BK2.out hb) 8).trans rfl⟩)) ((go_at_call 38; refine (HEQ.out _ _ _ _ _ _ _).mono ?_; rintro e w2 ⟨rfl, hb0⟩; have hb := HWd.out.trans (hb0.mono HWd.out.size); clear hb0))
    have K1 := Aside0.mk (blk_below BK1.out hb)
    have K2 := Aside0.mk (blk_below BK2.out hb)
    have K3 := Aside0.mk (below_step HB.out hb)
    clear hz1_0 hz1_1 hz1_2 hz2_0 hz2_1 hz2_2 hb HBd HWd BK1 BK2 HB
    go_wp2
    go_ret
    exact ⟨by rw [← HRES.out, decide_eq_false (fun h_ => HQ.out h_.2.2.1)]; rfl, K3.out⟩
  ·obtain ⟨k2, rfl⟩ : ∃ k2, gk = k2 + 1 := ⟨gk - 1, by have := HJ.out.1; omega⟩
   obtain ⟨wd, hwd⟩ : ∃ wd, wd = wr.drew := ⟨_, rfl⟩
   have hz1_0 : wr.cell? ⟨gb1, 9, none⟩ = some (.int .i64 a0_9) := (blk_cell BK1.out 9).trans rfl
   have hz1_1 : wr.cell? ⟨gb1, 10, none⟩ = some (.int .i64 a0_10) := (blk_cell BK1.out 10).trans rfl
   have hz1_2 : wr.cell? ⟨gb1, 11, none⟩ = some (.int .i64 a0_11) := (blk_cell BK1.out 11).trans rfl
   have hz2_0 : wr.cell? ⟨gb2, 9, none⟩ = some (.int .i64 a1_9) := (blk_cell BK2.out 9).trans rfl
   have hz2_1 : wr.cell? ⟨gb2, 10, none⟩ = some (.int .i64 a1_10) := (blk_cell BK2.out 10).trans rfl
   have hz2_2 : wr.cell? ⟨gb2, 11, none⟩ = some (.int .i64 a1_11) := (blk_cell BK2.out 11).trans rfl
   clear hwd wd
   have HBd := Aside0.mk (below_drew1 HB.out)
   have HWd := Aside0.mk (below_drew1 (Below.refl wr.heap.size wr))
   by_cases hq : a0_9 = a1_9 ∧ a0_10 = a1_10 ∧ a0_11 = a1_11
   ·have dq : decide (a0_9 = a1_9 ∧ a0_10 = a1_10 ∧ a0_11 = a1_11) = true := decide_eq_true hq
    have HQ := Aside0.mk hq; clear hq
    go_wp2_with fail
    go_region_held3 (fun W' => Below wr.heap.size wr W' ∧ W'.cell? ⟨gb1, 9, none⟩ = some (.int .i64 a0_9) ∧ W'.cell? ⟨gb1, 10, none⟩ = some (.int .i64 a0_10) ∧ W'.cell? ⟨gb1, 11, none⟩ = some (.int .i64 a0_11) ∧ W'.cell? ⟨gb2, 9, none⟩ = some (.int .i64 a1_9) ∧ W'.cell? ⟨gb2, 10, none⟩ = some (.int .i64 a1_10) ∧ W'.cell? ⟨gb2, 11, none⟩ = some (.int .i64 a1_11)) ((first | exact ⟨HWd.out, hz1_0, hz1_1, hz1_2, hz2_0, hz2_1, hz2_2⟩ | exact ⟨hb, (blk_cell (blk_below BK1.out hb) 9).trans rfl, (blk_cell (blk_below BK1.out hb) 10).trans rfl, (blk_cell (blk_below BK1.out hb) 11).trans rfl, (blk_cell (blk_below BK2.out hb) 9).trans rfl, (blk_cell (blk_below BK2.out hb) 10).trans rfl, (blk_cell (blk_below BK2.out hb) 11).trans rfl⟩)) ((go_at_call 38; refine (HEQ.out _ _ _ _ _ _ _).mono ?_; rintro e w2 ⟨rfl, hb0⟩; have hb := HWd.out.trans (hb0.mono HWd.out.size); clear hb0))
    have K1 := Aside0.mk (blk_below BK1.out hb)
    have K2 := Aside0.mk (blk_below BK2.out hb)
    have K3 := Aside0.mk (below_step HB.out hb)
    clear hz1_0 hz1_1 hz1_2 hz2_0 hz2_1 hz2_2 hb HBd HWd BK1 BK2 HB
    go_wp2
    go_roundg k2
    case measure => omega
    case rel => exact ⟨4, rfl, ⟨by have := HJ.out.1; omega, fun _ => HJ.out.2.1 (by omega), fun _ => HJ.out.2.2.1 (by omega), fun _ => HJ.out.2.2.2.1 (by omega), fun _ => HQ.out⟩, K1, K2, K3⟩
   ·have dq : decide (a0_9 = a1_9 ∧ a0_10 = a1_10 ∧ a0_11 = a1_11) = false := decide_eq_false hq
    have HQ := Aside0.mk hq; clear hq
    go_wp2_with fail
    go_region_held3 (fun W' => Below wr.heap.size wr W' ∧ W'.cell? ⟨gb1, 9, none⟩ = some (.int .i64 a0_9) ∧ W'.cell? ⟨gb1, 10, none⟩ = some (.int .i64 a0_10) ∧ W'.cell? ⟨gb1, 11, none⟩ = some (.int .i64 a0_11) ∧ W'.cell? ⟨gb2, 9, none⟩ = some (.int .i64 a1_9) ∧ W'.cell? ⟨gb2, 10, none⟩ = some (.int .i64 a1_10) ∧ W'.cell? ⟨gb2, 11, none⟩ = some (.int .i64 a1_11)) ((first | exact ⟨HWd.out, hz1_0, hz1_1, hz1_2, hz2_0, hz2_1, hz2_2⟩ | exact ⟨hb, (blk_cell (blk_below BK1.out hb) 9).trans rfl, (blk_cell (blk_below BK1.out hb) 10).trans rfl, (blk_cell (blk_below BK1.out hb) 11).trans rfl, (blk_cell (blk_below BK2.out hb) 9).trans rfl, (blk_cell (blk_below BK2.out hb) 10).trans rfl, (blk_cell (blk_below BK2.out hb) 11).trans rfl⟩)) ((go_at_call 38; refine (HEQ.out _ _ _ _ _ _ _).mono ?_; rintro e w2 ⟨rfl, hb0⟩; have hb := HWd.out.trans (hb0.mono HWd.out.size); clear hb0))
    have K1 := Aside0.mk (blk_below BK1.out hb)
    have K2 := Aside0.mk (blk_below BK2.out hb)
    have K3 := Aside0.mk (below_step HB.out hb)
    clear hz1_0 hz1_1 hz1_2 hz2_0 hz2_1 hz2_2 hb HBd HWd BK1 BK2 HB
    go_wp2
    go_ret
    exact ⟨by rw [← HRES.out, decide_eq_false (fun h_ => HQ.out h_.2.2.2)]; rfl, K3.out⟩
  ·have HE : Aside0 (r = true) := ⟨by rw [← HRES.out, decide_eq_true ⟨HJ.out.2.1 (by omega), HJ.out.2.2.1 (by omega), HJ.out.2.2.2.1 (by omega), HJ.out.2.2.2.2 (by omega)⟩]⟩
   go_wp2
   go_ret
   exact ⟨by rw [HE.out]; rfl, (by repeat (first | exact HB.out | apply pw_below_drewN | apply below_drew1))⟩


/-! ### laws_eqPassage: function 39 -/
def laws_eqPassage.f (a0_0 : Int) (a0_1 : Int) (a0_2 : Int) (a0_3 : Int) (a0_4 : Int) (a1_0 : Int) (a1_1 : Int) (a1_2 : Int) (a1_3 : Int) (a1_4 : Int) : Option (Bool) := if a0_0 = a1_0 then (if a0_1 = a1_1 then (if a0_2 = a1_2 then (if a0_3 = a1_3 then (if a0_4 = a1_4 then (some true) else (some false)) else (some false)) else (some false)) else (some false)) else (some false)
theorem laws_eqPassage.calls (a0_0 : Int) (a0_1 : Int) (a0_2 : Int) (a0_3 : Int) (a0_4 : Int) (a1_0 : Int) (a1_1 : Int) (a1_2 : Int) (a1_3 : Int) (a1_4 : Int) (r : Bool) (w : World) (h : laws_eqPassage.f a0_0 a0_1 a0_2 a0_3 a0_4 a1_0 a1_1 a1_2 a1_3 a1_4 = some r) :
  Calls Tryd.prog 39 #[.agg #[.int .i64 a0_0, .int .i64 a0_1, .int .i64 a0_2, .int .i64 a0_3, .int .i64 a0_4], .agg #[.int .i64 a1_0, .int .i64 a1_1, .int .i64 a1_2, .int .i64 a1_3, .int .i64 a1_4]] w fun e w' => e = .returned (.bool r) ∧ Below w.heap.size w w' := by
 have hu43 := Tryd.underlying43
 have HB := Aside0.mk (Below.refl w.heap.size w)
 have H : (if a0_0 = a1_0 then (if a0_1 = a1_1 then (if a0_2 = a1_2 then (if a0_3 = a1_3 then (if a0_4 = a1_4 then (some true) else (some false)) else (some false)) else (some false)) else (some false)) else (some false)) = some r := h
 clear h
 by_cases c3 : a0_0 = a1_0
 ·rw [if_pos c3] at H
  have c3b0 : (a0_0 == a1_0) = true := beq_iff_eq.mpr c3
  have c3b1 : (a0_0 != a1_0) = false := bne_eq_false_iff_eq.mpr c3
  clear c3
  by_cases c4 : a0_1 = a1_1
  ·rw [if_pos c4] at H
   have c4b0 : (a0_1 == a1_1) = true := beq_iff_eq.mpr c4
   have c4b1 : (a0_1 != a1_1) = false := bne_eq_false_iff_eq.mpr c4
   clear c4
   by_cases c5 : a0_2 = a1_2
   ·rw [if_pos c5] at H
    have c5b0 : (a0_2 == a1_2) = true := beq_iff_eq.mpr c5
    have c5b1 : (a0_2 != a1_2) = false := bne_eq_false_iff_eq.mpr c5
    clear c5
    by_cases c6 : a0_3 = a1_3
    ·rw [if_pos c6] at H
     have c6b0 : (a0_3 == a1_3) = true := beq_iff_eq.mpr c6
     have c6b1 : (a0_3 != a1_3) = false := bne_eq_false_iff_eq.mpr c6
     clear c6
     by_cases c7 : a0_4 = a1_4
     ·rw [if_pos c7] at H
      have c7b0 : (a0_4 == a1_4) = true := beq_iff_eq.mpr c7
      have c7b1 : (a0_4 != a1_4) = false := bne_eq_false_iff_eq.mpr c7
      clear c7; obtain rfl := Option.some.inj H
      go_enter Tryd.func39, Tryd.ntmps39
      go_wp2_with (first | ((with_reducible refine gate_dst (N := 2) rfl ?_); refine box_event ?hg (N := 2) ?hd (cs := #[.int .i64 a0_0, .int .i64 a0_1, .int .i64 a0_2, .int .i64 a0_3, .int .i64 a0_4]) (t := 43) ?hr ?_; (case hd => rfl); (case hg => rfl); (case hr => exact (qA10_7)); intro gb288 hg w8 hbox hb; have n0_ := Aside0.mk (below_step (qA10_0) hb); have n1_ := Aside0.mk (hbox); have n2_ := Aside0.mk ((by rw [hg]; exact (below_size (qA10_0)) : w.heap.size ≤ gb288)); have n3_ := Aside0.mk ((by rw [hg]; exact (below_size (qA10_0)) : w.heap.size ≤ gb288)); clear HB; have HB := n0_; have BK288 := n1_; have GW288 := n2_; have GE288 := n3_; clear n0_ n1_ n2_ n3_; clear hb hbox hg) | ((with_reducible refine gate_dst (N := 3) rfl ?_); refine box_event ?hg (N := 3) ?hd (cs := #[.int .i64 a1_0, .int .i64 a1_1, .int .i64 a1_2, .int .i64 a1_3, .int .i64 a1_4]) (t := 43) ?hr ?_; (case hd => rfl); (case hg => rfl); (case hr => exact (qA10_7)); intro gb289 hg w9 hbox hb; have n0_ := Aside0.mk (blk_below (g := gb288) (o := .cells #[.int .i64 a0_0, .int .i64 a0_1, .int .i64 a0_2, .int .i64 a0_3, .int .i64 a0_4] 43 (0, 0)) (qA10_2) hb); have n1_ := Aside0.mk (below_step (qA10_1) hb); have n2_ := Aside0.mk (hbox); have n3_ := Aside0.mk ((by rw [hg]; exact (below_size (qA10_1)) : w.heap.size ≤ gb289)); have n4_ := Aside0.mk ((by rw [hg]; exact (below_size (qA10_1)) : w.heap.size ≤ gb289)); have n5_ := Aside0.mk ((by rw [hg]; exact Nat.ne_of_lt (blk_lt (g := gb288) (o := .cells #[.int .i64 a0_0, .int .i64 a0_1, .int .i64 a0_2, .int .i64 a0_3, .int .i64 a0_4] 43 (0, 0)) (qA10_2)) : gb288 ≠ gb289)); have n6_ := Aside0.mk ((by rw [hg]; exact Nat.ne_of_gt (blk_lt (g := gb288) (o := .cells #[.int .i64 a0_0, .int .i64 a0_1, .int .i64 a0_2, .int .i64 a0_3, .int .i64 a0_4] 43 (0, 0)) (qA10_2)) : gb289 ≠ gb288)); clear BK288 HB; have BK288 := n0_; have HB := n1_; have BK289 := n2_; have GW289 := n3_; have GE289 := n4_; have NB288_289 := n5_; have NB289_288 := n6_; clear n0_ n1_ n2_ n3_ n4_ n5_ n6_; clear hb hbox hg; have hnb10 := NB288_289.out; have hnc10 := NB289_288.out; have hcz11_0 : w9.cell? ⟨gb288, 0, none⟩ = some (.int .i64 a0_0) := (blk_cell BK288.out 0).trans rfl; have hcz11_1 : w9.cell? ⟨gb288, 1, none⟩ = some (.int .i64 a0_1) := (blk_cell BK288.out 1).trans rfl; have hcz11_2 : w9.cell? ⟨gb288, 2, none⟩ = some (.int .i64 a0_2) := (blk_cell BK288.out 2).trans rfl; have hcz11_3 : w9.cell? ⟨gb288, 3, none⟩ = some (.int .i64 a0_3) := (blk_cell BK288.out 3).trans rfl; have hcz11_4 : w9.cell? ⟨gb288, 4, none⟩ = some (.int .i64 a0_4) := (blk_cell BK288.out 4).trans rfl; have hfz11_0 := blk_frozen BK288.out 0; have hfz11_1 := blk_frozen BK288.out 1; have hfz11_2 := blk_frozen BK288.out 2; have hfz11_3 := blk_frozen BK288.out 3; have hfz11_4 := blk_frozen BK288.out 4; have hcz12_0 : w9.cell? ⟨gb289, 0, none⟩ = some (.int .i64 a1_0) := (blk_cell BK289.out 0).trans rfl; have hcz12_1 : w9.cell? ⟨gb289, 1, none⟩ = some (.int .i64 a1_1) := (blk_cell BK289.out 1).trans rfl; have hcz12_2 : w9.cell? ⟨gb289, 2, none⟩ = some (.int .i64 a1_2) := (blk_cell BK289.out 2).trans rfl; have hcz12_3 : w9.cell? ⟨gb289, 3, none⟩ = some (.int .i64 a1_3) := (blk_cell BK289.out 3).trans rfl; have hcz12_4 : w9.cell? ⟨gb289, 4, none⟩ = some (.int .i64 a1_4) := (blk_cell BK289.out 4).trans rfl; have hfz12_0 := blk_frozen BK289.out 0; have hfz12_1 := blk_frozen BK289.out 1; have hfz12_2 := blk_frozen BK289.out 2; have hfz12_3 := blk_frozen BK289.out 3; have hfz12_4 := blk_frozen BK289.out 4))
      go_ret
      exact ⟨(qA10_5), (qA10_6)⟩
     ·rw [if_neg c7] at H
      have c7b0 : (a0_4 == a1_4) = false := beq_eq_false_iff_ne.mpr c7
      have c7b1 : (a0_4 != a1_4) = true := bne_iff_ne.mpr c7
      obtain rfl := Option.some.inj H
      go_enter Tryd.func39, Tryd.ntmps39
      go_wp2_with (first | ((with_reducible refine gate_dst (N := 2) rfl ?_); refine box_event ?hg (N := 2) ?hd (cs := #[.int .i64 a0_0, .int .i64 a0_1, .int .i64 a0_2, .int .i64 a0_3, .int .i64 a0_4]) (t := 43) ?hr ?_; (case hd => rfl); (case hg => rfl); (case hr => exact (qA10_7)); intro gb288 hg w13 hbox hb; have n0_ := Aside0.mk (below_step (qA10_0) hb); have n1_ := Aside0.mk (hbox); have n2_ := Aside0.mk ((by rw [hg]; exact (below_size (qA10_0)) : w.heap.size ≤ gb288)); have n3_ := Aside0.mk ((by rw [hg]; exact (below_size (qA10_0)) : w.heap.size ≤ gb288)); clear HB; have HB := n0_; have BK288 := n1_; have GW288 := n2_; have GE288 := n3_; clear n0_ n1_ n2_ n3_; clear hb hbox hg) | ((with_reducible refine gate_dst (N := 3) rfl ?_); refine box_event ?hg (N := 3) ?hd (cs := #[.int .i64 a1_0, .int .i64 a1_1, .int .i64 a1_2, .int .i64 a1_3, .int .i64 a1_4]) (t := 43) ?hr ?_; (case hd => rfl); (case hg => rfl); (case hr => exact (qA10_7)); intro gb289 hg w14 hbox hb; have n0_ := Aside0.mk (blk_below (g := gb288) (o := .cells #[.int .i64 a0_0, .int .i64 a0_1, .int .i64 a0_2, .int .i64 a0_3, .int .i64 a0_4] 43 (0, 0)) (qA10_2) hb); have n1_ := Aside0.mk (below_step (qA10_1) hb); have n2_ := Aside0.mk (hbox); have n3_ := Aside0.mk ((by rw [hg]; exact (below_size (qA10_1)) : w.heap.size ≤ gb289)); have n4_ := Aside0.mk ((by rw [hg]; exact (below_size (qA10_1)) : w.heap.size ≤ gb289)); have n5_ := Aside0.mk ((by rw [hg]; exact Nat.ne_of_lt (blk_lt (g := gb288) (o := .cells #[.int .i64 a0_0, .int .i64 a0_1, .int .i64 a0_2, .int .i64 a0_3, .int .i64 a0_4] 43 (0, 0)) (qA10_2)) : gb288 ≠ gb289)); have n6_ := Aside0.mk ((by rw [hg]; exact Nat.ne_of_gt (blk_lt (g := gb288) (o := .cells #[.int .i64 a0_0, .int .i64 a0_1, .int .i64 a0_2, .int .i64 a0_3, .int .i64 a0_4] 43 (0, 0)) (qA10_2)) : gb289 ≠ gb288)); clear BK288 HB; have BK288 := n0_; have HB := n1_; have BK289 := n2_; have GW289 := n3_; have GE289 := n4_; have NB288_289 := n5_; have NB289_288 := n6_; clear n0_ n1_ n2_ n3_ n4_ n5_ n6_; clear hb hbox hg; have hnb15 := NB288_289.out; have hnc15 := NB289_288.out; have hcz16_0 : w14.cell? ⟨gb288, 0, none⟩ = some (.int .i64 a0_0) := (blk_cell BK288.out 0).trans rfl; have hcz16_1 : w14.cell? ⟨gb288, 1, none⟩ = some (.int .i64 a0_1) := (blk_cell BK288.out 1).trans rfl; have hcz16_2 : w14.cell? ⟨gb288, 2, none⟩ = some (.int .i64 a0_2) := (blk_cell BK288.out 2).trans rfl; have hcz16_3 : w14.cell? ⟨gb288, 3, none⟩ = some (.int .i64 a0_3) := (blk_cell BK288.out 3).trans rfl; have hcz16_4 : w14.cell? ⟨gb288, 4, none⟩ = some (.int .i64 a0_4) := (blk_cell BK288.out 4).trans rfl; have hfz16_0 := blk_frozen BK288.out 0; have hfz16_1 := blk_frozen BK288.out 1; have hfz16_2 := blk_frozen BK288.out 2; have hfz16_3 := blk_frozen BK288.out 3; have hfz16_4 := blk_frozen BK288.out 4; have hcz17_0 : w14.cell? ⟨gb289, 0, none⟩ = some (.int .i64 a1_0) := (blk_cell BK289.out 0).trans rfl; have hcz17_1 : w14.cell? ⟨gb289, 1, none⟩ = some (.int .i64 a1_1) := (blk_cell BK289.out 1).trans rfl; have hcz17_2 : w14.cell? ⟨gb289, 2, none⟩ = some (.int .i64 a1_2) := (blk_cell BK289.out 2).trans rfl; have hcz17_3 : w14.cell? ⟨gb289, 3, none⟩ = some (.int .i64 a1_3) := (blk_cell BK289.out 3).trans rfl; have hcz17_4 : w14.cell? ⟨gb289, 4, none⟩ = some (.int .i64 a1_4) := (blk_cell BK289.out 4).trans rfl; have hfz17_0 := blk_frozen BK289.out 0; have hfz17_1 := blk_frozen BK289.out 1; have hfz17_2 := blk_frozen BK289.out 2; have hfz17_3 := blk_frozen BK289.out 3; have hfz17_4 := blk_frozen BK289.out 4))
      go_ret
      exact ⟨(qA10_5), (qA10_6)⟩
    ·rw [if_neg c6] at H
     have c6b0 : (a0_3 == a1_3) = false := beq_eq_false_iff_ne.mpr c6
     have c6b1 : (a0_3 != a1_3) = true := bne_iff_ne.mpr c6
     obtain rfl := Option.some.inj H
     go_enter Tryd.func39, Tryd.ntmps39
     go_wp2_with (first | ((with_reducible refine gate_dst (N := 2) rfl ?_); refine box_event ?hg (N := 2) ?hd (cs := #[.int .i64 a0_0, .int .i64 a0_1, .int .i64 a0_2, .int .i64 a0_3, .int .i64 a0_4]) (t := 43) ?hr ?_; (case hd => rfl); (case hg => rfl); (case hr => exact (qA10_7)); intro gb288 hg w18 hbox hb; have n0_ := Aside0.mk (below_step (qA10_0) hb); have n1_ := Aside0.mk (hbox); have n2_ := Aside0.mk ((by rw [hg]; exact (below_size (qA10_0)) : w.heap.size ≤ gb288)); have n3_ := Aside0.mk ((by rw [hg]; exact (below_size (qA10_0)) : w.heap.size ≤ gb288)); clear HB; have HB := n0_; have BK288 := n1_; have GW288 := n2_; have GE288 := n3_; clear n0_ n1_ n2_ n3_; clear hb hbox hg) | ((with_reducible refine gate_dst (N := 3) rfl ?_); refine box_event ?hg (N := 3) ?hd (cs := #[.int .i64 a1_0, .int .i64 a1_1, .int .i64 a1_2, .int .i64 a1_3, .int .i64 a1_4]) (t := 43) ?hr ?_; (case hd => rfl); (case hg => rfl); (case hr => exact (qA10_7)); intro gb289 hg w19 hbox hb; have n0_ := Aside0.mk (blk_below (g := gb288) (o := .cells #[.int .i64 a0_0, .int .i64 a0_1, .int .i64 a0_2, .int .i64 a0_3, .int .i64 a0_4] 43 (0, 0)) (qA10_2) hb); have n1_ := Aside0.mk (below_step (qA10_1) hb); have n2_ := Aside0.mk (hbox); have n3_ := Aside0.mk ((by rw [hg]; exact (below_size (qA10_1)) : w.heap.size ≤ gb289)); have n4_ := Aside0.mk ((by rw [hg]; exact (below_size (qA10_1)) : w.heap.size ≤ gb289)); have n5_ := Aside0.mk ((by rw [hg]; exact Nat.ne_of_lt (blk_lt (g := gb288) (o := .cells #[.int .i64 a0_0, .int .i64 a0_1, .int .i64 a0_2, .int .i64 a0_3, .int .i64 a0_4] 43 (0, 0)) (qA10_2)) : gb288 ≠ gb289)); have n6_ := Aside0.mk ((by rw [hg]; exact Nat.ne_of_gt (blk_lt (g := gb288) (o := .cells #[.int .i64 a0_0, .int .i64 a0_1, .int .i64 a0_2, .int .i64 a0_3, .int .i64 a0_4] 43 (0, 0)) (qA10_2)) : gb289 ≠ gb288)); clear BK288 HB; have BK288 := n0_; have HB := n1_; have BK289 := n2_; have GW289 := n3_; have GE289 := n4_; have NB288_289 := n5_; have NB289_288 := n6_; clear n0_ n1_ n2_ n3_ n4_ n5_ n6_; clear hb hbox hg; have hnb20 := NB288_289.out; have hnc20 := NB289_288.out; have hcz21_0 : w19.cell? ⟨gb288, 0, none⟩ = some (.int .i64 a0_0) := (blk_cell BK288.out 0).trans rfl; have hcz21_1 : w19.cell? ⟨gb288, 1, none⟩ = some (.int .i64 a0_1) := (blk_cell BK288.out 1).trans rfl; have hcz21_2 : w19.cell? ⟨gb288, 2, none⟩ = some (.int .i64 a0_2) := (blk_cell BK288.out 2).trans rfl; have hcz21_3 : w19.cell? ⟨gb288, 3, none⟩ = some (.int .i64 a0_3) := (blk_cell BK288.out 3).trans rfl; have hcz21_4 : w19.cell? ⟨gb288, 4, none⟩ = some (.int .i64 a0_4) := (blk_cell BK288.out 4).trans rfl; have hfz21_0 := blk_frozen BK288.out 0; have hfz21_1 := blk_frozen BK288.out 1; have hfz21_2 := blk_frozen BK288.out 2; have hfz21_3 := blk_frozen BK288.out 3; have hfz21_4 := blk_frozen BK288.out 4; have hcz22_0 : w19.cell? ⟨gb289, 0, none⟩ = some (.int .i64 a1_0) := (blk_cell BK289.out 0).trans rfl; have hcz22_1 : w19.cell? ⟨gb289, 1, none⟩ = some (.int .i64 a1_1) := (blk_cell BK289.out 1).trans rfl; have hcz22_2 : w19.cell? ⟨gb289, 2, none⟩ = some (.int .i64 a1_2) := (blk_cell BK289.out 2).trans rfl; have hcz22_3 : w19.cell? ⟨gb289, 3, none⟩ = some (.int .i64 a1_3) := (blk_cell BK289.out 3).trans rfl; have hcz22_4 : w19.cell? ⟨gb289, 4, none⟩ = some (.int .i64 a1_4) := (blk_cell BK289.out 4).trans rfl; have hfz22_0 := blk_frozen BK289.out 0; have hfz22_1 := blk_frozen BK289.out 1; have hfz22_2 := blk_frozen BK289.out 2; have hfz22_3 := blk_frozen BK289.out 3; have hfz22_4 := blk_frozen BK289.out 4))
     go_ret
     exact ⟨(qA10_5), (qA10_6)⟩
   ·rw [if_neg c5] at H
    have c5b0 : (a0_2 == a1_2) = false := beq_eq_false_iff_ne.mpr c5
    have c5b1 : (a0_2 != a1_2) = true := bne_iff_ne.mpr c5
    obtain rfl := Option.some.inj H
    go_enter Tryd.func39, Tryd.ntmps39
    go_wp2_with (first | ((with_reducible refine gate_dst (N := 2) rfl ?_); refine box_event ?hg (N := 2) ?hd (cs := #[.int .i64 a0_0, .int .i64 a0_1, .int .i64 a0_2, .int .i64 a0_3, .int .i64 a0_4]) (t := 43) ?hr ?_; (case hd => rfl); (case hg => rfl); (case hr => exact (qA10_7)); intro gb288 hg w23 hbox hb; have n0_ := Aside0.mk (below_step (qA10_0) hb); have n1_ := Aside0.mk (hbox); have n2_ := Aside0.mk ((by rw [hg]; exact (below_size (qA10_0)) : w.heap.size ≤ gb288)); have n3_ := Aside0.mk ((by rw [hg]; exact (below_size (qA10_0)) : w.heap.size ≤ gb288)); clear HB; have HB := n0_; have BK288 := n1_; have GW288 := n2_; have GE288 := n3_; clear n0_ n1_ n2_ n3_; clear hb hbox hg) | ((with_reducible refine gate_dst (N := 3) rfl ?_); refine box_event ?hg (N := 3) ?hd (cs := #[.int .i64 a1_0, .int .i64 a1_1, .int .i64 a1_2, .int .i64 a1_3, .int .i64 a1_4]) (t := 43) ?hr ?_; (case hd => rfl); (case hg => rfl); (case hr => exact (qA10_7)); intro gb289 hg w24 hbox hb; have n0_ := Aside0.mk (blk_below (g := gb288) (o := .cells #[.int .i64 a0_0, .int .i64 a0_1, .int .i64 a0_2, .int .i64 a0_3, .int .i64 a0_4] 43 (0, 0)) (qA10_2) hb); have n1_ := Aside0.mk (below_step (qA10_1) hb); have n2_ := Aside0.mk (hbox); have n3_ := Aside0.mk ((by rw [hg]; exact (below_size (qA10_1)) : w.heap.size ≤ gb289)); have n4_ := Aside0.mk ((by rw [hg]; exact (below_size (qA10_1)) : w.heap.size ≤ gb289)); have n5_ := Aside0.mk ((by rw [hg]; exact Nat.ne_of_lt (blk_lt (g := gb288) (o := .cells #[.int .i64 a0_0, .int .i64 a0_1, .int .i64 a0_2, .int .i64 a0_3, .int .i64 a0_4] 43 (0, 0)) (qA10_2)) : gb288 ≠ gb289)); have n6_ := Aside0.mk ((by rw [hg]; exact Nat.ne_of_gt (blk_lt (g := gb288) (o := .cells #[.int .i64 a0_0, .int .i64 a0_1, .int .i64 a0_2, .int .i64 a0_3, .int .i64 a0_4] 43 (0, 0)) (qA10_2)) : gb289 ≠ gb288)); clear BK288 HB; have BK288 := n0_; have HB := n1_; have BK289 := n2_; have GW289 := n3_; have GE289 := n4_; have NB288_289 := n5_; have NB289_288 := n6_; clear n0_ n1_ n2_ n3_ n4_ n5_ n6_; clear hb hbox hg; have hnb25 := NB288_289.out; have hnc25 := NB289_288.out; have hcz26_0 : w24.cell? ⟨gb288, 0, none⟩ = some (.int .i64 a0_0) := (blk_cell BK288.out 0).trans rfl; have hcz26_1 : w24.cell? ⟨gb288, 1, none⟩ = some (.int .i64 a0_1) := (blk_cell BK288.out 1).trans rfl; have hcz26_2 : w24.cell? ⟨gb288, 2, none⟩ = some (.int .i64 a0_2) := (blk_cell BK288.out 2).trans rfl; have hcz26_3 : w24.cell? ⟨gb288, 3, none⟩ = some (.int .i64 a0_3) := (blk_cell BK288.out 3).trans rfl; have hcz26_4 : w24.cell? ⟨gb288, 4, none⟩ = some (.int .i64 a0_4) := (blk_cell BK288.out 4).trans rfl; have hfz26_0 := blk_frozen BK288.out 0; have hfz26_1 := blk_frozen BK288.out 1; have hfz26_2 := blk_frozen BK288.out 2; have hfz26_3 := blk_frozen BK288.out 3; have hfz26_4 := blk_frozen BK288.out 4; have hcz27_0 : w24.cell? ⟨gb289, 0, none⟩ = some (.int .i64 a1_0) := (blk_cell BK289.out 0).trans rfl; have hcz27_1 : w24.cell? ⟨gb289, 1, none⟩ = some (.int .i64 a1_1) := (blk_cell BK289.out 1).trans rfl; have hcz27_2 : w24.cell? ⟨gb289, 2, none⟩ = some (.int .i64 a1_2) := (blk_cell BK289.out 2).trans rfl; have hcz27_3 : w24.cell? ⟨gb289, 3, none⟩ = some (.int .i64 a1_3) := (blk_cell BK289.out 3).trans rfl; have hcz27_4 : w24.cell? ⟨gb289, 4, none⟩ = some (.int .i64 a1_4) := (blk_cell BK289.out 4).trans rfl; have hfz27_0 := blk_frozen BK289.out 0; have hfz27_1 := blk_frozen BK289.out 1; have hfz27_2 := blk_frozen BK289.out 2; have hfz27_3 := blk_frozen BK289.out 3; have hfz27_4 := blk_frozen BK289.out 4))
    go_ret
    exact ⟨(qA10_5), (qA10_6)⟩
  ·rw [if_neg c4] at H
   have c4b0 : (a0_1 == a1_1) = false := beq_eq_false_iff_ne.mpr c4
   have c4b1 : (a0_1 != a1_1) = true := bne_iff_ne.mpr c4
   obtain rfl := Option.some.inj H
   go_enter Tryd.func39, Tryd.ntmps39
   go_wp2_with (first | ((with_reducible refine gate_dst (N := 2) rfl ?_); refine box_event ?hg (N := 2) ?hd (cs := #[.int .i64 a0_0, .int .i64 a0_1, .int .i64 a0_2, .int .i64 a0_3, .int .i64 a0_4]) (t := 43) ?hr ?_; (case hd => rfl); (case hg => rfl); (case hr => exact (qA10_7)); intro gb288 hg w28 hbox hb; have n0_ := Aside0.mk (below_step (qA10_0) hb); have n1_ := Aside0.mk (hbox); have n2_ := Aside0.mk ((by rw [hg]; exact (below_size (qA10_0)) : w.heap.size ≤ gb288)); have n3_ := Aside0.mk ((by rw [hg]; exact (below_size (qA10_0)) : w.heap.size ≤ gb288)); clear HB; have HB := n0_; have BK288 := n1_; have GW288 := n2_; have GE288 := n3_; clear n0_ n1_ n2_ n3_; clear hb hbox hg) | ((with_reducible refine gate_dst (N := 3) rfl ?_); refine box_event ?hg (N := 3) ?hd (cs := #[.int .i64 a1_0, .int .i64 a1_1, .int .i64 a1_2, .int .i64 a1_3, .int .i64 a1_4]) (t := 43) ?hr ?_; (case hd => rfl); (case hg => rfl); (case hr => exact (qA10_7)); intro gb289 hg w29 hbox hb; have n0_ := Aside0.mk (blk_below (g := gb288) (o := .cells #[.int .i64 a0_0, .int .i64 a0_1, .int .i64 a0_2, .int .i64 a0_3, .int .i64 a0_4] 43 (0, 0)) (qA10_2) hb); have n1_ := Aside0.mk (below_step (qA10_1) hb); have n2_ := Aside0.mk (hbox); have n3_ := Aside0.mk ((by rw [hg]; exact (below_size (qA10_1)) : w.heap.size ≤ gb289)); have n4_ := Aside0.mk ((by rw [hg]; exact (below_size (qA10_1)) : w.heap.size ≤ gb289)); have n5_ := Aside0.mk ((by rw [hg]; exact Nat.ne_of_lt (blk_lt (g := gb288) (o := .cells #[.int .i64 a0_0, .int .i64 a0_1, .int .i64 a0_2, .int .i64 a0_3, .int .i64 a0_4] 43 (0, 0)) (qA10_2)) : gb288 ≠ gb289)); have n6_ := Aside0.mk ((by rw [hg]; exact Nat.ne_of_gt (blk_lt (g := gb288) (o := .cells #[.int .i64 a0_0, .int .i64 a0_1, .int .i64 a0_2, .int .i64 a0_3, .int .i64 a0_4] 43 (0, 0)) (qA10_2)) : gb289 ≠ gb288)); clear BK288 HB; have BK288 := n0_; have HB := n1_; have BK289 := n2_; have GW289 := n3_; have GE289 := n4_; have NB288_289 := n5_; have NB289_288 := n6_; clear n0_ n1_ n2_ n3_ n4_ n5_ n6_; clear hb hbox hg; have hnb30 := NB288_289.out; have hnc30 := NB289_288.out; have hcz31_0 : w29.cell? ⟨gb288, 0, none⟩ = some (.int .i64 a0_0) := (blk_cell BK288.out 0).trans rfl; have hcz31_1 : w29.cell? ⟨gb288, 1, none⟩ = some (.int .i64 a0_1) := (blk_cell BK288.out 1).trans rfl; have hcz31_2 : w29.cell? ⟨gb288, 2, none⟩ = some (.int .i64 a0_2) := (blk_cell BK288.out 2).trans rfl; have hcz31_3 : w29.cell? ⟨gb288, 3, none⟩ = some (.int .i64 a0_3) := (blk_cell BK288.out 3).trans rfl; have hcz31_4 : w29.cell? ⟨gb288, 4, none⟩ = some (.int .i64 a0_4) := (blk_cell BK288.out 4).trans rfl; have hfz31_0 := blk_frozen BK288.out 0; have hfz31_1 := blk_frozen BK288.out 1; have hfz31_2 := blk_frozen BK288.out 2; have hfz31_3 := blk_frozen BK288.out 3; have hfz31_4 := blk_frozen BK288.out 4; have hcz32_0 : w29.cell? ⟨gb289, 0, none⟩ = some (.int .i64 a1_0) := (blk_cell BK289.out 0).trans rfl; have hcz32_1 : w29.cell? ⟨gb289, 1, none⟩ = some (.int .i64 a1_1) := (blk_cell BK289.out 1).trans rfl; have hcz32_2 : w29.cell? ⟨gb289, 2, none⟩ = some (.int .i64 a1_2) := (blk_cell BK289.out 2).trans rfl; have hcz32_3 : w29.cell? ⟨gb289, 3, none⟩ = some (.int .i64 a1_3) := (blk_cell BK289.out 3).trans rfl; have hcz32_4 : w29.cell? ⟨gb289, 4, none⟩ = some (.int .i64 a1_4) := (blk_cell BK289.out 4).trans rfl; have hfz32_0 := blk_frozen BK289.out 0; have hfz32_1 := blk_frozen BK289.out 1; have hfz32_2 := blk_frozen BK289.out 2; have hfz32_3 := blk_frozen BK289.out 3; have hfz32_4 := blk_frozen BK289.out 4))
   go_ret
   exact ⟨(qA10_5), (qA10_6)⟩
 ·rw [if_neg c3] at H
  have c3b0 : (a0_0 == a1_0) = false := beq_eq_false_iff_ne.mpr c3
  have c3b1 : (a0_0 != a1_0) = true := bne_iff_ne.mpr c3
  obtain rfl := Option.some.inj H
  go_enter Tryd.func39, Tryd.ntmps39
  go_wp2_with (first | ((with_reducible refine gate_dst (N := 2) rfl ?_); refine box_event ?hg (N := 2) ?hd (cs := #[.int .i64 a0_0, .int .i64 a0_1, .int .i64 a0_2, .int .i64 a0_3, .int .i64 a0_4]) (t := 43) ?hr ?_; (case hd => rfl); (case hg => rfl); (case hr => exact (qA10_7)); intro gb288 hg w33 hbox hb; have n0_ := Aside0.mk (below_step (qA10_0) hb); have n1_ := Aside0.mk (hbox); have n2_ := Aside0.mk ((by rw [hg]; exact (below_size (qA10_0)) : w.heap.size ≤ gb288)); have n3_ := Aside0.mk ((by rw [hg]; exact (below_size (qA10_0)) : w.heap.size ≤ gb288)); clear HB; have HB := n0_; have BK288 := n1_; have GW288 := n2_; have GE288 := n3_; clear n0_ n1_ n2_ n3_; clear hb hbox hg) | ((with_reducible refine gate_dst (N := 3) rfl ?_); refine box_event ?hg (N := 3) ?hd (cs := #[.int .i64 a1_0, .int .i64 a1_1, .int .i64 a1_2, .int .i64 a1_3, .int .i64 a1_4]) (t := 43) ?hr ?_; (case hd => rfl); (case hg => rfl); (case hr => exact (qA10_7)); intro gb289 hg w34 hbox hb; have n0_ := Aside0.mk (blk_below (g := gb288) (o := .cells #[.int .i64 a0_0, .int .i64 a0_1, .int .i64 a0_2, .int .i64 a0_3, .int .i64 a0_4] 43 (0, 0)) (qA10_2) hb); have n1_ := Aside0.mk (below_step (qA10_1) hb); have n2_ := Aside0.mk (hbox); have n3_ := Aside0.mk ((by rw [hg]; exact (below_size (qA10_1)) : w.heap.size ≤ gb289)); have n4_ := Aside0.mk ((by rw [hg]; exact (below_size (qA10_1)) : w.heap.size ≤ gb289)); have n5_ := Aside0.mk ((by rw [hg]; exact Nat.ne_of_lt (blk_lt (g := gb288) (o := .cells #[.int .i64 a0_0, .int .i64 a0_1, .int .i64 a0_2, .int .i64 a0_3, .int .i64 a0_4] 43 (0, 0)) (qA10_2)) : gb288 ≠ gb289)); have n6_ := Aside0.mk ((by rw [hg]; exact Nat.ne_of_gt (blk_lt (g := gb288) (o := .cells #[.int .i64 a0_0, .int .i64 a0_1, .int .i64 a0_2, .int .i64 a0_3, .int .i64 a0_4] 43 (0, 0)) (qA10_2)) : gb289 ≠ gb288)); clear BK288 HB; have BK288 := n0_; have HB := n1_; have BK289 := n2_; have GW289 := n3_; have GE289 := n4_; have NB288_289 := n5_; have NB289_288 := n6_; clear n0_ n1_ n2_ n3_ n4_ n5_ n6_; clear hb hbox hg; have hnb35 := NB288_289.out; have hnc35 := NB289_288.out; have hcz36_0 : w34.cell? ⟨gb288, 0, none⟩ = some (.int .i64 a0_0) := (blk_cell BK288.out 0).trans rfl; have hcz36_1 : w34.cell? ⟨gb288, 1, none⟩ = some (.int .i64 a0_1) := (blk_cell BK288.out 1).trans rfl; have hcz36_2 : w34.cell? ⟨gb288, 2, none⟩ = some (.int .i64 a0_2) := (blk_cell BK288.out 2).trans rfl; have hcz36_3 : w34.cell? ⟨gb288, 3, none⟩ = some (.int .i64 a0_3) := (blk_cell BK288.out 3).trans rfl; have hcz36_4 : w34.cell? ⟨gb288, 4, none⟩ = some (.int .i64 a0_4) := (blk_cell BK288.out 4).trans rfl; have hfz36_0 := blk_frozen BK288.out 0; have hfz36_1 := blk_frozen BK288.out 1; have hfz36_2 := blk_frozen BK288.out 2; have hfz36_3 := blk_frozen BK288.out 3; have hfz36_4 := blk_frozen BK288.out 4; have hcz37_0 : w34.cell? ⟨gb289, 0, none⟩ = some (.int .i64 a1_0) := (blk_cell BK289.out 0).trans rfl; have hcz37_1 : w34.cell? ⟨gb289, 1, none⟩ = some (.int .i64 a1_1) := (blk_cell BK289.out 1).trans rfl; have hcz37_2 : w34.cell? ⟨gb289, 2, none⟩ = some (.int .i64 a1_2) := (blk_cell BK289.out 2).trans rfl; have hcz37_3 : w34.cell? ⟨gb289, 3, none⟩ = some (.int .i64 a1_3) := (blk_cell BK289.out 3).trans rfl; have hcz37_4 : w34.cell? ⟨gb289, 4, none⟩ = some (.int .i64 a1_4) := (blk_cell BK289.out 4).trans rfl; have hfz37_0 := blk_frozen BK289.out 0; have hfz37_1 := blk_frozen BK289.out 1; have hfz37_2 := blk_frozen BK289.out 2; have hfz37_3 := blk_frozen BK289.out 3; have hfz37_4 := blk_frozen BK289.out 4))
  go_ret
  exact ⟨(qA10_5), (qA10_6)⟩

/-! ### laws_eqPassageS: function 11 -/
def laws_eqPassageS.l0 : Nat → List (S43) → List (S43) → Int → Option (Bool)
 | 0, _, _, _ => none
 | k + 1, x0, x1, x5 => if x5 < (x0.length : Int) then (if 0 ≤ x5 then (if x5 < (x1.length : Int) then ((laws_eqPassage.f ((rd_T43 x0 x5).f0) ((rd_T43 x0 x5).f1) ((rd_T43 x0 x5).f2) ((rd_T43 x0 x5).f3) ((rd_T43 x0 x5).f4) ((rd_T43 x1 x5).f0) ((rd_T43 x1 x5).f1) ((rd_T43 x1 x5).f2) ((rd_T43 x1 x5).f3) ((rd_T43 x1 x5).f4)).bind fun t292 => (if t292 = true then (laws_eqPassageS.l0 k x0 x1 (wrap64 (x5 + 1))) else (some false))) else (none)) else (none)) else (some true)
def laws_eqPassageS.f (k : Nat) (l0 : List (S43)) (l1 : List (S43)) : Option (Bool) := if (l0.length : Int) = (l1.length : Int) then (laws_eqPassageS.l0 k l0 l1 0) else (some false)
theorem laws_eqPassageS.mono_l : ∀ k, (∀ y0 y1 y2, LeO (laws_eqPassageS.l0 k y0 y1 y2) (laws_eqPassageS.l0 (k + 1) y0 y1 y2))
 | 0 => fun _ _ _ r h => by simp [laws_eqPassageS.l0] at h
 | k + 1 => by
  have ih0 := laws_eqPassageS.mono_l k
  ·intro y0 y1 y2
   unfold laws_eqPassageS.l0
   repeat' first
   | (with_reducible exact ih0 _ _ _)
   | (with_reducible exact LeO.refl _)
   | (with_reducible exact LeO.none _)
   | (with_reducible refine LeO.ite ?_ ?_)
   | (with_reducible refine LeO.bind ?_ (fun _ => ?_))
   | exact ih0 _ _ _
   | exact LeO.none _
   | refine LeO.ite ?_ ?_
   | refine LeO.bind ?_ (fun _ => ?_)
theorem laws_eqPassageS.mono : ∀ a0 a1 k, LeO (laws_eqPassageS.f k a0 a1) (laws_eqPassageS.f (k + 1) a0 a1) := by
 intro a0 a1 k
 have ih0 := laws_eqPassageS.mono_l k
 unfold laws_eqPassageS.f
 repeat' first
   | (with_reducible exact ih0 _ _ _)
   | (with_reducible exact LeO.refl _)
   | (with_reducible exact LeO.none _)
   | (with_reducible refine LeO.ite ?_ ?_)
   | (with_reducible refine LeO.bind ?_ (fun _ => ?_))
   | exact ih0 _ _ _
   | exact LeO.none _
   | refine LeO.ite ?_ ?_
   | refine LeO.bind ?_ (fun _ => ?_)
def laws_eqPassageS.T6 : Bool × List (List Nat × List Nat) := (true, [([], []), ([], []), ([0, 1], [0, 1]), ([2], [2]), ([], []), ([], []), ([4, 5], [4, 5]), ([6], [6]), ([3, 7], [3, 7]), ([8], [8])])
def laws_eqPassageS.B6 : List Nat := [0, 0, 3, 7, 0, 0, 48, 112, 255, 511]
theorem laws_eqPassageS.tab6 : rtab .any (opsOf Tryd.f11 6) = laws_eqPassageS.T6 := by kernel_rfl
theorem laws_eqPassageS.bits6 : waitsOk laws_eqPassageS.T6.2 laws_eqPassageS.B6 = true := by kernel_rfl
theorem laws_eqPassageS.calls (k : Nat) (A0 : Option Addr) (c0 : Nat) (l0 : List (S43)) (A1 : Option Addr) (c1 : Nat) (l1 : List (S43)) (r : Bool) (w : World) (hr0 : Kd.C k43 w A0 l0.length l0) (hc0 : l0.length ≤ c0) (hr1 : Kd.C k43 w A1 l1.length l1) (hc1 : l1.length ≤ c1) (h : laws_eqPassageS.f k l0 l1 = some r) :
  Calls Tryd.prog 11 #[.slice A0 l0.length c0, .slice A1 l1.length c1] w fun e w' => e = .returned (.bool r) ∧ Below w.heap.size w w' := by
 have hu43 := Tryd.underlying43
 have HR0 := Aside0.mk hr0; have HC0 := Aside0.mk hc0; clear hr0 hc0; have HR1 := Aside0.mk hr1; have HC1 := Aside0.mk hc1; clear hr1 hc1
 have HB := Aside0.mk (Below.refl w.heap.size w)
 have H : (if (l0.length : Int) = (l1.length : Int) then (laws_eqPassageS.l0 k l0 l1 0) else (some false)) = some r := h
 clear h
 by_cases c3 : (l0.length : Int) = (l1.length : Int)
 ·rw [if_pos c3] at H
  have c3b0 : ((l0.length : Int) == (l1.length : Int)) = true := beq_iff_eq.mpr c3
  have c3b1 : ((l0.length : Int) != (l1.length : Int)) = false := bne_eq_false_iff_eq.mpr c3
  have c3b2 : (l0.length == l1.length) = true := by first | simpa using c3 | (simp at c3 ⊢; omega)
  clear c3
  have H' := Aside0.mk H
  clear H
  go_enter Tryd.func11, Tryd.ntmps11
  go_wp2
  go_loopg [5] k (fun kq v5 w' => ∃ (x5_1 : Int), v5 = .int .i64 x5_1 ∧ Aside0 (laws_eqPassageS.l0 kq l0 l1 x5_1 = some r) ∧ Aside0 (kq ≤ k) ∧ Aside0 (Below w.heap.size w w'))
  case atStart => exact ⟨(0), (by first | rfl | (simp; done) | (simp [*]; done)), H', ⟨Nat.le_refl _⟩, ⟨(qA10_0)⟩⟩
  case round =>
   clear H'
   try clear c1
   try clear p2
   try clear c3
   try clear c3b0
   try clear c3b1
   try clear c3b2
   obtain ⟨x5_1, rfl, HA, HK1, HB⟩ := hrel
   cases gk with
   | zero => exact absurd HA.out (by simp [laws_eqPassageS.l0])
   | succ k1 =>
    have H := HA.out
    clear HA
    simp only [laws_eqPassageS.l0] at H
    by_cases c4 : x5_1 < (l0.length : Int)
    ·rw [if_pos c4] at H
     have c4b0 : decide (x5_1 < (l0.length : Int)) = true := decide_eq_true c4
     clear c4
     by_cases c5 : 0 ≤ x5_1
     ·rw [if_pos c5] at H
      have c5b0 : decide (0 ≤ x5_1) = true := decide_eq_true c5
      clear c5
      by_cases c6 : x5_1 < (l1.length : Int)
      ·rw [if_pos c6] at H
       have c6b0 : decide (x5_1 < (l1.length : Int)) = true := decide_eq_true c6
       clear c6; replace H := Option.bind_eq_some_iff.mp H; obtain ⟨t292, A70, H⟩ := H
       try dsimp only at H
       have A7 := Aside0.mk A70; clear A70
       by_cases c8 : t292 = true
       ·subst c8
        have H1 : (laws_eqPassageS.l0 k1 l0 l1 (wrap64 (x5_1 + 1))) = some r := by rw [if_pos rfl] at H; exact H
        clear H; have H := H1; clear H1
        have H' := Aside0.mk H
        clear H
        try go_wp2
        have n0_ := Aside0.mk (below_drew1 HB.out)
        clear HB
        have HB := n0_
        clear n0_
        have p290 : 0 ≤ (x5_1 : Int) := of_decide_eq_true (qA10_10)
        have q290 : x5_1 < (l0.length : Int) := of_decide_eq_true (qA10_10)
        obtain ⟨ad290, e290, hx290_0, hx290_1, hx290_2, hx290_3, hx290_4⟩ := at_T43 HR0.out x5_1 p290 q290
        have hw290_4 := hx290_4
        have hw290_3 := hx290_3
        have hw290_2 := hx290_2
        have hw290_1 := hx290_1
        have hw290_0 := hx290_0
        cases e290
        replace hx290_0 := (HB.out.cell (World.block_lt_of_cell? w _ hx290_0)).trans hx290_0
        replace hx290_1 := (HB.out.cell (World.block_lt_of_cell? w _ hx290_1)).trans hx290_1
        replace hx290_2 := (HB.out.cell (World.block_lt_of_cell? w _ hx290_2)).trans hx290_2
        replace hx290_3 := (HB.out.cell (World.block_lt_of_cell? w _ hx290_3)).trans hx290_3
        replace hx290_4 := (HB.out.cell (World.block_lt_of_cell? w _ hx290_4)).trans hx290_4
        replace p290 := eq_true p290
        replace q290 := eq_true q290
        have p291 : 0 ≤ (x5_1 : Int) := of_decide_eq_true (qA10_10)
        have q291 : x5_1 < (l1.length : Int) := of_decide_eq_true (qA10_10)
        obtain ⟨ad291, e291, hx291_0, hx291_1, hx291_2, hx291_3, hx291_4⟩ := at_T43 HR1.out x5_1 p291 q291
        have hw291_4 := hx291_4
        have hw291_3 := hx291_3
        have hw291_2 := hx291_2
        have hw291_1 := hx291_1
        have hw291_0 := hx291_0
        cases e291
        replace hx291_0 := (HB.out.cell (World.block_lt_of_cell? w _ hx291_0)).trans hx291_0
        replace hx291_1 := (HB.out.cell (World.block_lt_of_cell? w _ hx291_1)).trans hx291_1
        replace hx291_2 := (HB.out.cell (World.block_lt_of_cell? w _ hx291_2)).trans hx291_2
        replace hx291_3 := (HB.out.cell (World.block_lt_of_cell? w _ hx291_3)).trans hx291_3
        replace hx291_4 := (HB.out.cell (World.block_lt_of_cell? w _ hx291_4)).trans hx291_4
        replace p291 := eq_true p291
        replace q291 := eq_true q291
        refine start_ (n := 10) (S := fun w' => w'.cell? (ad290.add ((x5_1).toNat * 5)) = some (.int .i64 ((rd_T43 l0 x5_1).f0)) ∧ w'.cell? ⟨(ad290.add ((x5_1).toNat * 5)).block, (ad290.add ((x5_1).toNat * 5)).off + 1, none⟩ = some (.int .i64 ((rd_T43 l0 x5_1).f1)) ∧ w'.cell? ⟨(ad290.add ((x5_1).toNat * 5)).block, (ad290.add ((x5_1).toNat * 5)).off + 2, none⟩ = some (.int .i64 ((rd_T43 l0 x5_1).f2)) ∧ w'.cell? ⟨(ad290.add ((x5_1).toNat * 5)).block, (ad290.add ((x5_1).toNat * 5)).off + 3, none⟩ = some (.int .i64 ((rd_T43 l0 x5_1).f3)) ∧ w'.cell? ⟨(ad290.add ((x5_1).toNat * 5)).block, (ad290.add ((x5_1).toNat * 5)).off + 4, none⟩ = some (.int .i64 ((rd_T43 l0 x5_1).f4)) ∧ w'.cell? (ad291.add ((x5_1).toNat * 5)) = some (.int .i64 ((rd_T43 l1 x5_1).f0)) ∧ w'.cell? ⟨(ad291.add ((x5_1).toNat * 5)).block, (ad291.add ((x5_1).toNat * 5)).off + 1, none⟩ = some (.int .i64 ((rd_T43 l1 x5_1).f1)) ∧ w'.cell? ⟨(ad291.add ((x5_1).toNat * 5)).block, (ad291.add ((x5_1).toNat * 5)).off + 2, none⟩ = some (.int .i64 ((rd_T43 l1 x5_1).f2)) ∧ w'.cell? ⟨(ad291.add ((x5_1).toNat * 5)).block, (ad291.add ((x5_1).toNat * 5)).off + 3, none⟩ = some (.int .i64 ((rd_T43 l1 x5_1).f3)) ∧ w'.cell? ⟨(ad291.add ((x5_1).toNat * 5)).block, (ad291.add ((x5_1).toNat * 5)).off + 4, none⟩ = some (.int .i64 ((rd_T43 l1 x5_1).f4))) (ds := []) qA10_b0 (by kernel_rfl) rfl rfl ⟨((HB.out.cell (World.block_lt_of_cell? w _ hw290_0)).trans hw290_0), ((HB.out.cell (World.block_lt_of_cell? w _ hw290_1)).trans hw290_1), ((HB.out.cell (World.block_lt_of_cell? w _ hw290_2)).trans hw290_2), ((HB.out.cell (World.block_lt_of_cell? w _ hw290_3)).trans hw290_3), ((HB.out.cell (World.block_lt_of_cell? w _ hw290_4)).trans hw290_4), ((HB.out.cell (World.block_lt_of_cell? w _ hw291_0)).trans hw291_0), ((HB.out.cell (World.block_lt_of_cell? w _ hw291_1)).trans hw291_1), ((HB.out.cell (World.block_lt_of_cell? w _ hw291_2)).trans hw291_2), ((HB.out.cell (World.block_lt_of_cell? w _ hw291_3)).trans hw291_3), ((HB.out.cell (World.block_lt_of_cell? w _ hw291_4)).trans hw291_4)⟩ (fun hHeld => ?_); refine with_tabW laws_eqPassageS.tab6 laws_eqPassageS.bits6 (fun HT_ HW_ => ?_)
        generalize wr.drew = w9 at HB hx290_0 hx290_1 hx290_2 hx290_3 hx290_4 hx291_0 hx291_1 hx291_2 hx291_3 hx291_4 hHeld ⊢
        refine pure_ (i := 0) (N := some 17) (v := ?_) (a' := ?_) qA10_b1 rfl rfl (qA10_9) (fun _ _ _ h => h) (Or.inl ⟨by rfl, ?_⟩) ?_ ?_
        rotate_left; exact qA10_c1; rotate_left; exact qA10_c0
        refine pure_ (i := 1) (N := some 18) (v := ?_) (a' := ?_) qA10_b2 rfl rfl (qA10_9) (fun _ _ _ h => h) (Or.inl ⟨by rfl, ?_⟩) ?_ ?_
        rotate_left; exact qA10_c1; rotate_left; exact qA10_c0
        refine pure_ (i := 2) (N := some 19) (v := ?_) (a' := ?_) qA10_b3 rfl rfl (qA10_9) (fun _ _ _ h => h) (Or.inl ⟨by rfl, ?_⟩) ?_ ?_
        rotate_left; exact qA10_c1; rotate_left; exact qA10_c0
        refine pure_ (i := 4) (N := some 21) (v := ?_) (a' := ?_) qA10_b4 rfl rfl (qA10_9) (fun _ _ _ h => h) (Or.inl ⟨by rfl, ?_⟩) ?_ ?_
        rotate_left; exact qA10_c1; rotate_left; exact qA10_c0
        refine pure_ (i := 5) (N := some 22) (v := ?_) (a' := ?_) qA10_b5 rfl rfl (qA10_9) (fun _ _ _ h => h) (Or.inl ⟨by rfl, ?_⟩) ?_ ?_
        rotate_left; exact qA10_c1; rotate_left; exact qA10_c0
        refine pure_ (i := 6) (N := some 23) (v := ?_) (a' := ?_) qA10_b6 rfl rfl (qA10_9) (fun _ _ _ h => h) (Or.inl ⟨by rfl, ?_⟩) ?_ ?_
        rotate_left; exact qA10_c1; rotate_left; exact qA10_c0
        refine take_ (i := 3) (N := some 20) (v := ?_) (a' := ?_) qA10_b7 rfl rfl (take_ofW HT_.out HW_.out (by kernel_rfl)) (fun _ _ _ h => h) (Or.inl ⟨by rfl, ?_⟩) hHeld ?_ ?_
        rotate_left; exact qA10_c2; rotate_left; exact qA10_c0
        refine take_ (i := 7) (N := some 24) (v := ?_) (a' := ?_) qA10_b8 rfl rfl (take_ofW HT_.out HW_.out (by kernel_rfl)) (fun _ _ _ h => h) (Or.inl ⟨by rfl, ?_⟩) hHeld ?_ ?_
        rotate_left; exact qA10_c2; rotate_left; exact qA10_c0
        refine one_ (i := 8) (N := some 25) qA10_b9 rfl rfl (by exact one_of HT_.out (by kernel_rfl)) (by decide) (fun K hK => ?_)
        refine goes_ Tryd.func39 (by kernel_rfl) rfl #[.agg #[.int .i64 ((rd_T43 l0 x5_1).f0), .int .i64 ((rd_T43 l0 x5_1).f1), .int .i64 ((rd_T43 l0 x5_1).f2), .int .i64 ((rd_T43 l0 x5_1).f3), .int .i64 ((rd_T43 l0 x5_1).f4)], .agg #[.int .i64 ((rd_T43 l1 x5_1).f0), .int .i64 ((rd_T43 l1 x5_1).f1), .int .i64 ((rd_T43 l1 x5_1).f2), .int .i64 ((rd_T43 l1 x5_1).f3), .int .i64 ((rd_T43 l1 x5_1).f4)]] (by rfl) rfl rfl (qA10_11) ?_
        with_reducible refine (laws_eqPassage.calls ((rd_T43 l0 x5_1).f0) ((rd_T43 l0 x5_1).f1) ((rd_T43 l0 x5_1).f2) ((rd_T43 l0 x5_1).f3) ((rd_T43 l0 x5_1).f4) ((rd_T43 l1 x5_1).f0) ((rd_T43 l1 x5_1).f1) ((rd_T43 l1 x5_1).f2) ((rd_T43 l1 x5_1).f3) ((rd_T43 l1 x5_1).f4) true _ A7.out).mono ?_
        rintro e w10 ⟨rfl, hb⟩
        refine ⟨_, rfl, ?_⟩
        have n0_ := Aside0.mk (below_step (qA10_0) hb)
        clear HB
        have HB := n0_
        clear n0_
        (try clear hb)
        (try clear hb2)
        (try clear hk)
        (try clear hi)
        refine hK.out _ _ ⟨((HB.out.cell (World.block_lt_of_cell? w _ hw290_0)).trans hw290_0), ((HB.out.cell (World.block_lt_of_cell? w _ hw290_1)).trans hw290_1), ((HB.out.cell (World.block_lt_of_cell? w _ hw290_2)).trans hw290_2), ((HB.out.cell (World.block_lt_of_cell? w _ hw290_3)).trans hw290_3), ((HB.out.cell (World.block_lt_of_cell? w _ hw290_4)).trans hw290_4), ((HB.out.cell (World.block_lt_of_cell? w _ hw291_0)).trans hw291_0), ((HB.out.cell (World.block_lt_of_cell? w _ hw291_1)).trans hw291_1), ((HB.out.cell (World.block_lt_of_cell? w _ hw291_2)).trans hw291_2), ((HB.out.cell (World.block_lt_of_cell? w _ hw291_3)).trans hw291_3), ((HB.out.cell (World.block_lt_of_cell? w _ hw291_4)).trans hw291_4)⟩ (fun hHeld => ?_)
        clear hK K
        refine norm_ (a' := ?_) ?_ ?_
        rotate_left
        ·show Act.put _ (some 25) _ = _
         simp only [Act.put, List.setIfInBounds_toArray, List.set_cons_zero, List.set_cons_succ, i64_w, i32_w]
         rfl
        refine pure_ (i := 9) (N := some 26) (v := ?_) (a' := ?_) qA10_b10 rfl rfl (qA10_9) (fun _ _ _ h => h) (Or.inl ⟨by rfl, ?_⟩) ?_ ?_
        rotate_left; exact qA10_c1; rotate_left; exact qA10_c0
        refine done_ (by exact done_of HT_.out (by kernel_rfl)) ?_
        try go_wp2
        go_roundg k1
        case measure => have := HK1.out; omega
        case rel => exact ⟨(wrap64 (x5_1 + 1)), (by first | rfl | (simp; done) | (simp [*]; done)), H', ⟨by have := HK1.out; omega⟩, ⟨(qA10_0)⟩⟩
       ·replace c8 := Bool.eq_false_iff.mpr c8
        subst c8
        have H1 : (some false) = some r := by rw [if_neg (show ¬ (false = true) by decide)] at H; exact H
        clear H; have H := H1; clear H1; obtain rfl := Option.some.inj H
        try go_wp2
        have n0_ := Aside0.mk (below_drew1 HB.out)
        clear HB
        have HB := n0_
        clear n0_
        have p290 : 0 ≤ (x5_1 : Int) := of_decide_eq_true (qA10_10)
        have q290 : x5_1 < (l0.length : Int) := of_decide_eq_true (qA10_10)
        obtain ⟨ad290, e290, hx290_0, hx290_1, hx290_2, hx290_3, hx290_4⟩ := at_T43 HR0.out x5_1 p290 q290
        have hw290_4 := hx290_4
        have hw290_3 := hx290_3
        have hw290_2 := hx290_2
        have hw290_1 := hx290_1
        have hw290_0 := hx290_0
        cases e290
        replace hx290_0 := (HB.out.cell (World.block_lt_of_cell? w _ hx290_0)).trans hx290_0
        replace hx290_1 := (HB.out.cell (World.block_lt_of_cell? w _ hx290_1)).trans hx290_1
        replace hx290_2 := (HB.out.cell (World.block_lt_of_cell? w _ hx290_2)).trans hx290_2
        replace hx290_3 := (HB.out.cell (World.block_lt_of_cell? w _ hx290_3)).trans hx290_3
        replace hx290_4 := (HB.out.cell (World.block_lt_of_cell? w _ hx290_4)).trans hx290_4
        replace p290 := eq_true p290
        replace q290 := eq_true q290
        have p291 : 0 ≤ (x5_1 : Int) := of_decide_eq_true (qA10_10)
        have q291 : x5_1 < (l1.length : Int) := of_decide_eq_true (qA10_10)
        obtain ⟨ad291, e291, hx291_0, hx291_1, hx291_2, hx291_3, hx291_4⟩ := at_T43 HR1.out x5_1 p291 q291
        have hw291_4 := hx291_4
        have hw291_3 := hx291_3
        have hw291_2 := hx291_2
        have hw291_1 := hx291_1
        have hw291_0 := hx291_0
        cases e291
        replace hx291_0 := (HB.out.cell (World.block_lt_of_cell? w _ hx291_0)).trans hx291_0
        replace hx291_1 := (HB.out.cell (World.block_lt_of_cell? w _ hx291_1)).trans hx291_1
        replace hx291_2 := (HB.out.cell (World.block_lt_of_cell? w _ hx291_2)).trans hx291_2
        replace hx291_3 := (HB.out.cell (World.block_lt_of_cell? w _ hx291_3)).trans hx291_3
        replace hx291_4 := (HB.out.cell (World.block_lt_of_cell? w _ hx291_4)).trans hx291_4
        replace p291 := eq_true p291
        replace q291 := eq_true q291
        refine start_ (n := 10) (S := fun w' => w'.cell? (ad290.add ((x5_1).toNat * 5)) = some (.int .i64 ((rd_T43 l0 x5_1).f0)) ∧ w'.cell? ⟨(ad290.add ((x5_1).toNat * 5)).block, (ad290.add ((x5_1).toNat * 5)).off + 1, none⟩ = some (.int .i64 ((rd_T43 l0 x5_1).f1)) ∧ w'.cell? ⟨(ad290.add ((x5_1).toNat * 5)).block, (ad290.add ((x5_1).toNat * 5)).off + 2, none⟩ = some (.int .i64 ((rd_T43 l0 x5_1).f2)) ∧ w'.cell? ⟨(ad290.add ((x5_1).toNat * 5)).block, (ad290.add ((x5_1).toNat * 5)).off + 3, none⟩ = some (.int .i64 ((rd_T43 l0 x5_1).f3)) ∧ w'.cell? ⟨(ad290.add ((x5_1).toNat * 5)).block, (ad290.add ((x5_1).toNat * 5)).off + 4, none⟩ = some (.int .i64 ((rd_T43 l0 x5_1).f4)) ∧ w'.cell? (ad291.add ((x5_1).toNat * 5)) = some (.int .i64 ((rd_T43 l1 x5_1).f0)) ∧ w'.cell? ⟨(ad291.add ((x5_1).toNat * 5)).block, (ad291.add ((x5_1).toNat * 5)).off + 1, none⟩ = some (.int .i64 ((rd_T43 l1 x5_1).f1)) ∧ w'.cell? ⟨(ad291.add ((x5_1).toNat * 5)).block, (ad291.add ((x5_1).toNat * 5)).off + 2, none⟩ = some (.int .i64 ((rd_T43 l1 x5_1).f2)) ∧ w'.cell? ⟨(ad291.add ((x5_1).toNat * 5)).block, (ad291.add ((x5_1).toNat * 5)).off + 3, none⟩ = some (.int .i64 ((rd_T43 l1 x5_1).f3)) ∧ w'.cell? ⟨(ad291.add ((x5_1).toNat * 5)).block, (ad291.add ((x5_1).toNat * 5)).off + 4, none⟩ = some (.int .i64 ((rd_T43 l1 x5_1).f4))) (ds := []) qA10_b0 (by kernel_rfl) rfl rfl ⟨((HB.out.cell (World.block_lt_of_cell? w _ hw290_0)).trans hw290_0), ((HB.out.cell (World.block_lt_of_cell? w _ hw290_1)).trans hw290_1), ((HB.out.cell (World.block_lt_of_cell? w _ hw290_2)).trans hw290_2), ((HB.out.cell (World.block_lt_of_cell? w _ hw290_3)).trans hw290_3), ((HB.out.cell (World.block_lt_of_cell? w _ hw290_4)).trans hw290_4), ((HB.out.cell (World.block_lt_of_cell? w _ hw291_0)).trans hw291_0), ((HB.out.cell (World.block_lt_of_cell? w _ hw291_1)).trans hw291_1), ((HB.out.cell (World.block_lt_of_cell? w _ hw291_2)).trans hw291_2), ((HB.out.cell (World.block_lt_of_cell? w _ hw291_3)).trans hw291_3), ((HB.out.cell (World.block_lt_of_cell? w _ hw291_4)).trans hw291_4)⟩ (fun hHeld => ?_); refine with_tabW laws_eqPassageS.tab6 laws_eqPassageS.bits6 (fun HT_ HW_ => ?_)
        generalize wr.drew = w11 at HB hx290_0 hx290_1 hx290_2 hx290_3 hx290_4 hx291_0 hx291_1 hx291_2 hx291_3 hx291_4 hHeld ⊢
        refine pure_ (i := 0) (N := some 17) (v := ?_) (a' := ?_) qA10_b1 rfl rfl (qA10_9) (fun _ _ _ h => h) (Or.inl ⟨by rfl, ?_⟩) ?_ ?_
        rotate_left; exact qA10_c1; rotate_left; exact qA10_c0
        refine pure_ (i := 1) (N := some 18) (v := ?_) (a' := ?_) qA10_b2 rfl rfl (qA10_9) (fun _ _ _ h => h) (Or.inl ⟨by rfl, ?_⟩) ?_ ?_
        rotate_left; exact qA10_c1; rotate_left; exact qA10_c0
        refine pure_ (i := 2) (N := some 19) (v := ?_) (a' := ?_) qA10_b3 rfl rfl (qA10_9) (fun _ _ _ h => h) (Or.inl ⟨by rfl, ?_⟩) ?_ ?_
        rotate_left; exact qA10_c1; rotate_left; exact qA10_c0
        refine pure_ (i := 4) (N := some 21) (v := ?_) (a' := ?_) qA10_b4 rfl rfl (qA10_9) (fun _ _ _ h => h) (Or.inl ⟨by rfl, ?_⟩) ?_ ?_
        rotate_left; exact qA10_c1; rotate_left; exact qA10_c0
        refine pure_ (i := 5) (N := some 22) (v := ?_) (a' := ?_) qA10_b5 rfl rfl (qA10_9) (fun _ _ _ h => h) (Or.inl ⟨by rfl, ?_⟩) ?_ ?_
        rotate_left; exact qA10_c1; rotate_left; exact qA10_c0
        refine pure_ (i := 6) (N := some 23) (v := ?_) (a' := ?_) qA10_b6 rfl rfl (qA10_9) (fun _ _ _ h => h) (Or.inl ⟨by rfl, ?_⟩) ?_ ?_
        rotate_left; exact qA10_c1; rotate_left; exact qA10_c0
        refine take_ (i := 3) (N := some 20) (v := ?_) (a' := ?_) qA10_b7 rfl rfl (take_ofW HT_.out HW_.out (by kernel_rfl)) (fun _ _ _ h => h) (Or.inl ⟨by rfl, ?_⟩) hHeld ?_ ?_
        rotate_left; exact qA10_c2; rotate_left; exact qA10_c0
        refine take_ (i := 7) (N := some 24) (v := ?_) (a' := ?_) qA10_b8 rfl rfl (take_ofW HT_.out HW_.out (by kernel_rfl)) (fun _ _ _ h => h) (Or.inl ⟨by rfl, ?_⟩) hHeld ?_ ?_
        rotate_left; exact qA10_c2; rotate_left; exact qA10_c0
        refine one_ (i := 8) (N := some 25) qA10_b9 rfl rfl (by exact one_of HT_.out (by kernel_rfl)) (by decide) (fun K hK => ?_)
        refine goes_ Tryd.func39 (by kernel_rfl) rfl #[.agg #[.int .i64 ((rd_T43 l0 x5_1).f0), .int .i64 ((rd_T43 l0 x5_1).f1), .int .i64 ((rd_T43 l0 x5_1).f2), .int .i64 ((rd_T43 l0 x5_1).f3), .int .i64 ((rd_T43 l0 x5_1).f4)], .agg #[.int .i64 ((rd_T43 l1 x5_1).f0), .int .i64 ((rd_T43 l1 x5_1).f1), .int .i64 ((rd_T43 l1 x5_1).f2), .int .i64 ((rd_T43 l1 x5_1).f3), .int .i64 ((rd_T43 l1 x5_1).f4)]] (by rfl) rfl rfl (qA10_11) ?_
        with_reducible refine (laws_eqPassage.calls ((rd_T43 l0 x5_1).f0) ((rd_T43 l0 x5_1).f1) ((rd_T43 l0 x5_1).f2) ((rd_T43 l0 x5_1).f3) ((rd_T43 l0 x5_1).f4) ((rd_T43 l1 x5_1).f0) ((rd_T43 l1 x5_1).f1) ((rd_T43 l1 x5_1).f2) ((rd_T43 l1 x5_1).f3) ((rd_T43 l1 x5_1).f4) false _ A7.out).mono ?_
        rintro e w12 ⟨rfl, hb⟩
        refine ⟨_, rfl, ?_⟩
        have n0_ := Aside0.mk (below_step (qA10_0) hb)
        clear HB
        have HB := n0_
        clear n0_
        (try clear hb)
        (try clear hb2)
        (try clear hk)
        (try clear hi)
        refine hK.out _ _ ⟨((HB.out.cell (World.block_lt_of_cell? w _ hw290_0)).trans hw290_0), ((HB.out.cell (World.block_lt_of_cell? w _ hw290_1)).trans hw290_1), ((HB.out.cell (World.block_lt_of_cell? w _ hw290_2)).trans hw290_2), ((HB.out.cell (World.block_lt_of_cell? w _ hw290_3)).trans hw290_3), ((HB.out.cell (World.block_lt_of_cell? w _ hw290_4)).trans hw290_4), ((HB.out.cell (World.block_lt_of_cell? w _ hw291_0)).trans hw291_0), ((HB.out.cell (World.block_lt_of_cell? w _ hw291_1)).trans hw291_1), ((HB.out.cell (World.block_lt_of_cell? w _ hw291_2)).trans hw291_2), ((HB.out.cell (World.block_lt_of_cell? w _ hw291_3)).trans hw291_3), ((HB.out.cell (World.block_lt_of_cell? w _ hw291_4)).trans hw291_4)⟩ (fun hHeld => ?_)
        clear hK K
        refine norm_ (a' := ?_) ?_ ?_
        rotate_left
        ·show Act.put _ (some 25) _ = _
         simp only [Act.put, List.setIfInBounds_toArray, List.set_cons_zero, List.set_cons_succ, i64_w, i32_w]
         rfl
        refine pure_ (i := 9) (N := some 26) (v := ?_) (a' := ?_) qA10_b10 rfl rfl (qA10_9) (fun _ _ _ h => h) (Or.inl ⟨by rfl, ?_⟩) ?_ ?_
        rotate_left; exact qA10_c1; rotate_left; exact qA10_c0
        refine done_ (by exact done_of HT_.out (by kernel_rfl)) ?_
        try go_wp2
        go_ret
        exact ⟨(qA10_5), (qA10_0)⟩
      ·rw [if_neg c6] at H
       exact absurd H (by simp)
     ·rw [if_neg c5] at H
      exact absurd H (by simp)
    ·rw [if_neg c4] at H
     have c4b0 : decide (x5_1 < (l0.length : Int)) = false := decide_eq_false c4
     clear c4; obtain rfl := Option.some.inj H
     go_wp2
     go_ret
     exact ⟨(qA10_5), (qA10_0)⟩
 ·rw [if_neg c3] at H
  have c3b0 : ((l0.length : Int) == (l1.length : Int)) = false := beq_eq_false_iff_ne.mpr c3
  have c3b1 : ((l0.length : Int) != (l1.length : Int)) = true := bne_iff_ne.mpr c3
  have c3b2 : (l0.length == l1.length) = false := by first | simpa using c3 | (simp at c3 ⊢; omega)
  obtain rfl := Option.some.inj H
  go_enter Tryd.func11, Tryd.ntmps11
  go_wp2
  go_ret
  exact ⟨(qA10_5), (qA10_0)⟩

end Go.Proofs.YtfbkhdlhkfbfcaaDoor.MA
