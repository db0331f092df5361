-- Written by a program of this session (wip/drv.py) out of Lean's own print of the loaded program; hand-proved parts from wip/inj.
import Derived.Test.YtkjjnfjmnifoiaaMAx0
namespace Go.Proofs.Ytkjjnfjmnifoiaa.MA
open Go.RowKit Go.Proofs.YtkjjnfjmnifoiaaW.PrintWords Go.Proofs.YtkjjnfjmnifoiaaW.PrintLast Go.Proofs.YtkjjnfjmnifoiaaW.PrintMore
attribute [local go_sem] max2_int min2_int max_two min_two max_three min_three max_four min_four   -- for this text's walks alone
set_option linter.unusedVariables false
set_option linter.unusedSimpArgs false

/-! ### spec_l1In: function 87 -/
def spec_l1In.f (a0 : Int) (a1 : Int) (a2 : Int) : Option (Bool) := if a0 ≥ a1 then (some (decide (a0 ≤ a2))) else (some false)
set_option maxHeartbeats 8000000 in
set_option maxRecDepth 100000 in
theorem spec_l1In.calls (a0 : Int) (a1 : Int) (a2 : Int) (r : Bool) (w : World) (h : spec_l1In.f a0 a1 a2 = some r) :
    Calls Try.prog 87 #[.int .i64 a0, .int .i64 a1, .int .i64 a2] w fun e w' => e = .returned (.bool r) ∧ Drawn0 w w' := by
  have H : (if a0 ≥ a1 then (some (decide (a0 ≤ a2))) else (some false)) = some r := h
  clear h
  by_cases c4 : a0 ≥ a1
  · rw [if_pos c4] at H
    have c4b0 : decide (a1 ≤ a0) = true := decide_eq_true c4
    clear c4
    obtain rfl := Option.some.inj H
    go_enter Try.func87, Try.ntmps87
    go_wp2
    go_ret
    exact ⟨by first | rfl | (simp; done) | (simp [*]; done), by repeat (first | exact Drawn0.refl _ | apply Drawn0.step)⟩
  · rw [if_neg c4] at H
    have c4b0 : decide (a1 ≤ a0) = false := decide_eq_false c4
    clear c4
    obtain rfl := Option.some.inj H
    go_enter Try.func87, Try.ntmps87
    go_wp2
    go_ret
    exact ⟨by first | rfl | (simp; done) | (simp [*]; done), by repeat (first | exact Drawn0.refl _ | apply Drawn0.step)⟩

/-! ### spec_l4Plus: function 101 -/
def spec_l4Plus.f (a0_0 : Int) (a0_1 : Int) (a0_2 : Int) (a1_0 : Int) (a1_1 : Int) (a1_2 : Int) (a2 : Int) : Option (Int × Int × Int) := some (wrap64 (a0_0 + (wrap64 (a2 * a1_0))), wrap64 (a0_1 + (wrap64 (a2 * a1_1))), wrap64 (a0_2 + (wrap64 (a2 * a1_2))))
set_option maxHeartbeats 8000000 in
set_option maxRecDepth 100000 in
theorem spec_l4Plus.calls (a0_0 : Int) (a0_1 : Int) (a0_2 : Int) (a1_0 : Int) (a1_1 : Int) (a1_2 : Int) (a2 : Int) (r1 : Int) (r2 : Int) (r3 : Int) (w : World) (h : spec_l4Plus.f a0_0 a0_1 a0_2 a1_0 a1_1 a1_2 a2 = some (r1, r2, r3)) :
    Calls Try.prog 101 #[.agg #[.int .i64 a0_0, .int .i64 a0_1, .int .i64 a0_2], .agg #[.int .i64 a1_0, .int .i64 a1_1, .int .i64 a1_2], .int .i64 a2] w fun e w' => e = .returned (.agg #[.int .i64 r1, .int .i64 r2, .int .i64 r3]) ∧ Below w.heap.size w w' := by
  have hu100 := Try.underlying100
  have HB := Aside0.mk (Below.refl w.heap.size w)
  have H : (some (wrap64 (a0_0 + (wrap64 (a2 * a1_0))), wrap64 (a0_1 + (wrap64 (a2 * a1_1))), wrap64 (a0_2 + (wrap64 (a2 * a1_2))))) = some (r1, r2, r3) := h
  clear h
  simp only [Option.some.injEq, Prod.mk.injEq] at H
  obtain ⟨rfl, rfl, rfl⟩ := H
  go_enter Try.func101, Try.ntmps101
  go_wp2_with (first | ((with_reducible refine gate_dst (N := 3) rfl ?_); refine box_event ?hg (N := 3) ?hd (cs := #[.int .i64 a0_0, .int .i64 a0_1, .int .i64 a0_2]) (t := 100) ?hr ?_; (case hd => rfl); (case hg => rfl); (case hr => first | (go_simp; done) | (go_simp; rfl)); intro gb168 hg w4 hbox hb; have n0_ := Aside0.mk (below_step (by repeat (first | (with_reducible first | exact HB.out | apply below_alloc | apply pw_below_drewN | apply below_drew1) | exact HB.out)) hb); have n1_ := Aside0.mk (hbox); have n2_ := Aside0.mk ((by rw [hg]; exact (below_size (by repeat (first | (with_reducible first | exact HB.out | apply below_alloc | apply pw_below_drewN | apply below_drew1) | exact HB.out))) : w.heap.size ≤ gb168)); have n3_ := Aside0.mk ((by rw [hg]; exact (below_size (by repeat (first | (with_reducible first | exact HB.out | apply below_alloc | apply pw_below_drewN | apply below_drew1) | exact HB.out))) : w.heap.size ≤ gb168)); clear HB; have HB := n0_; have BK168 := n1_; have GW168 := n2_; have GE168 := n3_; clear n0_ n1_ n2_ n3_; clear hb hbox hg) | ((with_reducible refine gate_dst (N := 4) rfl ?_); refine box_event ?hg (N := 4) ?hd (cs := #[.int .i64 a1_0, .int .i64 a1_1, .int .i64 a1_2]) (t := 100) ?hr ?_; (case hd => rfl); (case hg => rfl); (case hr => first | (go_simp; done) | (go_simp; rfl)); intro gb169 hg w5 hbox hb; have n0_ := Aside0.mk (blk_below (g := gb168) (o := .cells #[.int .i64 a0_0, .int .i64 a0_1, .int .i64 a0_2] 100 (0, 0)) (by (with_reducible repeat (first | refine blk_drewN ?_ _ | refine blk_drew ?_ | refine blk_alloc ?_ _)); exact BK168.out) hb); have n1_ := Aside0.mk (below_step (by repeat (first | (with_reducible first | exact HB.out | apply below_alloc | apply pw_below_drewN | apply below_drew1 | refine below_set ?_ GE168.out) | exact HB.out)) hb); have n2_ := Aside0.mk (hbox); have n3_ := Aside0.mk ((by rw [hg]; exact (below_size (by repeat (first | (with_reducible first | exact HB.out | apply below_alloc | apply pw_below_drewN | apply below_drew1 | refine below_set ?_ GE168.out) | exact HB.out))) : w.heap.size ≤ gb169)); have n4_ := Aside0.mk ((by rw [hg]; exact (below_size (by repeat (first | (with_reducible first | exact HB.out | apply below_alloc | apply pw_below_drewN | apply below_drew1 | refine below_set ?_ GE168.out) | exact HB.out))) : w.heap.size ≤ gb169)); have n5_ := Aside0.mk ((by rw [hg]; exact Nat.ne_of_lt (blk_lt (g := gb168) (o := .cells #[.int .i64 a0_0, .int .i64 a0_1, .int .i64 a0_2] 100 (0, 0)) (by (with_reducible repeat (first | refine blk_drewN ?_ _ | refine blk_drew ?_ | refine blk_alloc ?_ _)); exact BK168.out)) : gb168 ≠ gb169)); have n6_ := Aside0.mk ((by rw [hg]; exact Nat.ne_of_gt (blk_lt (g := gb168) (o := .cells #[.int .i64 a0_0, .int .i64 a0_1, .int .i64 a0_2] 100 (0, 0)) (by (with_reducible repeat (first | refine blk_drewN ?_ _ | refine blk_drew ?_ | refine blk_alloc ?_ _)); exact BK168.out)) : gb169 ≠ gb168)); clear BK168; clear HB; have BK168 := n0_; have HB := n1_; have BK169 := n2_; have GW169 := n3_; have GE169 := n4_; have NB168_169 := n5_; have NB169_168 := n6_; clear n0_ n1_ n2_ n3_ n4_ n5_ n6_; clear hb hbox hg) | ((with_reducible refine gate_dst (N := 6) rfl ?_); refine box_event ?hg (N := 6) ?hd (cs := #[.int .i64 0, .int .i64 0, .int .i64 0]) (t := 100) ?hr ?_; (case hd => rfl); (case hg => rfl); (case hr => first | (go_simp; done) | (go_simp; rfl)); intro gb170 hg w6 hbox hb; have n0_ := Aside0.mk (blk_below (g := gb168) (o := .cells #[.int .i64 a0_0, .int .i64 a0_1, .int .i64 a0_2] 100 (0, 0)) (by (with_reducible repeat (first | refine blk_drewN ?_ _ | refine blk_drew ?_ | refine blk_alloc ?_ _)); exact BK168.out) hb); have n1_ := Aside0.mk (blk_below (g := gb169) (o := .cells #[.int .i64 a1_0, .int .i64 a1_1, .int .i64 a1_2] 100 (0, 0)) (by (with_reducible repeat (first | refine blk_drewN ?_ _ | refine blk_drew ?_ | refine blk_alloc ?_ _)); exact BK169.out) hb); have n2_ := Aside0.mk (below_step (by repeat (first | (with_reducible first | exact HB.out | apply below_alloc | apply pw_below_drewN | apply below_drew1 | refine below_set ?_ GE168.out | refine below_set ?_ GE169.out) | exact HB.out)) hb); have n3_ := Aside0.mk (hbox); have n4_ := Aside0.mk ((by rw [hg]; exact (below_size (by repeat (first | (with_reducible first | exact HB.out | apply below_alloc | apply pw_below_drewN | apply below_drew1 | refine below_set ?_ GE168.out | refine below_set ?_ GE169.out) | exact HB.out))) : w.heap.size ≤ gb170)); have n5_ := Aside0.mk ((by rw [hg]; exact (below_size (by repeat (first | (with_reducible first | exact HB.out | apply below_alloc | apply pw_below_drewN | apply below_drew1 | refine below_set ?_ GE168.out | refine below_set ?_ GE169.out) | exact HB.out))) : w.heap.size ≤ gb170)); have n6_ := Aside0.mk ((by rw [hg]; exact Nat.ne_of_lt (blk_lt (g := gb168) (o := .cells #[.int .i64 a0_0, .int .i64 a0_1, .int .i64 a0_2] 100 (0, 0)) (by (with_reducible repeat (first | refine blk_drewN ?_ _ | refine blk_drew ?_ | refine blk_alloc ?_ _)); exact BK168.out)) : gb168 ≠ gb170)); have n7_ := Aside0.mk ((by rw [hg]; exact Nat.ne_of_gt (blk_lt (g := gb168) (o := .cells #[.int .i64 a0_0, .int .i64 a0_1, .int .i64 a0_2] 100 (0, 0)) (by (with_reducible repeat (first | refine blk_drewN ?_ _ | refine blk_drew ?_ | refine blk_alloc ?_ _)); exact BK168.out)) : gb170 ≠ gb168)); have n8_ := Aside0.mk ((by rw [hg]; exact Nat.ne_of_lt (blk_lt (g := gb169) (o := .cells #[.int .i64 a1_0, .int .i64 a1_1, .int .i64 a1_2] 100 (0, 0)) (by (with_reducible repeat (first | refine blk_drewN ?_ _ | refine blk_drew ?_ | refine blk_alloc ?_ _)); exact BK169.out)) : gb169 ≠ gb170)); have n9_ := Aside0.mk ((by rw [hg]; exact Nat.ne_of_gt (blk_lt (g := gb169) (o := .cells #[.int .i64 a1_0, .int .i64 a1_1, .int .i64 a1_2] 100 (0, 0)) (by (with_reducible repeat (first | refine blk_drewN ?_ _ | refine blk_drew ?_ | refine blk_alloc ?_ _)); exact BK169.out)) : gb170 ≠ gb169)); clear BK168; clear BK169; clear HB; have BK168 := n0_; have BK169 := n1_; have HB := n2_; have BK170 := n3_; have GW170 := n4_; have GE170 := n5_; have NB168_170 := n6_; have NB170_168 := n7_; have NB169_170 := n8_; have NB170_169 := n9_; clear n0_ n1_ n2_ n3_ n4_ n5_ n6_ n7_ n8_ n9_; clear hb hbox hg; have hnb7 := NB168_169.out; have hnc7 := NB169_168.out; have hnb8 := NB168_170.out; have hnc8 := NB170_168.out; have hcz9_0 : w6.cell? ⟨gb168, 0, none⟩ = some (.int .i64 a0_0) := (blk_cell BK168.out 0).trans rfl; have hcz9_1 : w6.cell? ⟨gb168, 1, none⟩ = some (.int .i64 a0_1) := (blk_cell BK168.out 1).trans rfl; have hcz9_2 : w6.cell? ⟨gb168, 2, none⟩ = some (.int .i64 a0_2) := (blk_cell BK168.out 2).trans rfl; have hfz9_0 := blk_frozen BK168.out 0; have hfz9_1 := blk_frozen BK168.out 1; have hfz9_2 := blk_frozen BK168.out 2; have hnb10 := NB169_170.out; have hnc10 := NB170_169.out; have hcz11_0 : w6.cell? ⟨gb169, 0, none⟩ = some (.int .i64 a1_0) := (blk_cell BK169.out 0).trans rfl; have hcz11_1 : w6.cell? ⟨gb169, 1, none⟩ = some (.int .i64 a1_1) := (blk_cell BK169.out 1).trans rfl; have hcz11_2 : w6.cell? ⟨gb169, 2, none⟩ = some (.int .i64 a1_2) := (blk_cell BK169.out 2).trans rfl; have hfz11_0 := blk_frozen BK169.out 0; have hfz11_1 := blk_frozen BK169.out 1; have hfz11_2 := blk_frozen BK169.out 2; have hcz12_0 : w6.cell? ⟨gb170, 0, none⟩ = some (.int .i64 0) := (blk_cell BK170.out 0).trans rfl; have hcz12_1 : w6.cell? ⟨gb170, 1, none⟩ = some (.int .i64 0) := (blk_cell BK170.out 1).trans rfl; have hcz12_2 : w6.cell? ⟨gb170, 2, none⟩ = some (.int .i64 0) := (blk_cell BK170.out 2).trans rfl; have hfz12_0 := blk_frozen BK170.out 0; have hfz12_1 := blk_frozen BK170.out 1; have hfz12_2 := blk_frozen BK170.out 2))
  refine bodyPost_ret (results_cell_row rfl _ _ gb170 100 #[.int .i64 (wrap64 (a0_0 + (wrap64 (a2 * a1_0)))), .int .i64 (wrap64 (a0_1 + (wrap64 (a2 * a1_1)))), .int .i64 (wrap64 (a0_2 + (wrap64 (a2 * a1_2))))] (0, 0) _ rfl (by (with_reducible repeat (first | refine blk_drewN ?_ _ | refine blk_drew ?_ | refine blk_alloc ?_ _)); refine blk_put (cs := #[.int .i64 (wrap64 (a0_0 + (wrap64 (a2 * a1_0)))), .int .i64 (wrap64 (a0_1 + (wrap64 (a2 * a1_1)))), .int .i64 0]) ?_ 2 _ rfl; (with_reducible repeat (first | refine blk_drewN ?_ _ | refine blk_drew ?_ | refine blk_alloc ?_ _)); refine blk_put (cs := #[.int .i64 (wrap64 (a0_0 + (wrap64 (a2 * a1_0)))), .int .i64 0, .int .i64 0]) ?_ 1 _ rfl; (with_reducible repeat (first | refine blk_drewN ?_ _ | refine blk_drew ?_ | refine blk_alloc ?_ _)); refine blk_put (cs := #[.int .i64 0, .int .i64 0, .int .i64 0]) ?_ 0 _ rfl; (with_reducible repeat (first | refine blk_drewN ?_ _ | refine blk_drew ?_ | refine blk_alloc ?_ _)); exact BK170.out) Try.underlying100 rfl (by kernel_rfl)) rfl ?_
  exact ⟨by first | rfl | (simp [errW_none, errW_some] <;> rfl) | (simp [*, errW_none, errW_some] <;> rfl), by repeat (first | (with_reducible first | exact HB.out | apply below_alloc | apply pw_below_drewN | apply below_drew1 | refine below_set ?_ GE168.out | refine below_set ?_ GE169.out | refine below_set ?_ GE170.out) | exact HB.out)⟩

/-! ### spec_l2Div: function 112 -/
def spec_l2Div.f (a0 : Int) (a1 : Int) : Option (Int) := if a0 < 0 then (if (wrap64 (2 * a1)) = 0 then (none) else (some (wrap64 (-(wrap64 (Int.tdiv (wrap64 ((wrap64 ((-2) * a0)) + a1)) (wrap64 (2 * a1)))))))) else (if (wrap64 (2 * a1)) = 0 then (none) else (some (wrap64 (Int.tdiv (wrap64 ((wrap64 (2 * a0)) + a1)) (wrap64 (2 * a1))))))
set_option maxHeartbeats 8000000 in
set_option maxRecDepth 100000 in
theorem spec_l2Div.calls (a0 : Int) (a1 : Int) (r : Int) (w : World) (h : spec_l2Div.f a0 a1 = some r) :
    Calls Try.prog 112 #[.int .i64 a0, .int .i64 a1] w fun e w' => e = .returned (.int .i64 r) ∧ Drawn0 w w' := by
  have H : (if a0 < 0 then (if (wrap64 (2 * a1)) = 0 then (none) else (some (wrap64 (-(wrap64 (Int.tdiv (wrap64 ((wrap64 ((-2) * a0)) + a1)) (wrap64 (2 * a1)))))))) else (if (wrap64 (2 * a1)) = 0 then (none) else (some (wrap64 (Int.tdiv (wrap64 ((wrap64 (2 * a0)) + a1)) (wrap64 (2 * a1))))))) = some r := h
  clear h
  by_cases c3 : a0 < 0
  · rw [if_pos c3] at H
    have c3b0 : decide (a0 < 0) = true := decide_eq_true c3
    clear c3
    by_cases c4 : (wrap64 (2 * a1)) = 0
    · rw [if_pos c4] at H
      exact absurd H (by simp)
    · rw [if_neg c4] at H
      have c4b0 : ((wrap64 (2 * a1)) == 0) = false := beq_eq_false_iff_ne.mpr c4
      have c4b1 : ((wrap64 (2 * a1)) != 0) = true := bne_iff_ne.mpr c4
      obtain rfl := Option.some.inj H
      go_enter Try.func112, Try.ntmps112
      go_wp2
      go_ret
      exact ⟨by first | rfl | (simp; done) | (simp [*]; done), by repeat (first | exact Drawn0.refl _ | apply Drawn0.step)⟩
  · rw [if_neg c3] at H
    have c3b0 : decide (a0 < 0) = false := decide_eq_false c3
    clear c3
    by_cases c5 : (wrap64 (2 * a1)) = 0
    · rw [if_pos c5] at H
      exact absurd H (by simp)
    · rw [if_neg c5] at H
      have c5b0 : ((wrap64 (2 * a1)) == 0) = false := beq_eq_false_iff_ne.mpr c5
      have c5b1 : ((wrap64 (2 * a1)) != 0) = true := bne_iff_ne.mpr c5
      obtain rfl := Option.some.inj H
      go_enter Try.func112, Try.ntmps112
      go_wp2
      go_ret
      exact ⟨by first | rfl | (simp; done) | (simp [*]; done), by repeat (first | exact Drawn0.refl _ | apply Drawn0.step)⟩

/-! ### spec_l2Table: function 118 -/
def spec_l2Table.f  : Option (List Int) := some (([0, 17, 35, 52, 70, 87, 105, 122, 139, 156, 174, 191, 208, 225, 242, 259, 276, 292, 309, 326, 342, 358, 375, 391, 407, 423, 438, 454, 469, 485, 500, 515, 530, 545, 559, 574, 588, 602, 616, 629, 643, 656, 669, 682, 695, 707, 719, 731, 743, 755, 766, 777, 788, 799, 809, 819, 829, 839, 848, 857, 866, 875, 883, 891, 899, 906, 914, 921, 927, 934, 940, 946, 951, 956, 961, 966, 970, 974, 978, 982, 985, 988, 990, 993, 995, 996, 998, 999, 999, 1000, 1000] : List Int))
set_option maxHeartbeats 8000000 in
set_option maxRecDepth 100000 in
theorem spec_l2Table.calls  (r : List Int) (w : World) (h : spec_l2Table.f  = some r) :
    Calls Try.prog 118 #[] w fun e w' => ∃ v0_ : Value, e = .returned (v0_) ∧ Kd.R (Kd.int .i64) 3 w' w.heap.size (fun _ => True) v0_ r ∧ Below w.heap.size w w' := by
  have HB := Aside0.mk (Below.refl w.heap.size w)
  have H : (some (([0, 17, 35, 52, 70, 87, 105, 122, 139, 156, 174, 191, 208, 225, 242, 259, 276, 292, 309, 326, 342, 358, 375, 391, 407, 423, 438, 454, 469, 485, 500, 515, 530, 545, 559, 574, 588, 602, 616, 629, 643, 656, 669, 682, 695, 707, 719, 731, 743, 755, 766, 777, 788, 799, 809, 819, 829, 839, 848, 857, 866, 875, 883, 891, 899, 906, 914, 921, 927, 934, 940, 946, 951, 956, 961, 966, 970, 974, 978, 982, 985, 988, 990, 993, 995, 996, 998, 999, 999, 1000, 1000] : List Int))) = some r := h
  clear h
  obtain ⟨y171, hy171⟩ : ∃ y_ : List Int, y_ = (([0, 17, 35, 52, 70, 87, 105, 122, 139, 156, 174, 191, 208, 225, 242, 259, 276, 292, 309, 326, 342, 358, 375, 391, 407, 423, 438, 454, 469, 485, 500, 515, 530, 545, 559, 574, 588, 602, 616, 629, 643, 656, 669, 682, 695, 707, 719, 731, 743, 755, 766, 777, 788, 799, 809, 819, 829, 839, 848, 857, 866, 875, 883, 891, 899, 906, 914, 921, 927, 934, 940, 946, 951, 956, 961, 966, 970, 974, 978, 982, 985, 988, 990, 993, 995, 996, 998, 999, 999, 1000, 1000] : List Int)) := ⟨_, rfl⟩
  replace H : (some y171) = some r := by first | (rw [hy171]; with_reducible exact H) | (have H2_ := (Option.bind_some _ _).symm.trans H; rw [hy171]; with_reducible exact H2_) | (have H2_ := (Option.bind_some _ _).symm.trans H; with_reducible exact H2_) | with_reducible exact H | (rw [hy171]; exact H) | exact H
  have Ny171 := Aside0.mk hy171
  clear hy171
  obtain rfl := Option.some.inj H
  go_enter Try.func118, Try.ntmps118
  go_wp2_with (first | ((with_reducible refine gate_dst (N := 1) rfl ?_); refine Kd.R_lit (Kd.int .i64) _ 3 ?hg (N := 1) ?hd (xs := ([0, 17, 35, 52, 70, 87, 105, 122, 139, 156, 174, 191, 208, 225, 242, 259, 276, 292, 309, 326, 342, 358, 375, 391, 407, 423, 438, 454, 469, 485, 500, 515, 530, 545, 559, 574, 588, 602, 616, 629, 643, 656, 669, 682, 695, 707, 719, 731, 743, 755, 766, 777, 788, 799, 809, 819, 829, 839, 848, 857, 866, 875, 883, 891, 899, 906, 914, 921, 927, 934, 940, 946, 951, 956, 961, 966, 970, 974, 978, 982, 985, 988, 990, 993, 995, 996, 998, 999, 999, 1000, 1000] : List Int)) (inner := [.int .i64 0, .int .i64 17, .int .i64 35, .int .i64 52, .int .i64 70, .int .i64 87, .int .i64 105, .int .i64 122, .int .i64 139, .int .i64 156, .int .i64 174, .int .i64 191, .int .i64 208, .int .i64 225, .int .i64 242, .int .i64 259, .int .i64 276, .int .i64 292, .int .i64 309, .int .i64 326, .int .i64 342, .int .i64 358, .int .i64 375, .int .i64 391, .int .i64 407, .int .i64 423, .int .i64 438, .int .i64 454, .int .i64 469, .int .i64 485, .int .i64 500, .int .i64 515, .int .i64 530, .int .i64 545, .int .i64 559, .int .i64 574, .int .i64 588, .int .i64 602, .int .i64 616, .int .i64 629, .int .i64 643, .int .i64 656, .int .i64 669, .int .i64 682, .int .i64 695, .int .i64 707, .int .i64 719, .int .i64 731, .int .i64 743, .int .i64 755, .int .i64 766, .int .i64 777, .int .i64 788, .int .i64 799, .int .i64 809, .int .i64 819, .int .i64 829, .int .i64 839, .int .i64 848, .int .i64 857, .int .i64 866, .int .i64 875, .int .i64 883, .int .i64 891, .int .i64 899, .int .i64 906, .int .i64 914, .int .i64 921, .int .i64 927, .int .i64 934, .int .i64 940, .int .i64 946, .int .i64 951, .int .i64 956, .int .i64 961, .int .i64 966, .int .i64 970, .int .i64 974, .int .i64 978, .int .i64 982, .int .i64 985, .int .i64 988, .int .i64 990, .int .i64 993, .int .i64 995, .int .i64 996, .int .i64 998, .int .i64 999, .int .i64 999, .int .i64 1000, .int .i64 1000]) (ok := fun _ => True) (okp := fun _ => True) ?hr ?hp (fun _ hk => hk) trivial (Below.refl _ _) (Nat.le_refl _) (by simp) ?_; (case hd => rfl); (case hg => rfl); (case hr => first | (go_simp; done) | (go_simp; rfl)); (case hp => exact (Reps.one (show Kd.M (Kd.int .i64) _ _ _ 0 [.int .i64 0] from rfl) (Reps.one (show Kd.M (Kd.int .i64) _ _ _ 17 [.int .i64 17] from rfl) (Reps.one (show Kd.M (Kd.int .i64) _ _ _ 35 [.int .i64 35] from rfl) (Reps.one (show Kd.M (Kd.int .i64) _ _ _ 52 [.int .i64 52] from rfl) (Reps.one (show Kd.M (Kd.int .i64) _ _ _ 70 [.int .i64 70] from rfl) (Reps.one (show Kd.M (Kd.int .i64) _ _ _ 87 [.int .i64 87] from rfl) (Reps.one (show Kd.M (Kd.int .i64) _ _ _ 105 [.int .i64 105] from rfl) (Reps.one (show Kd.M (Kd.int .i64) _ _ _ 122 [.int .i64 122] from rfl) (Reps.one (show Kd.M (Kd.int .i64) _ _ _ 139 [.int .i64 139] from rfl) (Reps.one (show Kd.M (Kd.int .i64) _ _ _ 156 [.int .i64 156] from rfl) (Reps.one (show Kd.M (Kd.int .i64) _ _ _ 174 [.int .i64 174] from rfl) (Reps.one (show Kd.M (Kd.int .i64) _ _ _ 191 [.int .i64 191] from rfl) (Reps.one (show Kd.M (Kd.int .i64) _ _ _ 208 [.int .i64 208] from rfl) (Reps.one (show Kd.M (Kd.int .i64) _ _ _ 225 [.int .i64 225] from rfl) (Reps.one (show Kd.M (Kd.int .i64) _ _ _ 242 [.int .i64 242] from rfl) (Reps.one (show Kd.M (Kd.int .i64) _ _ _ 259 [.int .i64 259] from rfl) (Reps.one (show Kd.M (Kd.int .i64) _ _ _ 276 [.int .i64 276] from rfl) (Reps.one (show Kd.M (Kd.int .i64) _ _ _ 292 [.int .i64 292] from rfl) (Reps.one (show Kd.M (Kd.int .i64) _ _ _ 309 [.int .i64 309] from rfl) (Reps.one (show Kd.M (Kd.int .i64) _ _ _ 326 [.int .i64 326] from rfl) (Reps.one (show Kd.M (Kd.int .i64) _ _ _ 342 [.int .i64 342] from rfl) (Reps.one (show Kd.M (Kd.int .i64) _ _ _ 358 [.int .i64 358] from rfl) (Reps.one (show Kd.M (Kd.int .i64) _ _ _ 375 [.int .i64 375] from rfl) (Reps.one (show Kd.M (Kd.int .i64) _ _ _ 391 [.int .i64 391] from rfl) (Reps.one (show Kd.M (Kd.int .i64) _ _ _ 407 [.int .i64 407] from rfl) (Reps.one (show Kd.M (Kd.int .i64) _ _ _ 423 [.int .i64 423] from rfl) (Reps.one (show Kd.M (Kd.int .i64) _ _ _ 438 [.int .i64 438] from rfl) (Reps.one (show Kd.M (Kd.int .i64) _ _ _ 454 [.int .i64 454] from rfl) (Reps.one (show Kd.M (Kd.int .i64) _ _ _ 469 [.int .i64 469] from rfl) (Reps.one (show Kd.M (Kd.int .i64) _ _ _ 485 [.int .i64 485] from rfl) (Reps.one (show Kd.M (Kd.int .i64) _ _ _ 500 [.int .i64 500] from rfl) (Reps.one (show Kd.M (Kd.int .i64) _ _ _ 515 [.int .i64 515] from rfl) (Reps.one (show Kd.M (Kd.int .i64) _ _ _ 530 [.int .i64 530] from rfl) (Reps.one (show Kd.M (Kd.int .i64) _ _ _ 545 [.int .i64 545] from rfl) (Reps.one (show Kd.M (Kd.int .i64) _ _ _ 559 [.int .i64 559] from rfl) (Reps.one (show Kd.M (Kd.int .i64) _ _ _ 574 [.int .i64 574] from rfl) (Reps.one (show Kd.M (Kd.int .i64) _ _ _ 588 [.int .i64 588] from rfl) (Reps.one (show Kd.M (Kd.int .i64) _ _ _ 602 [.int .i64 602] from rfl) (Reps.one (show Kd.M (Kd.int .i64) _ _ _ 616 [.int .i64 616] from rfl) (Reps.one (show Kd.M (Kd.int .i64) _ _ _ 629 [.int .i64 629] from rfl) (Reps.one (show Kd.M (Kd.int .i64) _ _ _ 643 [.int .i64 643] from rfl) (Reps.one (show Kd.M (Kd.int .i64) _ _ _ 656 [.int .i64 656] from rfl) (Reps.one (show Kd.M (Kd.int .i64) _ _ _ 669 [.int .i64 669] from rfl) (Reps.one (show Kd.M (Kd.int .i64) _ _ _ 682 [.int .i64 682] from rfl) (Reps.one (show Kd.M (Kd.int .i64) _ _ _ 695 [.int .i64 695] from rfl) (Reps.one (show Kd.M (Kd.int .i64) _ _ _ 707 [.int .i64 707] from rfl) (Reps.one (show Kd.M (Kd.int .i64) _ _ _ 719 [.int .i64 719] from rfl) (Reps.one (show Kd.M (Kd.int .i64) _ _ _ 731 [.int .i64 731] from rfl) (Reps.one (show Kd.M (Kd.int .i64) _ _ _ 743 [.int .i64 743] from rfl) (Reps.one (show Kd.M (Kd.int .i64) _ _ _ 755 [.int .i64 755] from rfl) (Reps.one (show Kd.M (Kd.int .i64) _ _ _ 766 [.int .i64 766] from rfl) (Reps.one (show Kd.M (Kd.int .i64) _ _ _ 777 [.int .i64 777] from rfl) (Reps.one (show Kd.M (Kd.int .i64) _ _ _ 788 [.int .i64 788] from rfl) (Reps.one (show Kd.M (Kd.int .i64) _ _ _ 799 [.int .i64 799] from rfl) (Reps.one (show Kd.M (Kd.int .i64) _ _ _ 809 [.int .i64 809] from rfl) (Reps.one (show Kd.M (Kd.int .i64) _ _ _ 819 [.int .i64 819] from rfl) (Reps.one (show Kd.M (Kd.int .i64) _ _ _ 829 [.int .i64 829] from rfl) (Reps.one (show Kd.M (Kd.int .i64) _ _ _ 839 [.int .i64 839] from rfl) (Reps.one (show Kd.M (Kd.int .i64) _ _ _ 848 [.int .i64 848] from rfl) (Reps.one (show Kd.M (Kd.int .i64) _ _ _ 857 [.int .i64 857] from rfl) (Reps.one (show Kd.M (Kd.int .i64) _ _ _ 866 [.int .i64 866] from rfl) (Reps.one (show Kd.M (Kd.int .i64) _ _ _ 875 [.int .i64 875] from rfl) (Reps.one (show Kd.M (Kd.int .i64) _ _ _ 883 [.int .i64 883] from rfl) (Reps.one (show Kd.M (Kd.int .i64) _ _ _ 891 [.int .i64 891] from rfl) (Reps.one (show Kd.M (Kd.int .i64) _ _ _ 899 [.int .i64 899] from rfl) (Reps.one (show Kd.M (Kd.int .i64) _ _ _ 906 [.int .i64 906] from rfl) (Reps.one (show Kd.M (Kd.int .i64) _ _ _ 914 [.int .i64 914] from rfl) (Reps.one (show Kd.M (Kd.int .i64) _ _ _ 921 [.int .i64 921] from rfl) (Reps.one (show Kd.M (Kd.int .i64) _ _ _ 927 [.int .i64 927] from rfl) (Reps.one (show Kd.M (Kd.int .i64) _ _ _ 934 [.int .i64 934] from rfl) (Reps.one (show Kd.M (Kd.int .i64) _ _ _ 940 [.int .i64 940] from rfl) (Reps.one (show Kd.M (Kd.int .i64) _ _ _ 946 [.int .i64 946] from rfl) (Reps.one (show Kd.M (Kd.int .i64) _ _ _ 951 [.int .i64 951] from rfl) (Reps.one (show Kd.M (Kd.int .i64) _ _ _ 956 [.int .i64 956] from rfl) (Reps.one (show Kd.M (Kd.int .i64) _ _ _ 961 [.int .i64 961] from rfl) (Reps.one (show Kd.M (Kd.int .i64) _ _ _ 966 [.int .i64 966] from rfl) (Reps.one (show Kd.M (Kd.int .i64) _ _ _ 970 [.int .i64 970] from rfl) (Reps.one (show Kd.M (Kd.int .i64) _ _ _ 974 [.int .i64 974] from rfl) (Reps.one (show Kd.M (Kd.int .i64) _ _ _ 978 [.int .i64 978] from rfl) (Reps.one (show Kd.M (Kd.int .i64) _ _ _ 982 [.int .i64 982] from rfl) (Reps.one (show Kd.M (Kd.int .i64) _ _ _ 985 [.int .i64 985] from rfl) (Reps.one (show Kd.M (Kd.int .i64) _ _ _ 988 [.int .i64 988] from rfl) (Reps.one (show Kd.M (Kd.int .i64) _ _ _ 990 [.int .i64 990] from rfl) (Reps.one (show Kd.M (Kd.int .i64) _ _ _ 993 [.int .i64 993] from rfl) (Reps.one (show Kd.M (Kd.int .i64) _ _ _ 995 [.int .i64 995] from rfl) (Reps.one (show Kd.M (Kd.int .i64) _ _ _ 996 [.int .i64 996] from rfl) (Reps.one (show Kd.M (Kd.int .i64) _ _ _ 998 [.int .i64 998] from rfl) (Reps.one (show Kd.M (Kd.int .i64) _ _ _ 999 [.int .i64 999] from rfl) (Reps.one (show Kd.M (Kd.int .i64) _ _ _ 999 [.int .i64 999] from rfl) (Reps.one (show Kd.M (Kd.int .i64) _ _ _ 1000 [.int .i64 1000] from rfl) (Reps.one (show Kd.M (Kd.int .i64) _ _ _ 1000 [.int .i64 1000] from rfl) (Reps.none _ _))))))))))))))))))))))))))))))))))))))))))))))))))))))))))))))))))))))))))))))))))))))))))))); intro v172 w1 ho2 hb hg_ hnew_; clear hg_ hnew_; (first | rw [← Ny171.out] at ho2 | (simp only [Int.reduceToNat] at ho2; rw [← Ny171.out] at ho2)); have n0_ := Aside0.mk (Kd.R_lower ho2 (below_size (by repeat (first | (with_reducible first | exact HB.out | apply below_alloc | apply pw_below_drewN | apply below_drew1) | exact HB.out)))); have n1_ := Aside0.mk (below_step (by repeat (first | (with_reducible first | exact HB.out | apply below_alloc | apply pw_below_drewN | apply below_drew1) | exact HB.out)) hb); clear HB; have HO173 := n0_; have HB := n1_; clear n0_ n1_; clear hb ho2))
  go_ret
  exact ⟨_, by first | rfl | (simp [errW_none, errW_some] <;> rfl) | (simp [*, errW_none, errW_some] <;> rfl), by (with_reducible repeat (first | apply Kd.R_alloc | apply Kd.R_drewN | apply Kd.R_drew)); exact HO173.out, by repeat (first | (with_reducible first | exact HB.out | apply below_alloc | apply pw_below_drewN | apply below_drew1) | exact HB.out)⟩

/-! ### spec_l2Sine: function 114 -/
def spec_l2Sine.f (a0 : Int) : Option (Int) := if (Int.tmod (wrap64 ((Int.tmod a0 360) + 360)) 360) ≤ 90 then ((spec_l2Table.f).bind fun t174 => (if 0 ≤ (Int.tmod (wrap64 ((Int.tmod a0 360) + 360)) 360) then (if (Int.tmod (wrap64 ((Int.tmod a0 360) + 360)) 360) < (t174.length : Int) then (some (rd t174 (Int.tmod (wrap64 ((Int.tmod a0 360) + 360)) 360))) else (none)) else (none))) else (if (Int.tmod (wrap64 ((Int.tmod a0 360) + 360)) 360) ≤ 180 then ((spec_l2Table.f).bind fun t178 => (if 0 ≤ (wrap64 (180 - (Int.tmod (wrap64 ((Int.tmod a0 360) + 360)) 360))) then (if (wrap64 (180 - (Int.tmod (wrap64 ((Int.tmod a0 360) + 360)) 360))) < (t178.length : Int) then (some (rd t178 (wrap64 (180 - (Int.tmod (wrap64 ((Int.tmod a0 360) + 360)) 360))))) else (none)) else (none))) else (if (Int.tmod (wrap64 ((Int.tmod a0 360) + 360)) 360) ≤ 270 then ((spec_l2Table.f).bind fun t182 => (if 0 ≤ (wrap64 ((Int.tmod (wrap64 ((Int.tmod a0 360) + 360)) 360) - 180)) then (if (wrap64 ((Int.tmod (wrap64 ((Int.tmod a0 360) + 360)) 360) - 180)) < (t182.length : Int) then (some (wrap64 (-(rd t182 (wrap64 ((Int.tmod (wrap64 ((Int.tmod a0 360) + 360)) 360) - 180)))))) else (none)) else (none))) else ((spec_l2Table.f).bind fun t186 => (if 0 ≤ (wrap64 (360 - (Int.tmod (wrap64 ((Int.tmod a0 360) + 360)) 360))) then (if (wrap64 (360 - (Int.tmod (wrap64 ((Int.tmod a0 360) + 360)) 360))) < (t186.length : Int) then (some (wrap64 (-(rd t186 (wrap64 (360 - (Int.tmod (wrap64 ((Int.tmod a0 360) + 360)) 360))))))) else (none)) else (none)))))
set_option maxHeartbeats 8000000 in
set_option maxRecDepth 100000 in
theorem spec_l2Sine.calls (a0 : Int) (r : Int) (w : World) (h : spec_l2Sine.f a0 = some r) :
    Calls Try.prog 114 #[.int .i64 a0] w fun e w' => e = .returned (.int .i64 r) ∧ Below w.heap.size w w' := by
  have HB := Aside0.mk (Below.refl w.heap.size w)
  have H : (if (Int.tmod (wrap64 ((Int.tmod a0 360) + 360)) 360) ≤ 90 then ((spec_l2Table.f).bind fun t174 => (if 0 ≤ (Int.tmod (wrap64 ((Int.tmod a0 360) + 360)) 360) then (if (Int.tmod (wrap64 ((Int.tmod a0 360) + 360)) 360) < (t174.length : Int) then (some (rd t174 (Int.tmod (wrap64 ((Int.tmod a0 360) + 360)) 360))) else (none)) else (none))) else (if (Int.tmod (wrap64 ((Int.tmod a0 360) + 360)) 360) ≤ 180 then ((spec_l2Table.f).bind fun t178 => (if 0 ≤ (wrap64 (180 - (Int.tmod (wrap64 ((Int.tmod a0 360) + 360)) 360))) then (if (wrap64 (180 - (Int.tmod (wrap64 ((Int.tmod a0 360) + 360)) 360))) < (t178.length : Int) then (some (rd t178 (wrap64 (180 - (Int.tmod (wrap64 ((Int.tmod a0 360) + 360)) 360))))) else (none)) else (none))) else (if (Int.tmod (wrap64 ((Int.tmod a0 360) + 360)) 360) ≤ 270 then ((spec_l2Table.f).bind fun t182 => (if 0 ≤ (wrap64 ((Int.tmod (wrap64 ((Int.tmod a0 360) + 360)) 360) - 180)) then (if (wrap64 ((Int.tmod (wrap64 ((Int.tmod a0 360) + 360)) 360) - 180)) < (t182.length : Int) then (some (wrap64 (-(rd t182 (wrap64 ((Int.tmod (wrap64 ((Int.tmod a0 360) + 360)) 360) - 180)))))) else (none)) else (none))) else ((spec_l2Table.f).bind fun t186 => (if 0 ≤ (wrap64 (360 - (Int.tmod (wrap64 ((Int.tmod a0 360) + 360)) 360))) then (if (wrap64 (360 - (Int.tmod (wrap64 ((Int.tmod a0 360) + 360)) 360))) < (t186.length : Int) then (some (wrap64 (-(rd t186 (wrap64 (360 - (Int.tmod (wrap64 ((Int.tmod a0 360) + 360)) 360))))))) else (none)) else (none)))))) = some r := h
  clear h
  by_cases c2 : (Int.tmod (wrap64 ((Int.tmod a0 360) + 360)) 360) ≤ 90
  · rw [if_pos c2] at H
    have c2b0 : decide ((Int.tmod (wrap64 ((Int.tmod a0 360) + 360)) 360) ≤ 90) = true := decide_eq_true c2
    clear c2
    replace H := Option.bind_eq_some_iff.mp H
    obtain ⟨t174, A30, H⟩ := H
    replace H : (if 0 ≤ (Int.tmod (wrap64 ((Int.tmod a0 360) + 360)) 360) then (if (Int.tmod (wrap64 ((Int.tmod a0 360) + 360)) 360) < (t174.length : Int) then (some (rd t174 (Int.tmod (wrap64 ((Int.tmod a0 360) + 360)) 360))) else (none)) else (none)) = some r := H
    have A3 := Aside0.mk A30
    clear A30
    obtain ⟨ji4, hji4⟩ : ∃ j_ : Int, (Int.tmod (wrap64 ((Int.tmod a0 360) + 360)) 360) = j_ := ⟨_, rfl⟩
    replace H : (if 0 ≤ (ji4) then (if (ji4) < (t174.length : Int) then (some (rd t174 (ji4))) else (none)) else (none)) = some r := by first | (rw [hji4] at H; exact H) | (simp only [hji4] at H ⊢; exact H)
    (try rw [hji4] at c2b0)
    (try rw [hji4] at A3)
    by_cases c5 : 0 ≤ (ji4)
    · rw [if_pos c5] at H
      have c5b0 : decide (0 ≤ (ji4)) = true := decide_eq_true c5
      clear c5
      by_cases c6 : (ji4) < (t174.length : Int)
      · rw [if_pos c6] at H
        have c6b0 : decide ((ji4) < (t174.length : Int)) = true := decide_eq_true c6
        clear c6
        obtain rfl := Option.some.inj H
        go_enter Try.func114, Try.ntmps114
        go_wp2_with (first | ((with_reducible refine gate_callee (f := 118) rfl ?_); refine goesL_ (some 11) rfl rfl Try.func118 (by kernel_rfl) rfl #[] rfl (by (try simp only [List.map_toArray, List.map_cons, List.map_nil]); first | done | rfl | (simp only [List.length_drop, List.length_take]; rfl)) ?_; (with_reducible refine (spec_l2Table.calls  t174 _ A3.out).mono ?_); rintro e w7 ⟨v175, rfl, ho0, hb⟩; refine ⟨_, rfl, ?_⟩; have n0_ := Aside0.mk (Kd.R_lower ho0 (below_size (by repeat (first | (with_reducible first | exact HB.out | apply below_alloc | apply pw_below_drewN | apply below_drew1) | exact HB.out)))); have n1_ := Aside0.mk (below_step (by repeat (first | (with_reducible first | exact HB.out | apply below_alloc | apply pw_below_drewN | apply below_drew1) | exact HB.out)) hb); clear HB; have HO176 := n0_; have HB := n1_; clear n0_ n1_; (try clear hb); (try clear hb2); (try clear hk); (try clear hi); (try clear ho0); obtain ⟨Ao8, co8, eo8⟩ := Kd.R_slice HO176.out; subst eo8; have p177 : 0 ≤ ((ji4) : Int) := of_decide_eq_true (by first | (with_reducible assumption) | assumption); have q177 : (ji4) < (t174.length : Int) := of_decide_eq_true (by first | (with_reducible assumption) | assumption); obtain ⟨ad177, e177, hx177_0⟩ := Kd.at_int (Kd.R_reads' HO176.out).2.2 (ji4) p177 q177; cases e177; replace p177 := eq_true p177; replace q177 := eq_true q177))
        go_ret
        exact ⟨by first | rfl | (simp [errW_none, errW_some] <;> rfl) | (simp only [← hji4]; first | rfl | (simp [errW_none, errW_some] <;> rfl)) | (simp [*, errW_none, errW_some] <;> rfl), by repeat (first | (with_reducible first | exact HB.out | apply below_alloc | apply pw_below_drewN | apply below_drew1) | exact HB.out)⟩
      · rw [if_neg c6] at H
        exact absurd H (by simp)
    · rw [if_neg c5] at H
      exact absurd H (by simp)
  · rw [if_neg c2] at H
    have c2b0 : decide ((Int.tmod (wrap64 ((Int.tmod a0 360) + 360)) 360) ≤ 90) = false := decide_eq_false c2
    clear c2
    by_cases c9 : (Int.tmod (wrap64 ((Int.tmod a0 360) + 360)) 360) ≤ 180
    · rw [if_pos c9] at H
      have c9b0 : decide ((Int.tmod (wrap64 ((Int.tmod a0 360) + 360)) 360) ≤ 180) = true := decide_eq_true c9
      clear c9
      replace H := Option.bind_eq_some_iff.mp H
      obtain ⟨t178, A100, H⟩ := H
      replace H : (if 0 ≤ (wrap64 (180 - (Int.tmod (wrap64 ((Int.tmod a0 360) + 360)) 360))) then (if (wrap64 (180 - (Int.tmod (wrap64 ((Int.tmod a0 360) + 360)) 360))) < (t178.length : Int) then (some (rd t178 (wrap64 (180 - (Int.tmod (wrap64 ((Int.tmod a0 360) + 360)) 360))))) else (none)) else (none)) = some r := H
      have A10 := Aside0.mk A100
      clear A100
      obtain ⟨ji11, hji11⟩ : ∃ j_ : Int, (wrap64 (180 - (Int.tmod (wrap64 ((Int.tmod a0 360) + 360)) 360))) = j_ := ⟨_, rfl⟩
      replace H : (if 0 ≤ (ji11) then (if (ji11) < (t178.length : Int) then (some (rd t178 (ji11))) else (none)) else (none)) = some r := by first | (rw [hji11] at H; exact H) | (simp only [hji11] at H ⊢; exact H)
      (try rw [hji11] at A10)
      have hji11w : (IntKind.i64.wrap (180 - (Int.tmod (wrap64 ((Int.tmod a0 360) + 360)) 360))) = ji11 := (i64_w _).trans hji11
      by_cases c12 : 0 ≤ (ji11)
      · rw [if_pos c12] at H
        have c12b0 : decide (0 ≤ (ji11)) = true := decide_eq_true c12
        clear c12
        by_cases c13 : (ji11) < (t178.length : Int)
        · rw [if_pos c13] at H
          have c13b0 : decide ((ji11) < (t178.length : Int)) = true := decide_eq_true c13
          clear c13
          obtain rfl := Option.some.inj H
          go_enter Try.func114, Try.ntmps114
          go_wp2_with (first | ((with_reducible refine gate_callee (f := 118) rfl ?_); refine goesL_ (some 18) rfl rfl Try.func118 (by kernel_rfl) rfl #[] rfl (by (try simp only [List.map_toArray, List.map_cons, List.map_nil]); first | done | rfl | (simp only [List.length_drop, List.length_take]; rfl)) ?_; (with_reducible refine (spec_l2Table.calls  t178 _ A10.out).mono ?_); rintro e w14 ⟨v179, rfl, ho0, hb⟩; refine ⟨_, rfl, ?_⟩; have n0_ := Aside0.mk (Kd.R_lower ho0 (below_size (by repeat (first | (with_reducible first | exact HB.out | apply below_alloc | apply pw_below_drewN | apply below_drew1) | exact HB.out)))); have n1_ := Aside0.mk (below_step (by repeat (first | (with_reducible first | exact HB.out | apply below_alloc | apply pw_below_drewN | apply below_drew1) | exact HB.out)) hb); clear HB; have HO180 := n0_; have HB := n1_; clear n0_ n1_; (try clear hb); (try clear hb2); (try clear hk); (try clear hi); (try clear ho0); obtain ⟨Ao15, co15, eo15⟩ := Kd.R_slice HO180.out; subst eo15; have p181 : 0 ≤ ((ji11) : Int) := of_decide_eq_true (by first | (with_reducible assumption) | assumption); have q181 : (ji11) < (t178.length : Int) := of_decide_eq_true (by first | (with_reducible assumption) | assumption); obtain ⟨ad181, e181, hx181_0⟩ := Kd.at_int (Kd.R_reads' HO180.out).2.2 (ji11) p181 q181; cases e181; replace p181 := eq_true p181; replace q181 := eq_true q181))
          go_ret
          exact ⟨by first | rfl | (simp [errW_none, errW_some] <;> rfl) | (simp only [← hji11]; first | rfl | (simp [errW_none, errW_some] <;> rfl)) | (simp [*, errW_none, errW_some] <;> rfl), by repeat (first | (with_reducible first | exact HB.out | apply below_alloc | apply pw_below_drewN | apply below_drew1) | exact HB.out)⟩
        · rw [if_neg c13] at H
          exact absurd H (by simp)
      · rw [if_neg c12] at H
        exact absurd H (by simp)
    · rw [if_neg c9] at H
      have c9b0 : decide ((Int.tmod (wrap64 ((Int.tmod a0 360) + 360)) 360) ≤ 180) = false := decide_eq_false c9
      clear c9
      by_cases c16 : (Int.tmod (wrap64 ((Int.tmod a0 360) + 360)) 360) ≤ 270
      · rw [if_pos c16] at H
        have c16b0 : decide ((Int.tmod (wrap64 ((Int.tmod a0 360) + 360)) 360) ≤ 270) = true := decide_eq_true c16
        clear c16
        replace H := Option.bind_eq_some_iff.mp H
        obtain ⟨t182, A170, H⟩ := H
        replace H : (if 0 ≤ (wrap64 ((Int.tmod (wrap64 ((Int.tmod a0 360) + 360)) 360) - 180)) then (if (wrap64 ((Int.tmod (wrap64 ((Int.tmod a0 360) + 360)) 360) - 180)) < (t182.length : Int) then (some (wrap64 (-(rd t182 (wrap64 ((Int.tmod (wrap64 ((Int.tmod a0 360) + 360)) 360) - 180)))))) else (none)) else (none)) = some r := H
        have A17 := Aside0.mk A170
        clear A170
        obtain ⟨ji18, hji18⟩ : ∃ j_ : Int, (wrap64 ((Int.tmod (wrap64 ((Int.tmod a0 360) + 360)) 360) - 180)) = j_ := ⟨_, rfl⟩
        replace H : (if 0 ≤ (ji18) then (if (ji18) < (t182.length : Int) then (some (wrap64 (-(rd t182 (ji18))))) else (none)) else (none)) = some r := by first | (rw [hji18] at H; exact H) | (simp only [hji18] at H ⊢; exact H)
        (try rw [hji18] at A17)
        have hji18w : (IntKind.i64.wrap ((Int.tmod (wrap64 ((Int.tmod a0 360) + 360)) 360) - 180)) = ji18 := (i64_w _).trans hji18
        by_cases c19 : 0 ≤ (ji18)
        · rw [if_pos c19] at H
          have c19b0 : decide (0 ≤ (ji18)) = true := decide_eq_true c19
          clear c19
          by_cases c20 : (ji18) < (t182.length : Int)
          · rw [if_pos c20] at H
            have c20b0 : decide ((ji18) < (t182.length : Int)) = true := decide_eq_true c20
            clear c20
            obtain rfl := Option.some.inj H
            go_enter Try.func114, Try.ntmps114
            go_wp2_with (first | ((with_reducible refine gate_callee (f := 118) rfl ?_); refine goesL_ (some 26) rfl rfl Try.func118 (by kernel_rfl) rfl #[] rfl (by (try simp only [List.map_toArray, List.map_cons, List.map_nil]); first | done | rfl | (simp only [List.length_drop, List.length_take]; rfl)) ?_; (with_reducible refine (spec_l2Table.calls  t182 _ A17.out).mono ?_); rintro e w21 ⟨v183, rfl, ho0, hb⟩; refine ⟨_, rfl, ?_⟩; have n0_ := Aside0.mk (Kd.R_lower ho0 (below_size (by repeat (first | (with_reducible first | exact HB.out | apply below_alloc | apply pw_below_drewN | apply below_drew1) | exact HB.out)))); have n1_ := Aside0.mk (below_step (by repeat (first | (with_reducible first | exact HB.out | apply below_alloc | apply pw_below_drewN | apply below_drew1) | exact HB.out)) hb); clear HB; have HO184 := n0_; have HB := n1_; clear n0_ n1_; (try clear hb); (try clear hb2); (try clear hk); (try clear hi); (try clear ho0); obtain ⟨Ao22, co22, eo22⟩ := Kd.R_slice HO184.out; subst eo22; have p185 : 0 ≤ ((ji18) : Int) := of_decide_eq_true (by first | (with_reducible assumption) | assumption); have q185 : (ji18) < (t182.length : Int) := of_decide_eq_true (by first | (with_reducible assumption) | assumption); obtain ⟨ad185, e185, hx185_0⟩ := Kd.at_int (Kd.R_reads' HO184.out).2.2 (ji18) p185 q185; cases e185; replace p185 := eq_true p185; replace q185 := eq_true q185))
            go_ret
            exact ⟨by first | rfl | (simp [errW_none, errW_some] <;> rfl) | (simp only [← hji18]; first | rfl | (simp [errW_none, errW_some] <;> rfl)) | (simp [*, errW_none, errW_some] <;> rfl), by repeat (first | (with_reducible first | exact HB.out | apply below_alloc | apply pw_below_drewN | apply below_drew1) | exact HB.out)⟩
          · rw [if_neg c20] at H
            exact absurd H (by simp)
        · rw [if_neg c19] at H
          exact absurd H (by simp)
      · rw [if_neg c16] at H
        have c16b0 : decide ((Int.tmod (wrap64 ((Int.tmod a0 360) + 360)) 360) ≤ 270) = false := decide_eq_false c16
        clear c16
        replace H := Option.bind_eq_some_iff.mp H
        obtain ⟨t186, A230, H⟩ := H
        replace H : (if 0 ≤ (wrap64 (360 - (Int.tmod (wrap64 ((Int.tmod a0 360) + 360)) 360))) then (if (wrap64 (360 - (Int.tmod (wrap64 ((Int.tmod a0 360) + 360)) 360))) < (t186.length : Int) then (some (wrap64 (-(rd t186 (wrap64 (360 - (Int.tmod (wrap64 ((Int.tmod a0 360) + 360)) 360))))))) else (none)) else (none)) = some r := H
        have A23 := Aside0.mk A230
        clear A230
        obtain ⟨ji24, hji24⟩ : ∃ j_ : Int, (wrap64 (360 - (Int.tmod (wrap64 ((Int.tmod a0 360) + 360)) 360))) = j_ := ⟨_, rfl⟩
        replace H : (if 0 ≤ (ji24) then (if (ji24) < (t186.length : Int) then (some (wrap64 (-(rd t186 (ji24))))) else (none)) else (none)) = some r := by first | (rw [hji24] at H; exact H) | (simp only [hji24] at H ⊢; exact H)
        (try rw [hji24] at A23)
        have hji24w : (IntKind.i64.wrap (360 - (Int.tmod (wrap64 ((Int.tmod a0 360) + 360)) 360))) = ji24 := (i64_w _).trans hji24
        by_cases c25 : 0 ≤ (ji24)
        · rw [if_pos c25] at H
          have c25b0 : decide (0 ≤ (ji24)) = true := decide_eq_true c25
          clear c25
          by_cases c26 : (ji24) < (t186.length : Int)
          · rw [if_pos c26] at H
            have c26b0 : decide ((ji24) < (t186.length : Int)) = true := decide_eq_true c26
            clear c26
            obtain rfl := Option.some.inj H
            go_enter Try.func114, Try.ntmps114
            go_wp2_with (first | ((with_reducible refine gate_callee (f := 118) rfl ?_); refine goesL_ (some 32) rfl rfl Try.func118 (by kernel_rfl) rfl #[] rfl (by (try simp only [List.map_toArray, List.map_cons, List.map_nil]); first | done | rfl | (simp only [List.length_drop, List.length_take]; rfl)) ?_; (with_reducible refine (spec_l2Table.calls  t186 _ A23.out).mono ?_); rintro e w27 ⟨v187, rfl, ho0, hb⟩; refine ⟨_, rfl, ?_⟩; have n0_ := Aside0.mk (Kd.R_lower ho0 (below_size (by repeat (first | (with_reducible first | exact HB.out | apply below_alloc | apply pw_below_drewN | apply below_drew1) | exact HB.out)))); have n1_ := Aside0.mk (below_step (by repeat (first | (with_reducible first | exact HB.out | apply below_alloc | apply pw_below_drewN | apply below_drew1) | exact HB.out)) hb); clear HB; have HO188 := n0_; have HB := n1_; clear n0_ n1_; (try clear hb); (try clear hb2); (try clear hk); (try clear hi); (try clear ho0); obtain ⟨Ao28, co28, eo28⟩ := Kd.R_slice HO188.out; subst eo28; have p189 : 0 ≤ ((ji24) : Int) := of_decide_eq_true (by first | (with_reducible assumption) | assumption); have q189 : (ji24) < (t186.length : Int) := of_decide_eq_true (by first | (with_reducible assumption) | assumption); obtain ⟨ad189, e189, hx189_0⟩ := Kd.at_int (Kd.R_reads' HO188.out).2.2 (ji24) p189 q189; cases e189; replace p189 := eq_true p189; replace q189 := eq_true q189))
            go_ret
            exact ⟨by first | rfl | (simp [errW_none, errW_some] <;> rfl) | (simp only [← hji24]; first | rfl | (simp [errW_none, errW_some] <;> rfl)) | (simp [*, errW_none, errW_some] <;> rfl), by repeat (first | (with_reducible first | exact HB.out | apply below_alloc | apply pw_below_drewN | apply below_drew1) | exact HB.out)⟩
          · rw [if_neg c26] at H
            exact absurd H (by simp)
        · rw [if_neg c25] at H
          exact absurd H (by simp)

/-! ### spec_l2Cosine: function 113 -/
def spec_l2Cosine.f (a0 : Int) : Option (Int) := (spec_l2Sine.f (wrap64 (a0 + 90))).bind fun t190 => (some t190)
set_option maxHeartbeats 8000000 in
set_option maxRecDepth 100000 in
theorem spec_l2Cosine.calls (a0 : Int) (r : Int) (w : World) (h : spec_l2Cosine.f a0 = some r) :
    Calls Try.prog 113 #[.int .i64 a0] w fun e w' => e = .returned (.int .i64 r) ∧ Below w.heap.size w w' := by
  have HB := Aside0.mk (Below.refl w.heap.size w)
  have H : ((spec_l2Sine.f (wrap64 (a0 + 90))).bind fun t190 => (some t190)) = some r := h
  clear h
  replace H := Option.bind_eq_some_iff.mp H
  obtain ⟨t190, A20, H⟩ := H
  replace H : (some t190) = some r := H
  have A2 := Aside0.mk A20
  clear A20
  obtain rfl := Option.some.inj H
  go_enter Try.func113, Try.ntmps113
  go_wp2_with (first | ((with_reducible refine gate_callee (f := 114) rfl ?_); refine goesL_ (some 5) rfl rfl Try.func114 (by kernel_rfl) rfl #[.int .i64 (wrap64 (a0 + 90))] rfl (by (try simp only [List.map_toArray, List.map_cons, List.map_nil]); first | done | rfl | (simp only [List.length_drop, List.length_take]; rfl)) ?_; (with_reducible refine (spec_l2Sine.calls (wrap64 (a0 + 90)) t190 _ A2.out).mono ?_); rintro e w3 ⟨rfl, hb⟩; refine ⟨_, rfl, ?_⟩; have n0_ := Aside0.mk (below_step (by repeat (first | (with_reducible first | exact HB.out | apply below_alloc | apply pw_below_drewN | apply below_drew1) | exact HB.out)) hb); clear HB; have HB := n0_; clear n0_; (try clear hb); (try clear hb2); (try clear hk); (try clear hi)))
  go_ret
  exact ⟨by first | rfl | (simp [errW_none, errW_some] <;> rfl) | (simp [*, errW_none, errW_some] <;> rfl), by repeat (first | (with_reducible first | exact HB.out | apply below_alloc | apply pw_below_drewN | apply below_drew1) | exact HB.out)⟩

end Go.Proofs.Ytkjjnfjmnifoiaa.MA
