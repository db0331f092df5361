-- Written by a program of this session (wip/drv.py, wip/tight.py).
import Derived.Test.YtfbkhdlhkfbfcaaDoorMAx0
import Derived.Test.YtfbkhdlhkfbfcaaDoorMAx6
namespace Go.Proofs.YtfbkhdlhkfbfcaaDoor.MA
open Go.RowKit Go.Proofs.YtfbkhdlhkfbfcaaDoorW.PrintWords Go.Proofs.YtfbkhdlhkfbfcaaDoorW.PrintLast Go.Proofs.YtfbkhdlhkfbfcaaDoorW.PrintMore
theorem qA7_0 {p : Prop} (h : p := by (with_reducible repeat (first | refine blk_drewN ?_ _ | refine blk_drew ?_ | refine blk_alloc ?_ _)); refine blk_put (cs := #[.int .i64 ((rd_T43 l0 x7_1).f0), .int .i64 ((rd_T43 l0 x7_1).f1), .int .i64 ((rd_T43 l0 x7_1).f2), .int .i64 ((rd_T43 l0 x7_1).f3), .int .i64 0]) ?_ 4 _ rfl; (with_reducible repeat (first | refine blk_drewN ?_ _ | refine blk_drew ?_ | refine blk_alloc ?_ _)); refine blk_put (cs := #[.int .i64 ((rd_T43 l0 x7_1).f0), .int .i64 ((rd_T43 l0 x7_1).f1), .int .i64 ((rd_T43 l0 x7_1).f2), .int .i64 0, .int .i64 0]) ?_ 3 _ rfl; (with_reducible repeat (first | refine blk_drewN ?_ _ | refine blk_drew ?_ | refine blk_alloc ?_ _)); refine blk_put (cs := #[.int .i64 ((rd_T43 l0 x7_1).f0), .int .i64 ((rd_T43 l0 x7_1).f1), .int .i64 0, .int .i64 0, .int .i64 0]) ?_ 2 _ rfl; (with_reducible repeat (first | refine blk_drewN ?_ _ | refine blk_drew ?_ | refine blk_alloc ?_ _)); refine blk_put (cs := #[.int .i64 ((rd_T43 l0 x7_1).f0), .int .i64 0, .int .i64 0, .int .i64 0, .int .i64 0]) ?_ 1 _ rfl; (with_reducible repeat (first | refine blk_drewN ?_ _ | refine blk_drew ?_ | refine blk_alloc ?_ _)); refine blk_put (cs := #[.int .i64 0, .int .i64 0, .int .i64 0, .int .i64 0, .int .i64 0]) ?_ 0 _ rfl; (with_reducible repeat (first | refine blk_drewN ?_ _ | refine blk_drew ?_ | refine blk_alloc ?_ _)); exact BK215.out) : p := h
theorem qA7_1 {p : Prop} (h : p := by exact any_of HT_.out (by kernel_rfl)) : p := h
theorem qA7_2 {p : Prop} (h : p := by repeat (first | (with_reducible first | exact HB.out | apply below_alloc | apply pw_below_drewN | apply below_drew1 | refine below_set ?_ GE215.out) | exact HB.out)) : p := h
theorem qA7_3 {p : Prop} (h : p := by repeat (first | (with_reducible first | exact HB.out | apply below_alloc | apply pw_below_drewN | apply below_drew1) | exact HB.out)) : p := h
theorem qA7_4 {p : Prop} (h : p := by (try simp only [List.map_toArray, List.map_cons, List.map_nil]); first | done | rfl | (simp only [List.length_drop, List.length_take]; rfl)) : p := h
theorem qA7_5 {p : Prop} (h : p := by first | (with_reducible assumption) | assumption) : p := h
theorem qA7_6 {p : Prop} (h : p := by (with_reducible repeat (first | refine blk_drewN ?_ _ | refine blk_drew ?_ | refine blk_alloc ?_ _)); exact BK215.out) : p := h
theorem qA7_7 {p : Prop} (h : p := by first | rfl | (simp; done) | (simp [*]; done)) : p := h
theorem qA7_8 {p : Prop} (h : p := by first | (go_simp; done) | (go_simp; rfl)) : p := h
theorem qA7_9 {p : Prop} (h : p := by exact done_of HT_.out (by kernel_rfl)) : p := h
theorem qA7_10 {p : Prop} (h : p := by exact one_of HT_.out (by kernel_rfl)) : p := h
theorem qA7_11 {p : Prop} (h : p := by first | rfl | (simp [errW_none, errW_some] <;> rfl) | (simp [*, errW_none, errW_some] <;> rfl)) : p := h
theorem qA7_c0 {p : Prop} (h : p := by
  simp only [Act.put, List.setIfInBounds_toArray, List.set_cons_zero, List.set_cons_succ, i64_w, i32_w]
  rfl) : p := h
theorem qA7_c1 {p : Prop} (h : p := by
  intro w'
  go_simp
  with_reducible rfl) : p := h
theorem qA7_c2 {p : Prop} (h : p := by
  show Act.put _ (some 13) _ = _
  simp only [Act.put, List.setIfInBounds_toArray, List.set_cons_zero, List.set_cons_succ, i64_w, i32_w]
  rfl) : p := h
theorem qA7_c3 {p : Prop} (h : p := by
  rintro w' ⟨s0, s1, s2, s3, s4, s5, s6, s7, s8, s9⟩
  go_simp
  with_reducible rfl) : p := h
abbrev qA7_b0 : Array Bool := #[false, false, false, false, false, false, false, false, false, false, false, false, false, false, false, false, false, false]
abbrev qA7_b1 : Array Bool := #[true, false, false, false, false, false, false, false, false, false, false, false, false, false, false, false, false, false]
abbrev qA7_b2 : Array Bool := #[true, true, false, false, false, false, false, false, false, false, false, false, false, false, false, false, false, false]
abbrev qA7_b3 : Array Bool := #[true, true, true, false, false, false, false, false, false, false, false, false, false, false, false, false, false, false]
abbrev qA7_b4 : Array Bool := #[true, true, true, true, false, false, false, false, false, false, false, false, false, false, false, false, false, false]
abbrev qA7_b5 : Array Bool := #[true, true, true, true, true, false, false, false, false, false, false, false, false, false, false, false, false, false]
abbrev qA7_b6 : Array Bool := #[true, true, true, true, true, true, false, false, false, false, false, false, false, false, false, false, false, false]
abbrev qA7_b7 : Array Bool := #[true, true, true, true, true, true, true, false, false, false, false, false, false, false, false, false, false, false]
abbrev qA7_b8 : Array Bool := #[true, true, true, true, true, true, true, true, false, false, false, false, false, false, false, false, false, false]
abbrev qA7_b9 : Array Bool := #[true, true, true, true, true, true, true, true, true, false, false, false, false, false, false, false, false, false]
abbrev qA7_b10 : Array Bool := #[true, true, true, true, true, true, true, true, true, true, false, false, false, false, false, false, false, false]
abbrev qA7_b11 : Array Bool := #[true, true, true, true, true, true, true, true, true, true, true, false, false, false, false, false, false, false]
abbrev qA7_b12 : Array Bool := #[true, true, true, true, true, true, true, true, true, true, true, true, false, false, false, false, false, false]
abbrev qA7_b13 : Array Bool := #[true, true, true, true, true, true, true, true, true, true, true, true, false, true, false, false, false, false]
abbrev qA7_b14 : Array Bool := #[true, true, true, true, true, true, true, true, true, true, true, true, true, true, false, false, false, false]
abbrev qA7_b15 : Array Bool := #[true, true, true, true, true, true, true, true, true, true, true, true, true, true, true, false, false, false]
abbrev qA7_b16 : Array Bool := #[true, true, true, true, true, true, true, true, true, true, true, true, true, true, true, true, false, false]
abbrev qA7_b17 : Array Bool := #[true, true, true, true, true, true, true, true, true, true, true, true, true, true, true, true, true, false]
abbrev qA7_b18 : Array Bool := #[true, true, true, true, true, true, true, true, true, true, true, true, true, true, true, true, true, true]
abbrev qA7_b19 : Array Bool := #[true, true, true, true, true, true, true, true, true, true, true, true, true, false, false, false, false, false]
attribute [local go_sem] max2_int min2_int max_two min_two max_three min_three max_four min_four   -- for this text's walks alone
set_option linter.unusedVariables false
set_option linter.unusedSimpArgs false

/-! ### impl_ArePassages: function 32 -/
def impl_ArePassages.l0 : Nat → List (S43) → List (S43) → Int → Int → Option (Bool)
 | 0, _, _, _, _ => none
 | k + 1, x0, x5, x6, x7 => if x7 < x6 then (if 0 ≤ x7 then (if x7 < (x5.length : Int) then ((impl_isPassage.f ((rd_T43 x5 x7).f0) ((rd_T43 x5 x7).f1) ((rd_T43 x5 x7).f2) ((rd_T43 x5 x7).f3) ((rd_T43 x5 x7).f4)).bind fun t216 => (if t216 = true then (if x7 > 0 then (if 0 ≤ (wrap64 (x7 - 1)) then (if (wrap64 (x7 - 1)) < (x0.length : Int) then (if ((rd_T43 x0 (wrap64 (x7 - 1))).f0) ≥ ((rd_T43 x5 x7).f0) then (some false) else (impl_ArePassages.l0 k x0 x5 x6 (wrap64 (x7 + 1)))) else (none)) else (none)) else (impl_ArePassages.l0 k x0 x5 x6 (wrap64 (x7 + 1)))) else (some false))) else (none)) else (none)) else (some true)
def impl_ArePassages.f (k : Nat) (l0 : List (S43)) : Option (Bool) := impl_ArePassages.l0 k l0 l0 (l0.length : Int) 0
theorem impl_ArePassages.mono_l : ∀ k, (∀ y0 y1 y2 y3, LeO (impl_ArePassages.l0 k y0 y1 y2 y3) (impl_ArePassages.l0 (k + 1) y0 y1 y2 y3))
 | 0 => fun _ _ _ _ r h => by simp [impl_ArePassages.l0] at h
 | k + 1 => by
  have ih0 := impl_ArePassages.mono_l k
  ·intro y0 y1 y2 y3
   unfold impl_ArePassages.l0
   repeat' first
   | (with_reducible exact ih0 _ _ _ _)
   | (with_reducible exact LeO.refl _)
   | (with_reducible exact LeO.none _)
   | (with_reducible refine LeO.ite ?_ ?_)
   | (with_reducible refine LeO.bind ?_ (fun _ => ?_))
   | exact ih0 _ _ _ _
   | exact LeO.none _
   | refine LeO.ite ?_ ?_
   | refine LeO.bind ?_ (fun _ => ?_)
theorem impl_ArePassages.mono : ∀ a0 k, LeO (impl_ArePassages.f k a0) (impl_ArePassages.f (k + 1) a0) := by
 intro a0 k
 have ih0 := impl_ArePassages.mono_l k
 unfold impl_ArePassages.f
 repeat' first
   | (with_reducible exact ih0 _ _ _ _)
   | (with_reducible exact LeO.refl _)
   | (with_reducible exact LeO.none _)
   | (with_reducible refine LeO.ite ?_ ?_)
   | (with_reducible refine LeO.bind ?_ (fun _ => ?_))
   | exact ih0 _ _ _ _
   | exact LeO.none _
   | refine LeO.ite ?_ ?_
   | refine LeO.bind ?_ (fun _ => ?_)
def impl_ArePassages.T4 : Bool × List (List Nat × List Nat) := (true, [([], []), ([0], [0]), ([1], [1]), ([2, 1], [2]), ([3], [3]), ([4, 3], [3, 4]), ([5, 3, 3], [3, 5]), ([6], [6]), ([6], [6]), ([8, 6], [6, 8]), ([7, 9, 6], [6, 7, 9]), ([10, 6], [6, 10]), ([11, 6], [6, 11]), ([6], [6]), ([13, 6], [6, 13]), ([12, 14, 6], [6, 12, 14]), ([6, 15, 3], [3, 6, 15]), ([3, 16], [3, 16])])
def impl_ArePassages.B4 : List Nat := [0, 1, 3, 7, 15, 31, 63, 127, 127, 383, 1023, 2047, 4095, 127, 8319, 32767, 65535, 131071]
theorem impl_ArePassages.tab4 : rtab .any (opsOf Tryd.f32 4) = impl_ArePassages.T4 := by kernel_rfl
theorem impl_ArePassages.bits4 : waitsOk impl_ArePassages.T4.2 impl_ArePassages.B4 = true := by kernel_rfl
set_option maxHeartbeats 8000000 in
set_option maxRecDepth 100000 in
theorem impl_ArePassages.calls (k : Nat) (A0 : Option Addr) (c0 : Nat) (l0 : List (S43)) (r : Bool) (w : World) (hr0 : Kd.C k43 w A0 l0.length l0) (hc0 : l0.length ≤ c0) (h : impl_ArePassages.f k l0 = some r) :
  Calls Tryd.prog 32 #[.slice A0 l0.length c0] w fun e w' => e = .returned (.bool r) ∧ Below w.heap.size w w' := by
 have hu43 := Tryd.underlying43
 have HR0 := Aside0.mk hr0; have HC0 := Aside0.mk hc0; clear hr0 hc0
 have HB := Aside0.mk (Below.refl w.heap.size w)
 have H : (impl_ArePassages.l0 k l0 l0 (l0.length : Int) 0) = some r := h
 clear h
 have H' := Aside0.mk H
 clear H
 go_enter Tryd.func32, Tryd.ntmps32
 go_wp2
 go_loopg [7] k (fun kq v7 w' => ∃ (x7_1 : Int), v7 = .int .i64 x7_1 ∧ Aside0 (impl_ArePassages.l0 kq l0 l0 (l0.length : Int) x7_1 = some r) ∧ Aside0 (kq ≤ k) ∧ Aside0 (Below w.heap.size w w'))
 case atStart => exact ⟨(0), (qA7_7), H', ⟨Nat.le_refl _⟩, ⟨(qA7_3)⟩⟩
 case round =>
  clear H'
  obtain ⟨x7_1, rfl, HA, HK1, HB⟩ := hrel
  cases gk with
  | zero => exact absurd HA.out (by simp [impl_ArePassages.l0])
  | succ k1 =>
   have H := HA.out
   clear HA
   simp only [impl_ArePassages.l0] at H
   by_cases c2 : x7_1 < (l0.length : Int)
   ·rw [if_pos c2] at H
    have c2b0 : decide (x7_1 < (l0.length : Int)) = true := decide_eq_true c2
    clear c2
    by_cases c3 : 0 ≤ x7_1
    ·rw [if_pos c3] at H
     have c3b0 : decide (0 ≤ x7_1) = true := decide_eq_true c3
     clear c3
     by_cases c4 : x7_1 < (l0.length : Int)
     ·rw [if_pos c4] at H
      have c4b0 : decide (x7_1 < (l0.length : Int)) = true := decide_eq_true c4
      clear c4; replace H := Option.bind_eq_some_iff.mp H; obtain ⟨t216, A50, H⟩ := H
      try dsimp only at H
      have A5 := Aside0.mk A50; clear A50
      by_cases c6 : t216 = true
      ·subst c6
       have H1 : (if x7_1 > 0 then (if 0 ≤ (wrap64 (x7_1 - 1)) then (if (wrap64 (x7_1 - 1)) < (l0.length : Int) then (if ((rd_T43 l0 (wrap64 (x7_1 - 1))).f0) ≥ ((rd_T43 l0 x7_1).f0) then (some false) else (impl_ArePassages.l0 k1 l0 l0 (l0.length : Int) (wrap64 (x7_1 + 1)))) else (none)) else (none)) else (impl_ArePassages.l0 k1 l0 l0 (l0.length : Int) (wrap64 (x7_1 + 1)))) = some r := by rw [if_pos rfl] at H; exact H
       clear H; have H := H1; clear H1
       by_cases c7 : x7_1 > 0
       ·rw [if_pos c7] at H
        have c7b0 : decide (0 < x7_1) = true := decide_eq_true c7
        clear c7
        obtain ⟨ji8, hji8⟩ : ∃ j_ : Int, (wrap64 (x7_1 - 1)) = j_ := ⟨_, rfl⟩
        replace H : (if 0 ≤ (ji8) then (if (ji8) < (l0.length : Int) then (if ((rd_T43 l0 (ji8)).f0) ≥ ((rd_T43 l0 x7_1).f0) then (some false) else (impl_ArePassages.l0 k1 l0 l0 (l0.length : Int) (wrap64 (x7_1 + 1)))) else (none)) else (none)) = some r := by first | (rw [hji8] at H; exact H) | (simp only [hji8] at H ⊢; exact H)
        (try rw [hji8] at A5)
        have hji8w : (IntKind.i64.wrap (x7_1 - 1)) = ji8 := (i64_w _).trans hji8
        by_cases c9 : 0 ≤ (ji8)
        ·rw [if_pos c9] at H
         have c9b0 : decide (0 ≤ (ji8)) = true := decide_eq_true c9
         clear c9
         by_cases c10 : (ji8) < (l0.length : Int)
         ·rw [if_pos c10] at H
          have c10b0 : decide ((ji8) < (l0.length : Int)) = true := decide_eq_true c10
          clear c10
          by_cases c11 : ((rd_T43 l0 (ji8)).f0) ≥ ((rd_T43 l0 x7_1).f0)
          ·rw [if_pos c11] at H
           have c11b0 : decide (((rd_T43 l0 x7_1).f0) ≤ ((rd_T43 l0 (ji8)).f0)) = true := decide_eq_true c11
           clear c11; obtain rfl := Option.some.inj H
           have p214 : 0 ≤ (x7_1 : Int) := of_decide_eq_true (qA7_5)
           have q214 : x7_1 < (l0.length : Int) := of_decide_eq_true (qA7_5)
           obtain ⟨ad214, e214, hx214_0, hx214_1, hx214_2, hx214_3, hx214_4⟩ := at_T43 HR0.out x7_1 p214 q214
           cases e214
           replace hx214_0 := (HB.out.cell (World.block_lt_of_cell? w _ hx214_0)).trans hx214_0
           replace hx214_1 := (HB.out.cell (World.block_lt_of_cell? w _ hx214_1)).trans hx214_1
           replace hx214_2 := (HB.out.cell (World.block_lt_of_cell? w _ hx214_2)).trans hx214_2
           replace hx214_3 := (HB.out.cell (World.block_lt_of_cell? w _ hx214_3)).trans hx214_3
           replace hx214_4 := (HB.out.cell (World.block_lt_of_cell? w _ hx214_4)).trans hx214_4
           replace p214 := eq_true p214
           replace q214 := eq_true q214
           try go_wp2_with (first | ((with_reducible refine gate_dst (N := 4) rfl ?_); refine box_event ?hg (N := 4) ?hd (cs := #[.int .i64 0, .int .i64 0, .int .i64 0, .int .i64 0, .int .i64 0]) (t := 43) ?hr ?_; (case hd => rfl); (case hg => rfl); (case hr => exact (qA7_8)); intro gb215 hg w12 hbox hb; have n0_ := Aside0.mk (below_step (qA7_3) hb); have n1_ := Aside0.mk (hbox); have n2_ := Aside0.mk ((by rw [hg]; exact (below_size (qA7_3)) : w.heap.size ≤ gb215)); have n3_ := Aside0.mk ((by rw [hg]; exact (below_size (qA7_3)) : w.heap.size ≤ gb215)); clear HB; have HB := n0_; have BK215 := n1_; have GW215 := n2_; have GE215 := n3_; clear n0_ n1_ n2_ n3_; clear hb hbox hg; have hcz13_0 : w12.cell? ⟨gb215, 0, none⟩ = some (.int .i64 0) := (blk_cell BK215.out 0).trans rfl; have hcz13_1 : w12.cell? ⟨gb215, 1, none⟩ = some (.int .i64 0) := (blk_cell BK215.out 1).trans rfl; have hcz13_2 : w12.cell? ⟨gb215, 2, none⟩ = some (.int .i64 0) := (blk_cell BK215.out 2).trans rfl; have hcz13_3 : w12.cell? ⟨gb215, 3, none⟩ = some (.int .i64 0) := (blk_cell BK215.out 3).trans rfl; have hcz13_4 : w12.cell? ⟨gb215, 4, none⟩ = some (.int .i64 0) := (blk_cell BK215.out 4).trans rfl; have hfz13_0 := blk_frozen BK215.out 0; have hfz13_1 := blk_frozen BK215.out 1; have hfz13_2 := blk_frozen BK215.out 2; have hfz13_3 := blk_frozen BK215.out 3; have hfz13_4 := blk_frozen BK215.out 4))
           have n0_ : Aside0 ((((((w12.setCell ⟨gb215, 0, none⟩ (.int .i64 ((rd_T43 l0 x7_1).f0))).setCell ⟨gb215, 1, none⟩ (.int .i64 ((rd_T43 l0 x7_1).f1))).setCell ⟨gb215, 2, none⟩ (.int .i64 ((rd_T43 l0 x7_1).f2))).setCell ⟨gb215, 3, none⟩ (.int .i64 ((rd_T43 l0 x7_1).f3))).setCell ⟨gb215, 4, none⟩ (.int .i64 ((rd_T43 l0 x7_1).f4))).heap[gb215]? = some (.cells #[.int .i64 ((rd_T43 l0 x7_1).f0), .int .i64 ((rd_T43 l0 x7_1).f1), .int .i64 ((rd_T43 l0 x7_1).f2), .int .i64 ((rd_T43 l0 x7_1).f3), .int .i64 ((rd_T43 l0 x7_1).f4)] 43 (0, 0))) := ⟨(qA7_0)⟩
           have n1_ : Aside0 (Below w.heap.size w (((((w12.setCell ⟨gb215, 0, none⟩ (.int .i64 ((rd_T43 l0 x7_1).f0))).setCell ⟨gb215, 1, none⟩ (.int .i64 ((rd_T43 l0 x7_1).f1))).setCell ⟨gb215, 2, none⟩ (.int .i64 ((rd_T43 l0 x7_1).f2))).setCell ⟨gb215, 3, none⟩ (.int .i64 ((rd_T43 l0 x7_1).f3))).setCell ⟨gb215, 4, none⟩ (.int .i64 ((rd_T43 l0 x7_1).f4)))) := ⟨(qA7_2)⟩
           (try clear BK215)
           (try clear HB)
           generalize (((((w12.setCell ⟨gb215, 0, none⟩ (.int .i64 ((rd_T43 l0 x7_1).f0))).setCell ⟨gb215, 1, none⟩ (.int .i64 ((rd_T43 l0 x7_1).f1))).setCell ⟨gb215, 2, none⟩ (.int .i64 ((rd_T43 l0 x7_1).f2))).setCell ⟨gb215, 3, none⟩ (.int .i64 ((rd_T43 l0 x7_1).f3))).setCell ⟨gb215, 4, none⟩ (.int .i64 ((rd_T43 l0 x7_1).f4))) = w14 at n0_ n1_ ⊢
           have BK215 := n0_
           have HB := n1_
           clear n0_ n1_
           have n0_ := Aside0.mk (blk_drew BK215.out)
           have n1_ := Aside0.mk (below_drew1 HB.out)
           clear BK215; clear HB
           have BK215 := n0_
           have HB := n1_
           clear n0_ n1_
           have p217 : 0 ≤ ((ji8) : Int) := of_decide_eq_true (qA7_5)
           have q217 : (ji8) < (l0.length : Int) := of_decide_eq_true (qA7_5)
           obtain ⟨ad217, e217, hx217_0, hx217_1, hx217_2, hx217_3, hx217_4⟩ := at_T43 HR0.out (ji8) p217 q217
           have hw217_4 := hx217_4
           have hw217_3 := hx217_3
           have hw217_2 := hx217_2
           have hw217_1 := hx217_1
           have hw217_0 := hx217_0
           obtain rfl : ad214 = ad217 := (by injection e217)
           replace hx217_0 := (HB.out.cell (World.block_lt_of_cell? w _ hx217_0)).trans hx217_0
           replace hx217_1 := (HB.out.cell (World.block_lt_of_cell? w _ hx217_1)).trans hx217_1
           replace hx217_2 := (HB.out.cell (World.block_lt_of_cell? w _ hx217_2)).trans hx217_2
           replace hx217_3 := (HB.out.cell (World.block_lt_of_cell? w _ hx217_3)).trans hx217_3
           replace hx217_4 := (HB.out.cell (World.block_lt_of_cell? w _ hx217_4)).trans hx217_4
           replace p217 := eq_true p217
           replace q217 := eq_true q217
           refine start_ (n := 18) (S := fun w' => w'.cell? ⟨gb215, 0, none⟩ = some (.int .i64 ((rd_T43 l0 x7_1).f0)) ∧ w'.cell? ⟨gb215, 1, none⟩ = some (.int .i64 ((rd_T43 l0 x7_1).f1)) ∧ w'.cell? ⟨gb215, 2, none⟩ = some (.int .i64 ((rd_T43 l0 x7_1).f2)) ∧ w'.cell? ⟨gb215, 3, none⟩ = some (.int .i64 ((rd_T43 l0 x7_1).f3)) ∧ w'.cell? ⟨gb215, 4, none⟩ = some (.int .i64 ((rd_T43 l0 x7_1).f4)) ∧ w'.cell? (ad214.add (((ji8)).toNat * 5)) = some (.int .i64 ((rd_T43 l0 (ji8)).f0)) ∧ w'.cell? ⟨(ad214.add (((ji8)).toNat * 5)).block, (ad214.add (((ji8)).toNat * 5)).off + 1, none⟩ = some (.int .i64 ((rd_T43 l0 (ji8)).f1)) ∧ w'.cell? ⟨(ad214.add (((ji8)).toNat * 5)).block, (ad214.add (((ji8)).toNat * 5)).off + 2, none⟩ = some (.int .i64 ((rd_T43 l0 (ji8)).f2)) ∧ w'.cell? ⟨(ad214.add (((ji8)).toNat * 5)).block, (ad214.add (((ji8)).toNat * 5)).off + 3, none⟩ = some (.int .i64 ((rd_T43 l0 (ji8)).f3)) ∧ w'.cell? ⟨(ad214.add (((ji8)).toNat * 5)).block, (ad214.add (((ji8)).toNat * 5)).off + 4, none⟩ = some (.int .i64 ((rd_T43 l0 (ji8)).f4))) (ds := []) qA7_b0 (by kernel_rfl) rfl rfl ⟨(blk_cell BK215.out 0).trans rfl, (blk_cell BK215.out 1).trans rfl, (blk_cell BK215.out 2).trans rfl, (blk_cell BK215.out 3).trans rfl, (blk_cell BK215.out 4).trans rfl, ((HB.out.cell (World.block_lt_of_cell? w _ hw217_0)).trans hw217_0), ((HB.out.cell (World.block_lt_of_cell? w _ hw217_1)).trans hw217_1), ((HB.out.cell (World.block_lt_of_cell? w _ hw217_2)).trans hw217_2), ((HB.out.cell (World.block_lt_of_cell? w _ hw217_3)).trans hw217_3), ((HB.out.cell (World.block_lt_of_cell? w _ hw217_4)).trans hw217_4)⟩ (fun hHeld => ?_); refine with_tabW impl_ArePassages.tab4 impl_ArePassages.bits4 (fun HT_ HW_ => ?_)
           generalize w14.drew = w15 at BK215 HB hx217_0 hx217_1 hx217_2 hx217_3 hx217_4 hHeld ⊢
           refine take_ (i := 0) (N := some 12) (v := ?_) (a' := ?_) qA7_b1 rfl rfl (take_ofW HT_.out HW_.out (by kernel_rfl)) (fun _ _ _ h => h) (Or.inl ⟨by rfl, ?_⟩) hHeld ?_ ?_
           rotate_left; exact qA7_c3; rotate_left; exact qA7_c0
           refine one_ (i := 1) (N := some 13) qA7_b2 rfl rfl (qA7_10) (by decide) (fun K hK => ?_)
           refine goes_ Tryd.func42 (by kernel_rfl) rfl #[.agg #[.int .i64 ((rd_T43 l0 x7_1).f0), .int .i64 ((rd_T43 l0 x7_1).f1), .int .i64 ((rd_T43 l0 x7_1).f2), .int .i64 ((rd_T43 l0 x7_1).f3), .int .i64 ((rd_T43 l0 x7_1).f4)]] (by rfl) rfl rfl (qA7_4) ?_
           with_reducible refine (impl_isPassage.calls ((rd_T43 l0 x7_1).f0) ((rd_T43 l0 x7_1).f1) ((rd_T43 l0 x7_1).f2) ((rd_T43 l0 x7_1).f3) ((rd_T43 l0 x7_1).f4) true _ A5.out).mono ?_
           rintro e w16 ⟨rfl, hb⟩
           refine ⟨_, rfl, ?_⟩
           have n0_ := Aside0.mk (blk_below (g := gb215) (o := .cells #[.int .i64 ((rd_T43 l0 x7_1).f0), .int .i64 ((rd_T43 l0 x7_1).f1), .int .i64 ((rd_T43 l0 x7_1).f2), .int .i64 ((rd_T43 l0 x7_1).f3), .int .i64 ((rd_T43 l0 x7_1).f4)] 43 (0, 0)) (qA7_6) hb)
           have n1_ := Aside0.mk (below_step (qA7_2) hb)
           clear BK215; clear HB
           have BK215 := n0_
           have HB := n1_
           clear n0_ n1_
           (try clear hb)
           (try clear hb2)
           (try clear hk)
           (try clear hi)
           refine hK.out _ _ ⟨(blk_cell BK215.out 0).trans rfl, (blk_cell BK215.out 1).trans rfl, (blk_cell BK215.out 2).trans rfl, (blk_cell BK215.out 3).trans rfl, (blk_cell BK215.out 4).trans rfl, ((HB.out.cell (World.block_lt_of_cell? w _ hw217_0)).trans hw217_0), ((HB.out.cell (World.block_lt_of_cell? w _ hw217_1)).trans hw217_1), ((HB.out.cell (World.block_lt_of_cell? w _ hw217_2)).trans hw217_2), ((HB.out.cell (World.block_lt_of_cell? w _ hw217_3)).trans hw217_3), ((HB.out.cell (World.block_lt_of_cell? w _ hw217_4)).trans hw217_4)⟩ (fun hHeld => ?_)
           clear hK K
           refine norm_ (a' := ?_) ?_ ?_
           rotate_left
           ·exact qA7_c2
           refine pure_ (i := 2) (N := some 14) (v := ?_) (a' := ?_) qA7_b3 rfl rfl (qA7_1) (fun _ _ _ h => h) (Or.inl ⟨by rfl, ?_⟩) ?_ ?_
           rotate_left; exact qA7_c1; rotate_left; exact qA7_c0
           refine pure_ (i := 3) (N := some 15) (v := ?_) (a' := ?_) qA7_b4 rfl rfl (qA7_1) (fun _ _ _ h => h) (Or.inl ⟨by rfl, ?_⟩) ?_ ?_
           rotate_left; exact qA7_c1; rotate_left; exact qA7_c0
           refine pure_ (i := 4) (N := some 16) (v := ?_) (a' := ?_) qA7_b5 rfl rfl (qA7_1) (fun _ _ _ h => h) (Or.inl ⟨by rfl, ?_⟩) ?_ ?_
           rotate_left; exact qA7_c1; rotate_left; exact qA7_c0
           refine pure_ (i := 5) (N := some 17) (v := ?_) (a' := ?_) qA7_b6 rfl rfl (qA7_1) (fun _ _ _ h => h) (Or.inl ⟨by rfl, ?_⟩) ?_ ?_
           rotate_left; exact qA7_c1; rotate_left; exact qA7_c0
           refine pure_ (i := 6) (N := some 18) (v := ?_) (a' := ?_) qA7_b7 rfl rfl (qA7_1) (fun _ _ _ h => h) (Or.inl ⟨by rfl, ?_⟩) ?_ ?_
           rotate_left; exact qA7_c1; rotate_left; exact qA7_c0
           refine pure_ (i := 7) (N := some 19) (v := ?_) (a' := ?_) qA7_b8 rfl rfl (qA7_1) (fun _ _ _ h => h) (Or.inl ⟨by rfl, ?_⟩) ?_ ?_
           rotate_left; exact qA7_c1; rotate_left; exact qA7_c0
           refine pure_ (i := 8) (N := some 20) (v := ?_) (a' := ?_) qA7_b9 rfl rfl (qA7_1) (fun _ _ _ h => h) (Or.inl ⟨by rfl, ?_⟩) ?_ ?_
           rotate_left; exact qA7_c1; rotate_left; exact qA7_c0
           refine pure_ (i := 9) (N := some 21) (v := ?_) (a' := ?_) qA7_b10 rfl rfl (qA7_1) (fun _ _ _ h => h) (Or.inl ⟨by rfl, ?_⟩) ?_ ?_
           rotate_left; exact qA7_c1; rotate_left; exact qA7_c0
           refine pure_ (i := 10) (N := some 22) (v := ?_) (a' := ?_) qA7_b11 rfl rfl (qA7_1) (fun _ _ _ h => h) (Or.inl ⟨by rfl, ?_⟩) ?_ ?_
           rotate_left; exact qA7_c1; rotate_left; exact qA7_c0
           refine pure_ (i := 11) (N := some 23) (v := ?_) (a' := ?_) qA7_b12 rfl rfl (qA7_1) (fun _ _ _ h => h) (Or.inl ⟨by rfl, ?_⟩) ?_ ?_
           rotate_left; exact qA7_c1; rotate_left; exact qA7_c0
           refine pure_ (i := 13) (N := some 25) (v := ?_) (a' := ?_) qA7_b13 rfl rfl (qA7_1) (fun _ _ _ h => h) (Or.inl ⟨by rfl, ?_⟩) ?_ ?_
           rotate_left; exact qA7_c1; rotate_left; exact qA7_c0
           refine take_ (i := 12) (N := some 24) (v := ?_) (a' := ?_) qA7_b14 rfl rfl (take_ofW HT_.out HW_.out (by kernel_rfl)) (fun _ _ _ h => h) (Or.inl ⟨by rfl, ?_⟩) hHeld ?_ ?_
           rotate_left; exact qA7_c3; rotate_left; exact qA7_c0
           refine take_ (i := 14) (N := some 26) (v := ?_) (a' := ?_) qA7_b15 rfl rfl (take_ofW HT_.out HW_.out (by kernel_rfl)) (fun _ _ _ h => h) (Or.inl ⟨by rfl, ?_⟩) hHeld ?_ ?_
           rotate_left; exact qA7_c3; rotate_left; exact qA7_c0
           refine pure_ (i := 15) (N := some 27) (v := ?_) (a' := ?_) qA7_b16 rfl rfl (qA7_1) (fun _ _ _ h => h) (Or.inl ⟨by rfl, ?_⟩) ?_ ?_
           rotate_left; exact qA7_c1; rotate_left; exact qA7_c0
           refine pure_ (i := 16) (N := some 28) (v := ?_) (a' := ?_) qA7_b17 rfl rfl (qA7_1) (fun _ _ _ h => h) (Or.inl ⟨by rfl, ?_⟩) ?_ ?_
           rotate_left; exact qA7_c1; rotate_left; exact qA7_c0
           refine pure_ (i := 17) (N := some 29) (v := ?_) (a' := ?_) qA7_b18 rfl rfl (qA7_1) (fun _ _ _ h => h) (Or.inl ⟨by rfl, ?_⟩) ?_ ?_
           rotate_left; exact qA7_c1; rotate_left; exact qA7_c0
           refine done_ (qA7_9) ?_
           try go_wp2
           go_ret
           exact ⟨(by first | rfl | (simp [errW_none, errW_some] <;> rfl) | (simp only [← hji8]; first | rfl | (simp [errW_none, errW_some] <;> rfl)) | (simp [*, errW_none, errW_some] <;> rfl)), (qA7_2)⟩
          ·rw [if_neg c11] at H
           have c11b0 : decide (((rd_T43 l0 x7_1).f0) ≤ ((rd_T43 l0 (ji8)).f0)) = false := decide_eq_false c11
           clear c11
           have H' := Aside0.mk H
           clear H
           have p214 : 0 ≤ (x7_1 : Int) := of_decide_eq_true (qA7_5)
           have q214 : x7_1 < (l0.length : Int) := of_decide_eq_true (qA7_5)
           obtain ⟨ad214, e214, hx214_0, hx214_1, hx214_2, hx214_3, hx214_4⟩ := at_T43 HR0.out x7_1 p214 q214
           cases e214
           replace hx214_0 := (HB.out.cell (World.block_lt_of_cell? w _ hx214_0)).trans hx214_0
           replace hx214_1 := (HB.out.cell (World.block_lt_of_cell? w _ hx214_1)).trans hx214_1
           replace hx214_2 := (HB.out.cell (World.block_lt_of_cell? w _ hx214_2)).trans hx214_2
           replace hx214_3 := (HB.out.cell (World.block_lt_of_cell? w _ hx214_3)).trans hx214_3
           replace hx214_4 := (HB.out.cell (World.block_lt_of_cell? w _ hx214_4)).trans hx214_4
           replace p214 := eq_true p214
           replace q214 := eq_true q214
           try go_wp2_with (first | ((with_reducible refine gate_dst (N := 4) rfl ?_); refine box_event ?hg (N := 4) ?hd (cs := #[.int .i64 0, .int .i64 0, .int .i64 0, .int .i64 0, .int .i64 0]) (t := 43) ?hr ?_; (case hd => rfl); (case hg => rfl); (case hr => exact (qA7_8)); intro gb215 hg w17 hbox hb; have n0_ := Aside0.mk (below_step (qA7_3) hb); have n1_ := Aside0.mk (hbox); have n2_ := Aside0.mk ((by rw [hg]; exact (below_size (qA7_3)) : w.heap.size ≤ gb215)); have n3_ := Aside0.mk ((by rw [hg]; exact (below_size (qA7_3)) : w.heap.size ≤ gb215)); clear HB; have HB := n0_; have BK215 := n1_; have GW215 := n2_; have GE215 := n3_; clear n0_ n1_ n2_ n3_; clear hb hbox hg; have hcz18_0 : w17.cell? ⟨gb215, 0, none⟩ = some (.int .i64 0) := (blk_cell BK215.out 0).trans rfl; have hcz18_1 : w17.cell? ⟨gb215, 1, none⟩ = some (.int .i64 0) := (blk_cell BK215.out 1).trans rfl; have hcz18_2 : w17.cell? ⟨gb215, 2, none⟩ = some (.int .i64 0) := (blk_cell BK215.out 2).trans rfl; have hcz18_3 : w17.cell? ⟨gb215, 3, none⟩ = some (.int .i64 0) := (blk_cell BK215.out 3).trans rfl; have hcz18_4 : w17.cell? ⟨gb215, 4, none⟩ = some (.int .i64 0) := (blk_cell BK215.out 4).trans rfl; have hfz18_0 := blk_frozen BK215.out 0; have hfz18_1 := blk_frozen BK215.out 1; have hfz18_2 := blk_frozen BK215.out 2; have hfz18_3 := blk_frozen BK215.out 3; have hfz18_4 := blk_frozen BK215.out 4))
           have n0_ : Aside0 ((((((w17.setCell ⟨gb215, 0, none⟩ (.int .i64 ((rd_T43 l0 x7_1).f0))).setCell ⟨gb215, 1, none⟩ (.int .i64 ((rd_T43 l0 x7_1).f1))).setCell ⟨gb215, 2, none⟩ (.int .i64 ((rd_T43 l0 x7_1).f2))).setCell ⟨gb215, 3, none⟩ (.int .i64 ((rd_T43 l0 x7_1).f3))).setCell ⟨gb215, 4, none⟩ (.int .i64 ((rd_T43 l0 x7_1).f4))).heap[gb215]? = some (.cells #[.int .i64 ((rd_T43 l0 x7_1).f0), .int .i64 ((rd_T43 l0 x7_1).f1), .int .i64 ((rd_T43 l0 x7_1).f2), .int .i64 ((rd_T43 l0 x7_1).f3), .int .i64 ((rd_T43 l0 x7_1).f4)] 43 (0, 0))) := ⟨(qA7_0)⟩
           have n1_ : Aside0 (Below w.heap.size w (((((w17.setCell ⟨gb215, 0, none⟩ (.int .i64 ((rd_T43 l0 x7_1).f0))).setCell ⟨gb215, 1, none⟩ (.int .i64 ((rd_T43 l0 x7_1).f1))).setCell ⟨gb215, 2, none⟩ (.int .i64 ((rd_T43 l0 x7_1).f2))).setCell ⟨gb215, 3, none⟩ (.int .i64 ((rd_T43 l0 x7_1).f3))).setCell ⟨gb215, 4, none⟩ (.int .i64 ((rd_T43 l0 x7_1).f4)))) := ⟨(qA7_2)⟩
           (try clear BK215)
           (try clear HB)
           generalize (((((w17.setCell ⟨gb215, 0, none⟩ (.int .i64 ((rd_T43 l0 x7_1).f0))).setCell ⟨gb215, 1, none⟩ (.int .i64 ((rd_T43 l0 x7_1).f1))).setCell ⟨gb215, 2, none⟩ (.int .i64 ((rd_T43 l0 x7_1).f2))).setCell ⟨gb215, 3, none⟩ (.int .i64 ((rd_T43 l0 x7_1).f3))).setCell ⟨gb215, 4, none⟩ (.int .i64 ((rd_T43 l0 x7_1).f4))) = w19 at n0_ n1_ ⊢
           have BK215 := n0_
           have HB := n1_
           clear n0_ n1_
           have n0_ := Aside0.mk (blk_drew BK215.out)
           have n1_ := Aside0.mk (below_drew1 HB.out)
           clear BK215; clear HB
           have BK215 := n0_
           have HB := n1_
           clear n0_ n1_
           have p217 : 0 ≤ ((ji8) : Int) := of_decide_eq_true (qA7_5)
           have q217 : (ji8) < (l0.length : Int) := of_decide_eq_true (qA7_5)
           obtain ⟨ad217, e217, hx217_0, hx217_1, hx217_2, hx217_3, hx217_4⟩ := at_T43 HR0.out (ji8) p217 q217
           have hw217_4 := hx217_4
           have hw217_3 := hx217_3
           have hw217_2 := hx217_2
           have hw217_1 := hx217_1
           have hw217_0 := hx217_0
           obtain rfl : ad214 = ad217 := (by injection e217)
           replace hx217_0 := (HB.out.cell (World.block_lt_of_cell? w _ hx217_0)).trans hx217_0
           replace hx217_1 := (HB.out.cell (World.block_lt_of_cell? w _ hx217_1)).trans hx217_1
           replace hx217_2 := (HB.out.cell (World.block_lt_of_cell? w _ hx217_2)).trans hx217_2
           replace hx217_3 := (HB.out.cell (World.block_lt_of_cell? w _ hx217_3)).trans hx217_3
           replace hx217_4 := (HB.out.cell (World.block_lt_of_cell? w _ hx217_4)).trans hx217_4
           replace p217 := eq_true p217
           replace q217 := eq_true q217
           refine start_ (n := 18) (S := fun w' => w'.cell? ⟨gb215, 0, none⟩ = some (.int .i64 ((rd_T43 l0 x7_1).f0)) ∧ w'.cell? ⟨gb215, 1, none⟩ = some (.int .i64 ((rd_T43 l0 x7_1).f1)) ∧ w'.cell? ⟨gb215, 2, none⟩ = some (.int .i64 ((rd_T43 l0 x7_1).f2)) ∧ w'.cell? ⟨gb215, 3, none⟩ = some (.int .i64 ((rd_T43 l0 x7_1).f3)) ∧ w'.cell? ⟨gb215, 4, none⟩ = some (.int .i64 ((rd_T43 l0 x7_1).f4)) ∧ w'.cell? (ad214.add (((ji8)).toNat * 5)) = some (.int .i64 ((rd_T43 l0 (ji8)).f0)) ∧ w'.cell? ⟨(ad214.add (((ji8)).toNat * 5)).block, (ad214.add (((ji8)).toNat * 5)).off + 1, none⟩ = some (.int .i64 ((rd_T43 l0 (ji8)).f1)) ∧ w'.cell? ⟨(ad214.add (((ji8)).toNat * 5)).block, (ad214.add (((ji8)).toNat * 5)).off + 2, none⟩ = some (.int .i64 ((rd_T43 l0 (ji8)).f2)) ∧ w'.cell? ⟨(ad214.add (((ji8)).toNat * 5)).block, (ad214.add (((ji8)).toNat * 5)).off + 3, none⟩ = some (.int .i64 ((rd_T43 l0 (ji8)).f3)) ∧ w'.cell? ⟨(ad214.add (((ji8)).toNat * 5)).block, (ad214.add (((ji8)).toNat * 5)).off + 4, none⟩ = some (.int .i64 ((rd_T43 l0 (ji8)).f4))) (ds := []) qA7_b0 (by kernel_rfl) rfl rfl ⟨(blk_cell BK215.out 0).trans rfl, (blk_cell BK215.out 1).trans rfl, (blk_cell BK215.out 2).trans rfl, (blk_cell BK215.out 3).trans rfl, (blk_cell BK215.out 4).trans rfl, ((HB.out.cell (World.block_lt_of_cell? w _ hw217_0)).trans hw217_0), ((HB.out.cell (World.block_lt_of_cell? w _ hw217_1)).trans hw217_1), ((HB.out.cell (World.block_lt_of_cell? w _ hw217_2)).trans hw217_2), ((HB.out.cell (World.block_lt_of_cell? w _ hw217_3)).trans hw217_3), ((HB.out.cell (World.block_lt_of_cell? w _ hw217_4)).trans hw217_4)⟩ (fun hHeld => ?_); refine with_tabW impl_ArePassages.tab4 impl_ArePassages.bits4 (fun HT_ HW_ => ?_)
           generalize w19.drew = w20 at BK215 HB hx217_0 hx217_1 hx217_2 hx217_3 hx217_4 hHeld ⊢
           refine take_ (i := 0) (N := some 12) (v := ?_) (a' := ?_) qA7_b1 rfl rfl (take_ofW HT_.out HW_.out (by kernel_rfl)) (fun _ _ _ h => h) (Or.inl ⟨by rfl, ?_⟩) hHeld ?_ ?_
           rotate_left; exact qA7_c3; rotate_left; exact qA7_c0
           refine one_ (i := 1) (N := some 13) qA7_b2 rfl rfl (qA7_10) (by decide) (fun K hK => ?_)
           refine goes_ Tryd.func42 (by kernel_rfl) rfl #[.agg #[.int .i64 ((rd_T43 l0 x7_1).f0), .int .i64 ((rd_T43 l0 x7_1).f1), .int .i64 ((rd_T43 l0 x7_1).f2), .int .i64 ((rd_T43 l0 x7_1).f3), .int .i64 ((rd_T43 l0 x7_1).f4)]] (by rfl) rfl rfl (qA7_4) ?_
           with_reducible refine (impl_isPassage.calls ((rd_T43 l0 x7_1).f0) ((rd_T43 l0 x7_1).f1) ((rd_T43 l0 x7_1).f2) ((rd_T43 l0 x7_1).f3) ((rd_T43 l0 x7_1).f4) true _ A5.out).mono ?_
           rintro e w21 ⟨rfl, hb⟩
           refine ⟨_, rfl, ?_⟩
           have n0_ := Aside0.mk (blk_below (g := gb215) (o := .cells #[.int .i64 ((rd_T43 l0 x7_1).f0), .int .i64 ((rd_T43 l0 x7_1).f1), .int .i64 ((rd_T43 l0 x7_1).f2), .int .i64 ((rd_T43 l0 x7_1).f3), .int .i64 ((rd_T43 l0 x7_1).f4)] 43 (0, 0)) (qA7_6) hb)
           have n1_ := Aside0.mk (below_step (qA7_2) hb)
           clear BK215; clear HB
           have BK215 := n0_
           have HB := n1_
           clear n0_ n1_
           (try clear hb)
           (try clear hb2)
           (try clear hk)
           (try clear hi)
           refine hK.out _ _ ⟨(blk_cell BK215.out 0).trans rfl, (blk_cell BK215.out 1).trans rfl, (blk_cell BK215.out 2).trans rfl, (blk_cell BK215.out 3).trans rfl, (blk_cell BK215.out 4).trans rfl, ((HB.out.cell (World.block_lt_of_cell? w _ hw217_0)).trans hw217_0), ((HB.out.cell (World.block_lt_of_cell? w _ hw217_1)).trans hw217_1), ((HB.out.cell (World.block_lt_of_cell? w _ hw217_2)).trans hw217_2), ((HB.out.cell (World.block_lt_of_cell? w _ hw217_3)).trans hw217_3), ((HB.out.cell (World.block_lt_of_cell? w _ hw217_4)).trans hw217_4)⟩ (fun hHeld => ?_)
           clear hK K
           refine norm_ (a' := ?_) ?_ ?_
           rotate_left
           ·exact qA7_c2
           refine pure_ (i := 2) (N := some 14) (v := ?_) (a' := ?_) qA7_b3 rfl rfl (qA7_1) (fun _ _ _ h => h) (Or.inl ⟨by rfl, ?_⟩) ?_ ?_
           rotate_left; exact qA7_c1; rotate_left; exact qA7_c0
           refine pure_ (i := 3) (N := some 15) (v := ?_) (a' := ?_) qA7_b4 rfl rfl (qA7_1) (fun _ _ _ h => h) (Or.inl ⟨by rfl, ?_⟩) ?_ ?_
           rotate_left; exact qA7_c1; rotate_left; exact qA7_c0
           refine pure_ (i := 4) (N := some 16) (v := ?_) (a' := ?_) qA7_b5 rfl rfl (qA7_1) (fun _ _ _ h => h) (Or.inl ⟨by rfl, ?_⟩) ?_ ?_
           rotate_left; exact qA7_c1; rotate_left; exact qA7_c0
           refine pure_ (i := 5) (N := some 17) (v := ?_) (a' := ?_) qA7_b6 rfl rfl (qA7_1) (fun _ _ _ h => h) (Or.inl ⟨by rfl, ?_⟩) ?_ ?_
           rotate_left; exact qA7_c1; rotate_left; exact qA7_c0
           refine pure_ (i := 6) (N := some 18) (v := ?_) (a' := ?_) qA7_b7 rfl rfl (qA7_1) (fun _ _ _ h => h) (Or.inl ⟨by rfl, ?_⟩) ?_ ?_
           rotate_left; exact qA7_c1; rotate_left; exact qA7_c0
           refine pure_ (i := 7) (N := some 19) (v := ?_) (a' := ?_) qA7_b8 rfl rfl (qA7_1) (fun _ _ _ h => h) (Or.inl ⟨by rfl, ?_⟩) ?_ ?_
           rotate_left; exact qA7_c1; rotate_left; exact qA7_c0
           refine pure_ (i := 8) (N := some 20) (v := ?_) (a' := ?_) qA7_b9 rfl rfl (qA7_1) (fun _ _ _ h => h) (Or.inl ⟨by rfl, ?_⟩) ?_ ?_
           rotate_left; exact qA7_c1; rotate_left; exact qA7_c0
           refine pure_ (i := 9) (N := some 21) (v := ?_) (a' := ?_) qA7_b10 rfl rfl (qA7_1) (fun _ _ _ h => h) (Or.inl ⟨by rfl, ?_⟩) ?_ ?_
           rotate_left; exact qA7_c1; rotate_left; exact qA7_c0
           refine pure_ (i := 10) (N := some 22) (v := ?_) (a' := ?_) qA7_b11 rfl rfl (qA7_1) (fun _ _ _ h => h) (Or.inl ⟨by rfl, ?_⟩) ?_ ?_
           rotate_left; exact qA7_c1; rotate_left; exact qA7_c0
           refine pure_ (i := 11) (N := some 23) (v := ?_) (a' := ?_) qA7_b12 rfl rfl (qA7_1) (fun _ _ _ h => h) (Or.inl ⟨by rfl, ?_⟩) ?_ ?_
           rotate_left; exact qA7_c1; rotate_left; exact qA7_c0
           refine pure_ (i := 13) (N := some 25) (v := ?_) (a' := ?_) qA7_b13 rfl rfl (qA7_1) (fun _ _ _ h => h) (Or.inl ⟨by rfl, ?_⟩) ?_ ?_
           rotate_left; exact qA7_c1; rotate_left; exact qA7_c0
           refine take_ (i := 12) (N := some 24) (v := ?_) (a' := ?_) qA7_b14 rfl rfl (take_ofW HT_.out HW_.out (by kernel_rfl)) (fun _ _ _ h => h) (Or.inl ⟨by rfl, ?_⟩) hHeld ?_ ?_
           rotate_left; exact qA7_c3; rotate_left; exact qA7_c0
           refine take_ (i := 14) (N := some 26) (v := ?_) (a' := ?_) qA7_b15 rfl rfl (take_ofW HT_.out HW_.out (by kernel_rfl)) (fun _ _ _ h => h) (Or.inl ⟨by rfl, ?_⟩) hHeld ?_ ?_
           rotate_left; exact qA7_c3; rotate_left; exact qA7_c0
           refine pure_ (i := 15) (N := some 27) (v := ?_) (a' := ?_) qA7_b16 rfl rfl (qA7_1) (fun _ _ _ h => h) (Or.inl ⟨by rfl, ?_⟩) ?_ ?_
           rotate_left; exact qA7_c1; rotate_left; exact qA7_c0
           refine pure_ (i := 16) (N := some 28) (v := ?_) (a' := ?_) qA7_b17 rfl rfl (qA7_1) (fun _ _ _ h => h) (Or.inl ⟨by rfl, ?_⟩) ?_ ?_
           rotate_left; exact qA7_c1; rotate_left; exact qA7_c0
           refine pure_ (i := 17) (N := some 29) (v := ?_) (a' := ?_) qA7_b18 rfl rfl (qA7_1) (fun _ _ _ h => h) (Or.inl ⟨by rfl, ?_⟩) ?_ ?_
           rotate_left; exact qA7_c1; rotate_left; exact qA7_c0
           refine done_ (qA7_9) ?_
           try go_wp2
           go_roundg k1
           case measure => have := HK1.out; omega
           case rel => exact ⟨(wrap64 (x7_1 + 1)), (qA7_7), H', ⟨by have := HK1.out; omega⟩, ⟨(qA7_2)⟩⟩
         ·rw [if_neg c10] at H
          exact absurd H (by simp)
        ·rw [if_neg c9] at H
         exact absurd H (by simp)
       ·rw [if_neg c7] at H
        have c7b0 : decide (0 < x7_1) = false := decide_eq_false c7
        clear c7
        have H' := Aside0.mk H
        clear H
        have p214 : 0 ≤ (x7_1 : Int) := of_decide_eq_true (qA7_5)
        have q214 : x7_1 < (l0.length : Int) := of_decide_eq_true (qA7_5)
        obtain ⟨ad214, e214, hx214_0, hx214_1, hx214_2, hx214_3, hx214_4⟩ := at_T43 HR0.out x7_1 p214 q214
        cases e214
        replace hx214_0 := (HB.out.cell (World.block_lt_of_cell? w _ hx214_0)).trans hx214_0
        replace hx214_1 := (HB.out.cell (World.block_lt_of_cell? w _ hx214_1)).trans hx214_1
        replace hx214_2 := (HB.out.cell (World.block_lt_of_cell? w _ hx214_2)).trans hx214_2
        replace hx214_3 := (HB.out.cell (World.block_lt_of_cell? w _ hx214_3)).trans hx214_3
        replace hx214_4 := (HB.out.cell (World.block_lt_of_cell? w _ hx214_4)).trans hx214_4
        replace p214 := eq_true p214
        replace q214 := eq_true q214
        try go_wp2_with (first | ((with_reducible refine gate_dst (N := 4) rfl ?_); refine box_event ?hg (N := 4) ?hd (cs := #[.int .i64 0, .int .i64 0, .int .i64 0, .int .i64 0, .int .i64 0]) (t := 43) ?hr ?_; (case hd => rfl); (case hg => rfl); (case hr => exact (qA7_8)); intro gb215 hg w22 hbox hb; have n0_ := Aside0.mk (below_step (qA7_3) hb); have n1_ := Aside0.mk (hbox); have n2_ := Aside0.mk ((by rw [hg]; exact (below_size (qA7_3)) : w.heap.size ≤ gb215)); have n3_ := Aside0.mk ((by rw [hg]; exact (below_size (qA7_3)) : w.heap.size ≤ gb215)); clear HB; have HB := n0_; have BK215 := n1_; have GW215 := n2_; have GE215 := n3_; clear n0_ n1_ n2_ n3_; clear hb hbox hg; have hcz23_0 : w22.cell? ⟨gb215, 0, none⟩ = some (.int .i64 0) := (blk_cell BK215.out 0).trans rfl; have hcz23_1 : w22.cell? ⟨gb215, 1, none⟩ = some (.int .i64 0) := (blk_cell BK215.out 1).trans rfl; have hcz23_2 : w22.cell? ⟨gb215, 2, none⟩ = some (.int .i64 0) := (blk_cell BK215.out 2).trans rfl; have hcz23_3 : w22.cell? ⟨gb215, 3, none⟩ = some (.int .i64 0) := (blk_cell BK215.out 3).trans rfl; have hcz23_4 : w22.cell? ⟨gb215, 4, none⟩ = some (.int .i64 0) := (blk_cell BK215.out 4).trans rfl; have hfz23_0 := blk_frozen BK215.out 0; have hfz23_1 := blk_frozen BK215.out 1; have hfz23_2 := blk_frozen BK215.out 2; have hfz23_3 := blk_frozen BK215.out 3; have hfz23_4 := blk_frozen BK215.out 4))
        have n0_ : Aside0 ((((((w22.setCell ⟨gb215, 0, none⟩ (.int .i64 ((rd_T43 l0 x7_1).f0))).setCell ⟨gb215, 1, none⟩ (.int .i64 ((rd_T43 l0 x7_1).f1))).setCell ⟨gb215, 2, none⟩ (.int .i64 ((rd_T43 l0 x7_1).f2))).setCell ⟨gb215, 3, none⟩ (.int .i64 ((rd_T43 l0 x7_1).f3))).setCell ⟨gb215, 4, none⟩ (.int .i64 ((rd_T43 l0 x7_1).f4))).heap[gb215]? = some (.cells #[.int .i64 ((rd_T43 l0 x7_1).f0), .int .i64 ((rd_T43 l0 x7_1).f1), .int .i64 ((rd_T43 l0 x7_1).f2), .int .i64 ((rd_T43 l0 x7_1).f3), .int .i64 ((rd_T43 l0 x7_1).f4)] 43 (0, 0))) := ⟨(qA7_0)⟩
        have n1_ : Aside0 (Below w.heap.size w (((((w22.setCell ⟨gb215, 0, none⟩ (.int .i64 ((rd_T43 l0 x7_1).f0))).setCell ⟨gb215, 1, none⟩ (.int .i64 ((rd_T43 l0 x7_1).f1))).setCell ⟨gb215, 2, none⟩ (.int .i64 ((rd_T43 l0 x7_1).f2))).setCell ⟨gb215, 3, none⟩ (.int .i64 ((rd_T43 l0 x7_1).f3))).setCell ⟨gb215, 4, none⟩ (.int .i64 ((rd_T43 l0 x7_1).f4)))) := ⟨(qA7_2)⟩
        (try clear BK215)
        (try clear HB)
        generalize (((((w22.setCell ⟨gb215, 0, none⟩ (.int .i64 ((rd_T43 l0 x7_1).f0))).setCell ⟨gb215, 1, none⟩ (.int .i64 ((rd_T43 l0 x7_1).f1))).setCell ⟨gb215, 2, none⟩ (.int .i64 ((rd_T43 l0 x7_1).f2))).setCell ⟨gb215, 3, none⟩ (.int .i64 ((rd_T43 l0 x7_1).f3))).setCell ⟨gb215, 4, none⟩ (.int .i64 ((rd_T43 l0 x7_1).f4))) = w24 at n0_ n1_ ⊢
        have BK215 := n0_
        have HB := n1_
        clear n0_ n1_
        have n0_ := Aside0.mk (blk_drew BK215.out)
        have n1_ := Aside0.mk (below_drew1 HB.out)
        clear BK215; clear HB
        have BK215 := n0_
        have HB := n1_
        clear n0_ n1_
        refine start_ (n := 18) (S := fun w' => w'.cell? ⟨gb215, 0, none⟩ = some (.int .i64 ((rd_T43 l0 x7_1).f0)) ∧ w'.cell? ⟨gb215, 1, none⟩ = some (.int .i64 ((rd_T43 l0 x7_1).f1)) ∧ w'.cell? ⟨gb215, 2, none⟩ = some (.int .i64 ((rd_T43 l0 x7_1).f2)) ∧ w'.cell? ⟨gb215, 3, none⟩ = some (.int .i64 ((rd_T43 l0 x7_1).f3)) ∧ w'.cell? ⟨gb215, 4, none⟩ = some (.int .i64 ((rd_T43 l0 x7_1).f4))) (ds := []) qA7_b0 (by kernel_rfl) rfl rfl ⟨(blk_cell BK215.out 0).trans rfl, (blk_cell BK215.out 1).trans rfl, (blk_cell BK215.out 2).trans rfl, (blk_cell BK215.out 3).trans rfl, (blk_cell BK215.out 4).trans rfl⟩ (fun hHeld => ?_); refine with_tabW impl_ArePassages.tab4 impl_ArePassages.bits4 (fun HT_ HW_ => ?_)
        generalize w24.drew = w25 at BK215 HB hHeld ⊢
        refine take_ (i := 0) (N := some 12) (v := ?_) (a' := ?_) qA7_b1 rfl rfl (take_ofW HT_.out HW_.out (by kernel_rfl)) (fun _ _ _ h => h) (Or.inl ⟨by rfl, ?_⟩) hHeld ?_ ?_
        rotate_left
        ·rintro w' ⟨s0, s1, s2, s3, s4⟩
         go_simp
         with_reducible rfl
        rotate_left
        ·exact qA7_c0
        refine one_ (i := 1) (N := some 13) qA7_b2 rfl rfl (qA7_10) (by decide) (fun K hK => ?_)
        refine goes_ Tryd.func42 (by kernel_rfl) rfl #[.agg #[.int .i64 ((rd_T43 l0 x7_1).f0), .int .i64 ((rd_T43 l0 x7_1).f1), .int .i64 ((rd_T43 l0 x7_1).f2), .int .i64 ((rd_T43 l0 x7_1).f3), .int .i64 ((rd_T43 l0 x7_1).f4)]] (by rfl) rfl rfl (qA7_4) ?_
        with_reducible refine (impl_isPassage.calls ((rd_T43 l0 x7_1).f0) ((rd_T43 l0 x7_1).f1) ((rd_T43 l0 x7_1).f2) ((rd_T43 l0 x7_1).f3) ((rd_T43 l0 x7_1).f4) true _ A5.out).mono ?_
        rintro e w26 ⟨rfl, hb⟩
        refine ⟨_, rfl, ?_⟩
        have n0_ := Aside0.mk (blk_below (g := gb215) (o := .cells #[.int .i64 ((rd_T43 l0 x7_1).f0), .int .i64 ((rd_T43 l0 x7_1).f1), .int .i64 ((rd_T43 l0 x7_1).f2), .int .i64 ((rd_T43 l0 x7_1).f3), .int .i64 ((rd_T43 l0 x7_1).f4)] 43 (0, 0)) (qA7_6) hb)
        have n1_ := Aside0.mk (below_step (qA7_2) hb)
        clear BK215; clear HB
        have BK215 := n0_
        have HB := n1_
        clear n0_ n1_
        (try clear hb)
        (try clear hb2)
        (try clear hk)
        (try clear hi)
        refine hK.out _ _ ⟨(blk_cell BK215.out 0).trans rfl, (blk_cell BK215.out 1).trans rfl, (blk_cell BK215.out 2).trans rfl, (blk_cell BK215.out 3).trans rfl, (blk_cell BK215.out 4).trans rfl⟩ (fun hHeld => ?_)
        clear hK K
        refine norm_ (a' := ?_) ?_ ?_
        rotate_left
        ·exact qA7_c2
        refine pure_ (i := 2) (N := some 14) (v := ?_) (a' := ?_) qA7_b3 rfl rfl (qA7_1) (fun _ _ _ h => h) (Or.inl ⟨by rfl, ?_⟩) ?_ ?_
        rotate_left; exact qA7_c1; rotate_left; exact qA7_c0
        refine pure_ (i := 3) (N := some 15) (v := ?_) (a' := ?_) qA7_b4 rfl rfl (qA7_1) (fun _ _ _ h => h) (Or.inl ⟨by rfl, ?_⟩) ?_ ?_
        rotate_left; exact qA7_c1; rotate_left; exact qA7_c0
        refine pure_ (i := 4) (N := some 16) (v := ?_) (a' := ?_) qA7_b5 rfl rfl (qA7_1) (fun _ _ _ h => h) (Or.inl ⟨by rfl, ?_⟩) ?_ ?_
        rotate_left; exact qA7_c1; rotate_left; exact qA7_c0
        refine pure_ (i := 5) (N := some 17) (v := ?_) (a' := ?_) qA7_b6 rfl rfl (qA7_1) (fun _ _ _ h => h) (Or.inl ⟨by rfl, ?_⟩) ?_ ?_
        rotate_left; exact qA7_c1; rotate_left; exact qA7_c0
        refine pure_ (i := 6) (N := some 18) (v := ?_) (a' := ?_) qA7_b7 rfl rfl (qA7_1) (fun _ _ _ h => h) (Or.inl ⟨by rfl, ?_⟩) ?_ ?_
        rotate_left; exact qA7_c1; rotate_left; exact qA7_c0
        refine pure_ (i := 7) (N := some 19) (v := undef) (a' := ?_) qA7_b8 rfl rfl (qA7_1) (fun _ _ _ h => h) (Or.inr ⟨by rfl, rfl⟩) ?_ ?_
        rotate_left
        ·exact qA7_c0
        refine pure_ (i := 8) (N := some 20) (v := undef) (a' := ?_) qA7_b9 rfl rfl (qA7_1) (fun _ _ _ h => h) (Or.inr ⟨by rfl, rfl⟩) ?_ ?_
        rotate_left
        ·exact qA7_c0
        refine pure_ (i := 9) (N := some 21) (v := undef) (a' := ?_) qA7_b10 rfl rfl (qA7_1) (fun _ _ _ h => h) (Or.inr ⟨by rfl, rfl⟩) ?_ ?_
        rotate_left
        ·exact qA7_c0
        refine pure_ (i := 10) (N := some 22) (v := undef) (a' := ?_) qA7_b11 rfl rfl (qA7_1) (fun _ _ _ h => h) (Or.inr ⟨by rfl, rfl⟩) ?_ ?_
        rotate_left
        ·exact qA7_c0
        refine pure_ (i := 11) (N := some 23) (v := undef) (a' := ?_) qA7_b12 rfl rfl (qA7_1) (fun _ _ _ h => h) (Or.inr ⟨by rfl, rfl⟩) ?_ ?_
        rotate_left
        ·exact qA7_c0
        refine pure_ (i := 12) (N := some 24) (v := undef) (a' := ?_) qA7_b19 rfl rfl (qA7_1) (fun _ _ _ h => h) (Or.inr ⟨by rfl, rfl⟩) ?_ ?_
        rotate_left
        ·exact qA7_c0
        refine pure_ (i := 13) (N := some 25) (v := undef) (a' := ?_) qA7_b14 rfl rfl (qA7_1) (fun _ _ _ h => h) (Or.inr ⟨by rfl, rfl⟩) ?_ ?_
        rotate_left
        ·exact qA7_c0
        refine pure_ (i := 14) (N := some 26) (v := undef) (a' := ?_) qA7_b15 rfl rfl (qA7_1) (fun _ _ _ h => h) (Or.inr ⟨by rfl, rfl⟩) ?_ ?_
        rotate_left
        ·exact qA7_c0
        refine pure_ (i := 15) (N := some 27) (v := undef) (a' := ?_) qA7_b16 rfl rfl (qA7_1) (fun _ _ _ h => h) (Or.inr ⟨by rfl, rfl⟩) ?_ ?_
        rotate_left
        ·exact qA7_c0
        refine pure_ (i := 16) (N := some 28) (v := ?_) (a' := ?_) qA7_b17 rfl rfl (qA7_1) (fun _ _ _ h => h) (Or.inl ⟨by rfl, ?_⟩) ?_ ?_
        rotate_left; exact qA7_c1; rotate_left; exact qA7_c0
        refine pure_ (i := 17) (N := some 29) (v := ?_) (a' := ?_) qA7_b18 rfl rfl (qA7_1) (fun _ _ _ h => h) (Or.inl ⟨by rfl, ?_⟩) ?_ ?_
        rotate_left; exact qA7_c1; rotate_left; exact qA7_c0
        refine done_ (qA7_9) ?_
        try go_wp2
        go_roundg k1
        case measure => have := HK1.out; omega
        case rel => exact ⟨(wrap64 (x7_1 + 1)), (qA7_7), H', ⟨by have := HK1.out; omega⟩, ⟨(qA7_2)⟩⟩
      ·replace c6 := Bool.eq_false_iff.mpr c6
       subst c6
       have H1 : (some false) = some r := by rw [if_neg (show ¬ (false = true) by decide)] at H; exact H
       clear H; have H := H1; clear H1; obtain rfl := Option.some.inj H
       have p214 : 0 ≤ (x7_1 : Int) := of_decide_eq_true (qA7_5)
       have q214 : x7_1 < (l0.length : Int) := of_decide_eq_true (qA7_5)
       obtain ⟨ad214, e214, hx214_0, hx214_1, hx214_2, hx214_3, hx214_4⟩ := at_T43 HR0.out x7_1 p214 q214
       cases e214
       replace hx214_0 := (HB.out.cell (World.block_lt_of_cell? w _ hx214_0)).trans hx214_0
       replace hx214_1 := (HB.out.cell (World.block_lt_of_cell? w _ hx214_1)).trans hx214_1
       replace hx214_2 := (HB.out.cell (World.block_lt_of_cell? w _ hx214_2)).trans hx214_2
       replace hx214_3 := (HB.out.cell (World.block_lt_of_cell? w _ hx214_3)).trans hx214_3
       replace hx214_4 := (HB.out.cell (World.block_lt_of_cell? w _ hx214_4)).trans hx214_4
       replace p214 := eq_true p214
       replace q214 := eq_true q214
       try go_wp2_with (first | ((with_reducible refine gate_dst (N := 4) rfl ?_); refine box_event ?hg (N := 4) ?hd (cs := #[.int .i64 0, .int .i64 0, .int .i64 0, .int .i64 0, .int .i64 0]) (t := 43) ?hr ?_; (case hd => rfl); (case hg => rfl); (case hr => exact (qA7_8)); intro gb215 hg w27 hbox hb; have n0_ := Aside0.mk (below_step (qA7_3) hb); have n1_ := Aside0.mk (hbox); have n2_ := Aside0.mk ((by rw [hg]; exact (below_size (qA7_3)) : w.heap.size ≤ gb215)); have n3_ := Aside0.mk ((by rw [hg]; exact (below_size (qA7_3)) : w.heap.size ≤ gb215)); clear HB; have HB := n0_; have BK215 := n1_; have GW215 := n2_; have GE215 := n3_; clear n0_ n1_ n2_ n3_; clear hb hbox hg; have hcz28_0 : w27.cell? ⟨gb215, 0, none⟩ = some (.int .i64 0) := (blk_cell BK215.out 0).trans rfl; have hcz28_1 : w27.cell? ⟨gb215, 1, none⟩ = some (.int .i64 0) := (blk_cell BK215.out 1).trans rfl; have hcz28_2 : w27.cell? ⟨gb215, 2, none⟩ = some (.int .i64 0) := (blk_cell BK215.out 2).trans rfl; have hcz28_3 : w27.cell? ⟨gb215, 3, none⟩ = some (.int .i64 0) := (blk_cell BK215.out 3).trans rfl; have hcz28_4 : w27.cell? ⟨gb215, 4, none⟩ = some (.int .i64 0) := (blk_cell BK215.out 4).trans rfl; have hfz28_0 := blk_frozen BK215.out 0; have hfz28_1 := blk_frozen BK215.out 1; have hfz28_2 := blk_frozen BK215.out 2; have hfz28_3 := blk_frozen BK215.out 3; have hfz28_4 := blk_frozen BK215.out 4))
       have n0_ : Aside0 ((((((w27.setCell ⟨gb215, 0, none⟩ (.int .i64 ((rd_T43 l0 x7_1).f0))).setCell ⟨gb215, 1, none⟩ (.int .i64 ((rd_T43 l0 x7_1).f1))).setCell ⟨gb215, 2, none⟩ (.int .i64 ((rd_T43 l0 x7_1).f2))).setCell ⟨gb215, 3, none⟩ (.int .i64 ((rd_T43 l0 x7_1).f3))).setCell ⟨gb215, 4, none⟩ (.int .i64 ((rd_T43 l0 x7_1).f4))).heap[gb215]? = some (.cells #[.int .i64 ((rd_T43 l0 x7_1).f0), .int .i64 ((rd_T43 l0 x7_1).f1), .int .i64 ((rd_T43 l0 x7_1).f2), .int .i64 ((rd_T43 l0 x7_1).f3), .int .i64 ((rd_T43 l0 x7_1).f4)] 43 (0, 0))) := ⟨(qA7_0)⟩
       have n1_ : Aside0 (Below w.heap.size w (((((w27.setCell ⟨gb215, 0, none⟩ (.int .i64 ((rd_T43 l0 x7_1).f0))).setCell ⟨gb215, 1, none⟩ (.int .i64 ((rd_T43 l0 x7_1).f1))).setCell ⟨gb215, 2, none⟩ (.int .i64 ((rd_T43 l0 x7_1).f2))).setCell ⟨gb215, 3, none⟩ (.int .i64 ((rd_T43 l0 x7_1).f3))).setCell ⟨gb215, 4, none⟩ (.int .i64 ((rd_T43 l0 x7_1).f4)))) := ⟨(qA7_2)⟩
       (try clear BK215)
       (try clear HB)
       generalize (((((w27.setCell ⟨gb215, 0, none⟩ (.int .i64 ((rd_T43 l0 x7_1).f0))).setCell ⟨gb215, 1, none⟩ (.int .i64 ((rd_T43 l0 x7_1).f1))).setCell ⟨gb215, 2, none⟩ (.int .i64 ((rd_T43 l0 x7_1).f2))).setCell ⟨gb215, 3, none⟩ (.int .i64 ((rd_T43 l0 x7_1).f3))).setCell ⟨gb215, 4, none⟩ (.int .i64 ((rd_T43 l0 x7_1).f4))) = w29 at n0_ n1_ ⊢
       have BK215 := n0_
       have HB := n1_
       clear n0_ n1_
       have n0_ := Aside0.mk (blk_drew BK215.out)
       have n1_ := Aside0.mk (below_drew1 HB.out)
       clear BK215; clear HB
       have BK215 := n0_
       have HB := n1_
       clear n0_ n1_
       refine start_ (n := 18) (S := fun w' => w'.cell? ⟨gb215, 0, none⟩ = some (.int .i64 ((rd_T43 l0 x7_1).f0)) ∧ w'.cell? ⟨gb215, 1, none⟩ = some (.int .i64 ((rd_T43 l0 x7_1).f1)) ∧ w'.cell? ⟨gb215, 2, none⟩ = some (.int .i64 ((rd_T43 l0 x7_1).f2)) ∧ w'.cell? ⟨gb215, 3, none⟩ = some (.int .i64 ((rd_T43 l0 x7_1).f3)) ∧ w'.cell? ⟨gb215, 4, none⟩ = some (.int .i64 ((rd_T43 l0 x7_1).f4))) (ds := []) qA7_b0 (by kernel_rfl) rfl rfl ⟨(blk_cell BK215.out 0).trans rfl, (blk_cell BK215.out 1).trans rfl, (blk_cell BK215.out 2).trans rfl, (blk_cell BK215.out 3).trans rfl, (blk_cell BK215.out 4).trans rfl⟩ (fun hHeld => ?_); refine with_tabW impl_ArePassages.tab4 impl_ArePassages.bits4 (fun HT_ HW_ => ?_)
       generalize w29.drew = w30 at BK215 HB hHeld ⊢
       refine take_ (i := 0) (N := some 12) (v := ?_) (a' := ?_) qA7_b1 rfl rfl (take_ofW HT_.out HW_.out (by kernel_rfl)) (fun _ _ _ h => h) (Or.inl ⟨by rfl, ?_⟩) hHeld ?_ ?_
       rotate_left
       ·rintro w' ⟨s0, s1, s2, s3, s4⟩
        go_simp
        with_reducible rfl
       rotate_left
       ·exact qA7_c0
       refine one_ (i := 1) (N := some 13) qA7_b2 rfl rfl (qA7_10) (by decide) (fun K hK => ?_)
       refine goes_ Tryd.func42 (by kernel_rfl) rfl #[.agg #[.int .i64 ((rd_T43 l0 x7_1).f0), .int .i64 ((rd_T43 l0 x7_1).f1), .int .i64 ((rd_T43 l0 x7_1).f2), .int .i64 ((rd_T43 l0 x7_1).f3), .int .i64 ((rd_T43 l0 x7_1).f4)]] (by rfl) rfl rfl (qA7_4) ?_
       with_reducible refine (impl_isPassage.calls ((rd_T43 l0 x7_1).f0) ((rd_T43 l0 x7_1).f1) ((rd_T43 l0 x7_1).f2) ((rd_T43 l0 x7_1).f3) ((rd_T43 l0 x7_1).f4) false _ A5.out).mono ?_
       rintro e w31 ⟨rfl, hb⟩
       refine ⟨_, rfl, ?_⟩
       have n0_ := Aside0.mk (blk_below (g := gb215) (o := .cells #[.int .i64 ((rd_T43 l0 x7_1).f0), .int .i64 ((rd_T43 l0 x7_1).f1), .int .i64 ((rd_T43 l0 x7_1).f2), .int .i64 ((rd_T43 l0 x7_1).f3), .int .i64 ((rd_T43 l0 x7_1).f4)] 43 (0, 0)) (qA7_6) hb)
       have n1_ := Aside0.mk (below_step (qA7_2) hb)
       clear BK215; clear HB
       have BK215 := n0_
       have HB := n1_
       clear n0_ n1_
       (try clear hb)
       (try clear hb2)
       (try clear hk)
       (try clear hi)
       refine hK.out _ _ ⟨(blk_cell BK215.out 0).trans rfl, (blk_cell BK215.out 1).trans rfl, (blk_cell BK215.out 2).trans rfl, (blk_cell BK215.out 3).trans rfl, (blk_cell BK215.out 4).trans rfl⟩ (fun hHeld => ?_)
       clear hK K
       refine norm_ (a' := ?_) ?_ ?_
       rotate_left
       ·exact qA7_c2
       refine pure_ (i := 2) (N := some 14) (v := ?_) (a' := ?_) qA7_b3 rfl rfl (qA7_1) (fun _ _ _ h => h) (Or.inl ⟨by rfl, ?_⟩) ?_ ?_
       rotate_left; exact qA7_c1; rotate_left; exact qA7_c0
       refine pure_ (i := 3) (N := some 15) (v := ?_) (a' := ?_) qA7_b4 rfl rfl (qA7_1) (fun _ _ _ h => h) (Or.inl ⟨by rfl, ?_⟩) ?_ ?_
       rotate_left; exact qA7_c1; rotate_left; exact qA7_c0
       refine pure_ (i := 4) (N := some 16) (v := undef) (a' := ?_) qA7_b5 rfl rfl (qA7_1) (fun _ _ _ h => h) (Or.inr ⟨by rfl, rfl⟩) ?_ ?_
       rotate_left
       ·exact qA7_c0
       refine pure_ (i := 5) (N := some 17) (v := undef) (a' := ?_) qA7_b6 rfl rfl (qA7_1) (fun _ _ _ h => h) (Or.inr ⟨by rfl, rfl⟩) ?_ ?_
       rotate_left
       ·exact qA7_c0
       refine pure_ (i := 6) (N := some 18) (v := undef) (a' := ?_) qA7_b7 rfl rfl (qA7_1) (fun _ _ _ h => h) (Or.inr ⟨by rfl, rfl⟩) ?_ ?_
       rotate_left
       ·exact qA7_c0
       refine pure_ (i := 7) (N := some 19) (v := undef) (a' := ?_) qA7_b8 rfl rfl (qA7_1) (fun _ _ _ h => h) (Or.inr ⟨by rfl, rfl⟩) ?_ ?_
       rotate_left
       ·exact qA7_c0
       refine pure_ (i := 8) (N := some 20) (v := undef) (a' := ?_) qA7_b9 rfl rfl (qA7_1) (fun _ _ _ h => h) (Or.inr ⟨by rfl, rfl⟩) ?_ ?_
       rotate_left
       ·exact qA7_c0
       refine pure_ (i := 9) (N := some 21) (v := undef) (a' := ?_) qA7_b10 rfl rfl (qA7_1) (fun _ _ _ h => h) (Or.inr ⟨by rfl, rfl⟩) ?_ ?_
       rotate_left
       ·exact qA7_c0
       refine pure_ (i := 10) (N := some 22) (v := undef) (a' := ?_) qA7_b11 rfl rfl (qA7_1) (fun _ _ _ h => h) (Or.inr ⟨by rfl, rfl⟩) ?_ ?_
       rotate_left
       ·exact qA7_c0
       refine pure_ (i := 11) (N := some 23) (v := undef) (a' := ?_) qA7_b12 rfl rfl (qA7_1) (fun _ _ _ h => h) (Or.inr ⟨by rfl, rfl⟩) ?_ ?_
       rotate_left
       ·exact qA7_c0
       refine pure_ (i := 12) (N := some 24) (v := undef) (a' := ?_) qA7_b19 rfl rfl (qA7_1) (fun _ _ _ h => h) (Or.inr ⟨by rfl, rfl⟩) ?_ ?_
       rotate_left
       ·exact qA7_c0
       refine pure_ (i := 13) (N := some 25) (v := undef) (a' := ?_) qA7_b14 rfl rfl (qA7_1) (fun _ _ _ h => h) (Or.inr ⟨by rfl, rfl⟩) ?_ ?_
       rotate_left
       ·exact qA7_c0
       refine pure_ (i := 14) (N := some 26) (v := undef) (a' := ?_) qA7_b15 rfl rfl (qA7_1) (fun _ _ _ h => h) (Or.inr ⟨by rfl, rfl⟩) ?_ ?_
       rotate_left
       ·exact qA7_c0
       refine pure_ (i := 15) (N := some 27) (v := undef) (a' := ?_) qA7_b16 rfl rfl (qA7_1) (fun _ _ _ h => h) (Or.inr ⟨by rfl, rfl⟩) ?_ ?_
       rotate_left
       ·exact qA7_c0
       refine pure_ (i := 16) (N := some 28) (v := undef) (a' := ?_) qA7_b17 rfl rfl (qA7_1) (fun _ _ _ h => h) (Or.inr ⟨by rfl, rfl⟩) ?_ ?_
       rotate_left
       ·exact qA7_c0
       refine pure_ (i := 17) (N := some 29) (v := ?_) (a' := ?_) qA7_b18 rfl rfl (qA7_1) (fun _ _ _ h => h) (Or.inl ⟨by rfl, ?_⟩) ?_ ?_
       rotate_left; exact qA7_c1; rotate_left; exact qA7_c0
       refine done_ (qA7_9) ?_
       try go_wp2
       go_ret
       exact ⟨(qA7_11), (qA7_2)⟩
     ·rw [if_neg c4] at H
      exact absurd H (by simp)
    ·rw [if_neg c3] at H
     exact absurd H (by simp)
   ·rw [if_neg c2] at H
    have c2b0 : decide (x7_1 < (l0.length : Int)) = false := decide_eq_false c2
    clear c2; obtain rfl := Option.some.inj H
    go_wp2
    go_ret
    exact ⟨(qA7_11), (qA7_3)⟩

/-! ### impl_isBearing: function 59 -/
def impl_isBearing.f (a0 : Int) : Option (Bool) := (impl_within.f a0 0 359).bind fun t218 => (some t218)
set_option maxHeartbeats 8000000 in
set_option maxRecDepth 100000 in
theorem impl_isBearing.calls (a0 : Int) (r : Bool) (w : World) (h : impl_isBearing.f a0 = some r) :
  Calls Tryd.prog 59 #[.int .i64 a0] w fun e w' => e = .returned (.bool r) ∧ Drawn0 w w' := by
 have H : ((impl_within.f a0 0 359).bind fun t218 => (some t218)) = some r := h
 clear h; replace H := Option.bind_eq_some_iff.mp H; obtain ⟨t218, A20, H⟩ := H
 replace H : (some t218) = some r := H
 have A2 := Aside0.mk A20; clear A20; obtain rfl := Option.some.inj H
 go_enter Tryd.func59, Tryd.ntmps59
 go_wp2_with (first | ((with_reducible refine gate_callee (f := 58) rfl ?_); refine goesL_ (some 4) rfl rfl Tryd.func58 (by kernel_rfl) rfl #[.int .i64 a0, .int .i64 0, .int .i64 359] rfl (qA7_4) ?_; (with_reducible refine (impl_within.calls a0 0 359 t218 _ A2.out).mono ?_); rintro e w' ⟨rfl, ⟨nd, rfl⟩⟩; refine ⟨_, rfl, ?_⟩))
 go_ret
 exact ⟨(qA7_7), (by repeat (first | exact Drawn0.refl _ | apply Drawn0.step))⟩

end Go.Proofs.YtfbkhdlhkfbfcaaDoor.MA
