-- Written by a program of this session (wip/drv.py, wip/tight.py).
import Derived.Test.YtfbkhdlhkfbfcaaDoorMAx0
import Derived.Test.YtfbkhdlhkfbfcaaDoorMAx1
namespace Go.Proofs.YtfbkhdlhkfbfcaaDoor.MA
open Go.RowKit Go.Proofs.YtfbkhdlhkfbfcaaDoorW.PrintWords Go.Proofs.YtfbkhdlhkfbfcaaDoorW.PrintLast Go.Proofs.YtfbkhdlhkfbfcaaDoorW.PrintMore
theorem qA2_0 {p : Prop} (h : p := by exact any_of HT_.out (by kernel_rfl)) : p := h
theorem qA2_1 {p : Prop} (h : p := by repeat (first | (with_reducible first | exact HB.out | apply below_alloc | apply pw_below_drewN | apply below_drew1) | exact HB.out)) : p := h
theorem qA2_2 {p : Prop} (h : p := by first | (with_reducible assumption) | assumption) : p := h
theorem qA2_3 {p : Prop} (h : p := by (try simp only [List.map_toArray, List.map_cons, List.map_nil]); first | done | rfl | (simp only [List.length_drop, List.length_take]; rfl)) : p := h
theorem qA2_4 {p : Prop} (h : p := by exact done_of HT_.out (by kernel_rfl)) : p := h
theorem qA2_5 {p : Prop} (h : p := by exact one_of HT_.out (by kernel_rfl)) : p := h
theorem qA2_6 {p : Prop} (h : p := by first | rfl | (simp [errW_none, errW_some] <;> rfl) | (simp [*, errW_none, errW_some] <;> rfl)) : p := h
theorem qA2_c0 {p : Prop} (h : p := by
  simp only [Act.put, List.setIfInBounds_toArray, List.set_cons_zero, List.set_cons_succ, i64_w, i32_w]
  rfl) : p := h
theorem qA2_c1 {p : Prop} (h : p := by
  intro w'
  go_simp
  with_reducible rfl) : p := h
theorem qA2_c2 {p : Prop} (h : p := by
  rintro w' ⟨s0, s1, s2, s3, s4, s5, s6, s7, s8, s9, s10, s11, s12, s13, s14⟩
  go_simp
  with_reducible rfl) : p := h
theorem qA2_c3 {p : Prop} (h : p := by
  show Act.put _ (some 14) _ = _
  simp only [Act.put, List.setIfInBounds_toArray, List.set_cons_zero, List.set_cons_succ, i64_w, i32_w]
  rfl) : p := h
abbrev qA2_b0 : Array Bool := #[false, false, false, false, false, false, false, false, false, false, false, false, false, false, false, false, false, false, false, false, false, false, false, false]
abbrev qA2_b1 : Array Bool := #[true, false, false, false, false, false, false, false, false, false, false, false, false, false, false, false, false, false, false, false, false, false, false, false]
abbrev qA2_b2 : Array Bool := #[true, true, false, false, false, false, false, false, false, false, false, false, false, false, false, false, false, false, false, false, false, false, false, false]
abbrev qA2_b3 : Array Bool := #[true, true, true, false, false, false, false, false, false, false, false, false, false, false, false, false, false, false, false, false, false, false, false, false]
abbrev qA2_b4 : Array Bool := #[true, true, true, true, false, false, false, false, false, false, false, false, false, false, false, false, false, false, false, false, false, false, false, false]
abbrev qA2_b5 : Array Bool := #[true, true, true, true, true, false, false, false, false, false, false, false, false, false, false, false, false, false, false, false, false, false, false, false]
abbrev qA2_b6 : Array Bool := #[true, true, true, true, true, true, false, false, false, false, false, false, false, false, false, false, false, false, false, false, false, false, false, false]
abbrev qA2_b7 : Array Bool := #[true, true, true, true, true, true, true, false, false, false, false, false, false, false, false, false, false, false, false, false, false, false, false, false]
abbrev qA2_b8 : Array Bool := #[true, true, true, true, true, true, true, true, false, false, false, false, false, false, false, false, false, false, false, false, false, false, false, false]
abbrev qA2_b9 : Array Bool := #[true, true, true, true, true, true, true, true, true, false, false, false, false, false, false, false, false, false, false, false, false, false, false, false]
abbrev qA2_b10 : Array Bool := #[true, true, true, true, true, true, true, true, true, true, false, false, false, false, false, false, false, false, false, false, false, false, false, false]
abbrev qA2_b11 : Array Bool := #[true, true, true, true, true, true, true, true, true, true, true, false, false, false, false, false, false, false, false, false, false, false, false, false]
abbrev qA2_b12 : Array Bool := #[true, true, true, true, true, true, true, true, true, true, true, true, false, false, false, false, false, false, false, false, false, false, false, false]
abbrev qA2_b13 : Array Bool := #[true, true, true, true, true, true, true, true, true, true, true, true, true, false, false, false, false, false, false, false, false, false, false, false]
abbrev qA2_b14 : Array Bool := #[true, true, true, true, true, true, true, true, true, true, true, true, true, true, false, false, false, false, false, false, false, false, false, false]
abbrev qA2_b15 : Array Bool := #[true, true, true, true, true, true, true, true, true, true, true, true, true, true, true, false, false, false, false, false, false, false, false, false]
abbrev qA2_b16 : Array Bool := #[true, true, true, true, true, true, true, true, true, true, true, true, true, true, true, false, true, false, false, false, false, false, false, false]
abbrev qA2_b17 : Array Bool := #[true, true, true, true, true, true, true, true, true, true, true, true, true, true, true, false, true, true, false, false, false, false, false, false]
abbrev qA2_b18 : Array Bool := #[true, true, true, true, true, true, true, true, true, true, true, true, true, true, true, false, true, true, true, false, false, false, false, false]
abbrev qA2_b19 : Array Bool := #[true, true, true, true, true, true, true, true, true, true, true, true, true, true, true, false, true, true, true, true, false, false, false, false]
abbrev qA2_b20 : Array Bool := #[true, true, true, true, true, true, true, true, true, true, true, true, true, true, true, true, true, true, true, true, false, false, false, false]
abbrev qA2_b21 : Array Bool := #[true, true, true, true, true, true, true, true, true, true, true, true, true, true, true, true, true, true, true, true, true, false, false, false]
abbrev qA2_b22 : Array Bool := #[true, true, true, true, true, true, true, true, true, true, true, true, true, true, true, true, true, true, true, true, true, true, false, false]
abbrev qA2_b23 : Array Bool := #[true, true, true, true, true, true, true, true, true, true, true, true, true, true, true, true, true, true, true, true, true, true, true, false]
abbrev qA2_b24 : Array Bool := #[true, true, true, true, true, true, true, true, true, true, true, true, true, true, true, true, true, true, true, true, true, true, true, true]
abbrev qA2_b25 : Array Bool := #[true, true, true, true, true, true, true, true, true, true, true, true, true, true, true, true, false, false, false, false, false, false, false, false]
abbrev qA2_b26 : Array Bool := #[true, true, true, true, true, true, true, true, true, true, true, true, true, true, true, true, true, false, false, false, false, false, false, false]
abbrev qA2_b27 : Array Bool := #[true, true, true, true, true, true, true, true, true, true, true, true, true, true, true, true, true, true, false, false, false, false, false, false]
abbrev qA2_b28 : Array Bool := #[true, true, true, true, true, true, true, true, true, true, true, true, true, true, true, true, true, true, true, false, false, false, false, false]
attribute [local go_sem] max2_int min2_int max_two min_two max_three min_three max_four min_four   -- for this text's walks alone
set_option linter.unusedVariables false
set_option linter.unusedSimpArgs false

/-! ### spec_l12Good: function 25 -/
def spec_l12Good.l0 : Nat → List (S43) → Int → Option (Bool)
 | 0, _, _ => none
 | k + 1, x0, x3 => if x3 < (x0.length : Int) then (if 0 ≤ x3 then ((spec_l12One.f ((rd_T43 x0 x3).f0) ((rd_T43 x0 x3).f1) ((rd_T43 x0 x3).f2) ((rd_T43 x0 x3).f3) ((rd_T43 x0 x3).f4)).bind fun t110 => (if t110 = true then (if x3 > 0 then (if 0 ≤ (wrap64 (x3 - 1)) then (if (wrap64 (x3 - 1)) < (x0.length : Int) then (if ((rd_T43 x0 (wrap64 (x3 - 1))).f0) ≥ ((rd_T43 x0 x3).f0) then (some false) else (spec_l12Good.l0 k x0 (wrap64 (x3 + 1)))) else (none)) else (none)) else (spec_l12Good.l0 k x0 (wrap64 (x3 + 1)))) else (some false))) else (none)) else (some true)
def spec_l12Good.f (k : Nat) (l0 : List (S43)) : Option (Bool) := spec_l12Good.l0 k l0 0
theorem spec_l12Good.mono_l : ∀ k, (∀ y0 y1, LeO (spec_l12Good.l0 k y0 y1) (spec_l12Good.l0 (k + 1) y0 y1))
 | 0 => fun _ _ r h => by simp [spec_l12Good.l0] at h
 | k + 1 => by
  have ih0 := spec_l12Good.mono_l k
  ·intro y0 y1
   unfold spec_l12Good.l0
   repeat' first
   | (with_reducible exact ih0 _ _)
   | (with_reducible exact LeO.refl _)
   | (with_reducible exact LeO.none _)
   | (with_reducible refine LeO.ite ?_ ?_)
   | (with_reducible refine LeO.bind ?_ (fun _ => ?_))
   | exact ih0 _ _
   | exact LeO.none _
   | refine LeO.ite ?_ ?_
   | refine LeO.bind ?_ (fun _ => ?_)
theorem spec_l12Good.mono : ∀ a0 k, LeO (spec_l12Good.f k a0) (spec_l12Good.f (k + 1) a0) := by
 intro a0 k
 have ih0 := spec_l12Good.mono_l k
 unfold spec_l12Good.f
 repeat' first
   | (with_reducible exact ih0 _ _)
   | (with_reducible exact LeO.refl _)
   | (with_reducible exact LeO.none _)
   | (with_reducible refine LeO.ite ?_ ?_)
   | (with_reducible refine LeO.bind ?_ (fun _ => ?_))
   | exact ih0 _ _
   | exact LeO.none _
   | refine LeO.ite ?_ ?_
   | refine LeO.bind ?_ (fun _ => ?_)
def spec_l12Good.T4 : Bool × List (List Nat × List Nat) := (true, [([], []), ([], []), ([0, 1], [0, 1]), ([2], [2]), ([3], [3]), ([4], [4]), ([5, 4], [5]), ([6], [6]), ([7, 6], [6, 7]), ([8, 6, 6], [6, 8]), ([9], [9]), ([9], [9]), ([11, 9], [9, 11]), ([10, 12, 9], [9, 10, 12]), ([13, 9], [9, 13]), ([14, 9], [9, 14]), ([9], [9]), ([9], [9]), ([16, 17, 9], [9, 16, 17]), ([18, 9], [9, 18]), ([19, 9], [9, 19]), ([15, 20, 9], [9, 15, 20]), ([9, 21, 6], [6, 9, 21]), ([6, 22], [6, 22])])
def spec_l12Good.B4 : List Nat := [0, 0, 3, 7, 15, 31, 63, 127, 255, 511, 1023, 1023, 3071, 8191, 16383, 32767, 1023, 1023, 197631, 459775, 984063, 2097151, 4194303, 8388607]
theorem spec_l12Good.tab4 : rtab .any (opsOf Tryd.f25 4) = spec_l12Good.T4 := by kernel_rfl
theorem spec_l12Good.bits4 : waitsOk spec_l12Good.T4.2 spec_l12Good.B4 = true := by kernel_rfl
set_option maxHeartbeats 8000000 in
set_option maxRecDepth 100000 in
theorem spec_l12Good.calls (k : Nat) (A0 : Option Addr) (c0 : Nat) (l0 : List (S43)) (r : Bool) (w : World) (hr0 : Kd.C k43 w A0 l0.length l0) (hc0 : l0.length ≤ c0) (h : spec_l12Good.f k l0 = some r) :
  Calls Tryd.prog 25 #[.slice A0 l0.length c0] w fun e w' => e = .returned (.bool r) ∧ Below w.heap.size w w' := by
 have hu43 := Tryd.underlying43
 have HR0 := Aside0.mk hr0; have HC0 := Aside0.mk hc0; clear hr0 hc0
 have HB := Aside0.mk (Below.refl w.heap.size w)
 have H : (spec_l12Good.l0 k l0 0) = some r := h
 clear h
 have H' := Aside0.mk H
 clear H
 go_enter Tryd.func25, Tryd.ntmps25
 go_wp2
 go_loopg [3] k (fun kq v3 w' => ∃ (x3_1 : Int), v3 = .int .i64 x3_1 ∧ Aside0 (spec_l12Good.l0 kq l0 x3_1 = some r) ∧ Aside0 (kq ≤ k) ∧ Aside0 (Below w.heap.size w w'))
 case atStart => exact ⟨(0), (by first | rfl | (simp; done) | (simp [*]; done)), H', ⟨Nat.le_refl _⟩, ⟨(qA2_1)⟩⟩
 case round =>
  clear H'
  obtain ⟨x3_1, rfl, HA, HK1, HB⟩ := hrel
  cases gk with
  | zero => exact absurd HA.out (by simp [spec_l12Good.l0])
  | succ k1 =>
   have H := HA.out
   clear HA
   simp only [spec_l12Good.l0] at H
   by_cases c2 : x3_1 < (l0.length : Int)
   ·rw [if_pos c2] at H
    have c2b0 : decide (x3_1 < (l0.length : Int)) = true := decide_eq_true c2
    clear c2
    by_cases c3 : 0 ≤ x3_1
    ·rw [if_pos c3] at H
     have c3b0 : decide (0 ≤ x3_1) = true := decide_eq_true c3
     clear c3; replace H := Option.bind_eq_some_iff.mp H; obtain ⟨t110, A40, H⟩ := H
     try dsimp only at H
     have A4 := Aside0.mk A40; clear A40
     by_cases c5 : t110 = true
     ·subst c5
      have H1 : (if x3_1 > 0 then (if 0 ≤ (wrap64 (x3_1 - 1)) then (if (wrap64 (x3_1 - 1)) < (l0.length : Int) then (if ((rd_T43 l0 (wrap64 (x3_1 - 1))).f0) ≥ ((rd_T43 l0 x3_1).f0) then (some false) else (spec_l12Good.l0 k1 l0 (wrap64 (x3_1 + 1)))) else (none)) else (none)) else (spec_l12Good.l0 k1 l0 (wrap64 (x3_1 + 1)))) = some r := by rw [if_pos rfl] at H; exact H
      clear H; have H := H1; clear H1
      by_cases c6 : x3_1 > 0
      ·rw [if_pos c6] at H
       have c6b0 : decide (0 < x3_1) = true := decide_eq_true c6
       clear c6
       obtain ⟨ji7, hji7⟩ : ∃ j_ : Int, (wrap64 (x3_1 - 1)) = j_ := ⟨_, rfl⟩
       replace H : (if 0 ≤ (ji7) then (if (ji7) < (l0.length : Int) then (if ((rd_T43 l0 (ji7)).f0) ≥ ((rd_T43 l0 x3_1).f0) then (some false) else (spec_l12Good.l0 k1 l0 (wrap64 (x3_1 + 1)))) else (none)) else (none)) = some r := by first | (rw [hji7] at H; exact H) | (simp only [hji7] at H ⊢; exact H)
       (try rw [hji7] at A4)
       have hji7w : (IntKind.i64.wrap (x3_1 - 1)) = ji7 := (i64_w _).trans hji7
       by_cases c8 : 0 ≤ (ji7)
       ·rw [if_pos c8] at H
        have c8b0 : decide (0 ≤ (ji7)) = true := decide_eq_true c8
        clear c8
        by_cases c9 : (ji7) < (l0.length : Int)
        ·rw [if_pos c9] at H
         have c9b0 : decide ((ji7) < (l0.length : Int)) = true := decide_eq_true c9
         clear c9
         by_cases c10 : ((rd_T43 l0 (ji7)).f0) ≥ ((rd_T43 l0 x3_1).f0)
         ·rw [if_pos c10] at H
          have c10b0 : decide (((rd_T43 l0 x3_1).f0) ≤ ((rd_T43 l0 (ji7)).f0)) = true := decide_eq_true c10
          clear c10; obtain rfl := Option.some.inj H
          try go_wp2
          have n0_ := Aside0.mk (below_drew1 HB.out)
          clear HB
          have HB := n0_
          clear n0_
          have p109 : 0 ≤ (x3_1 : Int) := of_decide_eq_true (qA2_2)
          have q109 : x3_1 < (l0.length : Int) := of_decide_eq_true (qA2_2)
          obtain ⟨ad109, e109, hx109_0, hx109_1, hx109_2, hx109_3, hx109_4⟩ := at_T43 HR0.out x3_1 p109 q109
          have hw109_4 := hx109_4
          have hw109_3 := hx109_3
          have hw109_2 := hx109_2
          have hw109_1 := hx109_1
          have hw109_0 := hx109_0
          cases e109
          replace hx109_0 := (HB.out.cell (World.block_lt_of_cell? w _ hx109_0)).trans hx109_0
          replace hx109_1 := (HB.out.cell (World.block_lt_of_cell? w _ hx109_1)).trans hx109_1
          replace hx109_2 := (HB.out.cell (World.block_lt_of_cell? w _ hx109_2)).trans hx109_2
          replace hx109_3 := (HB.out.cell (World.block_lt_of_cell? w _ hx109_3)).trans hx109_3
          replace hx109_4 := (HB.out.cell (World.block_lt_of_cell? w _ hx109_4)).trans hx109_4
          replace p109 := eq_true p109
          replace q109 := eq_true q109
          have p111 : 0 ≤ ((ji7) : Int) := of_decide_eq_true (qA2_2)
          have q111 : (ji7) < (l0.length : Int) := of_decide_eq_true (qA2_2)
          obtain ⟨ad111, e111, hx111_0, hx111_1, hx111_2, hx111_3, hx111_4⟩ := at_T43 HR0.out (ji7) p111 q111
          have hw111_4 := hx111_4
          have hw111_3 := hx111_3
          have hw111_2 := hx111_2
          have hw111_1 := hx111_1
          have hw111_0 := hx111_0
          obtain rfl : ad109 = ad111 := (by injection e111)
          replace hx111_0 := (HB.out.cell (World.block_lt_of_cell? w _ hx111_0)).trans hx111_0
          replace hx111_1 := (HB.out.cell (World.block_lt_of_cell? w _ hx111_1)).trans hx111_1
          replace hx111_2 := (HB.out.cell (World.block_lt_of_cell? w _ hx111_2)).trans hx111_2
          replace hx111_3 := (HB.out.cell (World.block_lt_of_cell? w _ hx111_3)).trans hx111_3
          replace hx111_4 := (HB.out.cell (World.block_lt_of_cell? w _ hx111_4)).trans hx111_4
          replace p111 := eq_true p111
          replace q111 := eq_true q111
          have p112 : 0 ≤ (x3_1 : Int) := of_decide_eq_true (qA2_2)
          have q112 : x3_1 < (l0.length : Int) := of_decide_eq_true (qA2_2)
          obtain ⟨ad112, e112, hx112_0, hx112_1, hx112_2, hx112_3, hx112_4⟩ := at_T43 HR0.out x3_1 p112 q112
          have hw112_4 := hx112_4
          have hw112_3 := hx112_3
          have hw112_2 := hx112_2
          have hw112_1 := hx112_1
          have hw112_0 := hx112_0
          obtain rfl : ad109 = ad112 := (by injection e112)
          replace hx112_0 := (HB.out.cell (World.block_lt_of_cell? w _ hx112_0)).trans hx112_0
          replace hx112_1 := (HB.out.cell (World.block_lt_of_cell? w _ hx112_1)).trans hx112_1
          replace hx112_2 := (HB.out.cell (World.block_lt_of_cell? w _ hx112_2)).trans hx112_2
          replace hx112_3 := (HB.out.cell (World.block_lt_of_cell? w _ hx112_3)).trans hx112_3
          replace hx112_4 := (HB.out.cell (World.block_lt_of_cell? w _ hx112_4)).trans hx112_4
          replace p112 := eq_true p112
          replace q112 := eq_true q112
          refine start_ (n := 24) (S := fun w' => w'.cell? (ad109.add ((x3_1).toNat * 5)) = some (.int .i64 ((rd_T43 l0 x3_1).f0)) ∧ w'.cell? ⟨(ad109.add ((x3_1).toNat * 5)).block, (ad109.add ((x3_1).toNat * 5)).off + 1, none⟩ = some (.int .i64 ((rd_T43 l0 x3_1).f1)) ∧ w'.cell? ⟨(ad109.add ((x3_1).toNat * 5)).block, (ad109.add ((x3_1).toNat * 5)).off + 2, none⟩ = some (.int .i64 ((rd_T43 l0 x3_1).f2)) ∧ w'.cell? ⟨(ad109.add ((x3_1).toNat * 5)).block, (ad109.add ((x3_1).toNat * 5)).off + 3, none⟩ = some (.int .i64 ((rd_T43 l0 x3_1).f3)) ∧ w'.cell? ⟨(ad109.add ((x3_1).toNat * 5)).block, (ad109.add ((x3_1).toNat * 5)).off + 4, none⟩ = some (.int .i64 ((rd_T43 l0 x3_1).f4)) ∧ w'.cell? (ad109.add (((ji7)).toNat * 5)) = some (.int .i64 ((rd_T43 l0 (ji7)).f0)) ∧ w'.cell? ⟨(ad109.add (((ji7)).toNat * 5)).block, (ad109.add (((ji7)).toNat * 5)).off + 1, none⟩ = some (.int .i64 ((rd_T43 l0 (ji7)).f1)) ∧ w'.cell? ⟨(ad109.add (((ji7)).toNat * 5)).block, (ad109.add (((ji7)).toNat * 5)).off + 2, none⟩ = some (.int .i64 ((rd_T43 l0 (ji7)).f2)) ∧ w'.cell? ⟨(ad109.add (((ji7)).toNat * 5)).block, (ad109.add (((ji7)).toNat * 5)).off + 3, none⟩ = some (.int .i64 ((rd_T43 l0 (ji7)).f3)) ∧ w'.cell? ⟨(ad109.add (((ji7)).toNat * 5)).block, (ad109.add (((ji7)).toNat * 5)).off + 4, none⟩ = some (.int .i64 ((rd_T43 l0 (ji7)).f4)) ∧ w'.cell? (ad109.add ((x3_1).toNat * 5)) = some (.int .i64 ((rd_T43 l0 x3_1).f0)) ∧ w'.cell? ⟨(ad109.add ((x3_1).toNat * 5)).block, (ad109.add ((x3_1).toNat * 5)).off + 1, none⟩ = some (.int .i64 ((rd_T43 l0 x3_1).f1)) ∧ w'.cell? ⟨(ad109.add ((x3_1).toNat * 5)).block, (ad109.add ((x3_1).toNat * 5)).off + 2, none⟩ = some (.int .i64 ((rd_T43 l0 x3_1).f2)) ∧ w'.cell? ⟨(ad109.add ((x3_1).toNat * 5)).block, (ad109.add ((x3_1).toNat * 5)).off + 3, none⟩ = some (.int .i64 ((rd_T43 l0 x3_1).f3)) ∧ w'.cell? ⟨(ad109.add ((x3_1).toNat * 5)).block, (ad109.add ((x3_1).toNat * 5)).off + 4, none⟩ = some (.int .i64 ((rd_T43 l0 x3_1).f4))) (ds := []) qA2_b0 (by kernel_rfl) rfl rfl ⟨((HB.out.cell (World.block_lt_of_cell? w _ hw109_0)).trans hw109_0), ((HB.out.cell (World.block_lt_of_cell? w _ hw109_1)).trans hw109_1), ((HB.out.cell (World.block_lt_of_cell? w _ hw109_2)).trans hw109_2), ((HB.out.cell (World.block_lt_of_cell? w _ hw109_3)).trans hw109_3), ((HB.out.cell (World.block_lt_of_cell? w _ hw109_4)).trans hw109_4), ((HB.out.cell (World.block_lt_of_cell? w _ hw111_0)).trans hw111_0), ((HB.out.cell (World.block_lt_of_cell? w _ hw111_1)).trans hw111_1), ((HB.out.cell (World.block_lt_of_cell? w _ hw111_2)).trans hw111_2), ((HB.out.cell (World.block_lt_of_cell? w _ hw111_3)).trans hw111_3), ((HB.out.cell (World.block_lt_of_cell? w _ hw111_4)).trans hw111_4), ((HB.out.cell (World.block_lt_of_cell? w _ hw112_0)).trans hw112_0), ((HB.out.cell (World.block_lt_of_cell? w _ hw112_1)).trans hw112_1), ((HB.out.cell (World.block_lt_of_cell? w _ hw112_2)).trans hw112_2), ((HB.out.cell (World.block_lt_of_cell? w _ hw112_3)).trans hw112_3), ((HB.out.cell (World.block_lt_of_cell? w _ hw112_4)).trans hw112_4)⟩ (fun hHeld => ?_); refine with_tabW spec_l12Good.tab4 spec_l12Good.bits4 (fun HT_ HW_ => ?_)
          generalize wr.drew = w11 at HB hx109_0 hx109_1 hx109_2 hx109_3 hx109_4 hx111_0 hx111_1 hx111_2 hx111_3 hx111_4 hx112_0 hx112_1 hx112_2 hx112_3 hx112_4 hHeld ⊢
          refine pure_ (i := 0) (N := some 10) (v := ?_) (a' := ?_) qA2_b1 rfl rfl (qA2_0) (fun _ _ _ h => h) (Or.inl ⟨by rfl, ?_⟩) ?_ ?_
          rotate_left; exact qA2_c1; rotate_left; exact qA2_c0
          refine pure_ (i := 1) (N := some 11) (v := ?_) (a' := ?_) qA2_b2 rfl rfl (qA2_0) (fun _ _ _ h => h) (Or.inl ⟨by rfl, ?_⟩) ?_ ?_
          rotate_left; exact qA2_c1; rotate_left; exact qA2_c0
          refine pure_ (i := 2) (N := some 12) (v := ?_) (a' := ?_) qA2_b3 rfl rfl (qA2_0) (fun _ _ _ h => h) (Or.inl ⟨by rfl, ?_⟩) ?_ ?_
          rotate_left; exact qA2_c1; rotate_left; exact qA2_c0
          refine take_ (i := 3) (N := some 13) (v := ?_) (a' := ?_) qA2_b4 rfl rfl (take_ofW HT_.out HW_.out (by kernel_rfl)) (fun _ _ _ h => h) (Or.inl ⟨by rfl, ?_⟩) hHeld ?_ ?_
          rotate_left; exact qA2_c2; rotate_left; exact qA2_c0
          refine one_ (i := 4) (N := some 14) qA2_b5 rfl rfl (qA2_5) (by decide) (fun K hK => ?_)
          refine goes_ Tryd.func44 (by kernel_rfl) rfl #[.agg #[.int .i64 ((rd_T43 l0 x3_1).f0), .int .i64 ((rd_T43 l0 x3_1).f1), .int .i64 ((rd_T43 l0 x3_1).f2), .int .i64 ((rd_T43 l0 x3_1).f3), .int .i64 ((rd_T43 l0 x3_1).f4)]] (by rfl) rfl rfl (qA2_3) ?_
          with_reducible refine (spec_l12One.calls ((rd_T43 l0 x3_1).f0) ((rd_T43 l0 x3_1).f1) ((rd_T43 l0 x3_1).f2) ((rd_T43 l0 x3_1).f3) ((rd_T43 l0 x3_1).f4) true _ A4.out).mono ?_
          rintro e w12 ⟨rfl, hb⟩
          refine ⟨_, rfl, ?_⟩
          have n0_ := Aside0.mk (below_step (qA2_1) hb)
          clear HB
          have HB := n0_
          clear n0_
          (try clear hb)
          (try clear hb2)
          (try clear hk)
          (try clear hi)
          refine hK.out _ _ ⟨((HB.out.cell (World.block_lt_of_cell? w _ hw109_0)).trans hw109_0), ((HB.out.cell (World.block_lt_of_cell? w _ hw109_1)).trans hw109_1), ((HB.out.cell (World.block_lt_of_cell? w _ hw109_2)).trans hw109_2), ((HB.out.cell (World.block_lt_of_cell? w _ hw109_3)).trans hw109_3), ((HB.out.cell (World.block_lt_of_cell? w _ hw109_4)).trans hw109_4), ((HB.out.cell (World.block_lt_of_cell? w _ hw111_0)).trans hw111_0), ((HB.out.cell (World.block_lt_of_cell? w _ hw111_1)).trans hw111_1), ((HB.out.cell (World.block_lt_of_cell? w _ hw111_2)).trans hw111_2), ((HB.out.cell (World.block_lt_of_cell? w _ hw111_3)).trans hw111_3), ((HB.out.cell (World.block_lt_of_cell? w _ hw111_4)).trans hw111_4), ((HB.out.cell (World.block_lt_of_cell? w _ hw112_0)).trans hw112_0), ((HB.out.cell (World.block_lt_of_cell? w _ hw112_1)).trans hw112_1), ((HB.out.cell (World.block_lt_of_cell? w _ hw112_2)).trans hw112_2), ((HB.out.cell (World.block_lt_of_cell? w _ hw112_3)).trans hw112_3), ((HB.out.cell (World.block_lt_of_cell? w _ hw112_4)).trans hw112_4)⟩ (fun hHeld => ?_)
          clear hK K
          refine norm_ (a' := ?_) ?_ ?_
          rotate_left
          ·exact qA2_c3
          refine pure_ (i := 5) (N := some 15) (v := ?_) (a' := ?_) qA2_b6 rfl rfl (qA2_0) (fun _ _ _ h => h) (Or.inl ⟨by rfl, ?_⟩) ?_ ?_
          rotate_left; exact qA2_c1; rotate_left; exact qA2_c0
          refine pure_ (i := 6) (N := some 16) (v := ?_) (a' := ?_) qA2_b7 rfl rfl (qA2_0) (fun _ _ _ h => h) (Or.inl ⟨by rfl, ?_⟩) ?_ ?_
          rotate_left; exact qA2_c1; rotate_left; exact qA2_c0
          refine pure_ (i := 7) (N := some 17) (v := ?_) (a' := ?_) qA2_b8 rfl rfl (qA2_0) (fun _ _ _ h => h) (Or.inl ⟨by rfl, ?_⟩) ?_ ?_
          rotate_left; exact qA2_c1; rotate_left; exact qA2_c0
          refine pure_ (i := 8) (N := some 18) (v := ?_) (a' := ?_) qA2_b9 rfl rfl (qA2_0) (fun _ _ _ h => h) (Or.inl ⟨by rfl, ?_⟩) ?_ ?_
          rotate_left; exact qA2_c1; rotate_left; exact qA2_c0
          refine pure_ (i := 9) (N := some 19) (v := ?_) (a' := ?_) qA2_b10 rfl rfl (qA2_0) (fun _ _ _ h => h) (Or.inl ⟨by rfl, ?_⟩) ?_ ?_
          rotate_left; exact qA2_c1; rotate_left; exact qA2_c0
          refine pure_ (i := 10) (N := some 20) (v := ?_) (a' := ?_) qA2_b11 rfl rfl (qA2_0) (fun _ _ _ h => h) (Or.inl ⟨by rfl, ?_⟩) ?_ ?_
          rotate_left; exact qA2_c1; rotate_left; exact qA2_c0
          refine pure_ (i := 11) (N := some 21) (v := ?_) (a' := ?_) qA2_b12 rfl rfl (qA2_0) (fun _ _ _ h => h) (Or.inl ⟨by rfl, ?_⟩) ?_ ?_
          rotate_left; exact qA2_c1; rotate_left; exact qA2_c0
          refine pure_ (i := 12) (N := some 22) (v := ?_) (a' := ?_) qA2_b13 rfl rfl (qA2_0) (fun _ _ _ h => h) (Or.inl ⟨by rfl, ?_⟩) ?_ ?_
          rotate_left; exact qA2_c1; rotate_left; exact qA2_c0
          refine pure_ (i := 13) (N := some 23) (v := ?_) (a' := ?_) qA2_b14 rfl rfl (qA2_0) (fun _ _ _ h => h) (Or.inl ⟨by rfl, ?_⟩) ?_ ?_
          rotate_left; exact qA2_c1; rotate_left; exact qA2_c0
          refine pure_ (i := 14) (N := some 24) (v := ?_) (a' := ?_) qA2_b15 rfl rfl (qA2_0) (fun _ _ _ h => h) (Or.inl ⟨by rfl, ?_⟩) ?_ ?_
          rotate_left; exact qA2_c1; rotate_left; exact qA2_c0
          refine pure_ (i := 16) (N := some 26) (v := ?_) (a' := ?_) qA2_b16 rfl rfl (qA2_0) (fun _ _ _ h => h) (Or.inl ⟨by rfl, ?_⟩) ?_ ?_
          rotate_left; exact qA2_c1; rotate_left; exact qA2_c0
          refine pure_ (i := 17) (N := some 27) (v := ?_) (a' := ?_) qA2_b17 rfl rfl (qA2_0) (fun _ _ _ h => h) (Or.inl ⟨by rfl, ?_⟩) ?_ ?_
          rotate_left; exact qA2_c1; rotate_left; exact qA2_c0
          refine pure_ (i := 18) (N := some 28) (v := ?_) (a' := ?_) qA2_b18 rfl rfl (qA2_0) (fun _ _ _ h => h) (Or.inl ⟨by rfl, ?_⟩) ?_ ?_
          rotate_left; exact qA2_c1; rotate_left; exact qA2_c0
          refine pure_ (i := 19) (N := some 29) (v := ?_) (a' := ?_) qA2_b19 rfl rfl (qA2_0) (fun _ _ _ h => h) (Or.inl ⟨by rfl, ?_⟩) ?_ ?_
          rotate_left; exact qA2_c1; rotate_left; exact qA2_c0
          refine take_ (i := 15) (N := some 25) (v := ?_) (a' := ?_) qA2_b20 rfl rfl (take_ofW HT_.out HW_.out (by kernel_rfl)) (fun _ _ _ h => h) (Or.inl ⟨by rfl, ?_⟩) hHeld ?_ ?_
          rotate_left; exact qA2_c2; rotate_left; exact qA2_c0
          refine take_ (i := 20) (N := some 30) (v := ?_) (a' := ?_) qA2_b21 rfl rfl (take_ofW HT_.out HW_.out (by kernel_rfl)) (fun _ _ _ h => h) (Or.inl ⟨by rfl, ?_⟩) hHeld ?_ ?_
          rotate_left; exact qA2_c2; rotate_left; exact qA2_c0
          refine pure_ (i := 21) (N := some 31) (v := ?_) (a' := ?_) qA2_b22 rfl rfl (qA2_0) (fun _ _ _ h => h) (Or.inl ⟨by rfl, ?_⟩) ?_ ?_
          rotate_left; exact qA2_c1; rotate_left; exact qA2_c0
          refine pure_ (i := 22) (N := some 32) (v := ?_) (a' := ?_) qA2_b23 rfl rfl (qA2_0) (fun _ _ _ h => h) (Or.inl ⟨by rfl, ?_⟩) ?_ ?_
          rotate_left; exact qA2_c1; rotate_left; exact qA2_c0
          refine pure_ (i := 23) (N := some 33) (v := ?_) (a' := ?_) qA2_b24 rfl rfl (qA2_0) (fun _ _ _ h => h) (Or.inl ⟨by rfl, ?_⟩) ?_ ?_
          rotate_left; exact qA2_c1; rotate_left; exact qA2_c0
          refine done_ (qA2_4) ?_
          try go_wp2
          go_ret
          exact ⟨(by first | rfl | (simp [errW_none, errW_some] <;> rfl) | (simp only [← hji7]; first | rfl | (simp [errW_none, errW_some] <;> rfl)) | (simp [*, errW_none, errW_some] <;> rfl)), (qA2_1)⟩
         ·rw [if_neg c10] at H
          have c10b0 : decide (((rd_T43 l0 x3_1).f0) ≤ ((rd_T43 l0 (ji7)).f0)) = false := decide_eq_false c10
          clear c10
          have H' := Aside0.mk H
          clear H
          try go_wp2
          have n0_ := Aside0.mk (below_drew1 HB.out)
          clear HB
          have HB := n0_
          clear n0_
          have p109 : 0 ≤ (x3_1 : Int) := of_decide_eq_true (qA2_2)
          have q109 : x3_1 < (l0.length : Int) := of_decide_eq_true (qA2_2)
          obtain ⟨ad109, e109, hx109_0, hx109_1, hx109_2, hx109_3, hx109_4⟩ := at_T43 HR0.out x3_1 p109 q109
          have hw109_4 := hx109_4
          have hw109_3 := hx109_3
          have hw109_2 := hx109_2
          have hw109_1 := hx109_1
          have hw109_0 := hx109_0
          cases e109
          replace hx109_0 := (HB.out.cell (World.block_lt_of_cell? w _ hx109_0)).trans hx109_0
          replace hx109_1 := (HB.out.cell (World.block_lt_of_cell? w _ hx109_1)).trans hx109_1
          replace hx109_2 := (HB.out.cell (World.block_lt_of_cell? w _ hx109_2)).trans hx109_2
          replace hx109_3 := (HB.out.cell (World.block_lt_of_cell? w _ hx109_3)).trans hx109_3
          replace hx109_4 := (HB.out.cell (World.block_lt_of_cell? w _ hx109_4)).trans hx109_4
          replace p109 := eq_true p109
          replace q109 := eq_true q109
          have p111 : 0 ≤ ((ji7) : Int) := of_decide_eq_true (qA2_2)
          have q111 : (ji7) < (l0.length : Int) := of_decide_eq_true (qA2_2)
          obtain ⟨ad111, e111, hx111_0, hx111_1, hx111_2, hx111_3, hx111_4⟩ := at_T43 HR0.out (ji7) p111 q111
          have hw111_4 := hx111_4
          have hw111_3 := hx111_3
          have hw111_2 := hx111_2
          have hw111_1 := hx111_1
          have hw111_0 := hx111_0
          obtain rfl : ad109 = ad111 := (by injection e111)
          replace hx111_0 := (HB.out.cell (World.block_lt_of_cell? w _ hx111_0)).trans hx111_0
          replace hx111_1 := (HB.out.cell (World.block_lt_of_cell? w _ hx111_1)).trans hx111_1
          replace hx111_2 := (HB.out.cell (World.block_lt_of_cell? w _ hx111_2)).trans hx111_2
          replace hx111_3 := (HB.out.cell (World.block_lt_of_cell? w _ hx111_3)).trans hx111_3
          replace hx111_4 := (HB.out.cell (World.block_lt_of_cell? w _ hx111_4)).trans hx111_4
          replace p111 := eq_true p111
          replace q111 := eq_true q111
          have p112 : 0 ≤ (x3_1 : Int) := of_decide_eq_true (qA2_2)
          have q112 : x3_1 < (l0.length : Int) := of_decide_eq_true (qA2_2)
          obtain ⟨ad112, e112, hx112_0, hx112_1, hx112_2, hx112_3, hx112_4⟩ := at_T43 HR0.out x3_1 p112 q112
          have hw112_4 := hx112_4
          have hw112_3 := hx112_3
          have hw112_2 := hx112_2
          have hw112_1 := hx112_1
          have hw112_0 := hx112_0
          obtain rfl : ad109 = ad112 := (by injection e112)
          replace hx112_0 := (HB.out.cell (World.block_lt_of_cell? w _ hx112_0)).trans hx112_0
          replace hx112_1 := (HB.out.cell (World.block_lt_of_cell? w _ hx112_1)).trans hx112_1
          replace hx112_2 := (HB.out.cell (World.block_lt_of_cell? w _ hx112_2)).trans hx112_2
          replace hx112_3 := (HB.out.cell (World.block_lt_of_cell? w _ hx112_3)).trans hx112_3
          replace hx112_4 := (HB.out.cell (World.block_lt_of_cell? w _ hx112_4)).trans hx112_4
          replace p112 := eq_true p112
          replace q112 := eq_true q112
          refine start_ (n := 24) (S := fun w' => w'.cell? (ad109.add ((x3_1).toNat * 5)) = some (.int .i64 ((rd_T43 l0 x3_1).f0)) ∧ w'.cell? ⟨(ad109.add ((x3_1).toNat * 5)).block, (ad109.add ((x3_1).toNat * 5)).off + 1, none⟩ = some (.int .i64 ((rd_T43 l0 x3_1).f1)) ∧ w'.cell? ⟨(ad109.add ((x3_1).toNat * 5)).block, (ad109.add ((x3_1).toNat * 5)).off + 2, none⟩ = some (.int .i64 ((rd_T43 l0 x3_1).f2)) ∧ w'.cell? ⟨(ad109.add ((x3_1).toNat * 5)).block, (ad109.add ((x3_1).toNat * 5)).off + 3, none⟩ = some (.int .i64 ((rd_T43 l0 x3_1).f3)) ∧ w'.cell? ⟨(ad109.add ((x3_1).toNat * 5)).block, (ad109.add ((x3_1).toNat * 5)).off + 4, none⟩ = some (.int .i64 ((rd_T43 l0 x3_1).f4)) ∧ w'.cell? (ad109.add (((ji7)).toNat * 5)) = some (.int .i64 ((rd_T43 l0 (ji7)).f0)) ∧ w'.cell? ⟨(ad109.add (((ji7)).toNat * 5)).block, (ad109.add (((ji7)).toNat * 5)).off + 1, none⟩ = some (.int .i64 ((rd_T43 l0 (ji7)).f1)) ∧ w'.cell? ⟨(ad109.add (((ji7)).toNat * 5)).block, (ad109.add (((ji7)).toNat * 5)).off + 2, none⟩ = some (.int .i64 ((rd_T43 l0 (ji7)).f2)) ∧ w'.cell? ⟨(ad109.add (((ji7)).toNat * 5)).block, (ad109.add (((ji7)).toNat * 5)).off + 3, none⟩ = some (.int .i64 ((rd_T43 l0 (ji7)).f3)) ∧ w'.cell? ⟨(ad109.add (((ji7)).toNat * 5)).block, (ad109.add (((ji7)).toNat * 5)).off + 4, none⟩ = some (.int .i64 ((rd_T43 l0 (ji7)).f4)) ∧ w'.cell? (ad109.add ((x3_1).toNat * 5)) = some (.int .i64 ((rd_T43 l0 x3_1).f0)) ∧ w'.cell? ⟨(ad109.add ((x3_1).toNat * 5)).block, (ad109.add ((x3_1).toNat * 5)).off + 1, none⟩ = some (.int .i64 ((rd_T43 l0 x3_1).f1)) ∧ w'.cell? ⟨(ad109.add ((x3_1).toNat * 5)).block, (ad109.add ((x3_1).toNat * 5)).off + 2, none⟩ = some (.int .i64 ((rd_T43 l0 x3_1).f2)) ∧ w'.cell? ⟨(ad109.add ((x3_1).toNat * 5)).block, (ad109.add ((x3_1).toNat * 5)).off + 3, none⟩ = some (.int .i64 ((rd_T43 l0 x3_1).f3)) ∧ w'.cell? ⟨(ad109.add ((x3_1).toNat * 5)).block, (ad109.add ((x3_1).toNat * 5)).off + 4, none⟩ = some (.int .i64 ((rd_T43 l0 x3_1).f4))) (ds := []) qA2_b0 (by kernel_rfl) rfl rfl ⟨((HB.out.cell (World.block_lt_of_cell? w _ hw109_0)).trans hw109_0), ((HB.out.cell (World.block_lt_of_cell? w _ hw109_1)).trans hw109_1), ((HB.out.cell (World.block_lt_of_cell? w _ hw109_2)).trans hw109_2), ((HB.out.cell (World.block_lt_of_cell? w _ hw109_3)).trans hw109_3), ((HB.out.cell (World.block_lt_of_cell? w _ hw109_4)).trans hw109_4), ((HB.out.cell (World.block_lt_of_cell? w _ hw111_0)).trans hw111_0), ((HB.out.cell (World.block_lt_of_cell? w _ hw111_1)).trans hw111_1), ((HB.out.cell (World.block_lt_of_cell? w _ hw111_2)).trans hw111_2), ((HB.out.cell (World.block_lt_of_cell? w _ hw111_3)).trans hw111_3), ((HB.out.cell (World.block_lt_of_cell? w _ hw111_4)).trans hw111_4), ((HB.out.cell (World.block_lt_of_cell? w _ hw112_0)).trans hw112_0), ((HB.out.cell (World.block_lt_of_cell? w _ hw112_1)).trans hw112_1), ((HB.out.cell (World.block_lt_of_cell? w _ hw112_2)).trans hw112_2), ((HB.out.cell (World.block_lt_of_cell? w _ hw112_3)).trans hw112_3), ((HB.out.cell (World.block_lt_of_cell? w _ hw112_4)).trans hw112_4)⟩ (fun hHeld => ?_); refine with_tabW spec_l12Good.tab4 spec_l12Good.bits4 (fun HT_ HW_ => ?_)
          generalize wr.drew = w13 at HB hx109_0 hx109_1 hx109_2 hx109_3 hx109_4 hx111_0 hx111_1 hx111_2 hx111_3 hx111_4 hx112_0 hx112_1 hx112_2 hx112_3 hx112_4 hHeld ⊢
          refine pure_ (i := 0) (N := some 10) (v := ?_) (a' := ?_) qA2_b1 rfl rfl (qA2_0) (fun _ _ _ h => h) (Or.inl ⟨by rfl, ?_⟩) ?_ ?_
          rotate_left; exact qA2_c1; rotate_left; exact qA2_c0
          refine pure_ (i := 1) (N := some 11) (v := ?_) (a' := ?_) qA2_b2 rfl rfl (qA2_0) (fun _ _ _ h => h) (Or.inl ⟨by rfl, ?_⟩) ?_ ?_
          rotate_left; exact qA2_c1; rotate_left; exact qA2_c0
          refine pure_ (i := 2) (N := some 12) (v := ?_) (a' := ?_) qA2_b3 rfl rfl (qA2_0) (fun _ _ _ h => h) (Or.inl ⟨by rfl, ?_⟩) ?_ ?_
          rotate_left; exact qA2_c1; rotate_left; exact qA2_c0
          refine take_ (i := 3) (N := some 13) (v := ?_) (a' := ?_) qA2_b4 rfl rfl (take_ofW HT_.out HW_.out (by kernel_rfl)) (fun _ _ _ h => h) (Or.inl ⟨by rfl, ?_⟩) hHeld ?_ ?_
          rotate_left; exact qA2_c2; rotate_left; exact qA2_c0
          refine one_ (i := 4) (N := some 14) qA2_b5 rfl rfl (qA2_5) (by decide) (fun K hK => ?_)
          refine goes_ Tryd.func44 (by kernel_rfl) rfl #[.agg #[.int .i64 ((rd_T43 l0 x3_1).f0), .int .i64 ((rd_T43 l0 x3_1).f1), .int .i64 ((rd_T43 l0 x3_1).f2), .int .i64 ((rd_T43 l0 x3_1).f3), .int .i64 ((rd_T43 l0 x3_1).f4)]] (by rfl) rfl rfl (qA2_3) ?_
          with_reducible refine (spec_l12One.calls ((rd_T43 l0 x3_1).f0) ((rd_T43 l0 x3_1).f1) ((rd_T43 l0 x3_1).f2) ((rd_T43 l0 x3_1).f3) ((rd_T43 l0 x3_1).f4) true _ A4.out).mono ?_
          rintro e w14 ⟨rfl, hb⟩
          refine ⟨_, rfl, ?_⟩
          have n0_ := Aside0.mk (below_step (qA2_1) hb)
          clear HB
          have HB := n0_
          clear n0_
          (try clear hb)
          (try clear hb2)
          (try clear hk)
          (try clear hi)
          refine hK.out _ _ ⟨((HB.out.cell (World.block_lt_of_cell? w _ hw109_0)).trans hw109_0), ((HB.out.cell (World.block_lt_of_cell? w _ hw109_1)).trans hw109_1), ((HB.out.cell (World.block_lt_of_cell? w _ hw109_2)).trans hw109_2), ((HB.out.cell (World.block_lt_of_cell? w _ hw109_3)).trans hw109_3), ((HB.out.cell (World.block_lt_of_cell? w _ hw109_4)).trans hw109_4), ((HB.out.cell (World.block_lt_of_cell? w _ hw111_0)).trans hw111_0), ((HB.out.cell (World.block_lt_of_cell? w _ hw111_1)).trans hw111_1), ((HB.out.cell (World.block_lt_of_cell? w _ hw111_2)).trans hw111_2), ((HB.out.cell (World.block_lt_of_cell? w _ hw111_3)).trans hw111_3), ((HB.out.cell (World.block_lt_of_cell? w _ hw111_4)).trans hw111_4), ((HB.out.cell (World.block_lt_of_cell? w _ hw112_0)).trans hw112_0), ((HB.out.cell (World.block_lt_of_cell? w _ hw112_1)).trans hw112_1), ((HB.out.cell (World.block_lt_of_cell? w _ hw112_2)).trans hw112_2), ((HB.out.cell (World.block_lt_of_cell? w _ hw112_3)).trans hw112_3), ((HB.out.cell (World.block_lt_of_cell? w _ hw112_4)).trans hw112_4)⟩ (fun hHeld => ?_)
          clear hK K
          refine norm_ (a' := ?_) ?_ ?_
          rotate_left
          ·exact qA2_c3
          refine pure_ (i := 5) (N := some 15) (v := ?_) (a' := ?_) qA2_b6 rfl rfl (qA2_0) (fun _ _ _ h => h) (Or.inl ⟨by rfl, ?_⟩) ?_ ?_
          rotate_left; exact qA2_c1; rotate_left; exact qA2_c0
          refine pure_ (i := 6) (N := some 16) (v := ?_) (a' := ?_) qA2_b7 rfl rfl (qA2_0) (fun _ _ _ h => h) (Or.inl ⟨by rfl, ?_⟩) ?_ ?_
          rotate_left; exact qA2_c1; rotate_left; exact qA2_c0
          refine pure_ (i := 7) (N := some 17) (v := ?_) (a' := ?_) qA2_b8 rfl rfl (qA2_0) (fun _ _ _ h => h) (Or.inl ⟨by rfl, ?_⟩) ?_ ?_
          rotate_left; exact qA2_c1; rotate_left; exact qA2_c0
          refine pure_ (i := 8) (N := some 18) (v := ?_) (a' := ?_) qA2_b9 rfl rfl (qA2_0) (fun _ _ _ h => h) (Or.inl ⟨by rfl, ?_⟩) ?_ ?_
          rotate_left; exact qA2_c1; rotate_left; exact qA2_c0
          refine pure_ (i := 9) (N := some 19) (v := ?_) (a' := ?_) qA2_b10 rfl rfl (qA2_0) (fun _ _ _ h => h) (Or.inl ⟨by rfl, ?_⟩) ?_ ?_
          rotate_left; exact qA2_c1; rotate_left; exact qA2_c0
          refine pure_ (i := 10) (N := some 20) (v := ?_) (a' := ?_) qA2_b11 rfl rfl (qA2_0) (fun _ _ _ h => h) (Or.inl ⟨by rfl, ?_⟩) ?_ ?_
          rotate_left; exact qA2_c1; rotate_left; exact qA2_c0
          refine pure_ (i := 11) (N := some 21) (v := ?_) (a' := ?_) qA2_b12 rfl rfl (qA2_0) (fun _ _ _ h => h) (Or.inl ⟨by rfl, ?_⟩) ?_ ?_
          rotate_left; exact qA2_c1; rotate_left; exact qA2_c0
          refine pure_ (i := 12) (N := some 22) (v := ?_) (a' := ?_) qA2_b13 rfl rfl (qA2_0) (fun _ _ _ h => h) (Or.inl ⟨by rfl, ?_⟩) ?_ ?_
          rotate_left; exact qA2_c1; rotate_left; exact qA2_c0
          refine pure_ (i := 13) (N := some 23) (v := ?_) (a' := ?_) qA2_b14 rfl rfl (qA2_0) (fun _ _ _ h => h) (Or.inl ⟨by rfl, ?_⟩) ?_ ?_
          rotate_left; exact qA2_c1; rotate_left; exact qA2_c0
          refine pure_ (i := 14) (N := some 24) (v := ?_) (a' := ?_) qA2_b15 rfl rfl (qA2_0) (fun _ _ _ h => h) (Or.inl ⟨by rfl, ?_⟩) ?_ ?_
          rotate_left; exact qA2_c1; rotate_left; exact qA2_c0
          refine pure_ (i := 16) (N := some 26) (v := ?_) (a' := ?_) qA2_b16 rfl rfl (qA2_0) (fun _ _ _ h => h) (Or.inl ⟨by rfl, ?_⟩) ?_ ?_
          rotate_left; exact qA2_c1; rotate_left; exact qA2_c0
          refine pure_ (i := 17) (N := some 27) (v := ?_) (a' := ?_) qA2_b17 rfl rfl (qA2_0) (fun _ _ _ h => h) (Or.inl ⟨by rfl, ?_⟩) ?_ ?_
          rotate_left; exact qA2_c1; rotate_left; exact qA2_c0
          refine pure_ (i := 18) (N := some 28) (v := ?_) (a' := ?_) qA2_b18 rfl rfl (qA2_0) (fun _ _ _ h => h) (Or.inl ⟨by rfl, ?_⟩) ?_ ?_
          rotate_left; exact qA2_c1; rotate_left; exact qA2_c0
          refine pure_ (i := 19) (N := some 29) (v := ?_) (a' := ?_) qA2_b19 rfl rfl (qA2_0) (fun _ _ _ h => h) (Or.inl ⟨by rfl, ?_⟩) ?_ ?_
          rotate_left; exact qA2_c1; rotate_left; exact qA2_c0
          refine take_ (i := 15) (N := some 25) (v := ?_) (a' := ?_) qA2_b20 rfl rfl (take_ofW HT_.out HW_.out (by kernel_rfl)) (fun _ _ _ h => h) (Or.inl ⟨by rfl, ?_⟩) hHeld ?_ ?_
          rotate_left; exact qA2_c2; rotate_left; exact qA2_c0
          refine take_ (i := 20) (N := some 30) (v := ?_) (a' := ?_) qA2_b21 rfl rfl (take_ofW HT_.out HW_.out (by kernel_rfl)) (fun _ _ _ h => h) (Or.inl ⟨by rfl, ?_⟩) hHeld ?_ ?_
          rotate_left; exact qA2_c2; rotate_left; exact qA2_c0
          refine pure_ (i := 21) (N := some 31) (v := ?_) (a' := ?_) qA2_b22 rfl rfl (qA2_0) (fun _ _ _ h => h) (Or.inl ⟨by rfl, ?_⟩) ?_ ?_
          rotate_left; exact qA2_c1; rotate_left; exact qA2_c0
          refine pure_ (i := 22) (N := some 32) (v := ?_) (a' := ?_) qA2_b23 rfl rfl (qA2_0) (fun _ _ _ h => h) (Or.inl ⟨by rfl, ?_⟩) ?_ ?_
          rotate_left; exact qA2_c1; rotate_left; exact qA2_c0
          refine pure_ (i := 23) (N := some 33) (v := ?_) (a' := ?_) qA2_b24 rfl rfl (qA2_0) (fun _ _ _ h => h) (Or.inl ⟨by rfl, ?_⟩) ?_ ?_
          rotate_left; exact qA2_c1; rotate_left; exact qA2_c0
          refine done_ (qA2_4) ?_
          try go_wp2
          go_roundg k1
          case measure => have := HK1.out; omega
          case rel => exact ⟨(wrap64 (x3_1 + 1)), (by first | rfl | (simp; done) | (simp [*]; done)), H', ⟨by have := HK1.out; omega⟩, ⟨(qA2_1)⟩⟩
        ·rw [if_neg c9] at H
         exact absurd H (by simp)
       ·rw [if_neg c8] at H
        exact absurd H (by simp)
      ·rw [if_neg c6] at H
       have c6b0 : decide (0 < x3_1) = false := decide_eq_false c6
       clear c6
       have H' := Aside0.mk H
       clear H
       try go_wp2
       have n0_ := Aside0.mk (below_drew1 HB.out)
       clear HB
       have HB := n0_
       clear n0_
       have p109 : 0 ≤ (x3_1 : Int) := of_decide_eq_true (qA2_2)
       have q109 : x3_1 < (l0.length : Int) := of_decide_eq_true (qA2_2)
       obtain ⟨ad109, e109, hx109_0, hx109_1, hx109_2, hx109_3, hx109_4⟩ := at_T43 HR0.out x3_1 p109 q109
       have hw109_4 := hx109_4
       have hw109_3 := hx109_3
       have hw109_2 := hx109_2
       have hw109_1 := hx109_1
       have hw109_0 := hx109_0
       cases e109
       replace hx109_0 := (HB.out.cell (World.block_lt_of_cell? w _ hx109_0)).trans hx109_0
       replace hx109_1 := (HB.out.cell (World.block_lt_of_cell? w _ hx109_1)).trans hx109_1
       replace hx109_2 := (HB.out.cell (World.block_lt_of_cell? w _ hx109_2)).trans hx109_2
       replace hx109_3 := (HB.out.cell (World.block_lt_of_cell? w _ hx109_3)).trans hx109_3
       replace hx109_4 := (HB.out.cell (World.block_lt_of_cell? w _ hx109_4)).trans hx109_4
       replace p109 := eq_true p109
       replace q109 := eq_true q109
       refine start_ (n := 24) (S := fun w' => w'.cell? (ad109.add ((x3_1).toNat * 5)) = some (.int .i64 ((rd_T43 l0 x3_1).f0)) ∧ w'.cell? ⟨(ad109.add ((x3_1).toNat * 5)).block, (ad109.add ((x3_1).toNat * 5)).off + 1, none⟩ = some (.int .i64 ((rd_T43 l0 x3_1).f1)) ∧ w'.cell? ⟨(ad109.add ((x3_1).toNat * 5)).block, (ad109.add ((x3_1).toNat * 5)).off + 2, none⟩ = some (.int .i64 ((rd_T43 l0 x3_1).f2)) ∧ w'.cell? ⟨(ad109.add ((x3_1).toNat * 5)).block, (ad109.add ((x3_1).toNat * 5)).off + 3, none⟩ = some (.int .i64 ((rd_T43 l0 x3_1).f3)) ∧ w'.cell? ⟨(ad109.add ((x3_1).toNat * 5)).block, (ad109.add ((x3_1).toNat * 5)).off + 4, none⟩ = some (.int .i64 ((rd_T43 l0 x3_1).f4))) (ds := []) qA2_b0 (by kernel_rfl) rfl rfl ⟨((HB.out.cell (World.block_lt_of_cell? w _ hw109_0)).trans hw109_0), ((HB.out.cell (World.block_lt_of_cell? w _ hw109_1)).trans hw109_1), ((HB.out.cell (World.block_lt_of_cell? w _ hw109_2)).trans hw109_2), ((HB.out.cell (World.block_lt_of_cell? w _ hw109_3)).trans hw109_3), ((HB.out.cell (World.block_lt_of_cell? w _ hw109_4)).trans hw109_4)⟩ (fun hHeld => ?_); refine with_tabW spec_l12Good.tab4 spec_l12Good.bits4 (fun HT_ HW_ => ?_)
       generalize wr.drew = w15 at HB hx109_0 hx109_1 hx109_2 hx109_3 hx109_4 hHeld ⊢
       refine pure_ (i := 0) (N := some 10) (v := ?_) (a' := ?_) qA2_b1 rfl rfl (qA2_0) (fun _ _ _ h => h) (Or.inl ⟨by rfl, ?_⟩) ?_ ?_
       rotate_left; exact qA2_c1; rotate_left; exact qA2_c0
       refine pure_ (i := 1) (N := some 11) (v := ?_) (a' := ?_) qA2_b2 rfl rfl (qA2_0) (fun _ _ _ h => h) (Or.inl ⟨by rfl, ?_⟩) ?_ ?_
       rotate_left; exact qA2_c1; rotate_left; exact qA2_c0
       refine pure_ (i := 2) (N := some 12) (v := ?_) (a' := ?_) qA2_b3 rfl rfl (qA2_0) (fun _ _ _ h => h) (Or.inl ⟨by rfl, ?_⟩) ?_ ?_
       rotate_left; exact qA2_c1; rotate_left; exact qA2_c0
       refine take_ (i := 3) (N := some 13) (v := ?_) (a' := ?_) qA2_b4 rfl rfl (take_ofW HT_.out HW_.out (by kernel_rfl)) (fun _ _ _ h => h) (Or.inl ⟨by rfl, ?_⟩) hHeld ?_ ?_
       rotate_left
       ·rintro w' ⟨s0, s1, s2, s3, s4⟩
        go_simp
        with_reducible rfl
       rotate_left
       ·exact qA2_c0
       refine one_ (i := 4) (N := some 14) qA2_b5 rfl rfl (qA2_5) (by decide) (fun K hK => ?_)
       refine goes_ Tryd.func44 (by kernel_rfl) rfl #[.agg #[.int .i64 ((rd_T43 l0 x3_1).f0), .int .i64 ((rd_T43 l0 x3_1).f1), .int .i64 ((rd_T43 l0 x3_1).f2), .int .i64 ((rd_T43 l0 x3_1).f3), .int .i64 ((rd_T43 l0 x3_1).f4)]] (by rfl) rfl rfl (qA2_3) ?_
       with_reducible refine (spec_l12One.calls ((rd_T43 l0 x3_1).f0) ((rd_T43 l0 x3_1).f1) ((rd_T43 l0 x3_1).f2) ((rd_T43 l0 x3_1).f3) ((rd_T43 l0 x3_1).f4) true _ A4.out).mono ?_
       rintro e w16 ⟨rfl, hb⟩
       refine ⟨_, rfl, ?_⟩
       have n0_ := Aside0.mk (below_step (qA2_1) hb)
       clear HB
       have HB := n0_
       clear n0_
       (try clear hb)
       (try clear hb2)
       (try clear hk)
       (try clear hi)
       refine hK.out _ _ ⟨((HB.out.cell (World.block_lt_of_cell? w _ hw109_0)).trans hw109_0), ((HB.out.cell (World.block_lt_of_cell? w _ hw109_1)).trans hw109_1), ((HB.out.cell (World.block_lt_of_cell? w _ hw109_2)).trans hw109_2), ((HB.out.cell (World.block_lt_of_cell? w _ hw109_3)).trans hw109_3), ((HB.out.cell (World.block_lt_of_cell? w _ hw109_4)).trans hw109_4)⟩ (fun hHeld => ?_)
       clear hK K
       refine norm_ (a' := ?_) ?_ ?_
       rotate_left
       ·exact qA2_c3
       refine pure_ (i := 5) (N := some 15) (v := ?_) (a' := ?_) qA2_b6 rfl rfl (qA2_0) (fun _ _ _ h => h) (Or.inl ⟨by rfl, ?_⟩) ?_ ?_
       rotate_left; exact qA2_c1; rotate_left; exact qA2_c0
       refine pure_ (i := 6) (N := some 16) (v := ?_) (a' := ?_) qA2_b7 rfl rfl (qA2_0) (fun _ _ _ h => h) (Or.inl ⟨by rfl, ?_⟩) ?_ ?_
       rotate_left; exact qA2_c1; rotate_left; exact qA2_c0
       refine pure_ (i := 7) (N := some 17) (v := ?_) (a' := ?_) qA2_b8 rfl rfl (qA2_0) (fun _ _ _ h => h) (Or.inl ⟨by rfl, ?_⟩) ?_ ?_
       rotate_left; exact qA2_c1; rotate_left; exact qA2_c0
       refine pure_ (i := 8) (N := some 18) (v := ?_) (a' := ?_) qA2_b9 rfl rfl (qA2_0) (fun _ _ _ h => h) (Or.inl ⟨by rfl, ?_⟩) ?_ ?_
       rotate_left; exact qA2_c1; rotate_left; exact qA2_c0
       refine pure_ (i := 9) (N := some 19) (v := ?_) (a' := ?_) qA2_b10 rfl rfl (qA2_0) (fun _ _ _ h => h) (Or.inl ⟨by rfl, ?_⟩) ?_ ?_
       rotate_left; exact qA2_c1; rotate_left; exact qA2_c0
       refine pure_ (i := 10) (N := some 20) (v := undef) (a' := ?_) qA2_b11 rfl rfl (qA2_0) (fun _ _ _ h => h) (Or.inr ⟨by rfl, rfl⟩) ?_ ?_
       rotate_left
       ·exact qA2_c0
       refine pure_ (i := 11) (N := some 21) (v := undef) (a' := ?_) qA2_b12 rfl rfl (qA2_0) (fun _ _ _ h => h) (Or.inr ⟨by rfl, rfl⟩) ?_ ?_
       rotate_left
       ·exact qA2_c0
       refine pure_ (i := 12) (N := some 22) (v := undef) (a' := ?_) qA2_b13 rfl rfl (qA2_0) (fun _ _ _ h => h) (Or.inr ⟨by rfl, rfl⟩) ?_ ?_
       rotate_left
       ·exact qA2_c0
       refine pure_ (i := 13) (N := some 23) (v := undef) (a' := ?_) qA2_b14 rfl rfl (qA2_0) (fun _ _ _ h => h) (Or.inr ⟨by rfl, rfl⟩) ?_ ?_
       rotate_left
       ·exact qA2_c0
       refine pure_ (i := 14) (N := some 24) (v := undef) (a' := ?_) qA2_b15 rfl rfl (qA2_0) (fun _ _ _ h => h) (Or.inr ⟨by rfl, rfl⟩) ?_ ?_
       rotate_left
       ·exact qA2_c0
       refine pure_ (i := 15) (N := some 25) (v := undef) (a' := ?_) qA2_b25 rfl rfl (qA2_0) (fun _ _ _ h => h) (Or.inr ⟨by rfl, rfl⟩) ?_ ?_
       rotate_left
       ·exact qA2_c0
       refine pure_ (i := 16) (N := some 26) (v := undef) (a' := ?_) qA2_b26 rfl rfl (qA2_0) (fun _ _ _ h => h) (Or.inr ⟨by rfl, rfl⟩) ?_ ?_
       rotate_left
       ·exact qA2_c0
       refine pure_ (i := 17) (N := some 27) (v := undef) (a' := ?_) qA2_b27 rfl rfl (qA2_0) (fun _ _ _ h => h) (Or.inr ⟨by rfl, rfl⟩) ?_ ?_
       rotate_left
       ·exact qA2_c0
       refine pure_ (i := 18) (N := some 28) (v := undef) (a' := ?_) qA2_b28 rfl rfl (qA2_0) (fun _ _ _ h => h) (Or.inr ⟨by rfl, rfl⟩) ?_ ?_
       rotate_left
       ·exact qA2_c0
       refine pure_ (i := 19) (N := some 29) (v := undef) (a' := ?_) qA2_b20 rfl rfl (qA2_0) (fun _ _ _ h => h) (Or.inr ⟨by rfl, rfl⟩) ?_ ?_
       rotate_left
       ·exact qA2_c0
       refine pure_ (i := 20) (N := some 30) (v := undef) (a' := ?_) qA2_b21 rfl rfl (qA2_0) (fun _ _ _ h => h) (Or.inr ⟨by rfl, rfl⟩) ?_ ?_
       rotate_left
       ·exact qA2_c0
       refine pure_ (i := 21) (N := some 31) (v := undef) (a' := ?_) qA2_b22 rfl rfl (qA2_0) (fun _ _ _ h => h) (Or.inr ⟨by rfl, rfl⟩) ?_ ?_
       rotate_left
       ·exact qA2_c0
       refine pure_ (i := 22) (N := some 32) (v := ?_) (a' := ?_) qA2_b23 rfl rfl (qA2_0) (fun _ _ _ h => h) (Or.inl ⟨by rfl, ?_⟩) ?_ ?_
       rotate_left; exact qA2_c1; rotate_left; exact qA2_c0
       refine pure_ (i := 23) (N := some 33) (v := ?_) (a' := ?_) qA2_b24 rfl rfl (qA2_0) (fun _ _ _ h => h) (Or.inl ⟨by rfl, ?_⟩) ?_ ?_
       rotate_left; exact qA2_c1; rotate_left; exact qA2_c0
       refine done_ (qA2_4) ?_
       try go_wp2
       go_roundg k1
       case measure => have := HK1.out; omega
       case rel => exact ⟨(wrap64 (x3_1 + 1)), (by first | rfl | (simp; done) | (simp [*]; done)), H', ⟨by have := HK1.out; omega⟩, ⟨(qA2_1)⟩⟩
     ·replace c5 := Bool.eq_false_iff.mpr c5
      subst c5
      have H1 : (some false) = some r := by rw [if_neg (show ¬ (false = true) by decide)] at H; exact H
      clear H; have H := H1; clear H1; obtain rfl := Option.some.inj H
      try go_wp2
      have n0_ := Aside0.mk (below_drew1 HB.out)
      clear HB
      have HB := n0_
      clear n0_
      have p109 : 0 ≤ (x3_1 : Int) := of_decide_eq_true (qA2_2)
      have q109 : x3_1 < (l0.length : Int) := of_decide_eq_true (qA2_2)
      obtain ⟨ad109, e109, hx109_0, hx109_1, hx109_2, hx109_3, hx109_4⟩ := at_T43 HR0.out x3_1 p109 q109
      have hw109_4 := hx109_4
      have hw109_3 := hx109_3
      have hw109_2 := hx109_2
      have hw109_1 := hx109_1
      have hw109_0 := hx109_0
      cases e109
      replace hx109_0 := (HB.out.cell (World.block_lt_of_cell? w _ hx109_0)).trans hx109_0
      replace hx109_1 := (HB.out.cell (World.block_lt_of_cell? w _ hx109_1)).trans hx109_1
      replace hx109_2 := (HB.out.cell (World.block_lt_of_cell? w _ hx109_2)).trans hx109_2
      replace hx109_3 := (HB.out.cell (World.block_lt_of_cell? w _ hx109_3)).trans hx109_3
      replace hx109_4 := (HB.out.cell (World.block_lt_of_cell? w _ hx109_4)).trans hx109_4
      replace p109 := eq_true p109
      replace q109 := eq_true q109
      refine start_ (n := 24) (S := fun w' => w'.cell? (ad109.add ((x3_1).toNat * 5)) = some (.int .i64 ((rd_T43 l0 x3_1).f0)) ∧ w'.cell? ⟨(ad109.add ((x3_1).toNat * 5)).block, (ad109.add ((x3_1).toNat * 5)).off + 1, none⟩ = some (.int .i64 ((rd_T43 l0 x3_1).f1)) ∧ w'.cell? ⟨(ad109.add ((x3_1).toNat * 5)).block, (ad109.add ((x3_1).toNat * 5)).off + 2, none⟩ = some (.int .i64 ((rd_T43 l0 x3_1).f2)) ∧ w'.cell? ⟨(ad109.add ((x3_1).toNat * 5)).block, (ad109.add ((x3_1).toNat * 5)).off + 3, none⟩ = some (.int .i64 ((rd_T43 l0 x3_1).f3)) ∧ w'.cell? ⟨(ad109.add ((x3_1).toNat * 5)).block, (ad109.add ((x3_1).toNat * 5)).off + 4, none⟩ = some (.int .i64 ((rd_T43 l0 x3_1).f4))) (ds := []) qA2_b0 (by kernel_rfl) rfl rfl ⟨((HB.out.cell (World.block_lt_of_cell? w _ hw109_0)).trans hw109_0), ((HB.out.cell (World.block_lt_of_cell? w _ hw109_1)).trans hw109_1), ((HB.out.cell (World.block_lt_of_cell? w _ hw109_2)).trans hw109_2), ((HB.out.cell (World.block_lt_of_cell? w _ hw109_3)).trans hw109_3), ((HB.out.cell (World.block_lt_of_cell? w _ hw109_4)).trans hw109_4)⟩ (fun hHeld => ?_); refine with_tabW spec_l12Good.tab4 spec_l12Good.bits4 (fun HT_ HW_ => ?_)
      generalize wr.drew = w17 at HB hx109_0 hx109_1 hx109_2 hx109_3 hx109_4 hHeld ⊢
      refine pure_ (i := 0) (N := some 10) (v := ?_) (a' := ?_) qA2_b1 rfl rfl (qA2_0) (fun _ _ _ h => h) (Or.inl ⟨by rfl, ?_⟩) ?_ ?_
      rotate_left; exact qA2_c1; rotate_left; exact qA2_c0
      refine pure_ (i := 1) (N := some 11) (v := ?_) (a' := ?_) qA2_b2 rfl rfl (qA2_0) (fun _ _ _ h => h) (Or.inl ⟨by rfl, ?_⟩) ?_ ?_
      rotate_left; exact qA2_c1; rotate_left; exact qA2_c0
      refine pure_ (i := 2) (N := some 12) (v := ?_) (a' := ?_) qA2_b3 rfl rfl (qA2_0) (fun _ _ _ h => h) (Or.inl ⟨by rfl, ?_⟩) ?_ ?_
      rotate_left; exact qA2_c1; rotate_left; exact qA2_c0
      refine take_ (i := 3) (N := some 13) (v := ?_) (a' := ?_) qA2_b4 rfl rfl (take_ofW HT_.out HW_.out (by kernel_rfl)) (fun _ _ _ h => h) (Or.inl ⟨by rfl, ?_⟩) hHeld ?_ ?_
      rotate_left
      ·rintro w' ⟨s0, s1, s2, s3, s4⟩
       go_simp
       with_reducible rfl
      rotate_left
      ·exact qA2_c0
      refine one_ (i := 4) (N := some 14) qA2_b5 rfl rfl (qA2_5) (by decide) (fun K hK => ?_)
      refine goes_ Tryd.func44 (by kernel_rfl) rfl #[.agg #[.int .i64 ((rd_T43 l0 x3_1).f0), .int .i64 ((rd_T43 l0 x3_1).f1), .int .i64 ((rd_T43 l0 x3_1).f2), .int .i64 ((rd_T43 l0 x3_1).f3), .int .i64 ((rd_T43 l0 x3_1).f4)]] (by rfl) rfl rfl (qA2_3) ?_
      with_reducible refine (spec_l12One.calls ((rd_T43 l0 x3_1).f0) ((rd_T43 l0 x3_1).f1) ((rd_T43 l0 x3_1).f2) ((rd_T43 l0 x3_1).f3) ((rd_T43 l0 x3_1).f4) false _ A4.out).mono ?_
      rintro e w18 ⟨rfl, hb⟩
      refine ⟨_, rfl, ?_⟩
      have n0_ := Aside0.mk (below_step (qA2_1) hb)
      clear HB
      have HB := n0_
      clear n0_
      (try clear hb)
      (try clear hb2)
      (try clear hk)
      (try clear hi)
      refine hK.out _ _ ⟨((HB.out.cell (World.block_lt_of_cell? w _ hw109_0)).trans hw109_0), ((HB.out.cell (World.block_lt_of_cell? w _ hw109_1)).trans hw109_1), ((HB.out.cell (World.block_lt_of_cell? w _ hw109_2)).trans hw109_2), ((HB.out.cell (World.block_lt_of_cell? w _ hw109_3)).trans hw109_3), ((HB.out.cell (World.block_lt_of_cell? w _ hw109_4)).trans hw109_4)⟩ (fun hHeld => ?_)
      clear hK K
      refine norm_ (a' := ?_) ?_ ?_
      rotate_left
      ·exact qA2_c3
      refine pure_ (i := 5) (N := some 15) (v := ?_) (a' := ?_) qA2_b6 rfl rfl (qA2_0) (fun _ _ _ h => h) (Or.inl ⟨by rfl, ?_⟩) ?_ ?_
      rotate_left; exact qA2_c1; rotate_left; exact qA2_c0
      refine pure_ (i := 6) (N := some 16) (v := ?_) (a' := ?_) qA2_b7 rfl rfl (qA2_0) (fun _ _ _ h => h) (Or.inl ⟨by rfl, ?_⟩) ?_ ?_
      rotate_left; exact qA2_c1; rotate_left; exact qA2_c0
      refine pure_ (i := 7) (N := some 17) (v := undef) (a' := ?_) qA2_b8 rfl rfl (qA2_0) (fun _ _ _ h => h) (Or.inr ⟨by rfl, rfl⟩) ?_ ?_
      rotate_left
      ·exact qA2_c0
      refine pure_ (i := 8) (N := some 18) (v := undef) (a' := ?_) qA2_b9 rfl rfl (qA2_0) (fun _ _ _ h => h) (Or.inr ⟨by rfl, rfl⟩) ?_ ?_
      rotate_left
      ·exact qA2_c0
      refine pure_ (i := 9) (N := some 19) (v := undef) (a' := ?_) qA2_b10 rfl rfl (qA2_0) (fun _ _ _ h => h) (Or.inr ⟨by rfl, rfl⟩) ?_ ?_
      rotate_left
      ·exact qA2_c0
      refine pure_ (i := 10) (N := some 20) (v := undef) (a' := ?_) qA2_b11 rfl rfl (qA2_0) (fun _ _ _ h => h) (Or.inr ⟨by rfl, rfl⟩) ?_ ?_
      rotate_left
      ·exact qA2_c0
      refine pure_ (i := 11) (N := some 21) (v := undef) (a' := ?_) qA2_b12 rfl rfl (qA2_0) (fun _ _ _ h => h) (Or.inr ⟨by rfl, rfl⟩) ?_ ?_
      rotate_left
      ·exact qA2_c0
      refine pure_ (i := 12) (N := some 22) (v := undef) (a' := ?_) qA2_b13 rfl rfl (qA2_0) (fun _ _ _ h => h) (Or.inr ⟨by rfl, rfl⟩) ?_ ?_
      rotate_left
      ·exact qA2_c0
      refine pure_ (i := 13) (N := some 23) (v := undef) (a' := ?_) qA2_b14 rfl rfl (qA2_0) (fun _ _ _ h => h) (Or.inr ⟨by rfl, rfl⟩) ?_ ?_
      rotate_left
      ·exact qA2_c0
      refine pure_ (i := 14) (N := some 24) (v := undef) (a' := ?_) qA2_b15 rfl rfl (qA2_0) (fun _ _ _ h => h) (Or.inr ⟨by rfl, rfl⟩) ?_ ?_
      rotate_left
      ·exact qA2_c0
      refine pure_ (i := 15) (N := some 25) (v := undef) (a' := ?_) qA2_b25 rfl rfl (qA2_0) (fun _ _ _ h => h) (Or.inr ⟨by rfl, rfl⟩) ?_ ?_
      rotate_left
      ·exact qA2_c0
      refine pure_ (i := 16) (N := some 26) (v := undef) (a' := ?_) qA2_b26 rfl rfl (qA2_0) (fun _ _ _ h => h) (Or.inr ⟨by rfl, rfl⟩) ?_ ?_
      rotate_left
      ·exact qA2_c0
      refine pure_ (i := 17) (N := some 27) (v := undef) (a' := ?_) qA2_b27 rfl rfl (qA2_0) (fun _ _ _ h => h) (Or.inr ⟨by rfl, rfl⟩) ?_ ?_
      rotate_left
      ·exact qA2_c0
      refine pure_ (i := 18) (N := some 28) (v := undef) (a' := ?_) qA2_b28 rfl rfl (qA2_0) (fun _ _ _ h => h) (Or.inr ⟨by rfl, rfl⟩) ?_ ?_
      rotate_left
      ·exact qA2_c0
      refine pure_ (i := 19) (N := some 29) (v := undef) (a' := ?_) qA2_b20 rfl rfl (qA2_0) (fun _ _ _ h => h) (Or.inr ⟨by rfl, rfl⟩) ?_ ?_
      rotate_left
      ·exact qA2_c0
      refine pure_ (i := 20) (N := some 30) (v := undef) (a' := ?_) qA2_b21 rfl rfl (qA2_0) (fun _ _ _ h => h) (Or.inr ⟨by rfl, rfl⟩) ?_ ?_
      rotate_left
      ·exact qA2_c0
      refine pure_ (i := 21) (N := some 31) (v := undef) (a' := ?_) qA2_b22 rfl rfl (qA2_0) (fun _ _ _ h => h) (Or.inr ⟨by rfl, rfl⟩) ?_ ?_
      rotate_left
      ·exact qA2_c0
      refine pure_ (i := 22) (N := some 32) (v := undef) (a' := ?_) qA2_b23 rfl rfl (qA2_0) (fun _ _ _ h => h) (Or.inr ⟨by rfl, rfl⟩) ?_ ?_
      rotate_left
      ·exact qA2_c0
      refine pure_ (i := 23) (N := some 33) (v := ?_) (a' := ?_) qA2_b24 rfl rfl (qA2_0) (fun _ _ _ h => h) (Or.inl ⟨by rfl, ?_⟩) ?_ ?_
      rotate_left; exact qA2_c1; rotate_left; exact qA2_c0
      refine done_ (qA2_4) ?_
      try go_wp2
      go_ret
      exact ⟨(qA2_6), (qA2_1)⟩
    ·rw [if_neg c3] at H
     exact absurd H (by simp)
   ·rw [if_neg c2] at H
    have c2b0 : decide (x3_1 < (l0.length : Int)) = false := decide_eq_false c2
    clear c2; obtain rfl := Option.some.inj H
    go_wp2
    go_ret
    exact ⟨(qA2_6), (qA2_1)⟩

end Go.Proofs.YtfbkhdlhkfbfcaaDoor.MA
