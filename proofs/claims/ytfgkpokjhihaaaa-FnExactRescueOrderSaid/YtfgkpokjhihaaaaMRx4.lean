-- Written by a program of this session (wip/drv.py, wip/tight.py).
import Derived.Test.YtfgkpokjhihaaaaMRx0
namespace Go.Proofs.Ytfgkpokjhihaaaa.MR
open Go.RowKit Go.Proofs.YtfgkpokjhihaaaaW.PrintWords Go.Proofs.YtfgkpokjhihaaaaW.PrintLast Go.Proofs.YtfgkpokjhihaaaaW.PrintMore
theorem qR4_0 {p : Prop} (h : p := by repeat (first | (with_reducible first | exact HB.out | apply below_alloc | apply pw_below_drewN | apply below_drew1) | exact HB.out)) : p := h
theorem qR4_1 {p : Prop} (h : p := by first | (with_reducible assumption) | assumption) : p := h
theorem qR4_2 {p : Prop} (h : p := by first | (refine Eq.mp (congrArg (fun z_ => ReadsRow _ _ _ _ z_ _) (show (l0.take (x5_1 : Int).toNat).length = x5_1.toNat from (by rw [List.length_take]; have h_ : (x5_1 : Int) ≤ (l0.length : Int) := of_decide_eq_true (qR4_1); omega))) ?_; repeat (first | exact (Kd.C_below HR156.out HB.out) | (with_reducible refine Kd.C_alloc ?_ _) | (with_reducible refine Kd.C_drewN ?_ _) | (with_reducible refine Kd.C_drew ?_))) | (repeat (first | exact (Kd.C_below HR156.out HB.out) | (with_reducible refine Kd.C_alloc ?_ _) | (with_reducible refine Kd.C_drewN ?_ _) | (with_reducible refine Kd.C_drew ?_)))) : p := h
theorem qR4_3 {p : Prop} (h : p := by first | (refine Eq.mp (congrArg (fun z_ => ReadsRow _ _ _ _ z_ _) (show (l0.take (x5_1 : Int).toNat).length = x5_1.toNat from (by rw [List.length_take]; have h_ : (x5_1 : Int) ≤ (l0.length : Int) := of_decide_eq_true (qR4_1); omega))) ?_; repeat (first | exact (Kd.C_below HR173.out HB.out) | (with_reducible refine Kd.C_alloc ?_ _) | (with_reducible refine Kd.C_drewN ?_ _) | (with_reducible refine Kd.C_drew ?_))) | (repeat (first | exact (Kd.C_below HR173.out HB.out) | (with_reducible refine Kd.C_alloc ?_ _) | (with_reducible refine Kd.C_drewN ?_ _) | (with_reducible refine Kd.C_drew ?_)))) : p := h
theorem qR4_4 {p : Prop} (h : p := by (with_reducible repeat (first | apply Kd.R_alloc | apply Kd.R_drewN | apply Kd.R_drew)); exact HO162.out) : p := h
theorem qR4_5 {p : Prop} (h : p := by (with_reducible repeat (first | apply Kd.R_alloc | apply Kd.R_drewN | apply Kd.R_drew)); exact HO179.out) : p := h
theorem qR4_6 {p : Prop} (h : p := by exact any_of HT_.out (by kernel_rfl)) : p := h
theorem qR4_7 {p : Prop} (h : p := by simp only [putAll, Act.put, List.setIfInBounds_toArray, List.set_cons_zero, List.set_cons_succ]) : p := h
theorem qR4_8 {p : Prop} (h : p := by exact (Reps.one (show Kd.M (Kd.int .i64) _ _ _ a1 [.int .i64 a1] from rfl) (Reps.none _ _))) : p := h
theorem qR4_9 {p : Prop} (h : p := by have := LMc28.out; have hlx_ := (show (l0.take (x5_1 : Int).toNat).length = x5_1.toNat from (by rw [List.length_take]; have h_ : (x5_1 : Int) ≤ (l0.length : Int) := of_decide_eq_true (qR4_1); omega)); omega) : p := h
theorem qR4_10 {p : Prop} (h : p := by have := LMc9.out; have hlx_ := (show (l0.take (x5_1 : Int).toNat).length = x5_1.toNat from (by rw [List.length_take]; have h_ : (x5_1 : Int) ≤ (l0.length : Int) := of_decide_eq_true (qR4_1); omega)); omega) : p := h
theorem qR4_11 {p : Prop} (h : p := by (with_reducible repeat (first | apply Kd.R_alloc | apply Kd.R_drewN | apply Kd.R_drew)); exact HO159.out) : p := h
theorem qR4_12 {p : Prop} (h : p := by (with_reducible repeat (first | apply Kd.R_alloc | apply Kd.R_drewN | apply Kd.R_drew)); exact HO176.out) : p := h
theorem qR4_13 {p : Prop} (h : p := by exact one_of HT_.out (by kernel_rfl)) : p := h
theorem qR4_14 {p : Prop} (h : p := by first | (go_simp; done) | (go_simp; rfl)) : p := h
theorem qR4_15 {p : Prop} (h : p := by (with_reducible repeat (first | apply Kd.R_alloc | apply Kd.R_drewN | apply Kd.R_drew)); exact Kd.R_mono HO162.out (fun _ hk => hk.2)) : p := h
theorem qR4_16 {p : Prop} (h : p := by (with_reducible repeat (first | apply Kd.R_alloc | apply Kd.R_drewN | apply Kd.R_drew)); exact Kd.R_mono HO179.out (fun _ hk => hk.2)) : p := h
theorem qR4_17 {p : Prop} (h : p := by (with_reducible repeat (first | apply Kd.R_alloc | apply Kd.R_drewN | apply Kd.R_drew)); exact HO155.out) : p := h
theorem qR4_18 {p : Prop} (h : p := by (with_reducible repeat (first | apply Kd.R_alloc | apply Kd.R_drewN | apply Kd.R_drew)); exact HO172.out) : p := h
theorem qR4_19 {p : Prop} (h : p := by exact (below_size (qR4_0))) : p := h
theorem qR4_20 {p : Prop} (h : p := by exact (fun k_ hk => Kd.fresh' (Kd.R_lt (qR4_4)) k_ hk)) : p := h
theorem qR4_21 {p : Prop} (h : p := by exact (fun k_ hk => Kd.fresh' (Kd.R_lt (qR4_5)) k_ hk)) : p := h
theorem qR4_22 {p : Prop} (h : p := by (with_reducible repeat (first | apply Kd.R_alloc | apply Kd.R_drewN | apply Kd.R_drew)); exact Kd.R_mono HO155.out (fun _ hk => hk.2)) : p := h
theorem qR4_23 {p : Prop} (h : p := by (with_reducible repeat (first | apply Kd.R_alloc | apply Kd.R_drewN | apply Kd.R_drew)); exact Kd.R_mono HO172.out (fun _ hk => hk.2)) : p := h
theorem qR4_24 {p : Prop} (h : p := by first | rfl | (simp [errW_none, errW_some] <;> rfl) | (simp [*, errW_none, errW_some] <;> rfl)) : p := h
theorem qR4_c0 {p : Prop} (h : p := by
  simp only [Act.put, List.setIfInBounds_toArray, List.set_cons_zero, List.set_cons_succ, i64_w, i32_w]
  rfl) : p := h
theorem qR4_c1 {p : Prop} (h : p := by
  show Act.put _ (some 37) _ = _
  simp only [Act.put, List.setIfInBounds_toArray, List.set_cons_zero, List.set_cons_succ, i64_w, i32_w]
  rfl) : p := h
theorem qR4_c2 {p : Prop} (h : p := by
  show Act.put _ (some 39) _ = _
  simp only [Act.put, List.setIfInBounds_toArray, List.set_cons_zero, List.set_cons_succ, i64_w, i32_w]
  rfl) : p := h
theorem qR4_c3 {p : Prop} (h : p := by
  intro w'
  go_simp
  with_reducible rfl) : p := h
theorem qR4_c4 {p : Prop} (h : p := by
  show Act.put _ (some 33) _ = _
  simp only [Act.put, List.setIfInBounds_toArray, List.set_cons_zero, List.set_cons_succ, i64_w, i32_w]
  rfl) : p := h
abbrev qR4_b0 : Array Bool := #[false, false, false, false, false, false, false, false, false, false, false, false, false]
abbrev qR4_b1 : Array Bool := #[false, true, false, false, false, false, false, false, false, false, false, false, false]
abbrev qR4_b2 : Array Bool := #[false, true, true, false, false, false, false, false, false, false, false, false, false]
abbrev qR4_b3 : Array Bool := #[false, true, true, true, false, false, false, false, false, false, false, false, false]
abbrev qR4_b4 : Array Bool := #[false, true, true, true, false, true, false, false, false, false, false, false, false]
abbrev qR4_b5 : Array Bool := #[false, true, true, true, false, true, false, false, true, false, false, false, false]
abbrev qR4_b6 : Array Bool := #[false, true, true, true, false, true, false, false, true, true, false, false, false]
abbrev qR4_b7 : Array Bool := #[false, true, true, true, false, true, false, false, true, true, true, false, false]
abbrev qR4_b8 : Array Bool := #[true, true, true, true, true, true, true, false, true, true, true, false, false]
abbrev qR4_b9 : Array Bool := #[true, true, true, true, false, true, false, false, true, true, true, false, false]
abbrev qR4_b10 : Array Bool := #[false, true, true, true, false, true, true, false, true, true, true, false, false]
abbrev qR4_b11 : Array Bool := #[true, true, true, true, true, true, false, false, true, true, true, false, false]
abbrev qR4_b12 : Array Bool := #[true, true, true, true, false, true, true, false, true, true, true, false, false]
abbrev qR4_b13 : Array Bool := #[true, true, true, true, true, true, true, true, true, true, true, false, false]
abbrev qR4_b14 : Array Bool := #[true, true, true, true, true, true, true, true, true, true, true, true, false]
abbrev qR4_b15 : Array Bool := #[true, true, true, true, true, true, true, true, true, true, true, true, true]
attribute [local go_sem] max2_int min2_int max_two min_two max_three min_three max_four min_four   -- for this text's walks alone
set_option linter.unusedVariables false
set_option linter.unusedSimpArgs false

/-! ### spec_l1Put: function 94 (by hand: wip/inj) -/
/-! ### spec_l1PutNew: function 94 -/
def spec_l1PutNew.l0 : Nat → List Int → Int → Int → Option (List Int)
 | 0, _, _, _ => none
 | k + 1, x0, x1, x5 => if x5 < (x0.length : Int) then (if 0 ≤ x5 then (if (rd x0 x5) < x1 then (spec_l1PutNew.l0 k x0 x1 (wrap64 (x5 + 1))) else (if (rd x0 x5) = x1 then (none) else ((some (([] : List Int) : List Int)).bind fun y153 => (if x5 ≤ (x0.length : Int) then (if y153.length + (x0.take (x5 : Int).toNat).length < 17592186044416 then ((some (y153 ++ (x0.take (x5 : Int).toNat) : List Int)).bind fun y157 => ((some (([x1] : List Int) : List Int)).bind fun y160 => (if y157.length + y160.length < 17592186044416 then ((some (y157 ++ y160 : List Int)).bind fun y163 => (if y163.length + (x0.drop (x5 : Int).toNat).length < 17592186044416 then (some (y163 ++ (x0.drop (x5 : Int).toNat))) else (none))) else (none)))) else (none)) else (none))))) else (none)) else ((some (([] : List Int) : List Int)).bind fun y170 => (if 0 ≤ x5 then (if x5 ≤ (x0.length : Int) then (if y170.length + (x0.take (x5 : Int).toNat).length < 17592186044416 then ((some (y170 ++ (x0.take (x5 : Int).toNat) : List Int)).bind fun y174 => ((some (([x1] : List Int) : List Int)).bind fun y177 => (if y174.length + y177.length < 17592186044416 then ((some (y174 ++ y177 : List Int)).bind fun y180 => (if y180.length + (x0.drop (x5 : Int).toNat).length < 17592186044416 then (some (y180 ++ (x0.drop (x5 : Int).toNat))) else (none))) else (none)))) else (none)) else (none)) else (none)))
def spec_l1PutNew.f (k : Nat) (l0 : List Int) (a1 : Int) : Option (List Int) := spec_l1PutNew.l0 k l0 a1 0
theorem spec_l1PutNew.mono_l : ∀ k, (∀ y0 y1 y2, LeO (spec_l1PutNew.l0 k y0 y1 y2) (spec_l1PutNew.l0 (k + 1) y0 y1 y2))
 | 0 => fun _ _ _ r h => by simp [spec_l1PutNew.l0] at h
 | k + 1 => by
  have ih0 := spec_l1PutNew.mono_l k
  ·intro y0 y1 y2
   unfold spec_l1PutNew.l0
   repeat' first
   | (with_reducible exact ih0 _ _ _)
   | (with_reducible exact LeO.refl _)
   | (with_reducible exact LeO.none _)
   | (with_reducible refine LeO.ite ?_ ?_)
   | (with_reducible refine LeO.bind ?_ (fun _ => ?_))
   | exact ih0 _ _ _
   | exact LeO.none _
   | refine LeO.ite ?_ ?_
   | refine LeO.bind ?_ (fun _ => ?_)
theorem spec_l1PutNew.mono : ∀ a0 a1 k, LeO (spec_l1PutNew.f k a0 a1) (spec_l1PutNew.f (k + 1) a0 a1) := by
 intro a0 a1 k
 have ih0 := spec_l1PutNew.mono_l k
 unfold spec_l1PutNew.f
 repeat' first
   | (with_reducible exact ih0 _ _ _)
   | (with_reducible exact LeO.refl _)
   | (with_reducible exact LeO.none _)
   | (with_reducible refine LeO.ite ?_ ?_)
   | (with_reducible refine LeO.bind ?_ (fun _ => ?_))
   | exact ih0 _ _ _
   | exact LeO.none _
   | refine LeO.ite ?_ ?_
   | refine LeO.bind ?_ (fun _ => ?_)
def spec_l1PutNew.T6 : Bool × List (List Nat × List Nat) := (true, [([], []), ([], []), ([], []), ([1, 2], [1, 2]), ([0, 3], [0, 3]), ([], []), ([5], [5]), ([4, 6, 4], [4, 6]), ([], []), ([], []), ([8, 9], [8, 9]), ([7, 10, 7], [7, 10]), ([11, 11, 0, 1, 2, 3, 4, 5, 6, 7, 8, 9, 10, 11], [11])])
def spec_l1PutNew.B6 : List Nat := [0, 0, 0, 6, 15, 0, 32, 127, 0, 0, 768, 2047, 4095]
theorem spec_l1PutNew.tab6 : rtab .any (opsOf Try.f94 6) = spec_l1PutNew.T6 := by kernel_rfl
theorem spec_l1PutNew.bits6 : waitsOk spec_l1PutNew.T6.2 spec_l1PutNew.B6 = true := by kernel_rfl
set_option maxHeartbeats 8000000 in
set_option maxRecDepth 100000 in
theorem spec_l1PutNew.calls (k : Nat) (A0 : Option Addr) (c0 : Nat) (l0 : List Int) (a1 : Int) (r : List Int) (w : World) (hr0 : Kd.C (Kd.int .i64) w A0 l0.length l0) (hc0 : l0.length ≤ c0) (h : spec_l1PutNew.f k l0 a1 = some r) :
  Calls Try.prog 94 #[.slice A0 l0.length c0, .int .i64 a1] w fun e w' => ∃ v0_ : Value, e = .returned (v0_) ∧ Kd.R (Kd.int .i64) 3 w' w.heap.size (fun _ => True) v0_ r ∧ Below w.heap.size w w' := by
 have HR0 := Aside0.mk hr0; have HC0 := Aside0.mk hc0; clear hr0 hc0
 have HB := Aside0.mk (Below.refl w.heap.size w)
 have H : (spec_l1PutNew.l0 k l0 a1 0) = some r := h
 clear h
 have H' := Aside0.mk H
 clear H
 go_enter Try.func94, Try.ntmps94
 go_wp2
 go_loopg [5] k (fun kq v5 w' => ∃ (x5_1 : Int), v5 = .int .i64 x5_1 ∧ Aside0 (spec_l1PutNew.l0 kq l0 a1 x5_1 = some r) ∧ Aside0 (kq ≤ k) ∧ Aside0 (Below w.heap.size w w'))
 case atStart => exact ⟨(0), (by first | rfl | (simp; done) | (simp [*]; done)), H', ⟨Nat.le_refl _⟩, ⟨(qR4_0)⟩⟩
 case round =>
  clear H'
  try clear p2
  obtain ⟨x5_1, rfl, HA, HK1, HB⟩ := hrel
  cases gk with
  | zero => exact absurd HA.out (by simp [spec_l1PutNew.l0])
  | succ k1 =>
   have H := HA.out
   clear HA
   simp only [spec_l1PutNew.l0] at H
   by_cases c3 : x5_1 < (l0.length : Int)
   ·rw [if_pos c3] at H
    have c3b0 : decide (x5_1 < (l0.length : Int)) = true := decide_eq_true c3
    clear c3
    by_cases c4 : 0 ≤ x5_1
    ·rw [if_pos c4] at H
     have c4b0 : decide (0 ≤ x5_1) = true := decide_eq_true c4
     clear c4
     by_cases c5 : (rd l0 x5_1) < a1
     ·rw [if_pos c5] at H
      have c5b0 : decide ((rd l0 x5_1) < a1) = true := decide_eq_true c5
      clear c5
      have H' := Aside0.mk H
      clear H
      have p151 : 0 ≤ (x5_1 : Int) := of_decide_eq_true (qR4_1)
      have q151 : x5_1 < (l0.length : Int) := of_decide_eq_true (qR4_1)
      obtain ⟨ad151, e151, hx151_0⟩ := Kd.at_int HR0.out x5_1 p151 q151
      cases e151
      replace hx151_0 := (HB.out.cell (World.block_lt_of_cell? w _ hx151_0)).trans hx151_0
      replace p151 := eq_true p151
      replace q151 := eq_true q151
      go_wp2
      go_roundg k1
      case measure => have := HK1.out; omega
      case rel => exact ⟨(wrap64 (x5_1 + 1)), (by first | rfl | (simp; done) | (simp [*]; done)), H', ⟨by have := HK1.out; omega⟩, ⟨(qR4_0)⟩⟩
     ·rw [if_neg c5] at H
      have c5b0 : decide ((rd l0 x5_1) < a1) = false := decide_eq_false c5
      clear c5
      by_cases c6 : (rd l0 x5_1) = a1
      ·rw [if_pos c6] at H
       exact absurd H (by simp)
      ·rw [if_neg c6] at H
       have c6b0 : ((rd l0 x5_1) == a1) = false := beq_eq_false_iff_ne.mpr c6
       have c6b1 : ((rd l0 x5_1) != a1) = true := bne_iff_ne.mpr c6
       obtain ⟨y153, hy153⟩ : ∃ y_ : List Int, y_ = (([] : List Int)) := ⟨_, rfl⟩
       replace H : (if x5_1 ≤ (l0.length : Int) then (if y153.length + (l0.take (x5_1 : Int).toNat).length < 17592186044416 then ((some (y153 ++ (l0.take (x5_1 : Int).toNat) : List Int)).bind fun y157 => ((some (([a1] : List Int) : List Int)).bind fun y160 => (if y157.length + y160.length < 17592186044416 then ((some (y157 ++ y160 : List Int)).bind fun y163 => (if y163.length + (l0.drop (x5_1 : Int).toNat).length < 17592186044416 then (some (y163 ++ (l0.drop (x5_1 : Int).toNat))) else (none))) else (none)))) else (none)) else (none)) = some r := by first | (rw [hy153]; with_reducible exact H) | (have H2_ := (Option.bind_some _ _).symm.trans H; rw [hy153]; with_reducible exact H2_) | (have H2_ := (Option.bind_some _ _).symm.trans H; with_reducible exact H2_) | with_reducible exact H | (rw [hy153]; exact H) | exact H
       have Ny153 := Aside0.mk hy153; clear hy153
       have c7b0 := eq_true (of_decide_eq_true (qR4_1) : 0 ≤ x5_1)
       by_cases c8 : x5_1 ≤ (l0.length : Int)
       ·rw [if_pos c8] at H
        have c8b0 := eq_true c8
        have c8b1 : decide (x5_1 ≤ (l0.length : Int)) = true := decide_eq_true c8
        clear c8
        by_cases c9 : y153.length + (l0.take (x5_1 : Int).toNat).length < 17592186044416
        ·rw [if_pos c9] at H; have LMc9 := Aside0.mk c9; clear c9
         obtain ⟨y157, hy157⟩ : ∃ y_ : List Int, y_ = (y153 ++ (l0.take (x5_1 : Int).toNat)) := ⟨_, rfl⟩
         replace H : ((some (([a1] : List Int) : List Int)).bind fun y160 => (if y157.length + y160.length < 17592186044416 then ((some (y157 ++ y160 : List Int)).bind fun y163 => (if y163.length + (l0.drop (x5_1 : Int).toNat).length < 17592186044416 then (some (y163 ++ (l0.drop (x5_1 : Int).toNat))) else (none))) else (none))) = some r := by first | (rw [hy157]; with_reducible exact H) | (have H2_ := (Option.bind_some _ _).symm.trans H; rw [hy157]; with_reducible exact H2_) | (have H2_ := (Option.bind_some _ _).symm.trans H; with_reducible exact H2_) | with_reducible exact H | (rw [hy157]; exact H) | exact H
         have Ny157 := Aside0.mk hy157; clear hy157
         obtain ⟨y160, hy160⟩ : ∃ y_ : List Int, y_ = (([a1] : List Int)) := ⟨_, rfl⟩
         replace H : (if y157.length + y160.length < 17592186044416 then ((some (y157 ++ y160 : List Int)).bind fun y163 => (if y163.length + (l0.drop (x5_1 : Int).toNat).length < 17592186044416 then (some (y163 ++ (l0.drop (x5_1 : Int).toNat))) else (none))) else (none)) = some r := by first | (rw [hy160]; with_reducible exact H) | (have H2_ := (Option.bind_some _ _).symm.trans H; rw [hy160]; with_reducible exact H2_) | (have H2_ := (Option.bind_some _ _).symm.trans H; with_reducible exact H2_) | with_reducible exact H | (rw [hy160]; exact H) | exact H
         have Ny160 := Aside0.mk hy160; clear hy160
         by_cases c10 : y157.length + y160.length < 17592186044416
         ·rw [if_pos c10] at H; have LMc10 := Aside0.mk c10; clear c10
          obtain ⟨y163, hy163⟩ : ∃ y_ : List Int, y_ = (y157 ++ y160) := ⟨_, rfl⟩
          replace H : (if y163.length + (l0.drop (x5_1 : Int).toNat).length < 17592186044416 then (some (y163 ++ (l0.drop (x5_1 : Int).toNat))) else (none)) = some r := by first | (rw [hy163]; with_reducible exact H) | (have H2_ := (Option.bind_some _ _).symm.trans H; rw [hy163]; with_reducible exact H2_) | (have H2_ := (Option.bind_some _ _).symm.trans H; with_reducible exact H2_) | with_reducible exact H | (rw [hy163]; exact H) | exact H
          have Ny163 := Aside0.mk hy163; clear hy163
          have c11b0 := eq_true (of_decide_eq_true (qR4_1) : 0 ≤ x5_1)
          have c12b0 := eq_true (of_decide_eq_true (qR4_1) : x5_1 ≤ (l0.length : Int))
          by_cases c13 : y163.length + (l0.drop (x5_1 : Int).toNat).length < 17592186044416
          ·rw [if_pos c13] at H; have LMc13 := Aside0.mk c13; clear c13
           obtain ⟨y167, hy167⟩ : ∃ y_ : List Int, y_ = (y163 ++ (l0.drop (x5_1 : Int).toNat)) := ⟨_, rfl⟩
           replace H : (some y167) = some r := by first | (rw [hy167]; with_reducible exact H) | (have H2_ := (Option.bind_some _ _).symm.trans H; rw [hy167]; with_reducible exact H2_) | (have H2_ := (Option.bind_some _ _).symm.trans H; with_reducible exact H2_) | with_reducible exact H | (rw [hy167]; exact H) | exact H
           have Ny167 := Aside0.mk hy167; clear hy167; obtain rfl := Option.some.inj H
           have p151 : 0 ≤ (x5_1 : Int) := of_decide_eq_true (qR4_1)
           have q151 : x5_1 < (l0.length : Int) := of_decide_eq_true (qR4_1)
           obtain ⟨ad151, e151, hx151_0⟩ := Kd.at_int HR0.out x5_1 p151 q151
           cases e151
           replace hx151_0 := (HB.out.cell (World.block_lt_of_cell? w _ hx151_0)).trans hx151_0
           replace p151 := eq_true p151
           replace q151 := eq_true q151
           have p152 : 0 ≤ (x5_1 : Int) := of_decide_eq_true (qR4_1)
           have q152 : x5_1 < (l0.length : Int) := of_decide_eq_true (qR4_1)
           obtain ⟨ad152, e152, hx152_0⟩ := Kd.at_int HR0.out x5_1 p152 q152
           obtain rfl : ad151 = ad152 := (by injection e152)
           replace hx152_0 := (HB.out.cell (World.block_lt_of_cell? w _ hx152_0)).trans hx152_0
           replace p152 := eq_true p152
           replace q152 := eq_true q152
           try go_wp2
           have n0_ := Aside0.mk (below_drew1 HB.out)
           clear HB
           have HB := n0_
           clear n0_
           obtain ⟨i015, hi015, _, hsz15, _⟩ := info_parts info3
           obtain ⟨hcut15, hA15, hC15⟩ := print_take_of (P := Try.prog) (Value.int .i64) 0 25 3 .i64 Try.underlying25 hi015 hsz15 (some ad151) c0 l0 x5_1 (of_decide_eq_true (qR4_1)) (of_decide_eq_true (qR4_1)) HC0.out
           have HR156 := Aside0.mk (Kd.C_of_reads (h1 := fun _ => rfl) (hA15 _ (Kd.reads_of_C HR0.out)))
           have HC156 := Aside0.mk hC15; clear hA15 hC15 hi015 hsz15
           obtain ⟨i016, hi016, _, hsz16, _⟩ := info_parts info3
           obtain ⟨A16, hcut16, hA16, hC16⟩ := print_drop_of (P := Try.prog) (Value.int .i64) 0 25 3 .i64 Try.underlying25 hi016 hsz16 (some ad151) c0 l0 x5_1 (of_decide_eq_true (qR4_1)) (of_decide_eq_true (qR4_1)) HC0.out
           have HR166 := Aside0.mk (Kd.C_of_reads (h1 := fun _ => rfl) (hA16 _ (Kd.reads_of_C HR0.out)))
           have HC166 := Aside0.mk hC16; clear hA16 hC16 hi016 hsz16
           refine start_ (n := 13) (S := fun w' => True) (ds := []) qR4_b0 (by kernel_rfl) rfl rfl trivial (fun hHeld => ?_); refine with_tabW spec_l1PutNew.tab6 spec_l1PutNew.bits6 (fun HT_ HW_ => ?_)
           generalize wr.drew = w14 at HB HR156 HR166 hHeld ⊢
           refine pure_ (i := 1) (N := some 34) (v := ?_) (a' := ?_) qR4_b1 rfl rfl (qR4_6) (fun _ _ _ h => h) (Or.inl ⟨by rfl, ?_⟩) ?_ ?_
           rotate_left; exact qR4_c3; rotate_left; exact qR4_c0
           refine pure_ (i := 2) (N := some 35) (v := ?_) (a' := ?_) qR4_b2 rfl rfl (qR4_6) (fun _ _ _ h => h) (Or.inl ⟨by rfl, ?_⟩) ?_ ?_
           rotate_left; exact qR4_c3; rotate_left; exact qR4_c0
           refine pure_ (i := 3) (N := some 36) (v := ?_) (a' := ?_) qR4_b3 rfl rfl (qR4_6) (fun _ _ _ h => h) (Or.inl ⟨by rfl, ?_⟩) ?_ ?_
           rotate_left; exact qR4_c3; rotate_left; exact qR4_c0
           refine pure_ (i := 5) (N := some 38) (v := ?_) (a' := ?_) qR4_b4 rfl rfl (qR4_6) (fun _ _ _ h => h) (Or.inl ⟨by rfl, ?_⟩) ?_ ?_
           rotate_left; exact qR4_c3; rotate_left; exact qR4_c0
           refine pure_ (i := 8) (N := some 41) (v := ?_) (a' := ?_) qR4_b5 rfl rfl (qR4_6) (fun _ _ _ h => h) (Or.inl ⟨by rfl, ?_⟩) ?_ ?_
           rotate_left; exact qR4_c3; rotate_left; exact qR4_c0
           refine pure_ (i := 9) (N := some 42) (v := ?_) (a' := ?_) qR4_b6 rfl rfl (qR4_6) (fun _ _ _ h => h) (Or.inl ⟨by rfl, ?_⟩) ?_ ?_
           rotate_left; exact qR4_c3; rotate_left; exact qR4_c0
           refine pure_ (i := 10) (N := some 43) (v := ?_) (a' := ?_) qR4_b7 rfl rfl (qR4_6) (fun _ _ _ h => h) (Or.inl ⟨by rfl, ?_⟩) ?_ ?_
           rotate_left; exact qR4_c3; rotate_left; exact qR4_c0
           refine join_ (σ := Value × Value × Value) 3 qR4_b8 (fun s_ => [(33, s_.1), (37, s_.2.1), (39, s_.2.2)]) (fun s_ w' => (Kd.R (Kd.int .i64) 3 w' w.heap.size (fun k_ => some k_ ≠ (s_.2.2 : Value).ownBlock) s_.2.1 y157) ∧ (Kd.R (Kd.int .i64) 3 w' w.heap.size (fun k_ => some k_ ≠ (s_.2.1 : Value).ownBlock) s_.2.2 y160) ∧ (Below w.heap.size w w')) ?_ ?_
           rotate_left
           ·intro hCont
            refine two_ (i := 0) (j := 6) (Ni := some 33) (Nj := some 39) qR4_b9 qR4_b10 rfl rfl rfl rfl (two_of HT_.out (by kernel_rfl)) (by decide) (by decide) (fun K hK => ?_) (fun K hK => ?_)
            ·skip
             refine Kd.R_lit_step (Kd.int .i64) _ 3 ?hg (N := 33) ?hd (xs := ([] : List Int)) (inner := []) (ok := fun _ => True) (okp := fun _ => True) ?hr ?hp (fun _ hk => hk) trivial (Below.refl _ _) (Nat.le_refl _) (by simp) ?_; (case hd => rfl); (case hg => rfl); (case hr => exact (qR4_14)); (case hp => exact (Reps.none _ _))
             intro v154 w17 ho18 hb hg_ hnew_
             clear hg_ hnew_
             (first | rw [← Ny153.out] at ho18 | (simp only [Int.reduceToNat] at ho18; rw [← Ny153.out] at ho18))
             have n0_ := Aside0.mk (Kd.R_lower ho18 (below_size (qR4_0)))
             have n1_ := Aside0.mk (below_step (qR4_0) hb)
             clear HB
             have HO155 := n0_
             have HB := n1_
             clear n0_ n1_; clear hb ho18
             refine hK.out _ _ trivial (fun hHeld => ?_)
             clear hK K
             refine norm_ (a' := ?_) ?_ ?_
             rotate_left
             ·exact qR4_c4
             refine two_ (i := 4) (j := 6) (Ni := some 37) (Nj := some 39) qR4_b11 qR4_b12 rfl rfl rfl rfl (two_of HT_.out (by kernel_rfl)) (by decide) (by decide) (fun K hK => ?_) (fun K hK => ?_)
             ·skip
              refine Kd.R_append_rows_step (Kd.int .i64) (w0 := w) w.heap.size (by rfl) (.tmp 33) (.tmp 36) 25 3 (.int .i64 0) 8 rfl Try.underlying25 info3 rfl (by decide) (by omega) v154 y153 (l0.take (x5_1 : Int).toNat) _ _ _ (fun _ => True) (fun _ => False) rfl rfl ?aO ?aR (fun _ _ h => h) (fun _ h => h.elim) ?aF ?aB ?aS ?aL ?_
              (case aR => exact (qR4_2))
              (case aB => exact (qR4_0))
              (case aF => exact (fun _ _ => trivial))
              (case aO => exact (qR4_17))
              (case aS => exact (qR4_19))
              (case aL => exact (qR4_10))
              intro v158 w19 ho hb hg hat
              rw [← Ny157.out] at ho
              have n0_ := Aside0.mk (hb); have n1_ := Aside0.mk (ho); clear HB; clear HO155
              have HB := n0_
              have HO159 := n1_
              clear n0_ n1_; clear ho hb hg hat
              refine hK.out _ _ trivial (fun hHeld => ?_)
              clear hK K
              refine norm_ (a' := ?_) ?_ ?_
              rotate_left
              ·exact qR4_c1
              refine one_ (i := 6) (N := some 39) qR4_b8 rfl rfl (qR4_13) (by decide) (fun K hK => ?_)
              refine Kd.R_lit_step (Kd.int .i64) _ 3 ?hg (N := 39) ?hd (xs := ([a1] : List Int)) (inner := [.int .i64 a1]) (ok := fun _ => True) (okp := fun _ => True) ?hr ?hp (fun _ hk => hk) trivial (Below.refl _ _) (Nat.le_refl _) (by simp) ?_; (case hd => rfl); (case hg => rfl); (case hr => exact (qR4_14)); (case hp => exact (qR4_8))
              intro v161 w20 ho21 hb hg_ hnew_
              clear hg_ hnew_
              (first | rw [← Ny160.out] at ho21 | (simp only [Int.reduceToNat] at ho21; rw [← Ny160.out] at ho21))
              have n0_ := Aside0.mk (Kd.R_elder' (qR4_11) (Kd.R_base ho21) hb)
              have n1_ := Aside0.mk (Kd.R_lower (Kd.R_new' ho21 (Kd.R_lt (qR4_11))) (below_size (qR4_0)))
              have n2_ := Aside0.mk (below_step (qR4_0) hb)
              clear HO159; clear HB
              have HO159 := n0_
              have HO162 := n1_
              have HB := n2_
              clear n0_ n1_ n2_; clear hb ho21
              refine hK.out _ _ trivial (fun hHeld => ?_)
              clear hK K
              refine norm_ (a' := ?_) ?_ ?_
              rotate_left
              ·exact qR4_c2
              exact norm_ (qR4_7) (hCont (v154, v158, v161) _ ⟨(by (with_reducible repeat (first | apply Kd.R_alloc | apply Kd.R_drewN | apply Kd.R_drew)); exact Kd.R_mono HO159.out (fun _ hk => hk.2)), (qR4_15), (qR4_0)⟩)
             ·skip
              refine Kd.R_lit_step (Kd.int .i64) _ 3 ?hg (N := 39) ?hd (xs := ([a1] : List Int)) (inner := [.int .i64 a1]) (ok := fun _ => True) (okp := fun _ => True) ?hr ?hp (fun _ hk => hk) trivial (Below.refl _ _) (Nat.le_refl _) (by simp) ?_; (case hd => rfl); (case hg => rfl); (case hr => exact (qR4_14)); (case hp => exact (qR4_8))
              intro v161 w19 ho20 hb hg_ hnew_
              clear hg_ hnew_
              (first | rw [← Ny160.out] at ho20 | (simp only [Int.reduceToNat] at ho20; rw [← Ny160.out] at ho20))
              have n0_ := Aside0.mk (Kd.R_elder' (qR4_17) (Kd.R_base ho20) hb)
              have n1_ := Aside0.mk (Kd.R_lower (Kd.R_new' ho20 (Kd.R_lt (qR4_17))) (below_size (qR4_0)))
              have n2_ := Aside0.mk (below_step (qR4_0) hb)
              clear HO155; clear HB
              have HO155 := n0_
              have HO162 := n1_
              have HB := n2_
              clear n0_ n1_ n2_; clear hb ho20
              refine hK.out _ _ trivial (fun hHeld => ?_)
              clear hK K
              refine norm_ (a' := ?_) ?_ ?_
              rotate_left
              ·exact qR4_c2
              refine one_ (i := 4) (N := some 37) qR4_b8 rfl rfl (qR4_13) (by decide) (fun K hK => ?_)
              refine Kd.R_append_rows_step (Kd.int .i64) (w0 := w) w.heap.size (by rfl) (.tmp 33) (.tmp 36) 25 3 (.int .i64 0) 8 rfl Try.underlying25 info3 rfl (by decide) (by omega) v154 y153 (l0.take (x5_1 : Int).toNat) _ _ _ (fun k_ => some k_ ≠ (v161 : Value).ownBlock) (fun _ => False) rfl rfl ?aO ?aR (fun _ _ h => h) (fun _ h => h.elim) ?aF ?aB ?aS ?aL ?_
              (case aR => exact (qR4_2))
              (case aB => exact (qR4_0))
              (case aF => exact (qR4_20))
              (case aO => exact (qR4_22))
              (case aS => exact (qR4_19))
              (case aL => exact (qR4_10))
              intro v158 w21 ho hb hg hat
              rw [← Ny157.out] at ho
              have n0_ := Aside0.mk (Kd.R_after (ok := (fun _ => True)) (qR4_4) hg hat)
              have n1_ := Aside0.mk (hb); have n2_ := Aside0.mk (ho); clear HO162; clear HB; clear HO155
              have HO162 := n0_
              have HB := n1_
              have HO159 := n2_
              clear n0_ n1_ n2_; clear ho hb hg hat
              refine hK.out _ _ trivial (fun hHeld => ?_)
              clear hK K
              refine norm_ (a' := ?_) ?_ ?_
              rotate_left
              ·exact qR4_c1
              exact norm_ (qR4_7) (hCont (v154, v158, v161) _ ⟨(qR4_11), (qR4_15), (qR4_0)⟩)
            ·skip
             refine Kd.R_lit_step (Kd.int .i64) _ 3 ?hg (N := 39) ?hd (xs := ([a1] : List Int)) (inner := [.int .i64 a1]) (ok := fun _ => True) (okp := fun _ => True) ?hr ?hp (fun _ hk => hk) trivial (Below.refl _ _) (Nat.le_refl _) (by simp) ?_; (case hd => rfl); (case hg => rfl); (case hr => exact (qR4_14)); (case hp => exact (qR4_8))
             intro v161 w17 ho18 hb hg_ hnew_
             clear hg_ hnew_
             (first | rw [← Ny160.out] at ho18 | (simp only [Int.reduceToNat] at ho18; rw [← Ny160.out] at ho18))
             have n0_ := Aside0.mk (Kd.R_lower ho18 (below_size (qR4_0)))
             have n1_ := Aside0.mk (below_step (qR4_0) hb)
             clear HB
             have HO162 := n0_
             have HB := n1_
             clear n0_ n1_; clear hb ho18
             refine hK.out _ _ trivial (fun hHeld => ?_)
             clear hK K
             refine norm_ (a' := ?_) ?_ ?_
             rotate_left
             ·exact qR4_c2
             refine one_ (i := 0) (N := some 33) qR4_b12 rfl rfl (qR4_13) (by decide) (fun K hK => ?_)
             refine Kd.R_lit_step (Kd.int .i64) _ 3 ?hg (N := 33) ?hd (xs := ([] : List Int)) (inner := []) (ok := fun _ => True) (okp := fun _ => True) ?hr ?hp (fun _ hk => hk) trivial (Below.refl _ _) (Nat.le_refl _) (by simp) ?_; (case hd => rfl); (case hg => rfl); (case hr => exact (qR4_14)); (case hp => exact (Reps.none _ _))
             intro v154 w19 ho20 hb hg_ hnew_
             clear hg_ hnew_
             (first | rw [← Ny153.out] at ho20 | (simp only [Int.reduceToNat] at ho20; rw [← Ny153.out] at ho20))
             have n0_ := Aside0.mk (Kd.R_elder' (qR4_4) (Kd.R_base ho20) hb)
             have n1_ := Aside0.mk (Kd.R_lower (Kd.R_new' ho20 (Kd.R_lt (qR4_4))) (below_size (qR4_0)))
             have n2_ := Aside0.mk (below_step (qR4_0) hb)
             clear HO162; clear HB
             have HO162 := n0_
             have HO155 := n1_
             have HB := n2_
             clear n0_ n1_ n2_; clear hb ho20
             refine hK.out _ _ trivial (fun hHeld => ?_)
             clear hK K
             refine norm_ (a' := ?_) ?_ ?_
             rotate_left
             ·exact qR4_c4
             refine one_ (i := 4) (N := some 37) qR4_b8 rfl rfl (qR4_13) (by decide) (fun K hK => ?_)
             refine Kd.R_append_rows_step (Kd.int .i64) (w0 := w) w.heap.size (by rfl) (.tmp 33) (.tmp 36) 25 3 (.int .i64 0) 8 rfl Try.underlying25 info3 rfl (by decide) (by omega) v154 y153 (l0.take (x5_1 : Int).toNat) _ _ _ (fun k_ => some k_ ≠ (v161 : Value).ownBlock) (fun _ => False) rfl rfl ?aO ?aR (fun _ _ h => h) (fun _ h => h.elim) ?aF ?aB ?aS ?aL ?_
             (case aR => exact (qR4_2))
             (case aB => exact (qR4_0))
             (case aF => exact (qR4_20))
             (case aO => exact (qR4_22))
             (case aS => exact (qR4_19))
             (case aL => exact (qR4_10))
             intro v158 w21 ho hb hg hat
             rw [← Ny157.out] at ho
             have n0_ := Aside0.mk (Kd.R_after (ok := (fun _ => True)) (qR4_4) hg hat)
             have n1_ := Aside0.mk (hb); have n2_ := Aside0.mk (ho); clear HO162; clear HB; clear HO155
             have HO162 := n0_
             have HB := n1_
             have HO159 := n2_
             clear n0_ n1_ n2_; clear ho hb hg hat
             refine hK.out _ _ trivial (fun hHeld => ?_)
             clear hK K
             refine norm_ (a' := ?_) ?_ ?_
             rotate_left
             ·exact qR4_c1
             exact norm_ (qR4_7) (hCont (v154, v158, v161) _ ⟨(qR4_11), (qR4_15), (qR4_0)⟩)
           rintro ⟨v154, v158, v161⟩ w22 ⟨h0_, h1_, h2_⟩
           have n0_ : Aside0 (Kd.R (Kd.int .i64) 3 w22 w.heap.size (fun k_ => some k_ ≠ (v161 : Value).ownBlock) v158 y157) := ⟨h0_⟩
           have n1_ : Aside0 (Kd.R (Kd.int .i64) 3 w22 w.heap.size (fun k_ => some k_ ≠ (v158 : Value).ownBlock) v161 y160) := ⟨h1_⟩
           have n2_ : Aside0 (Below w.heap.size w w22) := ⟨h2_⟩
           clear HB; clear h0_ h1_ h2_
           have HO159 := n0_
           have HO162 := n1_
           have HB := n2_
           clear n0_ n1_ n2_
           have hHeld := trivial
           obtain ⟨Ao24, co24, eo24⟩ := Kd.R_slice HO162.out
           (first | subst eo24 | (injection eo24 with f1_ f2_ f3_; have f4_ := f1_.symm; have f5_ := f3_.symm; clear f1_ f2_ f3_; subst f4_; subst f5_))
           refine norm_ (a' := ?_) ?_ ?_
           rotate_left
           ·simp only [putAll, Act.put, List.setIfInBounds_toArray, List.set_cons_zero, List.set_cons_succ]
            rfl
           refine one_ (i := 7) (N := some 40) qR4_b13 rfl rfl (qR4_13) (by decide) (fun K hK => ?_)
           refine Kd.R_append_rows_step (Kd.int .i64) (w0 := w) w.heap.size (by rfl) (.tmp 37) (.tmp 39) 25 3 (.int .i64 0) 8 rfl Try.underlying25 info3 rfl (by decide) (by omega) v158 y157 y160 _ _ _ (fun k_ => some k_ ≠ (.slice Ao24 y160.length co24 : Value).ownBlock) (fun _ => False) rfl rfl ?aO ?aR (fun _ _ h => h) (fun _ h => h.elim) ?aF ?aB ?aS ?aL ?_
           (case aR => exact (by repeat (first | exact (Kd.R_reads' HO162.out).2.2 | (with_reducible refine Kd.C_alloc ?_ _) | (with_reducible refine Kd.C_drewN ?_ _) | (with_reducible refine Kd.C_drew ?_))))
           (case aB => exact (qR4_0))
           (case aF => exact (qR4_20))
           (case aO => exact (qR4_11))
           (case aS => exact (qR4_19))
           (case aL => have := LMc10.out; omega)
           intro v164 w23 ho hb hg hat
           rw [← Ny163.out] at ho
           have n0_ := Aside0.mk (Kd.R_after (ok := (fun _ => True)) (by (with_reducible repeat (first | apply Kd.R_alloc | apply Kd.R_drewN | apply Kd.R_drew)); exact Kd.R_mono HO162.out (fun _ hk => ⟨trivial, hk⟩)) hg hat)
           have n1_ := Aside0.mk (hb); have n2_ := Aside0.mk (ho); clear HO162; clear HB; clear HO159
           have HO162 := n0_
           have HB := n1_
           have HO165 := n2_
           clear n0_ n1_ n2_; clear ho hb hg hat
           refine hK.out _ _ trivial (fun hHeld => ?_)
           clear hK K
           refine norm_ (a' := ?_) ?_ ?_
           rotate_left
           ·show Act.put _ (some 40) _ = _
            simp only [Act.put, List.setIfInBounds_toArray, List.set_cons_zero, List.set_cons_succ, i64_w, i32_w]
            rfl
           refine one_ (i := 11) (N := some 44) qR4_b14 rfl rfl (qR4_13) (by decide) (fun K hK => ?_)
           refine Kd.R_append_rows_step (Kd.int .i64) (w0 := w) w.heap.size (by rfl) (.tmp 40) (.tmp 43) 25 3 (.int .i64 0) 8 rfl Try.underlying25 info3 rfl (by decide) (by omega) v164 y163 (l0.drop (x5_1 : Int).toNat) _ _ _ (fun k_ => some k_ ≠ (.slice Ao24 y160.length co24 : Value).ownBlock) (fun _ => False) rfl rfl ?aO ?aR (fun _ _ h => h) (fun _ h => h.elim) ?aF ?aB ?aS ?aL ?_
           (case aR => exact (by first | (rw [← show (l0.drop (x5_1 : Int).toNat).length = (l0.length - x5_1.toNat) from List.length_drop]; repeat (first | exact (Kd.C_below HR166.out HB.out) | (with_reducible refine Kd.C_alloc ?_ _) | (with_reducible refine Kd.C_drewN ?_ _) | (with_reducible refine Kd.C_drew ?_))) | (repeat (first | exact (Kd.C_below HR166.out HB.out) | (with_reducible refine Kd.C_alloc ?_ _) | (with_reducible refine Kd.C_drewN ?_ _) | (with_reducible refine Kd.C_drew ?_)))))
           (case aB => exact (qR4_0))
           (case aF => exact (qR4_20))
           (case aO => exact (by (with_reducible repeat (first | apply Kd.R_alloc | apply Kd.R_drewN | apply Kd.R_drew)); exact HO165.out))
           (case aS => exact (qR4_19))
           (case aL => exact (by have := LMc13.out; have hlx_ := (show (l0.drop (x5_1 : Int).toNat).length = (l0.length - x5_1.toNat) from List.length_drop); omega))
           intro v168 w25 ho hb hg hat
           rw [← Ny167.out] at ho
           have n0_ := Aside0.mk (Kd.R_after (ok := (fun _ => True)) (qR4_4) hg hat)
           have n1_ := Aside0.mk (hb); have n2_ := Aside0.mk (ho); clear HO162; clear HB; clear HO165
           have HO162 := n0_
           have HB := n1_
           have HO169 := n2_
           clear n0_ n1_ n2_; clear ho hb hg hat
           refine hK.out _ _ trivial (fun hHeld => ?_)
           clear hK K
           refine norm_ (a' := ?_) ?_ ?_
           rotate_left
           ·show Act.put _ (some 44) _ = _
            simp only [Act.put, List.setIfInBounds_toArray, List.set_cons_zero, List.set_cons_succ, i64_w, i32_w]
            rfl
           refine pure_ (i := 12) (N := some 4) (v := ?_) (a' := ?_) qR4_b15 rfl rfl (qR4_6) (fun _ _ _ h => h) (Or.inl ⟨by rfl, ?_⟩) ?_ ?_
           rotate_left; exact qR4_c3; rotate_left; exact qR4_c0
           refine done_ (by exact done_of HT_.out (by kernel_rfl)) ?_
           try go_wp2
           go_ret
           exact ⟨_, (qR4_24), (by (with_reducible repeat (first | apply Kd.R_alloc | apply Kd.R_drewN | apply Kd.R_drew)); exact Kd.R_mono HO169.out (fun _ hk => trivial)), (qR4_0)⟩
          ·rw [if_neg c13] at H
           exact absurd H (by simp)
         ·rw [if_neg c10] at H
          exact absurd H (by simp)
        ·rw [if_neg c9] at H
         exact absurd H (by simp)
       ·rw [if_neg c8] at H
        exact absurd H (by simp)
    ·rw [if_neg c4] at H
     exact absurd H (by simp)
   ·rw [if_neg c3] at H
    have c3b0 : decide (x5_1 < (l0.length : Int)) = false := decide_eq_false c3
    clear c3
    obtain ⟨y170, hy170⟩ : ∃ y_ : List Int, y_ = (([] : List Int)) := ⟨_, rfl⟩
    replace H : (if 0 ≤ x5_1 then (if x5_1 ≤ (l0.length : Int) then (if y170.length + (l0.take (x5_1 : Int).toNat).length < 17592186044416 then ((some (y170 ++ (l0.take (x5_1 : Int).toNat) : List Int)).bind fun y174 => ((some (([a1] : List Int) : List Int)).bind fun y177 => (if y174.length + y177.length < 17592186044416 then ((some (y174 ++ y177 : List Int)).bind fun y180 => (if y180.length + (l0.drop (x5_1 : Int).toNat).length < 17592186044416 then (some (y180 ++ (l0.drop (x5_1 : Int).toNat))) else (none))) else (none)))) else (none)) else (none)) else (none)) = some r := by first | (rw [hy170]; with_reducible exact H) | (have H2_ := (Option.bind_some _ _).symm.trans H; rw [hy170]; with_reducible exact H2_) | (have H2_ := (Option.bind_some _ _).symm.trans H; with_reducible exact H2_) | with_reducible exact H | (rw [hy170]; exact H) | exact H
    have Ny170 := Aside0.mk hy170; clear hy170
    by_cases c26 : 0 ≤ x5_1
    ·rw [if_pos c26] at H
     have c26b0 := eq_true c26
     have c26b1 : decide (0 ≤ x5_1) = true := decide_eq_true c26
     clear c26
     by_cases c27 : x5_1 ≤ (l0.length : Int)
     ·rw [if_pos c27] at H
      have c27b0 := eq_true c27
      have c27b1 : decide (x5_1 ≤ (l0.length : Int)) = true := decide_eq_true c27
      clear c27
      by_cases c28 : y170.length + (l0.take (x5_1 : Int).toNat).length < 17592186044416
      ·rw [if_pos c28] at H; have LMc28 := Aside0.mk c28; clear c28
       obtain ⟨y174, hy174⟩ : ∃ y_ : List Int, y_ = (y170 ++ (l0.take (x5_1 : Int).toNat)) := ⟨_, rfl⟩
       replace H : ((some (([a1] : List Int) : List Int)).bind fun y177 => (if y174.length + y177.length < 17592186044416 then ((some (y174 ++ y177 : List Int)).bind fun y180 => (if y180.length + (l0.drop (x5_1 : Int).toNat).length < 17592186044416 then (some (y180 ++ (l0.drop (x5_1 : Int).toNat))) else (none))) else (none))) = some r := by first | (rw [hy174]; with_reducible exact H) | (have H2_ := (Option.bind_some _ _).symm.trans H; rw [hy174]; with_reducible exact H2_) | (have H2_ := (Option.bind_some _ _).symm.trans H; with_reducible exact H2_) | with_reducible exact H | (rw [hy174]; exact H) | exact H
       have Ny174 := Aside0.mk hy174; clear hy174
       obtain ⟨y177, hy177⟩ : ∃ y_ : List Int, y_ = (([a1] : List Int)) := ⟨_, rfl⟩
       replace H : (if y174.length + y177.length < 17592186044416 then ((some (y174 ++ y177 : List Int)).bind fun y180 => (if y180.length + (l0.drop (x5_1 : Int).toNat).length < 17592186044416 then (some (y180 ++ (l0.drop (x5_1 : Int).toNat))) else (none))) else (none)) = some r := by first | (rw [hy177]; with_reducible exact H) | (have H2_ := (Option.bind_some _ _).symm.trans H; rw [hy177]; with_reducible exact H2_) | (have H2_ := (Option.bind_some _ _).symm.trans H; with_reducible exact H2_) | with_reducible exact H | (rw [hy177]; exact H) | exact H
       have Ny177 := Aside0.mk hy177; clear hy177
       by_cases c29 : y174.length + y177.length < 17592186044416
       ·rw [if_pos c29] at H; have LMc29 := Aside0.mk c29; clear c29
        obtain ⟨y180, hy180⟩ : ∃ y_ : List Int, y_ = (y174 ++ y177) := ⟨_, rfl⟩
        replace H : (if y180.length + (l0.drop (x5_1 : Int).toNat).length < 17592186044416 then (some (y180 ++ (l0.drop (x5_1 : Int).toNat))) else (none)) = some r := by first | (rw [hy180]; with_reducible exact H) | (have H2_ := (Option.bind_some _ _).symm.trans H; rw [hy180]; with_reducible exact H2_) | (have H2_ := (Option.bind_some _ _).symm.trans H; with_reducible exact H2_) | with_reducible exact H | (rw [hy180]; exact H) | exact H
        have Ny180 := Aside0.mk hy180; clear hy180
        have c30b0 := eq_true (of_decide_eq_true (qR4_1) : 0 ≤ x5_1)
        have c31b0 := eq_true (of_decide_eq_true (qR4_1) : x5_1 ≤ (l0.length : Int))
        by_cases c32 : y180.length + (l0.drop (x5_1 : Int).toNat).length < 17592186044416
        ·rw [if_pos c32] at H; have LMc32 := Aside0.mk c32; clear c32
         obtain ⟨y184, hy184⟩ : ∃ y_ : List Int, y_ = (y180 ++ (l0.drop (x5_1 : Int).toNat)) := ⟨_, rfl⟩
         replace H : (some y184) = some r := by first | (rw [hy184]; with_reducible exact H) | (have H2_ := (Option.bind_some _ _).symm.trans H; rw [hy184]; with_reducible exact H2_) | (have H2_ := (Option.bind_some _ _).symm.trans H; with_reducible exact H2_) | with_reducible exact H | (rw [hy184]; exact H) | exact H
         have Ny184 := Aside0.mk hy184; clear hy184; obtain rfl := Option.some.inj H
         try go_wp2
         have n0_ := Aside0.mk (below_drew1 HB.out)
         clear HB
         have HB := n0_
         clear n0_
         obtain ⟨i034, hi034, _, hsz34, _⟩ := info_parts info3
         obtain ⟨hcut34, hA34, hC34⟩ := print_take_of (P := Try.prog) (Value.int .i64) 0 25 3 .i64 Try.underlying25 hi034 hsz34 A0 c0 l0 x5_1 (of_decide_eq_true (qR4_1)) (of_decide_eq_true (qR4_1)) HC0.out
         have HR173 := Aside0.mk (Kd.C_of_reads (h1 := fun _ => rfl) (hA34 _ (Kd.reads_of_C HR0.out)))
         have HC173 := Aside0.mk hC34; clear hA34 hC34 hi034 hsz34
         obtain ⟨i035, hi035, _, hsz35, _⟩ := info_parts info3
         obtain ⟨A35, hcut35, hA35, hC35⟩ := print_drop_of (P := Try.prog) (Value.int .i64) 0 25 3 .i64 Try.underlying25 hi035 hsz35 A0 c0 l0 x5_1 (of_decide_eq_true (qR4_1)) (of_decide_eq_true (qR4_1)) HC0.out
         have HR183 := Aside0.mk (Kd.C_of_reads (h1 := fun _ => rfl) (hA35 _ (Kd.reads_of_C HR0.out)))
         have HC183 := Aside0.mk hC35; clear hA35 hC35 hi035 hsz35
         refine start_ (n := 13) (S := fun w' => True) (ds := []) qR4_b0 (by kernel_rfl) rfl rfl trivial (fun hHeld => ?_); refine with_tabW spec_l1PutNew.tab6 spec_l1PutNew.bits6 (fun HT_ HW_ => ?_)
         generalize wr.drew = w33 at HB HR173 HR183 hHeld ⊢
         refine pure_ (i := 1) (N := some 34) (v := ?_) (a' := ?_) qR4_b1 rfl rfl (qR4_6) (fun _ _ _ h => h) (Or.inl ⟨by rfl, ?_⟩) ?_ ?_
         rotate_left; exact qR4_c3; rotate_left; exact qR4_c0
         refine pure_ (i := 2) (N := some 35) (v := ?_) (a' := ?_) qR4_b2 rfl rfl (qR4_6) (fun _ _ _ h => h) (Or.inl ⟨by rfl, ?_⟩) ?_ ?_
         rotate_left; exact qR4_c3; rotate_left; exact qR4_c0
         refine pure_ (i := 3) (N := some 36) (v := ?_) (a' := ?_) qR4_b3 rfl rfl (qR4_6) (fun _ _ _ h => h) (Or.inl ⟨by rfl, ?_⟩) ?_ ?_
         rotate_left; exact qR4_c3; rotate_left; exact qR4_c0
         refine pure_ (i := 5) (N := some 38) (v := ?_) (a' := ?_) qR4_b4 rfl rfl (qR4_6) (fun _ _ _ h => h) (Or.inl ⟨by rfl, ?_⟩) ?_ ?_
         rotate_left; exact qR4_c3; rotate_left; exact qR4_c0
         refine pure_ (i := 8) (N := some 41) (v := ?_) (a' := ?_) qR4_b5 rfl rfl (qR4_6) (fun _ _ _ h => h) (Or.inl ⟨by rfl, ?_⟩) ?_ ?_
         rotate_left; exact qR4_c3; rotate_left; exact qR4_c0
         refine pure_ (i := 9) (N := some 42) (v := ?_) (a' := ?_) qR4_b6 rfl rfl (qR4_6) (fun _ _ _ h => h) (Or.inl ⟨by rfl, ?_⟩) ?_ ?_
         rotate_left; exact qR4_c3; rotate_left; exact qR4_c0
         refine pure_ (i := 10) (N := some 43) (v := ?_) (a' := ?_) qR4_b7 rfl rfl (qR4_6) (fun _ _ _ h => h) (Or.inl ⟨by rfl, ?_⟩) ?_ ?_
         rotate_left; exact qR4_c3; rotate_left; exact qR4_c0
         refine join_ (σ := Value × Value × Value) 3 qR4_b8 (fun s_ => [(33, s_.1), (37, s_.2.1), (39, s_.2.2)]) (fun s_ w' => (Kd.R (Kd.int .i64) 3 w' w.heap.size (fun k_ => some k_ ≠ (s_.2.2 : Value).ownBlock) s_.2.1 y174) ∧ (Kd.R (Kd.int .i64) 3 w' w.heap.size (fun k_ => some k_ ≠ (s_.2.1 : Value).ownBlock) s_.2.2 y177) ∧ (Below w.heap.size w w')) ?_ ?_
         rotate_left
         ·intro hCont
          refine two_ (i := 0) (j := 6) (Ni := some 33) (Nj := some 39) qR4_b9 qR4_b10 rfl rfl rfl rfl (two_of HT_.out (by kernel_rfl)) (by decide) (by decide) (fun K hK => ?_) (fun K hK => ?_)
          ·skip
           refine Kd.R_lit_step (Kd.int .i64) _ 3 ?hg (N := 33) ?hd (xs := ([] : List Int)) (inner := []) (ok := fun _ => True) (okp := fun _ => True) ?hr ?hp (fun _ hk => hk) trivial (Below.refl _ _) (Nat.le_refl _) (by simp) ?_; (case hd => rfl); (case hg => rfl); (case hr => exact (qR4_14)); (case hp => exact (Reps.none _ _))
           intro v171 w36 ho37 hb hg_ hnew_
           clear hg_ hnew_
           (first | rw [← Ny170.out] at ho37 | (simp only [Int.reduceToNat] at ho37; rw [← Ny170.out] at ho37))
           have n0_ := Aside0.mk (Kd.R_lower ho37 (below_size (qR4_0)))
           have n1_ := Aside0.mk (below_step (qR4_0) hb)
           clear HB
           have HO172 := n0_
           have HB := n1_
           clear n0_ n1_; clear hb ho37
           refine hK.out _ _ trivial (fun hHeld => ?_)
           clear hK K
           refine norm_ (a' := ?_) ?_ ?_
           rotate_left
           ·exact qR4_c4
           refine two_ (i := 4) (j := 6) (Ni := some 37) (Nj := some 39) qR4_b11 qR4_b12 rfl rfl rfl rfl (two_of HT_.out (by kernel_rfl)) (by decide) (by decide) (fun K hK => ?_) (fun K hK => ?_)
           ·skip
            refine Kd.R_append_rows_step (Kd.int .i64) (w0 := w) w.heap.size (by rfl) (.tmp 33) (.tmp 36) 25 3 (.int .i64 0) 8 rfl Try.underlying25 info3 rfl (by decide) (by omega) v171 y170 (l0.take (x5_1 : Int).toNat) _ _ _ (fun _ => True) (fun _ => False) rfl rfl ?aO ?aR (fun _ _ h => h) (fun _ h => h.elim) ?aF ?aB ?aS ?aL ?_
            (case aR => exact (qR4_3))
            (case aB => exact (qR4_0))
            (case aF => exact (fun _ _ => trivial))
            (case aO => exact (qR4_18))
            (case aS => exact (qR4_19))
            (case aL => exact (qR4_9))
            intro v175 w38 ho hb hg hat
            rw [← Ny174.out] at ho
            have n0_ := Aside0.mk (hb); have n1_ := Aside0.mk (ho); clear HB; clear HO172
            have HB := n0_
            have HO176 := n1_
            clear n0_ n1_; clear ho hb hg hat
            refine hK.out _ _ trivial (fun hHeld => ?_)
            clear hK K
            refine norm_ (a' := ?_) ?_ ?_
            rotate_left
            ·exact qR4_c1
            refine one_ (i := 6) (N := some 39) qR4_b8 rfl rfl (qR4_13) (by decide) (fun K hK => ?_)
            refine Kd.R_lit_step (Kd.int .i64) _ 3 ?hg (N := 39) ?hd (xs := ([a1] : List Int)) (inner := [.int .i64 a1]) (ok := fun _ => True) (okp := fun _ => True) ?hr ?hp (fun _ hk => hk) trivial (Below.refl _ _) (Nat.le_refl _) (by simp) ?_; (case hd => rfl); (case hg => rfl); (case hr => exact (qR4_14)); (case hp => exact (qR4_8))
            intro v178 w39 ho40 hb hg_ hnew_
            clear hg_ hnew_
            (first | rw [← Ny177.out] at ho40 | (simp only [Int.reduceToNat] at ho40; rw [← Ny177.out] at ho40))
            have n0_ := Aside0.mk (Kd.R_elder' (qR4_12) (Kd.R_base ho40) hb)
            have n1_ := Aside0.mk (Kd.R_lower (Kd.R_new' ho40 (Kd.R_lt (qR4_12))) (below_size (qR4_0)))
            have n2_ := Aside0.mk (below_step (qR4_0) hb)
            clear HO176; clear HB
            have HO176 := n0_
            have HO179 := n1_
            have HB := n2_
            clear n0_ n1_ n2_; clear hb ho40
            refine hK.out _ _ trivial (fun hHeld => ?_)
            clear hK K
            refine norm_ (a' := ?_) ?_ ?_
            rotate_left
            ·exact qR4_c2
            exact norm_ (qR4_7) (hCont (v171, v175, v178) _ ⟨(by (with_reducible repeat (first | apply Kd.R_alloc | apply Kd.R_drewN | apply Kd.R_drew)); exact Kd.R_mono HO176.out (fun _ hk => hk.2)), (qR4_16), (qR4_0)⟩)
           ·skip
            refine Kd.R_lit_step (Kd.int .i64) _ 3 ?hg (N := 39) ?hd (xs := ([a1] : List Int)) (inner := [.int .i64 a1]) (ok := fun _ => True) (okp := fun _ => True) ?hr ?hp (fun _ hk => hk) trivial (Below.refl _ _) (Nat.le_refl _) (by simp) ?_; (case hd => rfl); (case hg => rfl); (case hr => exact (qR4_14)); (case hp => exact (qR4_8))
            intro v178 w38 ho39 hb hg_ hnew_
            clear hg_ hnew_
            (first | rw [← Ny177.out] at ho39 | (simp only [Int.reduceToNat] at ho39; rw [← Ny177.out] at ho39))
            have n0_ := Aside0.mk (Kd.R_elder' (qR4_18) (Kd.R_base ho39) hb)
            have n1_ := Aside0.mk (Kd.R_lower (Kd.R_new' ho39 (Kd.R_lt (qR4_18))) (below_size (qR4_0)))
            have n2_ := Aside0.mk (below_step (qR4_0) hb)
            clear HO172; clear HB
            have HO172 := n0_
            have HO179 := n1_
            have HB := n2_
            clear n0_ n1_ n2_; clear hb ho39
            refine hK.out _ _ trivial (fun hHeld => ?_)
            clear hK K
            refine norm_ (a' := ?_) ?_ ?_
            rotate_left
            ·exact qR4_c2
            refine one_ (i := 4) (N := some 37) qR4_b8 rfl rfl (qR4_13) (by decide) (fun K hK => ?_)
            refine Kd.R_append_rows_step (Kd.int .i64) (w0 := w) w.heap.size (by rfl) (.tmp 33) (.tmp 36) 25 3 (.int .i64 0) 8 rfl Try.underlying25 info3 rfl (by decide) (by omega) v171 y170 (l0.take (x5_1 : Int).toNat) _ _ _ (fun k_ => some k_ ≠ (v178 : Value).ownBlock) (fun _ => False) rfl rfl ?aO ?aR (fun _ _ h => h) (fun _ h => h.elim) ?aF ?aB ?aS ?aL ?_
            (case aR => exact (qR4_3))
            (case aB => exact (qR4_0))
            (case aF => exact (qR4_21))
            (case aO => exact (qR4_23))
            (case aS => exact (qR4_19))
            (case aL => exact (qR4_9))
            intro v175 w40 ho hb hg hat
            rw [← Ny174.out] at ho
            have n0_ := Aside0.mk (Kd.R_after (ok := (fun _ => True)) (qR4_5) hg hat)
            have n1_ := Aside0.mk (hb); have n2_ := Aside0.mk (ho); clear HO179; clear HB; clear HO172
            have HO179 := n0_
            have HB := n1_
            have HO176 := n2_
            clear n0_ n1_ n2_; clear ho hb hg hat
            refine hK.out _ _ trivial (fun hHeld => ?_)
            clear hK K
            refine norm_ (a' := ?_) ?_ ?_
            rotate_left
            ·exact qR4_c1
            exact norm_ (qR4_7) (hCont (v171, v175, v178) _ ⟨(qR4_12), (qR4_16), (qR4_0)⟩)
          ·skip
           refine Kd.R_lit_step (Kd.int .i64) _ 3 ?hg (N := 39) ?hd (xs := ([a1] : List Int)) (inner := [.int .i64 a1]) (ok := fun _ => True) (okp := fun _ => True) ?hr ?hp (fun _ hk => hk) trivial (Below.refl _ _) (Nat.le_refl _) (by simp) ?_; (case hd => rfl); (case hg => rfl); (case hr => exact (qR4_14)); (case hp => exact (qR4_8))
           intro v178 w36 ho37 hb hg_ hnew_
           clear hg_ hnew_
           (first | rw [← Ny177.out] at ho37 | (simp only [Int.reduceToNat] at ho37; rw [← Ny177.out] at ho37))
           have n0_ := Aside0.mk (Kd.R_lower ho37 (below_size (qR4_0)))
           have n1_ := Aside0.mk (below_step (qR4_0) hb)
           clear HB
           have HO179 := n0_
           have HB := n1_
           clear n0_ n1_; clear hb ho37
           refine hK.out _ _ trivial (fun hHeld => ?_)
           clear hK K
           refine norm_ (a' := ?_) ?_ ?_
           rotate_left
           ·exact qR4_c2
           refine one_ (i := 0) (N := some 33) qR4_b12 rfl rfl (qR4_13) (by decide) (fun K hK => ?_)
           refine Kd.R_lit_step (Kd.int .i64) _ 3 ?hg (N := 33) ?hd (xs := ([] : List Int)) (inner := []) (ok := fun _ => True) (okp := fun _ => True) ?hr ?hp (fun _ hk => hk) trivial (Below.refl _ _) (Nat.le_refl _) (by simp) ?_; (case hd => rfl); (case hg => rfl); (case hr => exact (qR4_14)); (case hp => exact (Reps.none _ _))
           intro v171 w38 ho39 hb hg_ hnew_
           clear hg_ hnew_
           (first | rw [← Ny170.out] at ho39 | (simp only [Int.reduceToNat] at ho39; rw [← Ny170.out] at ho39))
           have n0_ := Aside0.mk (Kd.R_elder' (qR4_5) (Kd.R_base ho39) hb)
           have n1_ := Aside0.mk (Kd.R_lower (Kd.R_new' ho39 (Kd.R_lt (qR4_5))) (below_size (qR4_0)))
           have n2_ := Aside0.mk (below_step (qR4_0) hb)
           clear HO179; clear HB
           have HO179 := n0_
           have HO172 := n1_
           have HB := n2_
           clear n0_ n1_ n2_; clear hb ho39
           refine hK.out _ _ trivial (fun hHeld => ?_)
           clear hK K
           refine norm_ (a' := ?_) ?_ ?_
           rotate_left
           ·exact qR4_c4
           refine one_ (i := 4) (N := some 37) qR4_b8 rfl rfl (qR4_13) (by decide) (fun K hK => ?_)
           refine Kd.R_append_rows_step (Kd.int .i64) (w0 := w) w.heap.size (by rfl) (.tmp 33) (.tmp 36) 25 3 (.int .i64 0) 8 rfl Try.underlying25 info3 rfl (by decide) (by omega) v171 y170 (l0.take (x5_1 : Int).toNat) _ _ _ (fun k_ => some k_ ≠ (v178 : Value).ownBlock) (fun _ => False) rfl rfl ?aO ?aR (fun _ _ h => h) (fun _ h => h.elim) ?aF ?aB ?aS ?aL ?_
           (case aR => exact (qR4_3))
           (case aB => exact (qR4_0))
           (case aF => exact (qR4_21))
           (case aO => exact (qR4_23))
           (case aS => exact (qR4_19))
           (case aL => exact (qR4_9))
           intro v175 w40 ho hb hg hat
           rw [← Ny174.out] at ho
           have n0_ := Aside0.mk (Kd.R_after (ok := (fun _ => True)) (qR4_5) hg hat)
           have n1_ := Aside0.mk (hb); have n2_ := Aside0.mk (ho); clear HO179; clear HB; clear HO172
           have HO179 := n0_
           have HB := n1_
           have HO176 := n2_
           clear n0_ n1_ n2_; clear ho hb hg hat
           refine hK.out _ _ trivial (fun hHeld => ?_)
           clear hK K
           refine norm_ (a' := ?_) ?_ ?_
           rotate_left
           ·exact qR4_c1
           exact norm_ (qR4_7) (hCont (v171, v175, v178) _ ⟨(qR4_12), (qR4_16), (qR4_0)⟩)
         rintro ⟨v171, v175, v178⟩ w41 ⟨h0_, h1_, h2_⟩
         have n0_ : Aside0 (Kd.R (Kd.int .i64) 3 w41 w.heap.size (fun k_ => some k_ ≠ (v178 : Value).ownBlock) v175 y174) := ⟨h0_⟩
         have n1_ : Aside0 (Kd.R (Kd.int .i64) 3 w41 w.heap.size (fun k_ => some k_ ≠ (v175 : Value).ownBlock) v178 y177) := ⟨h1_⟩
         have n2_ : Aside0 (Below w.heap.size w w41) := ⟨h2_⟩
         clear HB; clear h0_ h1_ h2_
         have HO176 := n0_
         have HO179 := n1_
         have HB := n2_
         clear n0_ n1_ n2_
         have hHeld := trivial
         obtain ⟨Ao43, co43, eo43⟩ := Kd.R_slice HO179.out
         (first | subst eo43 | (injection eo43 with f1_ f2_ f3_; have f4_ := f1_.symm; have f5_ := f3_.symm; clear f1_ f2_ f3_; subst f4_; subst f5_))
         refine norm_ (a' := ?_) ?_ ?_
         rotate_left
         ·simp only [putAll, Act.put, List.setIfInBounds_toArray, List.set_cons_zero, List.set_cons_succ]
          rfl
         refine one_ (i := 7) (N := some 40) qR4_b13 rfl rfl (qR4_13) (by decide) (fun K hK => ?_)
         refine Kd.R_append_rows_step (Kd.int .i64) (w0 := w) w.heap.size (by rfl) (.tmp 37) (.tmp 39) 25 3 (.int .i64 0) 8 rfl Try.underlying25 info3 rfl (by decide) (by omega) v175 y174 y177 _ _ _ (fun k_ => some k_ ≠ (.slice Ao43 y177.length co43 : Value).ownBlock) (fun _ => False) rfl rfl ?aO ?aR (fun _ _ h => h) (fun _ h => h.elim) ?aF ?aB ?aS ?aL ?_
         (case aR => exact (by repeat (first | exact (Kd.R_reads' HO179.out).2.2 | (with_reducible refine Kd.C_alloc ?_ _) | (with_reducible refine Kd.C_drewN ?_ _) | (with_reducible refine Kd.C_drew ?_))))
         (case aB => exact (qR4_0))
         (case aF => exact (qR4_21))
         (case aO => exact (qR4_12))
         (case aS => exact (qR4_19))
         (case aL => have := LMc29.out; omega)
         intro v181 w42 ho hb hg hat
         rw [← Ny180.out] at ho
         have n0_ := Aside0.mk (Kd.R_after (ok := (fun _ => True)) (by (with_reducible repeat (first | apply Kd.R_alloc | apply Kd.R_drewN | apply Kd.R_drew)); exact Kd.R_mono HO179.out (fun _ hk => ⟨trivial, hk⟩)) hg hat)
         have n1_ := Aside0.mk (hb); have n2_ := Aside0.mk (ho); clear HO179; clear HB; clear HO176
         have HO179 := n0_
         have HB := n1_
         have HO182 := n2_
         clear n0_ n1_ n2_; clear ho hb hg hat
         refine hK.out _ _ trivial (fun hHeld => ?_)
         clear hK K
         refine norm_ (a' := ?_) ?_ ?_
         rotate_left
         ·show Act.put _ (some 40) _ = _
          simp only [Act.put, List.setIfInBounds_toArray, List.set_cons_zero, List.set_cons_succ, i64_w, i32_w]
          rfl
         refine one_ (i := 11) (N := some 44) qR4_b14 rfl rfl (qR4_13) (by decide) (fun K hK => ?_)
         refine Kd.R_append_rows_step (Kd.int .i64) (w0 := w) w.heap.size (by rfl) (.tmp 40) (.tmp 43) 25 3 (.int .i64 0) 8 rfl Try.underlying25 info3 rfl (by decide) (by omega) v181 y180 (l0.drop (x5_1 : Int).toNat) _ _ _ (fun k_ => some k_ ≠ (.slice Ao43 y177.length co43 : Value).ownBlock) (fun _ => False) rfl rfl ?aO ?aR (fun _ _ h => h) (fun _ h => h.elim) ?aF ?aB ?aS ?aL ?_
         (case aR => exact (by first | (rw [← show (l0.drop (x5_1 : Int).toNat).length = (l0.length - x5_1.toNat) from List.length_drop]; repeat (first | exact (Kd.C_below HR183.out HB.out) | (with_reducible refine Kd.C_alloc ?_ _) | (with_reducible refine Kd.C_drewN ?_ _) | (with_reducible refine Kd.C_drew ?_))) | (repeat (first | exact (Kd.C_below HR183.out HB.out) | (with_reducible refine Kd.C_alloc ?_ _) | (with_reducible refine Kd.C_drewN ?_ _) | (with_reducible refine Kd.C_drew ?_)))))
         (case aB => exact (qR4_0))
         (case aF => exact (qR4_21))
         (case aO => exact (by (with_reducible repeat (first | apply Kd.R_alloc | apply Kd.R_drewN | apply Kd.R_drew)); exact HO182.out))
         (case aS => exact (qR4_19))
         (case aL => exact (by have := LMc32.out; have hlx_ := (show (l0.drop (x5_1 : Int).toNat).length = (l0.length - x5_1.toNat) from List.length_drop); omega))
         intro v185 w44 ho hb hg hat
         rw [← Ny184.out] at ho
         have n0_ := Aside0.mk (Kd.R_after (ok := (fun _ => True)) (qR4_5) hg hat)
         have n1_ := Aside0.mk (hb); have n2_ := Aside0.mk (ho); clear HO179; clear HB; clear HO182
         have HO179 := n0_
         have HB := n1_
         have HO186 := n2_
         clear n0_ n1_ n2_; clear ho hb hg hat
         refine hK.out _ _ trivial (fun hHeld => ?_)
         clear hK K
         refine norm_ (a' := ?_) ?_ ?_
         rotate_left
         ·show Act.put _ (some 44) _ = _
          simp only [Act.put, List.setIfInBounds_toArray, List.set_cons_zero, List.set_cons_succ, i64_w, i32_w]
          rfl
         refine pure_ (i := 12) (N := some 4) (v := ?_) (a' := ?_) qR4_b15 rfl rfl (qR4_6) (fun _ _ _ h => h) (Or.inl ⟨by rfl, ?_⟩) ?_ ?_
         rotate_left; exact qR4_c3; rotate_left; exact qR4_c0
         refine done_ (by exact done_of HT_.out (by kernel_rfl)) ?_
         try go_wp2
         go_ret
         exact ⟨_, (qR4_24), (by (with_reducible repeat (first | apply Kd.R_alloc | apply Kd.R_drewN | apply Kd.R_drew)); exact Kd.R_mono HO186.out (fun _ hk => trivial)), (qR4_0)⟩
        ·rw [if_neg c32] at H
         exact absurd H (by simp)
       ·rw [if_neg c29] at H
        exact absurd H (by simp)
      ·rw [if_neg c28] at H
       exact absurd H (by simp)
     ·rw [if_neg c27] at H
      exact absurd H (by simp)
    ·rw [if_neg c26] at H
     exact absurd H (by simp)
def putHit : List Int → Int → Bool
 | [], _ => false
 | x :: l, n => if x < n then putHit l n else x == n
theorem putHit_at : ∀ {l : List Int} {n : Int}, putHit l n = true → ∃ K, K < l.length ∧ l.getD K 0 = n ∧ ∀ j, j < K → l.getD j 0 < n
 | [], n, h => by simp [putHit] at h
 | x :: l, n, h => by
  simp only [putHit] at h
  split at h
  ·rename_i hlt
   obtain ⟨K, h1, h2, h3⟩ := putHit_at h
   refine ⟨K + 1, by simpa using h1, by simpa using h2, fun j hj => ?_⟩
   cases j with
   | zero => simpa using hlt
   | succ j => simpa using h3 j (by omega)
  ·exact ⟨0, by simp, by simpa using h, fun j hj => by omega⟩
def spec_l1Put.f (k : Nat) (l0 : List Int) (a1 : Int) : Option (List Int) := if putHit l0 a1 = true then some l0 else spec_l1PutNew.f k l0 a1
theorem spec_l1Put.mono : ∀ a0 a1 k, LeO (spec_l1Put.f k a0 a1) (spec_l1Put.f (k + 1) a0 a1) := by
 intro a0 a1 k
 unfold spec_l1Put.f
 exact LeO.ite (LeO.refl _) (spec_l1PutNew.mono _ _ _)
set_option maxHeartbeats 8000000 in
set_option maxRecDepth 100000 in
theorem spec_l1Put.calls (k : Nat) (P0_ : Nat → Prop) (u9000_ : Value) (l0 : List Int) (a1 : Int) (r : List Int) (w0 w : World) (hB : Below w0.heap.size w0 w) (ho0 : Kd.R (Kd.int .i64) 3 w w0.heap.size P0_ u9000_ l0) (h : spec_l1Put.f k l0 a1 = some r) :
  Calls Try.prog 94 #[u9000_, .int .i64 a1] w fun e w' => ∃ v0_ : Value, e = .returned v0_ ∧ Kd.R (Kd.int .i64) 3 w' w0.heap.size (fun k_ => (P0_ k_ ∨ w.heap.size ≤ k_)) v0_ r ∧ Below w0.heap.size w0 w' ∧ Kept w w' (fun k_ => P0_ k_) := by
 obtain ⟨A0, c0, hu, hc0, hr0⟩ := Kd.R_reads ho0
 unfold spec_l1Put.f at h
 by_cases hh : putHit l0 a1 = true
 ·rw [if_pos hh] at h
  obtain rfl := Option.some.inj h
  clear h
  obtain ⟨K, hK1, hK2, hK3⟩ := putHit_at hh
  have HO := Aside0.mk ho0
  have HK := Aside0.mk (And.intro hK1 (And.intro hK2 hK3))
  have HR0 := Aside0.mk hr0
  have HM := Aside0.mk hr0.2.1
  have HBB := Aside0.mk hB; have HU := Aside0.mk hu; clear ho0 hh hK1 hK2 hK3 hr0 hB
  rw [hu]
  clear hu
  go_enter Try.func94, Try.ntmps94
  go_wp2
  go_loopg [5] (K + 1) (fun kq v5 w' => ∃ x : Int, v5 = .int .i64 x ∧ Aside0 (0 ≤ x ∧ kq + x.toNat = K + 1 ∧ x ≤ (K : Int)) ∧ Aside0 (Below w.heap.size w w'))
  case atStart => exact ⟨0, rfl, ⟨by omega, by simp, by omega⟩, ⟨Below.refl _ _⟩⟩
  case round =>
   obtain ⟨x, rfl, HA, HB⟩ := hrel
   have hlt : x < (l0.length : Int) := by have := HA.out; have := HK.out.1; omega
   have d0 : decide (x < (l0.length : Int)) = true := decide_eq_true hlt
   obtain ⟨ad, e, hx⟩ := Kd.at_int (Kd.C_below HR0.out HB.out) x HA.out.1 hlt
   cases e
   have p1 := eq_true HA.out.1
   have q1 := eq_true hlt
   clear hlt
   by_cases hxk : x = (K : Int)
   ·have hrd : rd l0 x = a1 := by rw [hxk]; exact HK.out.2.1
    have d1 : decide (rd l0 x < a1) = false := decide_eq_false (by omega)
    have d2 : (rd l0 x == a1) = true := beq_iff_eq.2 hrd
    clear hxk hrd
    go_wp2
    go_ret
    exact ⟨_, rfl, by rw [← HU.out]; exact Kd.R_mono (Kd.R_below HO.out HB.out) (fun _ hk => .inl hk), HBB.out.trans (HB.out.mono HBB.out.size), Kept.of_below HB.out _⟩
   ·have hrd : rd l0 x < a1 := HK.out.2.2 x.toNat (by have := HA.out; omega)
    have d1 : decide (rd l0 x < a1) = true := decide_eq_true hrd
    have HX := Aside0.mk hxk; have HRD := Aside0.mk hrd; clear hrd hxk
    obtain ⟨k1, rfl⟩ : ∃ k1, gk = k1 + 1 := ⟨gk - 1, by have := HA.out; omega⟩
    go_wp2
    go_roundg k1
    case measure => omega
    case rel => exact ⟨wrap64 (x + 1), rfl, ⟨by have := HA.out; have := HK.out.1; have := HM.out; unfold wrap64; omega, by have := HA.out; have := HK.out.1; have := HM.out; unfold wrap64; omega, by have := HA.out; have := HK.out.1; have := HM.out; have := HX.out; unfold wrap64; omega⟩, HB⟩
 ·rw [if_neg hh] at h
  rw [hu]
  refine (spec_l1PutNew.calls k A0 c0 l0 a1 r w hr0 hc0 h).mono ?_
  rintro e w' ⟨v0_, he, hR, hb⟩
  exact ⟨v0_, he, Kd.R_mono (Kd.R_lower (Kd.R_bound hR) hB.size) (fun _ hk => .inr hk.2.1), hB.trans (hb.mono hB.size), Kept.of_below hb _⟩


end Go.Proofs.Ytfgkpokjhihaaaa.MR
