-- Written by a program of this session (wip/drv.py, wip/tight.py).
import Derived.Test.YtfjpbochanekoaaMJx0
import Derived.Test.YtfjpbochanekoaaMJx1
import Derived.Test.YtfjpbochanekoaaMJx2
namespace Go.Proofs.Ytfjpbochanekoaa.MJ
open Go.RowKit Go.Proofs.YtfjpbochanekoaaW.PrintWords Go.Proofs.YtfjpbochanekoaaW.PrintLast Go.Proofs.YtfjpbochanekoaaW.PrintMore
set_option maxHeartbeats 8000000
set_option maxRecDepth 100000
theorem qJ3_0 {p : Prop} (h : p := by repeat (first | (with_reducible first | exact HB.out | apply below_alloc | apply pw_below_drewN | apply below_drew1) | exact HB.out)) : p := h
theorem qJ3_1 {p : Prop} (h : p := by (with_reducible repeat (first | apply Kd.R_alloc | apply Kd.R_drewN | apply Kd.R_drew)); exact HO_5.out) : p := h
theorem qJ3_2 {p : Prop} (h : p := by repeat (first | exact (Kd.C_below HR1.out HB.out) | (with_reducible refine Kd.C_alloc ?_ _) | (with_reducible refine Kd.C_drewN ?_ _) | (with_reducible refine Kd.C_drew ?_))) : p := h
theorem qJ3_3 {p : Prop} (h : p := by (with_reducible repeat (first | apply Kd.R_alloc | apply Kd.R_drewN | apply Kd.R_drew)); exact HO175.out) : p := h
theorem qJ3_4 {p : Prop} (h : p := by (try simp only [List.map_toArray, List.map_cons, List.map_nil]); first | done | rfl | (simp only [List.length_drop, List.length_take]; rfl)) : p := h
theorem qJ3_5 {p : Prop} (h : p := by repeat (first | exact (Kd.R_reads' HO_5.out).2.2 | (with_reducible refine Kd.C_alloc ?_ _) | (with_reducible refine Kd.C_drewN ?_ _) | (with_reducible refine Kd.C_drew ?_))) : p := h
theorem qJ3_6 {p : Prop} (h : p := by first | rfl | (simp [errW_none, errW_some] <;> rfl) | (simp [*, errW_none, errW_some] <;> rfl)) : p := h
theorem qJ3_7 {p : Prop} (h : p := by first | (with_reducible assumption) | assumption) : p := h
theorem qJ3_8 {p : Prop} (h : p := by first | rfl | (simp; done) | (simp [*]; done)) : p := h
theorem qJ3_9 {p : Prop} (h : p := by first | (go_simp; done) | (go_simp; rfl)) : p := h
theorem qJ3_10 {p : Prop} (h : p := by repeat (first | exact Drawn0.refl _ | apply Drawn0.step)) : p := h
theorem qJ3_11 {p : Prop} (h : p := by repeat (first | exact (Kd.C_below HR185.out HB.out) | (with_reducible refine Kd.C_alloc ?_ _) | (with_reducible refine Kd.C_drewN ?_ _) | (with_reducible refine Kd.C_drew ?_))) : p := h
theorem qJ3_12 {p : Prop} (h : p := by repeat (first | (with_reducible first | exact HB.out | apply below_alloc | apply pw_below_drewN | apply below_drew1 | refine below_set ?_ GE188.out) | exact HB.out)) : p := h
theorem qJ3_13 {p : Prop} (h : p := by repeat (first | (with_reducible first | exact HB.out | apply below_alloc | apply pw_below_drewN | apply below_drew1 | refine below_set ?_ GE191.out) | exact HB.out)) : p := h
theorem qJ3_14 {p : Prop} (h : p := by repeat (first | exact HR0.out | (with_reducible refine Kd.C_alloc ?_ _) | (with_reducible refine Kd.C_drewN ?_ _) | (with_reducible refine Kd.C_drew ?_))) : p := h
theorem qJ3_15 {p : Prop} (h : p := by repeat (first | exact HR1.out | (with_reducible refine Kd.C_alloc ?_ _) | (with_reducible refine Kd.C_drewN ?_ _) | (with_reducible refine Kd.C_drew ?_))) : p := h
theorem qJ3_16 {p : Prop} (h : p := by exact (Kd.R_reads' HO_5.out).2.1) : p := h
attribute [local go_sem] max2_int min2_int max_two min_two max_three min_three max_four min_four   -- for this text's walks alone
set_option linter.unusedVariables false
set_option linter.unusedSimpArgs false

/-! ### spec_l16Can: function 37 -/
mutual
def spec_l16Can.l0 : Nat → List (S36) → List Int → List Int → Int → Option (Bool)
 | 0, _, _, _, _ => none
 | k + 1, x0, x1, x5, x6 => if x6 < (x0.length : Int) then (if 0 ≤ x6 then ((spec_l16Need.f ((rd_T36 x0 x6).f0) ((rd_T36 x0 x6).f1)).bind fun t169 => (if x5.length < 17592186044416 then (spec_l16Can.l0 k x0 x1 (x5 ++ [t169]) (wrap64 (x6 + 1))) else (none))) else (none)) else ((spec_l16Down.f k x5).bind fun t173 => ((spec_l16Down.f k x1).bind fun t176 => (if (t173.length : Int) > (t176.length : Int) then (some false) else (spec_l16Can.l1 k t173 t176 0))))
def spec_l16Can.l1 : Nat → List Int → List Int → Int → Option (Bool)
 | 0, _, _, _ => none
 | k + 1, x7, x8, x9 => if x9 < (x7.length : Int) then (if 0 ≤ (wrap64 ((wrap64 ((x8.length : Int) - (x7.length : Int))) + x9)) then (if (wrap64 ((wrap64 ((x8.length : Int) - (x7.length : Int))) + x9)) < (x8.length : Int) then (if 0 ≤ x9 then (if (rd x8 (wrap64 ((wrap64 ((x8.length : Int) - (x7.length : Int))) + x9))) < (rd x7 x9) then (some false) else (spec_l16Can.l1 k x7 x8 (wrap64 (x9 + 1)))) else (none)) else (none)) else (none)) else (some true)
end
def spec_l16Can.f (k : Nat) (l0 : List (S36)) (l1 : List Int) : Option (Bool) := spec_l16Can.l0 k l0 l1 (([] : List Int)) 0
theorem spec_l16Can.mono_l : ∀ k, (∀ y0 y1 y2 y3, LeO (spec_l16Can.l0 k y0 y1 y2 y3) (spec_l16Can.l0 (k + 1) y0 y1 y2 y3)) ∧ (∀ y0 y1 y2, LeO (spec_l16Can.l1 k y0 y1 y2) (spec_l16Can.l1 (k + 1) y0 y1 y2))
 | 0 => ⟨fun _ _ _ _ r h => by simp [spec_l16Can.l0] at h, fun _ _ _ r h => by simp [spec_l16Can.l1] at h⟩
 | k + 1 => by
  obtain ⟨ih0, ih1⟩ := spec_l16Can.mono_l k
  refine ⟨?_, ?_⟩
  ·intro y0 y1 y2 y3
   unfold spec_l16Can.l0
   repeat' first
   | (with_reducible exact ih0 _ _ _ _)
   | (with_reducible exact ih1 _ _ _)
   | (with_reducible exact spec_l16Down.mono _ _)
   | (with_reducible exact LeO.refl _)
   | (with_reducible exact LeO.none _)
   | (with_reducible refine LeO.ite ?_ ?_)
   | (with_reducible refine LeO.bind ?_ (fun _ => ?_))
   | exact ih0 _ _ _ _
   | exact ih1 _ _ _
   | exact spec_l16Down.mono _ _
   | exact LeO.none _
   | refine LeO.ite ?_ ?_
   | refine LeO.bind ?_ (fun _ => ?_)
  ·intro y0 y1 y2
   unfold spec_l16Can.l1
   repeat' first
   | (with_reducible exact ih0 _ _ _ _)
   | (with_reducible exact ih1 _ _ _)
   | (with_reducible exact spec_l16Down.mono _ _)
   | (with_reducible exact LeO.refl _)
   | (with_reducible exact LeO.none _)
   | (with_reducible refine LeO.ite ?_ ?_)
   | (with_reducible refine LeO.bind ?_ (fun _ => ?_))
   | exact ih0 _ _ _ _
   | exact ih1 _ _ _
   | exact spec_l16Down.mono _ _
   | exact LeO.none _
   | refine LeO.ite ?_ ?_
   | refine LeO.bind ?_ (fun _ => ?_)
theorem spec_l16Can.mono : ∀ a0 a1 k, LeO (spec_l16Can.f k a0 a1) (spec_l16Can.f (k + 1) a0 a1) := by
 intro a0 a1 k
 obtain ⟨ih0, ih1⟩ := spec_l16Can.mono_l k
 unfold spec_l16Can.f
 repeat' first
   | (with_reducible exact ih0 _ _ _ _)
   | (with_reducible exact ih1 _ _ _)
   | (with_reducible exact spec_l16Down.mono _ _)
   | (with_reducible exact LeO.refl _)
   | (with_reducible exact LeO.none _)
   | (with_reducible refine LeO.ite ?_ ?_)
   | (with_reducible refine LeO.bind ?_ (fun _ => ?_))
   | exact ih0 _ _ _ _
   | exact ih1 _ _ _
   | exact spec_l16Down.mono _ _
   | exact LeO.none _
   | refine LeO.ite ?_ ?_
   | refine LeO.bind ?_ (fun _ => ?_)
theorem spec_l16Can.calls (k : Nat) (A0 : Option Addr) (c0 : Nat) (l0 : List (S36)) (A1 : Option Addr) (c1 : Nat) (l1 : List Int) (r : Bool) (w : World) (hr0 : Kd.C k36 w A0 l0.length l0) (hc0 : l0.length ≤ c0) (hr1 : Kd.C (Kd.int .i64) w A1 l1.length l1) (hc1 : l1.length ≤ c1) (h : spec_l16Can.f k l0 l1 = some r) :
  Calls Try.prog 37 #[.slice A0 l0.length c0, .slice A1 l1.length c1] w fun e w' => e = .returned (.bool r) ∧ Below w.heap.size w w' := by
 have hu36 := Try.underlying36
 have HR0 := Aside0.mk hr0; have HC0 := Aside0.mk hc0; clear hr0 hc0; have HR1 := Aside0.mk hr1; have HC1 := Aside0.mk hc1; clear hr1 hc1
 have HB := Aside0.mk (Below.refl w.heap.size w)
 have H : (spec_l16Can.l0 k l0 l1 (([] : List Int)) 0) = some r := h
 clear h
 obtain ⟨y165, hy165⟩ : ∃ y_ : List Int, y_ = (([] : List Int)) := ⟨_, rfl⟩
 replace H : (spec_l16Can.l0 k l0 l1 y165 0) = some r := by first | (rw [hy165]; with_reducible exact H) | (have H2_ := (Option.bind_some _ _).symm.trans H; rw [hy165]; with_reducible exact H2_) | (have H2_ := (Option.bind_some _ _).symm.trans H; with_reducible exact H2_) | with_reducible exact H | (rw [hy165]; exact H) | exact H
 have Ny165 := Aside0.mk hy165; clear hy165
 have H' := Aside0.mk H
 clear H
 go_enter Try.func37, Try.ntmps37
 go_wp2_with (first | ((with_reducible refine gate_dst (N := 10) rfl ?_); refine Kd.R_lit (Kd.int .i64) _ 3 ?hg (N := 10) ?hd (xs := ([] : List Int)) (inner := []) (ok := fun _ => True) (okp := fun _ => True) ?hr ?hp (fun _ hk => hk) trivial (Below.refl _ _) (Nat.le_refl _) (by simp) ?_; (case hd => rfl); (case hg => rfl); (case hr => exact (qJ3_9)); (case hp => exact (Reps.none _ _)); intro v166 w3 ho4 hb hg_ hnew_; clear hg_ hnew_; (first | rw [← Ny165.out] at ho4 | (simp only [Int.reduceToNat] at ho4; rw [← Ny165.out] at ho4)); have n0_ := Aside0.mk (Kd.R_lower ho4 (below_size (qJ3_0))); have n1_ := Aside0.mk (below_step (qJ3_0) hb); clear HB; have HO167 := n0_; have HB := n1_; clear n0_ n1_; clear hb ho4))
 repeat (go_quiet (first | ((with_reducible refine gate_dst (N := 10) rfl ?_); refine Kd.R_lit (Kd.int .i64) _ 3 ?hg (N := 10) ?hd (xs := ([] : List Int)) (inner := []) (ok := fun _ => True) (okp := fun _ => True) ?hr ?hp (fun _ hk => hk) trivial (Below.refl _ _) (Nat.le_refl _) (by simp) ?_; (case hd => rfl); (case hg => rfl); (case hr => exact (qJ3_9)); (case hp => exact (Reps.none _ _)); intro v166 w3 ho4 hb hg_ hnew_; clear hg_ hnew_; (first | rw [← Ny165.out] at ho4 | (simp only [Int.reduceToNat] at ho4; rw [← Ny165.out] at ho4)); have n0_ := Aside0.mk (Kd.R_lower ho4 (below_size (qJ3_0))); have n1_ := Aside0.mk (below_step (qJ3_0) hb); clear HB; have HO167 := n0_; have HB := n1_; clear n0_ n1_; clear hb ho4)); try go_wp2_with (first | ((with_reducible refine gate_dst (N := 10) rfl ?_); refine Kd.R_lit (Kd.int .i64) _ 3 ?hg (N := 10) ?hd (xs := ([] : List Int)) (inner := []) (ok := fun _ => True) (okp := fun _ => True) ?hr ?hp (fun _ hk => hk) trivial (Below.refl _ _) (Nat.le_refl _) (by simp) ?_; (case hd => rfl); (case hg => rfl); (case hr => exact (qJ3_9)); (case hp => exact (Reps.none _ _)); intro v166 w3 ho4 hb hg_ hnew_; clear hg_ hnew_; (first | rw [← Ny165.out] at ho4 | (simp only [Int.reduceToNat] at ho4; rw [← Ny165.out] at ho4)); have n0_ := Aside0.mk (Kd.R_lower ho4 (below_size (qJ3_0))); have n1_ := Aside0.mk (below_step (qJ3_0) hb); clear HB; have HO167 := n0_; have HB := n1_; clear n0_ n1_; clear hb ho4)))
 go_loopg [5, 6] k (fun kq v5 v6 w' => ∃ (x5_1 : List Int) (x6_1 : Int), v6 = .int .i64 x6_1 ∧ Aside0 (spec_l16Can.l0 kq l0 l1 x5_1 x6_1 = some r) ∧ Aside0 (kq ≤ k) ∧ Aside0 (Kd.R (Kd.int .i64) 3 w' w.heap.size (fun _ => True) v5 x5_1) ∧ Aside0 (Below w.heap.size w w'))
 case atStart => exact ⟨(y165), (0), (qJ3_8), H', ⟨Nat.le_refl _⟩, ⟨(by (with_reducible repeat (first | apply Kd.R_alloc | apply Kd.R_drewN | apply Kd.R_drew)); exact HO167.out)⟩, ⟨(qJ3_0)⟩⟩
 case round =>
  clear H'
  try clear c1
  try clear p2
  try clear c3
  obtain ⟨x5_1, x6_1, rfl, HA, HK1, HO_5, HB⟩ := hrel
  cases gk with
  | zero => exact absurd HA.out (by simp [spec_l16Can.l0])
  | succ k1 =>
   have H := HA.out
   clear HA
   simp only [spec_l16Can.l0] at H
   by_cases c5 : x6_1 < (l0.length : Int)
   ·rw [if_pos c5] at H
    have c5b0 : decide (x6_1 < (l0.length : Int)) = true := decide_eq_true c5
    clear c5
    by_cases c6 : 0 ≤ x6_1
    ·rw [if_pos c6] at H
     have c6b0 : decide (0 ≤ x6_1) = true := decide_eq_true c6
     clear c6; replace H := Option.bind_eq_some_iff.mp H; obtain ⟨t169, A70, H⟩ := H
     try dsimp only at H
     have A7 := Aside0.mk A70; clear A70
     by_cases c8 : x5_1.length < 17592186044416
     ·rw [if_pos c8] at H; have LMc8 := Aside0.mk c8; clear c8
      obtain ⟨y170, hy170⟩ : ∃ y_ : List Int, y_ = (x5_1 ++ [t169]) := ⟨_, rfl⟩
      replace H : (spec_l16Can.l0 k1 l0 l1 y170 (wrap64 (x6_1 + 1))) = some r := by first | (rw [hy170]; with_reducible exact H) | (have H2_ := (Option.bind_some _ _).symm.trans H; rw [hy170]; with_reducible exact H2_) | (have H2_ := (Option.bind_some _ _).symm.trans H; with_reducible exact H2_) | with_reducible exact H | (rw [hy170]; exact H) | exact H
      have Ny170 := Aside0.mk hy170; clear hy170
      have H' := Aside0.mk H
      clear H
      have p168 : 0 ≤ (x6_1 : Int) := of_decide_eq_true (qJ3_7)
      have q168 : x6_1 < (l0.length : Int) := of_decide_eq_true (qJ3_7)
      obtain ⟨ad168, e168, hx168_0, hx168_1⟩ := at_T36 HR0.out x6_1 p168 q168
      cases e168
      replace hx168_0 := (HB.out.cell (World.block_lt_of_cell? w _ hx168_0)).trans hx168_0
      replace hx168_1 := (HB.out.cell (World.block_lt_of_cell? w _ hx168_1)).trans hx168_1
      replace p168 := eq_true p168
      replace q168 := eq_true q168
      go_wp2_with (first | (go_at_call 47; (with_reducible refine (spec_l16Need.calls ((rd_T36 l0 x6_1).f0) ((rd_T36 l0 x6_1).f1) t169 _ A7.out).mono ?_); rintro e w9 ⟨rfl, hb⟩; have n0_ := Aside0.mk (Kd.R_below (qJ3_1) hb); have n1_ := Aside0.mk (below_step (qJ3_0) hb); clear HO_5 HB; have HO_5 := n0_; have HB := n1_; clear n0_ n1_; (try clear hb); (try clear hb2); (try clear hk); (try clear hi)) | ((with_reducible refine gate_builtin (b := .append) (xs := #[.tmp 17, .tmp 23]) rfl ?_); at_builtin; refine Kd.R_append (Kd.int .i64) (w0 := w) w.heap.size rfl (.tmp 17) (.tmp 23) 23 3 (.int .i64 0) 8 rfl Try.underlying23 info3 rfl (by decide) (by omega) u5 x5_1 t169 [.int .i64 t169] (fun _ => True) (fun _ => False) rfl rfl ?aP (fun _ hk => hk.elim) ?aF ?aO ?aB ?aS ?aL ?_; (case aP => exact rfl); (case aB => exact (qJ3_0)); (case aF => exact (fun _ _ => trivial)); (case aO => exact (qJ3_1)); (case aS => exact (by exact (below_size (qJ3_0)))); (case aL => have := LMc8.out; omega); intro v171 w10 ho hb hg hat; rw [← Ny170.out] at ho; have n0_ := Aside0.mk (hb); have n1_ := Aside0.mk (ho); clear HB HO_5; have HB := n0_; have HO172 := n1_; clear n0_ n1_; clear ho hb hg hat))
      repeat (go_quiet (first | (go_at_call 47; (with_reducible refine (spec_l16Need.calls ((rd_T36 l0 x6_1).f0) ((rd_T36 l0 x6_1).f1) t169 _ A7.out).mono ?_); rintro e w9 ⟨rfl, hb⟩; have n0_ := Aside0.mk (Kd.R_below (qJ3_1) hb); have n1_ := Aside0.mk (below_step (qJ3_0) hb); clear HO_5 HB; have HO_5 := n0_; have HB := n1_; clear n0_ n1_; (try clear hb); (try clear hb2); (try clear hk); (try clear hi)) | ((with_reducible refine gate_builtin (b := .append) (xs := #[.tmp 17, .tmp 23]) rfl ?_); at_builtin; refine Kd.R_append (Kd.int .i64) (w0 := w) w.heap.size rfl (.tmp 17) (.tmp 23) 23 3 (.int .i64 0) 8 rfl Try.underlying23 info3 rfl (by decide) (by omega) u5 x5_1 t169 [.int .i64 t169] (fun _ => True) (fun _ => False) rfl rfl ?aP (fun _ hk => hk.elim) ?aF ?aO ?aB ?aS ?aL ?_; (case aP => exact rfl); (case aB => exact (qJ3_0)); (case aF => exact (fun _ _ => trivial)); (case aO => exact (qJ3_1)); (case aS => exact (by exact (below_size (qJ3_0)))); (case aL => have := LMc8.out; omega); intro v171 w10 ho hb hg hat; rw [← Ny170.out] at ho; have n0_ := Aside0.mk (hb); have n1_ := Aside0.mk (ho); clear HB HO_5; have HB := n0_; have HO172 := n1_; clear n0_ n1_; clear ho hb hg hat)); try go_wp2_with (first | (go_at_call 47; (with_reducible refine (spec_l16Need.calls ((rd_T36 l0 x6_1).f0) ((rd_T36 l0 x6_1).f1) t169 _ A7.out).mono ?_); rintro e w9 ⟨rfl, hb⟩; have n0_ := Aside0.mk (Kd.R_below (qJ3_1) hb); have n1_ := Aside0.mk (below_step (qJ3_0) hb); clear HO_5 HB; have HO_5 := n0_; have HB := n1_; clear n0_ n1_; (try clear hb); (try clear hb2); (try clear hk); (try clear hi)) | ((with_reducible refine gate_builtin (b := .append) (xs := #[.tmp 17, .tmp 23]) rfl ?_); at_builtin; refine Kd.R_append (Kd.int .i64) (w0 := w) w.heap.size rfl (.tmp 17) (.tmp 23) 23 3 (.int .i64 0) 8 rfl Try.underlying23 info3 rfl (by decide) (by omega) u5 x5_1 t169 [.int .i64 t169] (fun _ => True) (fun _ => False) rfl rfl ?aP (fun _ hk => hk.elim) ?aF ?aO ?aB ?aS ?aL ?_; (case aP => exact rfl); (case aB => exact (qJ3_0)); (case aF => exact (fun _ _ => trivial)); (case aO => exact (qJ3_1)); (case aS => exact (by exact (below_size (qJ3_0)))); (case aL => have := LMc8.out; omega); intro v171 w10 ho hb hg hat; rw [← Ny170.out] at ho; have n0_ := Aside0.mk (hb); have n1_ := Aside0.mk (ho); clear HB HO_5; have HB := n0_; have HO172 := n1_; clear n0_ n1_; clear ho hb hg hat)))
      go_roundg k1
      case measure => have := HK1.out; omega
      case rel => exact ⟨(y170), (wrap64 (x6_1 + 1)), (qJ3_8), H', ⟨by have := HK1.out; omega⟩, ⟨(by (with_reducible repeat (first | apply Kd.R_alloc | apply Kd.R_drewN | apply Kd.R_drew)); exact HO172.out)⟩, ⟨(qJ3_0)⟩⟩
     ·rw [if_neg c8] at H
      exact absurd H (by simp)
    ·rw [if_neg c6] at H
     exact absurd H (by simp)
   ·rw [if_neg c5] at H
    have c5b0 : decide (x6_1 < (l0.length : Int)) = false := decide_eq_false c5
    clear c5; replace H := Option.bind_eq_some_iff.mp H; obtain ⟨t173, A110, H⟩ := H
    try dsimp only at H
    have A11 := Aside0.mk A110; clear A110; replace H := Option.bind_eq_some_iff.mp H; obtain ⟨t176, A120, H⟩ := H
    try dsimp only at H
    have A12 := Aside0.mk A120; clear A120
    by_cases c13 : (t173.length : Int) > (t176.length : Int)
    ·rw [if_pos c13] at H
     have c13b0 : decide ((t176.length : Int) < (t173.length : Int)) = true := decide_eq_true c13
     have c13b1 : decide (t176.length < t173.length) = true := decide_eq_true (Int.ofNat_lt.mp c13)
     clear c13; obtain rfl := Option.some.inj H
     obtain ⟨Ao14, co14, eo14⟩ := Kd.R_slice HO_5.out
     subst eo14
     go_wp2_with (first | (go_at_call 65; (with_reducible refine (spec_l16Down.calls k1 _ _ x5_1 t173 _ ?side1 ?side2 A11.out).mono ?_); (case side1 => exact (qJ3_5)); (case side2 => exact (qJ3_16)); rintro e w15 ⟨v174, rfl, ho0, hb⟩; have n0_ := Aside0.mk (Kd.R_elder' (qJ3_1) (Kd.R_base ho0) hb); have n1_ := Aside0.mk (Kd.R_lower (Kd.R_new' ho0 (Kd.R_lt (qJ3_1))) (below_size (qJ3_0))); have n2_ := Aside0.mk (below_step (qJ3_0) hb); clear HO_5 HB; have HO_5 := n0_; have HO175 := n1_; have HB := n2_; clear n0_ n1_ n2_; (try clear hb); (try clear hb2); (try clear hk); (try clear hi); (try clear ho0)) | (go_at_call 65; (with_reducible refine (spec_l16Down.calls k1 _ _ l1 t176 _ ?side1 ?side2 A12.out).mono ?_); (case side1 => exact (qJ3_2)); (case side2 => exact HC1.out); rintro e w16 ⟨v177, rfl, ho0, hb⟩; have n0_ := Aside0.mk (Kd.R_elder' (qJ3_1) (Kd.R_base ho0) hb); have n1_ := Aside0.mk (Kd.R_elder' (qJ3_3) (Kd.R_base ho0) hb); have n2_ := Aside0.mk (Kd.R_lower (Kd.R_new' (Kd.R_new' ho0 (Kd.R_lt (qJ3_1))) (Kd.R_lt (qJ3_3))) (below_size (qJ3_0))); have n3_ := Aside0.mk (below_step (qJ3_0) hb); clear HO_5 HO175 HB; have HO_5 := n0_; have HO175 := n1_; have HO178 := n2_; have HB := n3_; clear n0_ n1_ n2_ n3_; (try clear hb); (try clear hb2); (try clear hk); (try clear hi); (try clear ho0); obtain ⟨Ao17, co17, eo17⟩ := Kd.R_slice HO175.out; subst eo17; obtain ⟨Ao18, co18, eo18⟩ := Kd.R_slice HO178.out; subst eo18))
     repeat (go_quiet (first | (go_at_call 65; (with_reducible refine (spec_l16Down.calls k1 _ _ x5_1 t173 _ ?side1 ?side2 A11.out).mono ?_); (case side1 => exact (qJ3_5)); (case side2 => exact (qJ3_16)); rintro e w15 ⟨v174, rfl, ho0, hb⟩; have n0_ := Aside0.mk (Kd.R_elder' (qJ3_1) (Kd.R_base ho0) hb); have n1_ := Aside0.mk (Kd.R_lower (Kd.R_new' ho0 (Kd.R_lt (qJ3_1))) (below_size (qJ3_0))); have n2_ := Aside0.mk (below_step (qJ3_0) hb); clear HO_5 HB; have HO_5 := n0_; have HO175 := n1_; have HB := n2_; clear n0_ n1_ n2_; (try clear hb); (try clear hb2); (try clear hk); (try clear hi); (try clear ho0)) | (go_at_call 65; (with_reducible refine (spec_l16Down.calls k1 _ _ l1 t176 _ ?side1 ?side2 A12.out).mono ?_); (case side1 => exact (qJ3_2)); (case side2 => exact HC1.out); rintro e w16 ⟨v177, rfl, ho0, hb⟩; have n0_ := Aside0.mk (Kd.R_elder' (qJ3_1) (Kd.R_base ho0) hb); have n1_ := Aside0.mk (Kd.R_elder' (qJ3_3) (Kd.R_base ho0) hb); have n2_ := Aside0.mk (Kd.R_lower (Kd.R_new' (Kd.R_new' ho0 (Kd.R_lt (qJ3_1))) (Kd.R_lt (qJ3_3))) (below_size (qJ3_0))); have n3_ := Aside0.mk (below_step (qJ3_0) hb); clear HO_5 HO175 HB; have HO_5 := n0_; have HO175 := n1_; have HO178 := n2_; have HB := n3_; clear n0_ n1_ n2_ n3_; (try clear hb); (try clear hb2); (try clear hk); (try clear hi); (try clear ho0); obtain ⟨Ao17, co17, eo17⟩ := Kd.R_slice HO175.out; subst eo17; obtain ⟨Ao18, co18, eo18⟩ := Kd.R_slice HO178.out; subst eo18)); try go_wp2_with (first | (go_at_call 65; (with_reducible refine (spec_l16Down.calls k1 _ _ x5_1 t173 _ ?side1 ?side2 A11.out).mono ?_); (case side1 => exact (qJ3_5)); (case side2 => exact (qJ3_16)); rintro e w15 ⟨v174, rfl, ho0, hb⟩; have n0_ := Aside0.mk (Kd.R_elder' (qJ3_1) (Kd.R_base ho0) hb); have n1_ := Aside0.mk (Kd.R_lower (Kd.R_new' ho0 (Kd.R_lt (qJ3_1))) (below_size (qJ3_0))); have n2_ := Aside0.mk (below_step (qJ3_0) hb); clear HO_5 HB; have HO_5 := n0_; have HO175 := n1_; have HB := n2_; clear n0_ n1_ n2_; (try clear hb); (try clear hb2); (try clear hk); (try clear hi); (try clear ho0)) | (go_at_call 65; (with_reducible refine (spec_l16Down.calls k1 _ _ l1 t176 _ ?side1 ?side2 A12.out).mono ?_); (case side1 => exact (qJ3_2)); (case side2 => exact HC1.out); rintro e w16 ⟨v177, rfl, ho0, hb⟩; have n0_ := Aside0.mk (Kd.R_elder' (qJ3_1) (Kd.R_base ho0) hb); have n1_ := Aside0.mk (Kd.R_elder' (qJ3_3) (Kd.R_base ho0) hb); have n2_ := Aside0.mk (Kd.R_lower (Kd.R_new' (Kd.R_new' ho0 (Kd.R_lt (qJ3_1))) (Kd.R_lt (qJ3_3))) (below_size (qJ3_0))); have n3_ := Aside0.mk (below_step (qJ3_0) hb); clear HO_5 HO175 HB; have HO_5 := n0_; have HO175 := n1_; have HO178 := n2_; have HB := n3_; clear n0_ n1_ n2_ n3_; (try clear hb); (try clear hb2); (try clear hk); (try clear hi); (try clear ho0); obtain ⟨Ao17, co17, eo17⟩ := Kd.R_slice HO175.out; subst eo17; obtain ⟨Ao18, co18, eo18⟩ := Kd.R_slice HO178.out; subst eo18)))
     go_ret
     exact ⟨(qJ3_6), (qJ3_0)⟩
    ·rw [if_neg c13] at H
     have c13b0 : decide ((t176.length : Int) < (t173.length : Int)) = false := decide_eq_false c13
     have c13b1 : decide (t176.length < t173.length) = false := decide_eq_false (fun h => c13 (Int.ofNat_lt.mpr h))
     clear c13
     have H' := Aside0.mk H
     clear H
     obtain ⟨Ao19, co19, eo19⟩ := Kd.R_slice HO_5.out
     subst eo19
     go_wp2_with (first | (go_at_call 65; (with_reducible refine (spec_l16Down.calls k1 _ _ x5_1 t173 _ ?side1 ?side2 A11.out).mono ?_); (case side1 => exact (qJ3_5)); (case side2 => exact (qJ3_16)); rintro e w20 ⟨v174, rfl, ho0, hb⟩; have n0_ := Aside0.mk (Kd.R_elder' (qJ3_1) (Kd.R_base ho0) hb); have n1_ := Aside0.mk (Kd.R_lower (Kd.R_new' ho0 (Kd.R_lt (qJ3_1))) (below_size (qJ3_0))); have n2_ := Aside0.mk (below_step (qJ3_0) hb); clear HO_5 HB; have HO_5 := n0_; have HO175 := n1_; have HB := n2_; clear n0_ n1_ n2_; (try clear hb); (try clear hb2); (try clear hk); (try clear hi); (try clear ho0)) | (go_at_call 65; (with_reducible refine (spec_l16Down.calls k1 _ _ l1 t176 _ ?side1 ?side2 A12.out).mono ?_); (case side1 => exact (qJ3_2)); (case side2 => exact HC1.out); rintro e w21 ⟨v177, rfl, ho0, hb⟩; have n0_ := Aside0.mk (Kd.R_elder' (qJ3_1) (Kd.R_base ho0) hb); have n1_ := Aside0.mk (Kd.R_elder' (qJ3_3) (Kd.R_base ho0) hb); have n2_ := Aside0.mk (Kd.R_lower (Kd.R_new' (Kd.R_new' ho0 (Kd.R_lt (qJ3_1))) (Kd.R_lt (qJ3_3))) (below_size (qJ3_0))); have n3_ := Aside0.mk (below_step (qJ3_0) hb); clear HO_5 HO175 HB; have HO_5 := n0_; have HO175 := n1_; have HO178 := n2_; have HB := n3_; clear n0_ n1_ n2_ n3_; (try clear hb); (try clear hb2); (try clear hk); (try clear hi); (try clear ho0); obtain ⟨Ao22, co22, eo22⟩ := Kd.R_slice HO175.out; subst eo22; obtain ⟨Ao23, co23, eo23⟩ := Kd.R_slice HO178.out; subst eo23))
     repeat (go_quiet (first | (go_at_call 65; (with_reducible refine (spec_l16Down.calls k1 _ _ x5_1 t173 _ ?side1 ?side2 A11.out).mono ?_); (case side1 => exact (qJ3_5)); (case side2 => exact (qJ3_16)); rintro e w20 ⟨v174, rfl, ho0, hb⟩; have n0_ := Aside0.mk (Kd.R_elder' (qJ3_1) (Kd.R_base ho0) hb); have n1_ := Aside0.mk (Kd.R_lower (Kd.R_new' ho0 (Kd.R_lt (qJ3_1))) (below_size (qJ3_0))); have n2_ := Aside0.mk (below_step (qJ3_0) hb); clear HO_5 HB; have HO_5 := n0_; have HO175 := n1_; have HB := n2_; clear n0_ n1_ n2_; (try clear hb); (try clear hb2); (try clear hk); (try clear hi); (try clear ho0)) | (go_at_call 65; (with_reducible refine (spec_l16Down.calls k1 _ _ l1 t176 _ ?side1 ?side2 A12.out).mono ?_); (case side1 => exact (qJ3_2)); (case side2 => exact HC1.out); rintro e w21 ⟨v177, rfl, ho0, hb⟩; have n0_ := Aside0.mk (Kd.R_elder' (qJ3_1) (Kd.R_base ho0) hb); have n1_ := Aside0.mk (Kd.R_elder' (qJ3_3) (Kd.R_base ho0) hb); have n2_ := Aside0.mk (Kd.R_lower (Kd.R_new' (Kd.R_new' ho0 (Kd.R_lt (qJ3_1))) (Kd.R_lt (qJ3_3))) (below_size (qJ3_0))); have n3_ := Aside0.mk (below_step (qJ3_0) hb); clear HO_5 HO175 HB; have HO_5 := n0_; have HO175 := n1_; have HO178 := n2_; have HB := n3_; clear n0_ n1_ n2_ n3_; (try clear hb); (try clear hb2); (try clear hk); (try clear hi); (try clear ho0); obtain ⟨Ao22, co22, eo22⟩ := Kd.R_slice HO175.out; subst eo22; obtain ⟨Ao23, co23, eo23⟩ := Kd.R_slice HO178.out; subst eo23)); try go_wp2_with (first | (go_at_call 65; (with_reducible refine (spec_l16Down.calls k1 _ _ x5_1 t173 _ ?side1 ?side2 A11.out).mono ?_); (case side1 => exact (qJ3_5)); (case side2 => exact (qJ3_16)); rintro e w20 ⟨v174, rfl, ho0, hb⟩; have n0_ := Aside0.mk (Kd.R_elder' (qJ3_1) (Kd.R_base ho0) hb); have n1_ := Aside0.mk (Kd.R_lower (Kd.R_new' ho0 (Kd.R_lt (qJ3_1))) (below_size (qJ3_0))); have n2_ := Aside0.mk (below_step (qJ3_0) hb); clear HO_5 HB; have HO_5 := n0_; have HO175 := n1_; have HB := n2_; clear n0_ n1_ n2_; (try clear hb); (try clear hb2); (try clear hk); (try clear hi); (try clear ho0)) | (go_at_call 65; (with_reducible refine (spec_l16Down.calls k1 _ _ l1 t176 _ ?side1 ?side2 A12.out).mono ?_); (case side1 => exact (qJ3_2)); (case side2 => exact HC1.out); rintro e w21 ⟨v177, rfl, ho0, hb⟩; have n0_ := Aside0.mk (Kd.R_elder' (qJ3_1) (Kd.R_base ho0) hb); have n1_ := Aside0.mk (Kd.R_elder' (qJ3_3) (Kd.R_base ho0) hb); have n2_ := Aside0.mk (Kd.R_lower (Kd.R_new' (Kd.R_new' ho0 (Kd.R_lt (qJ3_1))) (Kd.R_lt (qJ3_3))) (below_size (qJ3_0))); have n3_ := Aside0.mk (below_step (qJ3_0) hb); clear HO_5 HO175 HB; have HO_5 := n0_; have HO175 := n1_; have HO178 := n2_; have HB := n3_; clear n0_ n1_ n2_ n3_; (try clear hb); (try clear hb2); (try clear hk); (try clear hi); (try clear ho0); obtain ⟨Ao22, co22, eo22⟩ := Kd.R_slice HO175.out; subst eo22; obtain ⟨Ao23, co23, eo23⟩ := Kd.R_slice HO178.out; subst eo23)))
     go_loopg [9] k1 (fun kq v9 w' => ∃ (x9_2 : Int), v9 = .int .i64 x9_2 ∧ Aside0 (spec_l16Can.l1 kq t173 t176 x9_2 = some r) ∧ Aside0 (kq ≤ k1) ∧ Aside0 (Kd.R (Kd.int .i64) 3 w' w.heap.size (fun k_ => some k_ ≠ ((.slice Ao23 t176.length co23) : Value).ownBlock) (.slice Ao22 t173.length co22) t173) ∧ Aside0 (Kd.R (Kd.int .i64) 3 w' w.heap.size (fun k_ => some k_ ≠ ((.slice Ao22 t173.length co22) : Value).ownBlock) (.slice Ao23 t176.length co23) t176) ∧ Aside0 (Below w.heap.size w w'))
     case atStart => exact ⟨(0), (qJ3_8), H', ⟨Nat.le_refl _⟩, ⟨(by (with_reducible repeat (first | apply Kd.R_alloc | apply Kd.R_drewN | apply Kd.R_drew)); exact Kd.R_mono HO175.out (fun _ hk => hk.2))⟩, ⟨(by (with_reducible repeat (first | apply Kd.R_alloc | apply Kd.R_drewN | apply Kd.R_drew)); exact Kd.R_mono HO178.out (fun _ hk => hk.2))⟩, ⟨(qJ3_0)⟩⟩
     case round =>
      clear H'
      try clear c1
      try clear p1
      try clear q1
      try clear hx1
      try clear p2
      try clear c3
      try clear c5
      try clear c5b0
      try clear c6
      try clear c6b0
      try clear p6
      try clear c8
      try clear c13
      try clear c13b0
      try clear c13b1
      try clear p16
      try clear q16
      try clear hx16
      try clear hx168_0
      try clear hx168_1
      try clear p168
      try clear p2
      try clear q168
      obtain ⟨x9_2, rfl, HA, HK2, HO_7, HO_8, HB⟩ := hrel
      cases gk with
      | zero => exact absurd HA.out (by simp [spec_l16Can.l1])
      | succ k2 =>
       have H := HA.out
       clear HA
       simp only [spec_l16Can.l1] at H
       by_cases c24 : x9_2 < (t173.length : Int)
       ·rw [if_pos c24] at H
        have c24b0 : decide (x9_2 < (t173.length : Int)) = true := decide_eq_true c24
        clear c24
        obtain ⟨ji25, hji25⟩ : ∃ j_ : Int, (wrap64 ((wrap64 ((t176.length : Int) - (t173.length : Int))) + x9_2)) = j_ := ⟨_, rfl⟩
        replace H : (if 0 ≤ (ji25) then (if (ji25) < (t176.length : Int) then (if 0 ≤ x9_2 then (if (rd t176 (ji25)) < (rd t173 x9_2) then (some false) else (spec_l16Can.l1 k2 t173 t176 (wrap64 (x9_2 + 1)))) else (none)) else (none)) else (none)) = some r := by first | (rw [hji25] at H; exact H) | (simp only [hji25] at H ⊢; exact H)
        have hji25w : (IntKind.i64.wrap ((wrap64 ((t176.length : Int) - (t173.length : Int))) + x9_2)) = ji25 := (i64_w _).trans hji25
        by_cases c26 : 0 ≤ (ji25)
        ·rw [if_pos c26] at H
         have c26b0 : decide (0 ≤ (ji25)) = true := decide_eq_true c26
         clear c26
         by_cases c27 : (ji25) < (t176.length : Int)
         ·rw [if_pos c27] at H
          have c27b0 : decide ((ji25) < (t176.length : Int)) = true := decide_eq_true c27
          clear c27
          by_cases c28 : 0 ≤ x9_2
          ·rw [if_pos c28] at H
           have c28b0 : decide (0 ≤ x9_2) = true := decide_eq_true c28
           clear c28
           by_cases c29 : (rd t176 (ji25)) < (rd t173 x9_2)
           ·rw [if_pos c29] at H
            have c29b0 : decide ((rd t176 (ji25)) < (rd t173 x9_2)) = true := decide_eq_true c29
            clear c29; obtain rfl := Option.some.inj H
            have p179 : 0 ≤ ((ji25) : Int) := of_decide_eq_true (qJ3_7)
            have q179 : (ji25) < (t176.length : Int) := of_decide_eq_true (qJ3_7)
            obtain ⟨ad179, e179, hx179_0⟩ := Kd.at_int (Kd.R_reads' HO_8.out).2.2 (ji25) p179 q179
            cases e179
            replace p179 := eq_true p179
            replace q179 := eq_true q179
            have p180 : 0 ≤ (x9_2 : Int) := of_decide_eq_true (qJ3_7)
            have q180 : x9_2 < (t173.length : Int) := of_decide_eq_true (qJ3_7)
            obtain ⟨ad180, e180, hx180_0⟩ := Kd.at_int (Kd.R_reads' HO_7.out).2.2 x9_2 p180 q180
            cases e180
            replace p180 := eq_true p180
            replace q180 := eq_true q180
            go_wp2
            repeat (go_quiet (fail); try go_wp2)
            go_ret
            exact ⟨(by first | rfl | (simp [errW_none, errW_some] <;> rfl) | (simp only [← hji25]; first | rfl | (simp [errW_none, errW_some] <;> rfl)) | (simp [*, errW_none, errW_some] <;> rfl)), (qJ3_0)⟩
           ·rw [if_neg c29] at H
            have c29b0 : decide ((rd t176 (ji25)) < (rd t173 x9_2)) = false := decide_eq_false c29
            clear c29
            have H' := Aside0.mk H
            clear H
            have p179 : 0 ≤ ((ji25) : Int) := of_decide_eq_true (qJ3_7)
            have q179 : (ji25) < (t176.length : Int) := of_decide_eq_true (qJ3_7)
            obtain ⟨ad179, e179, hx179_0⟩ := Kd.at_int (Kd.R_reads' HO_8.out).2.2 (ji25) p179 q179
            cases e179
            replace p179 := eq_true p179
            replace q179 := eq_true q179
            have p180 : 0 ≤ (x9_2 : Int) := of_decide_eq_true (qJ3_7)
            have q180 : x9_2 < (t173.length : Int) := of_decide_eq_true (qJ3_7)
            obtain ⟨ad180, e180, hx180_0⟩ := Kd.at_int (Kd.R_reads' HO_7.out).2.2 x9_2 p180 q180
            cases e180
            replace p180 := eq_true p180
            replace q180 := eq_true q180
            go_wp2
            repeat (go_quiet (fail); try go_wp2)
            go_roundg k2
            case measure => have := HK1.out; have := HK2.out; omega
            case rel => exact ⟨(wrap64 (x9_2 + 1)), (qJ3_8), H', ⟨by have := HK1.out; have := HK2.out; omega⟩, ⟨(by (with_reducible repeat (first | apply Kd.R_alloc | apply Kd.R_drewN | apply Kd.R_drew)); exact HO_7.out)⟩, ⟨(by (with_reducible repeat (first | apply Kd.R_alloc | apply Kd.R_drewN | apply Kd.R_drew)); exact HO_8.out)⟩, ⟨(qJ3_0)⟩⟩
          ·rw [if_neg c28] at H
           exact absurd H (by simp)
         ·rw [if_neg c27] at H
          exact absurd H (by simp)
        ·rw [if_neg c26] at H
         exact absurd H (by simp)
       ·rw [if_neg c24] at H
        have c24b0 : decide (x9_2 < (t173.length : Int)) = false := decide_eq_false c24
        clear c24; obtain rfl := Option.some.inj H
        go_wp2
        repeat (go_quiet (fail); try go_wp2)
        go_ret
        exact ⟨(qJ3_6), (qJ3_0)⟩

/-! ### spec_DeepestFirst: function 7 -/
def spec_DeepestFirst.l0 : Nat → List (S36) → List Int → Int → Option (Int × Bool)
 | 0, _, _, _ => none
 | k + 1, x0, x1, x6 => if x6 < (x0.length : Int) then (if 0 ≤ (wrap64 (x6 + 1)) then (if (wrap64 (x6 + 1)) ≤ (x0.length : Int) then ((spec_l16Can.f k (x0.take ((wrap64 (x6 + 1)) : Int).toNat) x1).bind fun t186 => (if t186 = true then (spec_DeepestFirst.l0 k x0 x1 (wrap64 (x6 + 1))) else (some (x6, true)))) else (none)) else (none)) else (some (x6, true))
def spec_DeepestFirst.f (k : Nat) (l0 : List (S36)) (l1 : List Int) : Option (Int × Bool) := (spec_l16Asked.f k l0 l1).bind fun t181 => (if t181 = true then (spec_DeepestFirst.l0 k l0 l1 0) else (some (0, false)))
theorem spec_DeepestFirst.mono_l : ∀ k, (∀ y0 y1 y2, LeO (spec_DeepestFirst.l0 k y0 y1 y2) (spec_DeepestFirst.l0 (k + 1) y0 y1 y2))
 | 0 => fun _ _ _ r h => by simp [spec_DeepestFirst.l0] at h
 | k + 1 => by
  have ih0 := spec_DeepestFirst.mono_l k
  ·intro y0 y1 y2
   unfold spec_DeepestFirst.l0
   repeat' first
   | (with_reducible exact ih0 _ _ _)
   | (with_reducible exact spec_l16Asked.mono _ _ _)
   | (with_reducible exact spec_l16Can.mono _ _ _)
   | (with_reducible exact LeO.refl _)
   | (with_reducible exact LeO.none _)
   | (with_reducible refine LeO.ite ?_ ?_)
   | (with_reducible refine LeO.bind ?_ (fun _ => ?_))
   | exact ih0 _ _ _
   | exact spec_l16Asked.mono _ _ _
   | exact spec_l16Can.mono _ _ _
   | exact LeO.none _
   | refine LeO.ite ?_ ?_
   | refine LeO.bind ?_ (fun _ => ?_)
theorem spec_DeepestFirst.mono : ∀ a0 a1 k, LeO (spec_DeepestFirst.f k a0 a1) (spec_DeepestFirst.f (k + 1) a0 a1) := by
 intro a0 a1 k
 have ih0 := spec_DeepestFirst.mono_l k
 unfold spec_DeepestFirst.f
 repeat' first
   | (with_reducible exact ih0 _ _ _)
   | (with_reducible exact spec_l16Asked.mono _ _ _)
   | (with_reducible exact spec_l16Can.mono _ _ _)
   | (with_reducible exact LeO.refl _)
   | (with_reducible exact LeO.none _)
   | (with_reducible refine LeO.ite ?_ ?_)
   | (with_reducible refine LeO.bind ?_ (fun _ => ?_))
   | exact ih0 _ _ _
   | exact spec_l16Asked.mono _ _ _
   | exact spec_l16Can.mono _ _ _
   | exact LeO.none _
   | refine LeO.ite ?_ ?_
   | refine LeO.bind ?_ (fun _ => ?_)
theorem spec_DeepestFirst.calls (k : Nat) (A0 : Option Addr) (c0 : Nat) (l0 : List (S36)) (A1 : Option Addr) (c1 : Nat) (l1 : List Int) (r1 : Int) (r2 : Bool) (w : World) (hr0 : Kd.C k36 w A0 l0.length l0) (hc0 : l0.length ≤ c0) (hr1 : Kd.C (Kd.int .i64) w A1 l1.length l1) (hc1 : l1.length ≤ c1) (h : spec_DeepestFirst.f k l0 l1 = some (r1, r2)) :
  Calls Try.prog 7 #[.slice A0 l0.length c0, .slice A1 l1.length c1] w fun e w' => e = .returned (.tuple #[.int .i64 r1, .bool r2]) ∧ Below w.heap.size w w' := by
 have HR0 := Aside0.mk hr0; have HC0 := Aside0.mk hc0; clear hr0 hc0; have HR1 := Aside0.mk hr1; have HC1 := Aside0.mk hc1; clear hr1 hc1
 have HB := Aside0.mk (Below.refl w.heap.size w)
 have H : ((spec_l16Asked.f k l0 l1).bind fun t181 => (if t181 = true then (spec_DeepestFirst.l0 k l0 l1 0) else (some (0, false)))) = some (r1, r2) := h
 clear h; replace H := Option.bind_eq_some_iff.mp H; obtain ⟨t181, A30, H⟩ := H
 try dsimp only at H
 have A3 := Aside0.mk A30; clear A30
 by_cases c4 : t181 = true
 ·subst c4
  have H1 : (spec_DeepestFirst.l0 k l0 l1 0) = some (r1, r2) := by rw [if_pos rfl] at H; exact H
  clear H; have H := H1; clear H1
  have H' := Aside0.mk H
  clear H
  go_enter Try.func7, Try.ntmps7
  go_wp2_with (first | ((with_reducible refine gate_callee (f := 36) rfl ?_); refine goesL_ (some 9) rfl rfl Try.func36 (by kernel_rfl) rfl #[.slice A0 l0.length c0, .slice A1 l1.length c1] rfl (qJ3_4) ?_; (with_reducible refine (spec_l16Asked.calls k _ _ l0 _ _ l1 true _ ?side1 ?side2 ?side3 ?side4 A3.out).mono ?_); (case side1 => exact (qJ3_14)); (case side2 => exact HC0.out); (case side3 => exact (qJ3_15)); (case side4 => exact HC1.out); rintro e w5 ⟨rfl, hb⟩; refine ⟨_, rfl, ?_⟩; have n0_ := Aside0.mk (below_step (qJ3_0) hb); clear HB; have HB := n0_; clear n0_; (try clear hb); (try clear hb2); (try clear hk); (try clear hi)))
  go_loopg [6] k (fun kq v6 w' => ∃ (x6_1 : Int), v6 = .int .i64 x6_1 ∧ Aside0 (spec_DeepestFirst.l0 kq l0 l1 x6_1 = some (r1, r2)) ∧ Aside0 (kq ≤ k) ∧ Aside0 (Below w.heap.size w w'))
  case atStart => exact ⟨(0), (qJ3_8), H', ⟨Nat.le_refl _⟩, ⟨(qJ3_0)⟩⟩
  case round =>
   clear H'
   try clear c1
   try clear p2
   try clear c3
   try clear c4
   obtain ⟨x6_1, rfl, HA, HK1, HB⟩ := hrel
   cases gk with
   | zero => exact absurd HA.out (by simp [spec_DeepestFirst.l0])
   | succ k1 =>
    have H := HA.out
    clear HA
    simp only [spec_DeepestFirst.l0] at H
    by_cases c6 : x6_1 < (l0.length : Int)
    ·rw [if_pos c6] at H
     have c6b0 : decide (x6_1 < (l0.length : Int)) = true := decide_eq_true c6
     clear c6
     obtain ⟨ji7, hji7⟩ : ∃ j_ : Int, (wrap64 (x6_1 + 1)) = j_ := ⟨_, rfl⟩
     replace H : (if 0 ≤ (ji7) then (if (ji7) ≤ (l0.length : Int) then ((spec_l16Can.f k1 (l0.take ((ji7) : Int).toNat) l1).bind fun t186 => (if t186 = true then (spec_DeepestFirst.l0 k1 l0 l1 ji7) else (some (x6_1, true)))) else (none)) else (none)) = some (r1, r2) := by first | (rw [hji7] at H; exact H) | (simp only [hji7] at H ⊢; exact H)
     have hji7w : (IntKind.i64.wrap (x6_1 + 1)) = ji7 := (i64_w _).trans hji7
     by_cases c8 : 0 ≤ (ji7)
     ·rw [if_pos c8] at H
      have c8b0 := eq_true c8
      have c8b1 : decide (0 ≤ (ji7)) = true := decide_eq_true c8
      clear c8
      by_cases c9 : (ji7) ≤ (l0.length : Int)
      ·rw [if_pos c9] at H
       have c9b0 := eq_true c9
       have c9b1 : decide ((ji7) ≤ (l0.length : Int)) = true := decide_eq_true c9
       clear c9
       obtain ⟨y182, hy182⟩ : ∃ y_ : List (S36), y_ = (l0.take ((ji7) : Int).toNat) := ⟨_, rfl⟩
       replace H : ((spec_l16Can.f k1 y182 l1).bind fun t186 => (if t186 = true then (spec_DeepestFirst.l0 k1 l0 l1 ji7) else (some (x6_1, true)))) = some (r1, r2) := by first | (rw [hy182]; with_reducible exact H) | (have H2_ := (Option.bind_some _ _).symm.trans H; rw [hy182]; with_reducible exact H2_) | (have H2_ := (Option.bind_some _ _).symm.trans H; with_reducible exact H2_) | with_reducible exact H | (rw [hy182]; exact H) | exact H
       have Ny182 := Aside0.mk hy182; clear hy182; replace H := Option.bind_eq_some_iff.mp H; obtain ⟨t186, A100, H⟩ := H
       try dsimp only at H
       have A10 := Aside0.mk A100; clear A100
       by_cases c11 : t186 = true
       ·subst c11
        have H1 : (spec_DeepestFirst.l0 k1 l0 l1 ji7) = some (r1, r2) := by rw [if_pos rfl] at H; exact H
        clear H; have H := H1; clear H1
        have H' := Aside0.mk H
        clear H
        have q12 : ((ji7) : Int) ≤ ((l0.length : Int) : Int) := of_decide_eq_true (qJ3_7)
        obtain ⟨i012, hi012, _, hsz12, _⟩ := info_parts info36
        have hroom12 : l0.length ≤ c0 := HC0.out
        have hC12 : Kd.C k36 _ A0 l0.length l0 := HR0.out
        have hcut12 := cut_to (P := Try.prog) 27 36 .i64 Try.underlying27 hi012 A0 l0.length c0 (ji7) (of_decide_eq_true (qJ3_7)) q12 hroom12
        have hr12 := Kd.C_take (m := ((ji7) : Int).toNat) hC12 (by omega)
        have hy12 : y182.length = ((ji7) : Int).toNat := (by rw [Ny182.out, List.length_take]; omega)
        rw [← Ny182.out] at hr12
        rw [← hy12] at hcut12
        have HR185 := Aside0.mk hr12
        have HC185 := Aside0.mk (show y182.length ≤ c0 from by omega)
        clear hr12 hC12 hroom12 hi012 hsz12; have KY12 := Aside0.mk hy12; clear hy12
        replace q12 := eq_true q12
        go_wp2_with (first | (go_at_call 37; (with_reducible refine (spec_l16Can.calls k1 _ _ y182 _ _ l1 true _ ?side1 ?side2 ?side3 ?side4 A10.out).mono ?_); (case side1 => exact (qJ3_11)); (case side2 => exact HC185.out); (case side3 => exact (qJ3_2)); (case side4 => exact HC1.out); rintro e w13 ⟨rfl, hb⟩; have n0_ := Aside0.mk (below_step (qJ3_0) hb); clear HB; have HB := n0_; clear n0_; (try clear hb); (try clear hb2); (try clear hk); (try clear hi)))
        go_roundg k1
        case measure => have := HK1.out; omega
        case rel => exact ⟨(ji7), (by first | rfl | (simp; done) | (simp only [← hji7] <;> (first | rfl | simp)) | (simp [*]; done)), H', ⟨by have := HK1.out; omega⟩, ⟨(qJ3_0)⟩⟩
       ·replace c11 := Bool.eq_false_iff.mpr c11
        subst c11
        have H1 : (some (x6_1, true)) = some (r1, r2) := by rw [if_neg (show ¬ (false = true) by decide)] at H; exact H
        clear H; have H := H1; clear H1
        simp only [Option.some.injEq, Prod.mk.injEq] at H
        obtain ⟨rfl, rfl⟩ := H
        have q14 : ((ji7) : Int) ≤ ((l0.length : Int) : Int) := of_decide_eq_true (qJ3_7)
        obtain ⟨i014, hi014, _, hsz14, _⟩ := info_parts info36
        have hroom14 : l0.length ≤ c0 := HC0.out
        have hC14 : Kd.C k36 _ A0 l0.length l0 := HR0.out
        have hcut14 := cut_to (P := Try.prog) 27 36 .i64 Try.underlying27 hi014 A0 l0.length c0 (ji7) (of_decide_eq_true (qJ3_7)) q14 hroom14
        have hr14 := Kd.C_take (m := ((ji7) : Int).toNat) hC14 (by omega)
        have hy14 : y182.length = ((ji7) : Int).toNat := (by rw [Ny182.out, List.length_take]; omega)
        rw [← Ny182.out] at hr14
        rw [← hy14] at hcut14
        have HR185 := Aside0.mk hr14
        have HC185 := Aside0.mk (show y182.length ≤ c0 from by omega)
        clear hr14 hC14 hroom14 hi014 hsz14; have KY14 := Aside0.mk hy14; clear hy14
        replace q14 := eq_true q14
        go_wp2_with (first | (go_at_call 37; (with_reducible refine (spec_l16Can.calls k1 _ _ y182 _ _ l1 false _ ?side1 ?side2 ?side3 ?side4 A10.out).mono ?_); (case side1 => exact (qJ3_11)); (case side2 => exact HC185.out); (case side3 => exact (qJ3_2)); (case side4 => exact HC1.out); rintro e w15 ⟨rfl, hb⟩; have n0_ := Aside0.mk (below_step (qJ3_0) hb); clear HB; have HB := n0_; clear n0_; (try clear hb); (try clear hb2); (try clear hk); (try clear hi)))
        go_ret2
        exact ⟨(by first | rfl | (simp [errW_none, errW_some] <;> rfl) | (simp only [← hji7]; first | rfl | (simp [errW_none, errW_some] <;> rfl)) | (simp [*, errW_none, errW_some] <;> rfl)), (qJ3_0)⟩
      ·rw [if_neg c9] at H
       exact absurd H (by simp)
     ·rw [if_neg c8] at H
      exact absurd H (by simp)
    ·rw [if_neg c6] at H
     have c6b0 : decide (x6_1 < (l0.length : Int)) = false := decide_eq_false c6
     clear c6
     simp only [Option.some.injEq, Prod.mk.injEq] at H
     obtain ⟨rfl, rfl⟩ := H
     go_wp2
     go_ret2
     exact ⟨(qJ3_6), (qJ3_0)⟩
 ·replace c4 := Bool.eq_false_iff.mpr c4
  subst c4
  have H1 : (some (0, false)) = some (r1, r2) := by rw [if_neg (show ¬ (false = true) by decide)] at H; exact H
  clear H; have H := H1; clear H1
  simp only [Option.some.injEq, Prod.mk.injEq] at H
  obtain ⟨rfl, rfl⟩ := H
  go_enter Try.func7, Try.ntmps7
  go_wp2_with (first | ((with_reducible refine gate_callee (f := 36) rfl ?_); refine goesL_ (some 9) rfl rfl Try.func36 (by kernel_rfl) rfl #[.slice A0 l0.length c0, .slice A1 l1.length c1] rfl (qJ3_4) ?_; (with_reducible refine (spec_l16Asked.calls k _ _ l0 _ _ l1 false _ ?side1 ?side2 ?side3 ?side4 A3.out).mono ?_); (case side1 => exact (qJ3_14)); (case side2 => exact HC0.out); (case side3 => exact (qJ3_15)); (case side4 => exact HC1.out); rintro e w16 ⟨rfl, hb⟩; refine ⟨_, rfl, ?_⟩; have n0_ := Aside0.mk (below_step (qJ3_0) hb); clear HB; have HB := n0_; clear n0_; (try clear hb); (try clear hb2); (try clear hk); (try clear hi)))
  go_ret2
  exact ⟨(qJ3_6), (qJ3_0)⟩

-- NOT PRINTED: function 72 (impl_Pitch_72)

-- NOT PRINTED: function 60 (impl_Pitch_60)

/-! ### impl_within: function 57 -/
def impl_within.f (a0 : Int) (a1 : Int) (a2 : Int) : Option (Bool) := if a0 ≥ a1 then (some (decide (a0 ≤ a2))) else (some false)
theorem impl_within.calls (a0 : Int) (a1 : Int) (a2 : Int) (r : Bool) (w : World) (h : impl_within.f a0 a1 a2 = some r) :
  Calls Try.prog 57 #[.int .i64 a0, .int .i64 a1, .int .i64 a2] w fun e w' => e = .returned (.bool r) ∧ Drawn0 w w' := by
 have H : (if a0 ≥ a1 then (some (decide (a0 ≤ a2))) else (some false)) = some r := h
 clear h
 by_cases c4 : a0 ≥ a1
 ·rw [if_pos c4] at H
  have c4b0 : decide (a1 ≤ a0) = true := decide_eq_true c4
  clear c4; obtain rfl := Option.some.inj H
  go_enter Try.func57, Try.ntmps57
  go_wp2
  go_ret
  exact ⟨(qJ3_8), (qJ3_10)⟩
 ·rw [if_neg c4] at H
  have c4b0 : decide (a1 ≤ a0) = false := decide_eq_false c4
  clear c4; obtain rfl := Option.some.inj H
  go_enter Try.func57, Try.ntmps57
  go_wp2
  go_ret
  exact ⟨(qJ3_8), (qJ3_10)⟩

/-! ### impl_isDepth: function 50 -/
def impl_isDepth.f (a0 : Int) : Option (Bool) := (impl_within.f a0 20 3000).bind fun t187 => (some t187)
theorem impl_isDepth.calls (a0 : Int) (r : Bool) (w : World) (h : impl_isDepth.f a0 = some r) :
  Calls Try.prog 50 #[.int .i64 a0] w fun e w' => e = .returned (.bool r) ∧ Drawn0 w w' := by
 have H : ((impl_within.f a0 20 3000).bind fun t187 => (some t187)) = some r := h
 clear h; replace H := Option.bind_eq_some_iff.mp H; obtain ⟨t187, A20, H⟩ := H
 replace H : (some t187) = some r := H
 have A2 := Aside0.mk A20; clear A20; obtain rfl := Option.some.inj H
 go_enter Try.func50, Try.ntmps50
 go_wp2_with (first | ((with_reducible refine gate_callee (f := 57) rfl ?_); refine goesL_ (some 4) rfl rfl Try.func57 (by kernel_rfl) rfl #[.int .i64 a0, .int .i64 20, .int .i64 3000] rfl (qJ3_4) ?_; (with_reducible refine (impl_within.calls a0 20 3000 t187 _ A2.out).mono ?_); rintro e w' ⟨rfl, ⟨nd, rfl⟩⟩; refine ⟨_, rfl, ?_⟩))
 go_ret
 exact ⟨(qJ3_8), (qJ3_10)⟩

/-! ### impl_isPitch: function 43 -/
def impl_isPitch.f (a0_0 : Int) (a0_1 : Int) : Option (Bool) := (impl_isDepth.f a0_0).bind fun t189 => (if t189 = true then ((impl_within.f a0_1 1 9).bind fun t190 => (some t190)) else (some false))
theorem impl_isPitch.calls (a0_0 : Int) (a0_1 : Int) (r : Bool) (w : World) (h : impl_isPitch.f a0_0 a0_1 = some r) :
  Calls Try.prog 43 #[.agg #[.int .i64 a0_0, .int .i64 a0_1]] w fun e w' => e = .returned (.bool r) ∧ Below w.heap.size w w' := by
 have hu36 := Try.underlying36
 have HB := Aside0.mk (Below.refl w.heap.size w)
 have H : ((impl_isDepth.f a0_0).bind fun t189 => (if t189 = true then ((impl_within.f a0_1 1 9).bind fun t190 => (some t190)) else (some false))) = some r := h
 clear h; replace H := Option.bind_eq_some_iff.mp H; obtain ⟨t189, A20, H⟩ := H
 try dsimp only at H
 have A2 := Aside0.mk A20; clear A20
 by_cases c3 : t189 = true
 ·subst c3
  have H1 : ((impl_within.f a0_1 1 9).bind fun t190 => (some t190)) = some r := by rw [if_pos rfl] at H; exact H
  clear H; have H := H1; clear H1; replace H := Option.bind_eq_some_iff.mp H; obtain ⟨t190, A40, H⟩ := H
  replace H : (some t190) = some r := H
  have A4 := Aside0.mk A40; clear A40; obtain rfl := Option.some.inj H
  go_enter Try.func43, Try.ntmps43
  go_wp2_with (first | ((with_reducible refine gate_dst (N := 1) rfl ?_); refine box_event ?hg (N := 1) ?hd (cs := #[.int .i64 a0_0, .int .i64 a0_1]) (t := 36) ?hr ?_; (case hd => rfl); (case hg => rfl); (case hr => exact (qJ3_9)); intro gb188 hg w5 hbox hb; have n0_ := Aside0.mk (below_step (qJ3_0) hb); have n1_ := Aside0.mk (hbox); have n2_ := Aside0.mk ((by rw [hg]; exact (below_size (qJ3_0)) : w.heap.size ≤ gb188)); have n3_ := Aside0.mk ((by rw [hg]; exact (below_size (qJ3_0)) : w.heap.size ≤ gb188)); clear HB; have HB := n0_; have BK188 := n1_; have GW188 := n2_; have GE188 := n3_; clear n0_ n1_ n2_ n3_; clear hb hbox hg; have hcz6_0 : w5.cell? ⟨gb188, 0, none⟩ = some (.int .i64 a0_0) := (blk_cell BK188.out 0).trans rfl; have hcz6_1 : w5.cell? ⟨gb188, 1, none⟩ = some (.int .i64 a0_1) := (blk_cell BK188.out 1).trans rfl; have hfz6_0 := blk_frozen BK188.out 0; have hfz6_1 := blk_frozen BK188.out 1) | ((with_reducible refine gate_callee (f := 50) rfl ?_); refine goesL_ (some 5) rfl rfl Try.func50 (by kernel_rfl) rfl #[.int .i64 a0_0] rfl (qJ3_4) ?_; (with_reducible refine (impl_isDepth.calls a0_0 true _ A2.out).mono ?_); rintro e w' ⟨rfl, ⟨nd, rfl⟩⟩; refine ⟨_, rfl, ?_⟩) | (go_at_call 57; (with_reducible refine (impl_within.calls a0_1 1 9 t190 _ A4.out).mono ?_); rintro e w' ⟨rfl, ⟨nd, rfl⟩⟩))
  go_ret
  exact ⟨(qJ3_6), (qJ3_12)⟩
 ·replace c3 := Bool.eq_false_iff.mpr c3
  subst c3
  have H1 : (some false) = some r := by rw [if_neg (show ¬ (false = true) by decide)] at H; exact H
  clear H; have H := H1; clear H1; obtain rfl := Option.some.inj H
  go_enter Try.func43, Try.ntmps43
  go_wp2_with (first | ((with_reducible refine gate_dst (N := 1) rfl ?_); refine box_event ?hg (N := 1) ?hd (cs := #[.int .i64 a0_0, .int .i64 a0_1]) (t := 36) ?hr ?_; (case hd => rfl); (case hg => rfl); (case hr => exact (qJ3_9)); intro gb188 hg w7 hbox hb; have n0_ := Aside0.mk (below_step (qJ3_0) hb); have n1_ := Aside0.mk (hbox); have n2_ := Aside0.mk ((by rw [hg]; exact (below_size (qJ3_0)) : w.heap.size ≤ gb188)); have n3_ := Aside0.mk ((by rw [hg]; exact (below_size (qJ3_0)) : w.heap.size ≤ gb188)); clear HB; have HB := n0_; have BK188 := n1_; have GW188 := n2_; have GE188 := n3_; clear n0_ n1_ n2_ n3_; clear hb hbox hg; have hcz8_0 : w7.cell? ⟨gb188, 0, none⟩ = some (.int .i64 a0_0) := (blk_cell BK188.out 0).trans rfl; have hcz8_1 : w7.cell? ⟨gb188, 1, none⟩ = some (.int .i64 a0_1) := (blk_cell BK188.out 1).trans rfl; have hfz8_0 := blk_frozen BK188.out 0; have hfz8_1 := blk_frozen BK188.out 1) | ((with_reducible refine gate_callee (f := 50) rfl ?_); refine goesL_ (some 5) rfl rfl Try.func50 (by kernel_rfl) rfl #[.int .i64 a0_0] rfl (qJ3_4) ?_; (with_reducible refine (impl_isDepth.calls a0_0 false _ A2.out).mono ?_); rintro e w' ⟨rfl, ⟨nd, rfl⟩⟩; refine ⟨_, rfl, ?_⟩))
  go_ret
  exact ⟨(qJ3_6), (qJ3_12)⟩

/-! ### impl_ArePitches_1: function 61 -/
def impl_ArePitches_1.f (a0_0 : Int) (a0_1 : Int) : Option (Bool) := (impl_isPitch.f a0_0 a0_1).bind fun t192 => (some (!t192))
theorem impl_ArePitches_1.calls (a0_0 : Int) (a0_1 : Int) (r : Bool) (w : World) (h : impl_ArePitches_1.f a0_0 a0_1 = some r) :
  Calls Try.prog 61 #[.agg #[.int .i64 a0_0, .int .i64 a0_1]] w fun e w' => e = .returned (.bool r) ∧ Below w.heap.size w w' := by
 have hu36 := Try.underlying36
 have HB := Aside0.mk (Below.refl w.heap.size w)
 have H : ((impl_isPitch.f a0_0 a0_1).bind fun t192 => (some (!t192))) = some r := h
 clear h; replace H := Option.bind_eq_some_iff.mp H; obtain ⟨t192, A20, H⟩ := H
 replace H : (some (!t192)) = some r := H
 have A2 := Aside0.mk A20; clear A20; obtain rfl := Option.some.inj H
 go_enter Try.func61, Try.ntmps61
 go_wp2_with (first | ((with_reducible refine gate_dst (N := 1) rfl ?_); refine box_event ?hg (N := 1) ?hd (cs := #[.int .i64 a0_0, .int .i64 a0_1]) (t := 36) ?hr ?_; (case hd => rfl); (case hg => rfl); (case hr => exact (qJ3_9)); intro gb191 hg w3 hbox hb; have n0_ := Aside0.mk (below_step (qJ3_0) hb); have n1_ := Aside0.mk (hbox); have n2_ := Aside0.mk ((by rw [hg]; exact (below_size (qJ3_0)) : w.heap.size ≤ gb191)); have n3_ := Aside0.mk ((by rw [hg]; exact (below_size (qJ3_0)) : w.heap.size ≤ gb191)); clear HB; have HB := n0_; have BK191 := n1_; have GW191 := n2_; have GE191 := n3_; clear n0_ n1_ n2_ n3_; clear hb hbox hg; have hcz4_0 : w3.cell? ⟨gb191, 0, none⟩ = some (.int .i64 a0_0) := (blk_cell BK191.out 0).trans rfl; have hcz4_1 : w3.cell? ⟨gb191, 1, none⟩ = some (.int .i64 a0_1) := (blk_cell BK191.out 1).trans rfl; have hfz4_0 := blk_frozen BK191.out 0; have hfz4_1 := blk_frozen BK191.out 1) | ((with_reducible refine gate_callee (f := 43) rfl ?_); refine goesL_ (some 4) rfl rfl Try.func43 (by kernel_rfl) rfl #[.agg #[.int .i64 a0_0, .int .i64 a0_1]] rfl (qJ3_4) ?_; (with_reducible refine (impl_isPitch.calls a0_0 a0_1 t192 _ A2.out).mono ?_); rintro e w5 ⟨rfl, hb⟩; refine ⟨_, rfl, ?_⟩; have n0_ := Aside0.mk (blk_below (g := gb191) (o := .cells #[.int .i64 a0_0, .int .i64 a0_1] 36 (0, 0)) (by (with_reducible repeat (first | refine blk_drewN ?_ _ | refine blk_drew ?_ | refine blk_alloc ?_ _)); exact BK191.out) hb); have n1_ := Aside0.mk (below_step (qJ3_13) hb); clear BK191 HB; have BK191 := n0_; have HB := n1_; clear n0_ n1_; (try clear hb); (try clear hb2); (try clear hk); (try clear hi)))
 go_ret
 exact ⟨(qJ3_6), (qJ3_13)⟩

/-! ### impl_ArePitches: function 28 (by hand: wip/inj) -/
def idxF {α : Type} (p : α → Bool) : List α → Int → Int
 | [], _ => -1
 | x :: l, i => if p x then i else idxF p l (i + 1)
theorem idxF_step {α : Type} (p : α → Bool) (l : List α) (d : α) (x : Int) (h0 : 0 ≤ x) (h1 : x < l.length) (hm : l.length ≤ 9223372036854775807) :
  idxF p (l.drop x.toNat) x = if p (l.getD x.toNat d) then x else idxF p (l.drop (wrap64 (x + 1)).toNat) (wrap64 (x + 1)) := by
 have hw : wrap64 (x + 1) = x + 1 := by unfold wrap64; omega
 have hl : x.toNat < l.length := by omega
 rw [hw, List.drop_eq_getElem_cons hl, show (x + 1).toNat = x.toNat + 1 by omega]
 simp only [idxF, List.getD_eq_getElem?_getD, List.getElem?_eq_getElem hl, Option.getD_some]
theorem idxF_end {α : Type} (p : α → Bool) (l : List α) (x : Int) (h1 : ¬ x < l.length) : idxF p (l.drop x.toNat) x = -1 := by
 rw [List.drop_eq_nil_of_le (by omega)]
 rfl
theorem idxF_ge {α : Type} (p : α → Bool) : ∀ (l : List α) (i : Int), 0 ≤ i → decide (0 ≤ idxF p l i) = l.any p
 | [], _, _ => by simp [idxF]
 | x :: l, i, hi => by
  by_cases h : p x = true
  ·simp [idxF, h, hi]
  ·simp only [Bool.not_eq_true] at h
   simp [idxF, h, idxF_ge p l (i + 1) (by omega)]
theorem idxF_range {α : Type} (p : α → Bool) : ∀ (l : List α) (i : Int), idxF p l i = -1 ∨ (i ≤ idxF p l i ∧ idxF p l i < i + l.length)
 | [], _ => .inl rfl
 | x :: l, i => by
  by_cases h : p x = true
  ·right
   simp [idxF, h]
   omega
  ·simp only [Bool.not_eq_true] at h
   simp only [idxF, h]
   rcases idxF_range p l (i + 1) with h | h
   ·left
    simpa using h
   ·right
    simp only [List.length_cons]
    simp
    omega
theorem impl_ArePitches_idx.calls (caps : Array Value) (p : S36 → Bool) (A0 : Option Addr) (c0 : Nat) (l0 : List (S36)) (w : World) (hr0 : Kd.C k36 w A0 l0.length l0) (hc0 : l0.length ≤ c0)
  (hp : ∀ x W, Below w.heap.size w W → Calls Try.prog 61 (#[.agg #[.int .i64 (x).f0, .int .i64 (x).f1]] ++ caps) W fun e W' => e = .returned (.bool (p x)) ∧ Below W.heap.size W W') :
  Calls Try.prog 72 #[.slice A0 l0.length c0, .func (.func 61) #[] caps] w fun e w' => e = .returned (.int .i64 (idxF p l0 0)) ∧ Below w.heap.size w w' := by
 have HR0 := Aside0.mk hr0; have HC0 := Aside0.mk hc0; have HP := Aside0.mk hp
 have HM := Aside0.mk hr0.2.1
 clear hr0 hc0 hp
 go_enter Try.func72, Try.ntmps72
 go_wp2
 go_loopg [8] l0.length (fun kq v8 w' => ∃ x : Int, v8 = .int .i64 x ∧ Aside0 (0 ≤ x ∧ kq + x.toNat = l0.length ∧ idxF p l0 0 = idxF p (l0.drop x.toNat) x) ∧ Aside0 (Below w.heap.size w w'))
 case atStart => exact ⟨0, rfl, ⟨by simp⟩, ⟨Below.refl _ _⟩⟩
 case round =>
  obtain ⟨x, rfl, HA, HB⟩ := hrel
  by_cases hlt : x < (l0.length : Int)
  ·have c0 : decide (x < (l0.length : Int)) = true := decide_eq_true hlt
   have c1 : decide (0 ≤ x) = true := decide_eq_true HA.out.1
   obtain ⟨ad, e, hx0, hx1⟩ := at_T36 (Kd.C_below HR0.out HB.out) x HA.out.1 hlt
   cases e
   have HLT := Aside0.mk hlt
   have p1 := eq_true HA.out.1
   have q1 := eq_true hlt
   clear hlt
   obtain ⟨k1, rfl⟩ : ∃ k1, gk = k1 + 1 := ⟨gk - 1, by have := HA.out; have := HLT.out; omega⟩
   have HS := Aside0.mk (HA.out.2.2.trans (idxF_step p l0 z36 x HA.out.1 HLT.out HM.out))
   cases hq : p (rd_T36 l0 x) with
   | true =>
    have HQ := Aside0.mk hq
    go_wp2_with (go_at_call 61; refine (HP.out _ _ HB.out).mono ?_; rintro e w1 ⟨rfl, hb⟩)
    go_ret
    exact ⟨by rw [HS.out, show p (l0.getD x.toNat z36) = true from HQ.out]; rfl, Below.trans HB.out (hb.mono HB.out.size)⟩
   | false =>
    have HQ := Aside0.mk hq
    go_wp2_with (go_at_call 61; refine (HP.out _ _ HB.out).mono ?_; rintro e w1 ⟨rfl, hb⟩)
    go_roundg k1
    case measure => omega
    case rel => exact ⟨wrap64 (x + 1), rfl, ⟨by have := HA.out; have := HLT.out; have := HM.out; unfold wrap64; omega, by have := HA.out; have := HLT.out; have := HM.out; unfold wrap64; omega, by rw [HS.out, show p (l0.getD x.toNat z36) = false from HQ.out]; rfl⟩, ⟨Below.trans HB.out (hb.mono HB.out.size)⟩⟩
  ·have c0 : decide (x < (l0.length : Int)) = false := decide_eq_false hlt
   have HS := Aside0.mk (HA.out.2.2.trans (idxF_end p l0 x hlt))
   clear hlt
   go_wp2
   go_ret
   exact ⟨by rw [HS.out]; rfl, HB.out⟩
theorem impl_ArePitches_cont.calls (caps : Array Value) (p : S36 → Bool) (A0 : Option Addr) (c0 : Nat) (l0 : List (S36)) (w : World) (hr0 : Kd.C k36 w A0 l0.length l0) (hc0 : l0.length ≤ c0)
  (hp : ∀ x W, Below w.heap.size w W → Calls Try.prog 61 (#[.agg #[.int .i64 (x).f0, .int .i64 (x).f1]] ++ caps) W fun e W' => e = .returned (.bool (p x)) ∧ Below W.heap.size W W') :
  Calls Try.prog 60 #[.slice A0 l0.length c0, .func (.func 61) #[] caps] w fun e w' => e = .returned (.bool (l0.any p)) ∧ Below w.heap.size w w' := by
 have HI := Aside0.mk (impl_ArePitches_idx.calls caps p A0 c0 l0 w hr0 hc0 hp)
 clear hr0 hc0 hp
 go_enter Try.func60, Try.ntmps60
 go_wp2_with (go_at_call 72; refine HI.out.mono ?_; rintro e w1 ⟨rfl, hb⟩)
 go_ret
 exact ⟨by rw [← idxF_ge p l0 0 (by omega)]; rfl, hb⟩
def impl_ArePitches.bad (x : S36) : Bool := !(decide (20 ≤ x.f0 ∧ x.f0 ≤ 3000) && decide (1 ≤ x.f1 ∧ x.f1 ≤ 9))
theorem impl_ArePitches.bad_eq (x : S36) : impl_ArePitches_1.f x.f0 x.f1 = some (impl_ArePitches.bad x) := by
 unfold impl_ArePitches_1.f impl_isPitch.f impl_isDepth.f impl_within.f impl_ArePitches.bad
 by_cases h1 : 20 ≤ x.f0 <;> by_cases h2 : x.f0 ≤ 3000 <;> by_cases h3 : 1 ≤ x.f1 <;> by_cases h4 : x.f1 ≤ 9 <;> simp [h1, h2, h3, h4]
def impl_ArePitches.f (l0 : List (S36)) : Option Bool := some (decide (l0.length ≤ 6) && !(l0.any impl_ArePitches.bad))
theorem impl_ArePitches.calls (A0 : Option Addr) (c0 : Nat) (l0 : List (S36)) (r : Bool) (w : World) (hr0 : Kd.C k36 w A0 l0.length l0) (hc0 : l0.length ≤ c0) (h : impl_ArePitches.f l0 = some r) :
  Calls Try.prog 28 #[.slice A0 l0.length c0] w fun e w' => e = .returned (.bool r) ∧ Below w.heap.size w w' := by
 obtain rfl := Option.some.inj h
 clear h
 have HC := Aside0.mk (impl_ArePitches_cont.calls #[] impl_ArePitches.bad A0 c0 l0 w hr0 hc0 (fun x W _ => (impl_ArePitches_1.calls x.f0 x.f1 _ W (impl_ArePitches.bad_eq x)).mono fun e W' he => ⟨he.1, he.2⟩))
 clear hr0 hc0
 by_cases hl : l0.length ≤ 6
 ·have d0 : decide ((l0.length : Int) ≤ 6) = true := decide_eq_true (by omega)
  have d1 : decide (l0.length ≤ 6) = true := decide_eq_true hl
  clear hl
  go_enter Try.func28, Try.ntmps28
  go_wp2_with (go_at_call 60; refine HC.out.mono ?_; rintro e w1 ⟨rfl, hb⟩)
  go_ret
  exact ⟨by simp only [d1, Bool.true_and]; rfl, hb⟩
 ·have d0 : decide ((l0.length : Int) ≤ 6) = false := decide_eq_false (by omega)
  have d1 : decide (l0.length ≤ 6) = false := decide_eq_false hl
  clear hl
  go_enter Try.func28, Try.ntmps28
  go_wp2
  go_ret
  exact ⟨by simp only [d1, Bool.false_and]; rfl, Below.refl _ _⟩


-- NOT PRINTED: function 73 (slices_IndexFunc_int_int)

-- NOT PRINTED: function 62 (slices_ContainsFunc_int_int)

/-! ### impl_isRope: function 51 -/
def impl_isRope.f (a0 : Int) : Option (Bool) := (impl_within.f a0 50 4000).bind fun t193 => (some t193)
theorem impl_isRope.calls (a0 : Int) (r : Bool) (w : World) (h : impl_isRope.f a0 = some r) :
  Calls Try.prog 51 #[.int .i64 a0] w fun e w' => e = .returned (.bool r) ∧ Drawn0 w w' := by
 have H : ((impl_within.f a0 50 4000).bind fun t193 => (some t193)) = some r := h
 clear h; replace H := Option.bind_eq_some_iff.mp H; obtain ⟨t193, A20, H⟩ := H
 replace H : (some t193) = some r := H
 have A2 := Aside0.mk A20; clear A20; obtain rfl := Option.some.inj H
 go_enter Try.func51, Try.ntmps51
 go_wp2_with (first | ((with_reducible refine gate_callee (f := 57) rfl ?_); refine goesL_ (some 4) rfl rfl Try.func57 (by kernel_rfl) rfl #[.int .i64 a0, .int .i64 50, .int .i64 4000] rfl (qJ3_4) ?_; (with_reducible refine (impl_within.calls a0 50 4000 t193 _ A2.out).mono ?_); rintro e w' ⟨rfl, ⟨nd, rfl⟩⟩; refine ⟨_, rfl, ?_⟩))
 go_ret
 exact ⟨(qJ3_8), (qJ3_10)⟩

/-! ### impl_AreRopes_1: function 63 -/
def impl_AreRopes_1.f (a0 : Int) : Option (Bool) := (impl_isRope.f a0).bind fun t194 => (some (!t194))
theorem impl_AreRopes_1.calls (a0 : Int) (r : Bool) (w : World) (h : impl_AreRopes_1.f a0 = some r) :
  Calls Try.prog 63 #[.int .i64 a0] w fun e w' => e = .returned (.bool r) ∧ Drawn0 w w' := by
 have H : ((impl_isRope.f a0).bind fun t194 => (some (!t194))) = some r := h
 clear h; replace H := Option.bind_eq_some_iff.mp H; obtain ⟨t194, A20, H⟩ := H
 replace H : (some (!t194)) = some r := H
 have A2 := Aside0.mk A20; clear A20; obtain rfl := Option.some.inj H
 go_enter Try.func63, Try.ntmps63
 go_wp2_with (first | ((with_reducible refine gate_callee (f := 51) rfl ?_); refine goesL_ (some 4) rfl rfl Try.func51 (by kernel_rfl) rfl #[.int .i64 a0] rfl (qJ3_4) ?_; (with_reducible refine (impl_isRope.calls a0 t194 _ A2.out).mono ?_); rintro e w' ⟨rfl, ⟨nd, rfl⟩⟩; refine ⟨_, rfl, ?_⟩))
 go_ret
 exact ⟨(qJ3_8), (qJ3_10)⟩

/-! ### impl_AreRopes: function 29 (by hand: wip/inj) -/
theorem impl_AreRopes_idx.calls (caps : Array Value) (p : Int → Bool) (A0 : Option Addr) (c0 : Nat) (l0 : List (Int)) (w : World) (hr0 : Kd.C (Kd.int .i64) w A0 l0.length l0) (hc0 : l0.length ≤ c0)
  (hp : ∀ x W, Below w.heap.size w W → Calls Try.prog 63 (#[.int .i64 x] ++ caps) W fun e W' => e = .returned (.bool (p x)) ∧ Below W.heap.size W W') :
  Calls Try.prog 73 #[.slice A0 l0.length c0, .func (.func 63) #[] caps] w fun e w' => e = .returned (.int .i64 (idxF p l0 0)) ∧ Below w.heap.size w w' := by
 have HR0 := Aside0.mk hr0; have HC0 := Aside0.mk hc0; have HP := Aside0.mk hp
 have HM := Aside0.mk hr0.2.1
 clear hr0 hc0 hp
 go_enter Try.func73, Try.ntmps73
 go_wp2
 go_loopg [8] l0.length (fun kq v8 w' => ∃ x : Int, v8 = .int .i64 x ∧ Aside0 (0 ≤ x ∧ kq + x.toNat = l0.length ∧ idxF p l0 0 = idxF p (l0.drop x.toNat) x) ∧ Aside0 (Below w.heap.size w w'))
 case atStart => exact ⟨0, rfl, ⟨by simp⟩, ⟨Below.refl _ _⟩⟩
 case round =>
  obtain ⟨x, rfl, HA, HB⟩ := hrel
  by_cases hlt : x < (l0.length : Int)
  ·have c0 : decide (x < (l0.length : Int)) = true := decide_eq_true hlt
   have c1 : decide (0 ≤ x) = true := decide_eq_true HA.out.1
   obtain ⟨ad, e, hx⟩ := Kd.at_int (Kd.C_below HR0.out HB.out) x HA.out.1 hlt
   cases e
   have HLT := Aside0.mk hlt
   have p1 := eq_true HA.out.1
   have q1 := eq_true hlt
   clear hlt
   obtain ⟨k1, rfl⟩ : ∃ k1, gk = k1 + 1 := ⟨gk - 1, by have := HA.out; have := HLT.out; omega⟩
   have HS := Aside0.mk (HA.out.2.2.trans (idxF_step p l0 0 x HA.out.1 HLT.out HM.out))
   cases hq : p (rd l0 x) with
   | true =>
    have HQ := Aside0.mk hq
    go_wp2_with (go_at_call 63; refine (HP.out _ _ HB.out).mono ?_; rintro e w1 ⟨rfl, hb⟩)
    go_ret
    exact ⟨by rw [HS.out, show p (l0.getD x.toNat 0) = true from HQ.out]; rfl, Below.trans HB.out (hb.mono HB.out.size)⟩
   | false =>
    have HQ := Aside0.mk hq
    go_wp2_with (go_at_call 63; refine (HP.out _ _ HB.out).mono ?_; rintro e w1 ⟨rfl, hb⟩)
    go_roundg k1
    case measure => omega
    case rel => exact ⟨wrap64 (x + 1), rfl, ⟨by have := HA.out; have := HLT.out; have := HM.out; unfold wrap64; omega, by have := HA.out; have := HLT.out; have := HM.out; unfold wrap64; omega, by rw [HS.out, show p (l0.getD x.toNat 0) = false from HQ.out]; rfl⟩, ⟨Below.trans HB.out (hb.mono HB.out.size)⟩⟩
  ·have c0 : decide (x < (l0.length : Int)) = false := decide_eq_false hlt
   have HS := Aside0.mk (HA.out.2.2.trans (idxF_end p l0 x hlt))
   clear hlt
   go_wp2
   go_ret
   exact ⟨by rw [HS.out]; rfl, HB.out⟩
theorem impl_AreRopes_cont.calls (caps : Array Value) (p : Int → Bool) (A0 : Option Addr) (c0 : Nat) (l0 : List (Int)) (w : World) (hr0 : Kd.C (Kd.int .i64) w A0 l0.length l0) (hc0 : l0.length ≤ c0)
  (hp : ∀ x W, Below w.heap.size w W → Calls Try.prog 63 (#[.int .i64 x] ++ caps) W fun e W' => e = .returned (.bool (p x)) ∧ Below W.heap.size W W') :
  Calls Try.prog 62 #[.slice A0 l0.length c0, .func (.func 63) #[] caps] w fun e w' => e = .returned (.bool (l0.any p)) ∧ Below w.heap.size w w' := by
 have HI := Aside0.mk (impl_AreRopes_idx.calls caps p A0 c0 l0 w hr0 hc0 hp)
 clear hr0 hc0 hp
 go_enter Try.func62, Try.ntmps62
 go_wp2_with (go_at_call 73; refine HI.out.mono ?_; rintro e w1 ⟨rfl, hb⟩)
 go_ret
 exact ⟨by rw [← idxF_ge p l0 0 (by omega)]; rfl, hb⟩
def impl_AreRopes.bad (x : Int) : Bool := !(decide (50 ≤ x ∧ x ≤ 4000))
theorem impl_AreRopes.bad_eq (x : Int) : impl_AreRopes_1.f x = some (impl_AreRopes.bad x) := by
 unfold impl_AreRopes_1.f impl_isRope.f impl_within.f impl_AreRopes.bad
 by_cases h1 : 50 ≤ x <;> by_cases h2 : x ≤ 4000 <;> simp [h1, h2]
def impl_AreRopes.f (l0 : List (Int)) : Option Bool := some (decide (l0.length ≤ 8) && !(l0.any impl_AreRopes.bad))
theorem impl_AreRopes.calls (A0 : Option Addr) (c0 : Nat) (l0 : List (Int)) (r : Bool) (w : World) (hr0 : Kd.C (Kd.int .i64) w A0 l0.length l0) (hc0 : l0.length ≤ c0) (h : impl_AreRopes.f l0 = some r) :
  Calls Try.prog 29 #[.slice A0 l0.length c0] w fun e w' => e = .returned (.bool r) ∧ Below w.heap.size w w' := by
 obtain rfl := Option.some.inj h
 clear h
 have HC := Aside0.mk (impl_AreRopes_cont.calls #[] impl_AreRopes.bad A0 c0 l0 w hr0 hc0 (fun x W _ => (impl_AreRopes_1.calls x _ W (impl_AreRopes.bad_eq x)).mono fun e W' he => ⟨he.1, he.2.below⟩))
 clear hr0 hc0
 by_cases hl : l0.length ≤ 8
 ·have d0 : decide ((l0.length : Int) ≤ 8) = true := decide_eq_true (by omega)
  have d1 : decide (l0.length ≤ 8) = true := decide_eq_true hl
  clear hl
  go_enter Try.func29, Try.ntmps29
  go_wp2_with (go_at_call 62; refine HC.out.mono ?_; rintro e w1 ⟨rfl, hb⟩)
  go_ret
  exact ⟨by simp only [d1, Bool.true_and]; rfl, hb⟩
 ·have d0 : decide ((l0.length : Int) ≤ 8) = false := decide_eq_false (by omega)
  have d1 : decide (l0.length ≤ 8) = false := decide_eq_false hl
  clear hl
  go_enter Try.func29, Try.ntmps29
  go_wp2
  go_ret
  exact ⟨by simp only [d1, Bool.false_and]; rfl, Below.refl _ _⟩


/-! ### impl_Pitch_need: function 44 -/
def impl_Pitch_need.f (a0_0 : Int) (a0_1 : Int) : Option (Int) := some (wrap64 ((wrap64 (a0_0 + (wrap64 (15 * a0_1)))) + 20))
theorem impl_Pitch_need.calls (a0_0 : Int) (a0_1 : Int) (r : Int) (w : World) (h : impl_Pitch_need.f a0_0 a0_1 = some r) :
  Calls Try.prog 44 #[.agg #[.int .i64 a0_0, .int .i64 a0_1]] w fun e w' => e = .returned (.int .i64 r) ∧ Below w.heap.size w w' := by
 have hu36 := Try.underlying36
 have HB := Aside0.mk (Below.refl w.heap.size w)
 have H : (some (wrap64 ((wrap64 (a0_0 + (wrap64 (15 * a0_1)))) + 20))) = some r := h
 clear h; obtain rfl := Option.some.inj H
 go_enter Try.func44, Try.ntmps44
 go_wp2_with (first | ((with_reducible refine gate_dst (N := 1) rfl ?_); refine box_event ?hg (N := 1) ?hd (cs := #[.int .i64 a0_0, .int .i64 a0_1]) (t := 36) ?hr ?_; (case hd => rfl); (case hg => rfl); (case hr => exact (qJ3_9)); intro gb195 hg w2 hbox hb; have n0_ := Aside0.mk (below_step (qJ3_0) hb); have n1_ := Aside0.mk (hbox); have n2_ := Aside0.mk ((by rw [hg]; exact (below_size (qJ3_0)) : w.heap.size ≤ gb195)); have n3_ := Aside0.mk ((by rw [hg]; exact (below_size (qJ3_0)) : w.heap.size ≤ gb195)); clear HB; have HB := n0_; have BK195 := n1_; have GW195 := n2_; have GE195 := n3_; clear n0_ n1_ n2_ n3_; clear hb hbox hg; have hcz3_0 : w2.cell? ⟨gb195, 0, none⟩ = some (.int .i64 a0_0) := (blk_cell BK195.out 0).trans rfl; have hcz3_1 : w2.cell? ⟨gb195, 1, none⟩ = some (.int .i64 a0_1) := (blk_cell BK195.out 1).trans rfl; have hfz3_0 := blk_frozen BK195.out 0; have hfz3_1 := blk_frozen BK195.out 1))
 go_ret
 exact ⟨(qJ3_6), (by repeat (first | (with_reducible first | exact HB.out | apply below_alloc | apply pw_below_drewN | apply below_drew1 | refine below_set ?_ GE195.out) | exact HB.out))⟩

end Go.Proofs.Ytfjpbochanekoaa.MJ
