-- Written by a program of this session (wip/drv.py, wip/tight.py).
import Derived.Test.YtfjpbochanekoaaMJx0
import Derived.Test.YtfjpbochanekoaaMJx3
namespace Go.Proofs.Ytfjpbochanekoaa.MJ
open Go.RowKit Go.Proofs.YtfjpbochanekoaaW.PrintWords Go.Proofs.YtfjpbochanekoaaW.PrintLast Go.Proofs.YtfjpbochanekoaaW.PrintMore
set_option maxRecDepth 100000
theorem qJ4_0 {p : Prop} (h : p := by repeat (first | (with_reducible first | exact HB.out | apply below_alloc | apply pw_below_drewN | apply below_drew1) | exact HB.out)) : p := h
theorem qJ4_1 {p : Prop} (h : p := by (try simp only [List.map_toArray, List.map_cons, List.map_nil]); first | done | rfl | (simp only [List.length_drop, List.length_take]; rfl)) : p := h
theorem qJ4_2 {p : Prop} (h : p := by repeat (first | (with_reducible exact HB.out) | apply pw_below_drewN | apply below_drew1 | exact HB.out)) : p := h
theorem qJ4_3 {p : Prop} (h : p := by first | rfl | (simp; done) | (simp [*]; done)) : p := h
theorem qJ4_4 {p : Prop} (h : p := by repeat (first | exact (Kd.C_below HR0.out HB.out) | (with_reducible refine Kd.C_alloc ?_ _) | (with_reducible refine Kd.C_drewN ?_ _) | (with_reducible refine Kd.C_drew ?_))) : p := h
theorem qJ4_5 {p : Prop} (h : p := by repeat (first | exact (Kd.C_below HR1.out HB.out) | (with_reducible refine Kd.C_alloc ?_ _) | (with_reducible refine Kd.C_drewN ?_ _) | (with_reducible refine Kd.C_drew ?_))) : p := h
theorem qJ4_6 {p : Prop} (h : p := by first | (go_simp; done) | (go_simp; rfl)) : p := h
theorem qJ4_7 {p : Prop} (h : p := by first | (with_reducible assumption) | assumption) : p := h
theorem qJ4_8 {p : Prop} (h : p := by repeat (first | exact Drawn0.refl _ | apply Drawn0.step)) : p := h
theorem qJ4_9 {p : Prop} (h : p := by first | rfl | (simp [errW_none, errW_some] <;> rfl) | (simp [*, errW_none, errW_some] <;> rfl)) : p := h
theorem qJ4_10 {p : Prop} (h : p := by repeat (first | exact (Kd.C_below HR204.out HB.out) | (with_reducible refine Kd.C_alloc ?_ _) | (with_reducible refine Kd.C_drewN ?_ _) | (with_reducible refine Kd.C_drew ?_))) : p := h
theorem qJ4_11 {p : Prop} (h : p := by have := HO.out.ord; simp only; omega) : p := h
theorem qJ4_12 {p : Prop} (h : p := by repeat (first | exact HR0.out | (with_reducible refine Kd.C_alloc ?_ _) | (with_reducible refine Kd.C_drewN ?_ _) | (with_reducible refine Kd.C_drew ?_))) : p := h
attribute [local go_sem] max2_int min2_int max_two min_two max_three min_three max_four min_four   -- for this text's walks alone
set_option linter.unusedVariables false
set_option linter.unusedSimpArgs false

/-! ### slices_Index_int_int: function 75 -/
def slices_Index_int_int.l0 : Nat → List Int → Int → Int → Int → Option (Int)
 | 0, _, _, _, _ => none
 | k + 1, x0, x1, x7, x8 => if x8 < x7 then (if 0 ≤ x8 then (if x8 < (x0.length : Int) then (if x1 = (rd x0 x8) then (some x8) else (slices_Index_int_int.l0 k x0 x1 x7 (wrap64 (x8 + 1)))) else (none)) else (none)) else (some (-1))
def slices_Index_int_int.f (k : Nat) (l0 : List Int) (a1 : Int) : Option (Int) := slices_Index_int_int.l0 k l0 a1 (l0.length : Int) 0
theorem slices_Index_int_int.mono_l : ∀ k, (∀ y0 y1 y2 y3, LeO (slices_Index_int_int.l0 k y0 y1 y2 y3) (slices_Index_int_int.l0 (k + 1) y0 y1 y2 y3))
 | 0 => fun _ _ _ _ r h => by simp [slices_Index_int_int.l0] at h
 | k + 1 => by
  have ih0 := slices_Index_int_int.mono_l k
  ·intro y0 y1 y2 y3
   unfold slices_Index_int_int.l0
   repeat' first
   | (with_reducible exact ih0 _ _ _ _)
   | (with_reducible exact LeO.refl _)
   | (with_reducible exact LeO.none _)
   | (with_reducible refine LeO.ite ?_ ?_)
   | (with_reducible refine LeO.bind ?_ (fun _ => ?_))
   | exact ih0 _ _ _ _
   | exact LeO.none _
   | refine LeO.ite ?_ ?_
   | refine LeO.bind ?_ (fun _ => ?_)
theorem slices_Index_int_int.mono : ∀ a0 a1 k, LeO (slices_Index_int_int.f k a0 a1) (slices_Index_int_int.f (k + 1) a0 a1) := by
 intro a0 a1 k
 have ih0 := slices_Index_int_int.mono_l k
 unfold slices_Index_int_int.f
 repeat' first
   | (with_reducible exact ih0 _ _ _ _)
   | (with_reducible exact LeO.refl _)
   | (with_reducible exact LeO.none _)
   | (with_reducible refine LeO.ite ?_ ?_)
   | (with_reducible refine LeO.bind ?_ (fun _ => ?_))
   | exact ih0 _ _ _ _
   | exact LeO.none _
   | refine LeO.ite ?_ ?_
   | refine LeO.bind ?_ (fun _ => ?_)
set_option maxHeartbeats 8000000 in
theorem slices_Index_int_int.calls (k : Nat) (A0 : Option Addr) (c0 : Nat) (l0 : List Int) (a1 : Int) (r : Int) (w : World) (hr0 : Kd.C (Kd.int .i64) w A0 l0.length l0) (hc0 : l0.length ≤ c0) (h : slices_Index_int_int.f k l0 a1 = some r) :
  Calls Try.prog 75 #[.slice A0 l0.length c0, .int .i64 a1] w fun e w' => e = .returned (.int .i64 r) ∧ Drawn0 w w' := by
 have HR0 := Aside0.mk hr0; have HC0 := Aside0.mk hc0; clear hr0 hc0
 have H : (slices_Index_int_int.l0 k l0 a1 (l0.length : Int) 0) = some r := h
 clear h
 have H' := Aside0.mk H
 clear H
 go_enter Try.func75, Try.ntmps75
 go_wp2
 go_loopg [8] k (fun kq v8 w' => ∃ (x8_1 : Int), v8 = .int .i64 x8_1 ∧ Aside0 (slices_Index_int_int.l0 kq l0 a1 (l0.length : Int) x8_1 = some r) ∧ Aside0 (kq ≤ k) ∧ Drawn0 w w')
 case atStart => exact ⟨(0), (qJ4_3), H', ⟨Nat.le_refl _⟩, (qJ4_8)⟩
 case round =>
  clear H'
  try clear p2
  obtain ⟨x8_1, rfl, HA, HK1, ⟨m1, rfl⟩⟩ := hrel
  cases gk with
  | zero => exact absurd HA.out (by simp [slices_Index_int_int.l0])
  | succ k1 =>
   have H := HA.out
   clear HA
   simp only [slices_Index_int_int.l0] at H
   by_cases c3 : x8_1 < (l0.length : Int)
   ·rw [if_pos c3] at H
    have c3b0 : decide (x8_1 < (l0.length : Int)) = true := decide_eq_true c3
    clear c3
    by_cases c4 : 0 ≤ x8_1
    ·rw [if_pos c4] at H
     have c4b0 : decide (0 ≤ x8_1) = true := decide_eq_true c4
     clear c4
     by_cases c5 : x8_1 < (l0.length : Int)
     ·rw [if_pos c5] at H
      have c5b0 : decide (x8_1 < (l0.length : Int)) = true := decide_eq_true c5
      clear c5
      by_cases c6 : a1 = (rd l0 x8_1)
      ·rw [if_pos c6] at H
       have c6b0 : (a1 == (rd l0 x8_1)) = true := beq_iff_eq.mpr c6
       have c6b1 : (a1 != (rd l0 x8_1)) = false := bne_eq_false_iff_eq.mpr c6
       clear c6; obtain rfl := Option.some.inj H
       have p196 : 0 ≤ (x8_1 : Int) := of_decide_eq_true (qJ4_7)
       have q196 : x8_1 < (l0.length : Int) := of_decide_eq_true (qJ4_7)
       obtain ⟨ad196, e196, hx196_0⟩ := Kd.at_int HR0.out x8_1 p196 q196
       cases e196
       replace p196 := eq_true p196
       replace q196 := eq_true q196
       go_wp2
       go_ret
       exact ⟨(qJ4_3), (qJ4_8)⟩
      ·rw [if_neg c6] at H
       have c6b0 : (a1 == (rd l0 x8_1)) = false := beq_eq_false_iff_ne.mpr c6
       have c6b1 : (a1 != (rd l0 x8_1)) = true := bne_iff_ne.mpr c6
       have H' := Aside0.mk H
       clear H
       have p196 : 0 ≤ (x8_1 : Int) := of_decide_eq_true (qJ4_7)
       have q196 : x8_1 < (l0.length : Int) := of_decide_eq_true (qJ4_7)
       obtain ⟨ad196, e196, hx196_0⟩ := Kd.at_int HR0.out x8_1 p196 q196
       cases e196
       replace p196 := eq_true p196
       replace q196 := eq_true q196
       go_wp2
       go_roundg k1
       case measure => have := HK1.out; omega
       case rel => exact ⟨(wrap64 (x8_1 + 1)), (qJ4_3), H', ⟨by have := HK1.out; omega⟩, (qJ4_8)⟩
     ·rw [if_neg c5] at H
      exact absurd H (by simp)
    ·rw [if_neg c4] at H
     exact absurd H (by simp)
   ·rw [if_neg c3] at H
    have c3b0 : decide (x8_1 < (l0.length : Int)) = false := decide_eq_false c3
    clear c3; obtain rfl := Option.some.inj H
    go_wp2
    go_ret
    exact ⟨(qJ4_3), (qJ4_8)⟩

/-! ### slices_Contains_int_int: function 70 -/
def slices_Contains_int_int.f (k : Nat) (l0 : List Int) (a1 : Int) : Option (Bool) := (slices_Index_int_int.f k l0 a1).bind fun t197 => (some (decide (t197 ≥ 0)))
theorem slices_Contains_int_int.mono : ∀ a0 a1 k, LeO (slices_Contains_int_int.f k a0 a1) (slices_Contains_int_int.f (k + 1) a0 a1) := by
 intro a0 a1 k
 unfold slices_Contains_int_int.f
 repeat' first
   | (with_reducible exact slices_Index_int_int.mono _ _ _)
   | (with_reducible exact LeO.refl _)
   | (with_reducible exact LeO.none _)
   | (with_reducible refine LeO.ite ?_ ?_)
   | (with_reducible refine LeO.bind ?_ (fun _ => ?_))
   | exact slices_Index_int_int.mono _ _ _
   | exact LeO.none _
   | refine LeO.ite ?_ ?_
   | refine LeO.bind ?_ (fun _ => ?_)
set_option maxHeartbeats 8000000 in
theorem slices_Contains_int_int.calls (k : Nat) (A0 : Option Addr) (c0 : Nat) (l0 : List Int) (a1 : Int) (r : Bool) (w : World) (hr0 : Kd.C (Kd.int .i64) w A0 l0.length l0) (hc0 : l0.length ≤ c0) (h : slices_Contains_int_int.f k l0 a1 = some r) :
  Calls Try.prog 70 #[.slice A0 l0.length c0, .int .i64 a1] w fun e w' => e = .returned (.bool r) ∧ Drawn0 w w' := by
 have HR0 := Aside0.mk hr0; have HC0 := Aside0.mk hc0; clear hr0 hc0
 have H : ((slices_Index_int_int.f k l0 a1).bind fun t197 => (some (decide (t197 ≥ 0)))) = some r := h
 clear h; replace H := Option.bind_eq_some_iff.mp H; obtain ⟨t197, A30, H⟩ := H
 replace H : (some (decide (t197 ≥ 0))) = some r := H
 have A3 := Aside0.mk A30; clear A30; obtain rfl := Option.some.inj H
 go_enter Try.func70, Try.ntmps70
 go_wp2_with (first | ((with_reducible refine gate_callee (f := 75) rfl ?_); refine goesL_ (some 7) rfl rfl Try.func75 (by kernel_rfl) rfl #[.slice A0 l0.length c0, .int .i64 a1] rfl (qJ4_1) ?_; (with_reducible refine (slices_Index_int_int.calls k _ _ l0 a1 t197 _ ?side1 ?side2 A3.out).mono ?_); (case side1 => exact (qJ4_12)); (case side2 => exact HC0.out); rintro e w' ⟨rfl, ⟨nd, rfl⟩⟩; refine ⟨_, rfl, ?_⟩))
 go_ret
 exact ⟨(qJ4_3), (qJ4_8)⟩

/-! ### impl_has: function 58 -/
def impl_has.f (k : Nat) (l0 : List Int) (a1 : Int) : Option (Bool) := (slices_Contains_int_int.f k l0 a1).bind fun t198 => (some t198)
theorem impl_has.mono : ∀ a0 a1 k, LeO (impl_has.f k a0 a1) (impl_has.f (k + 1) a0 a1) := by
 intro a0 a1 k
 unfold impl_has.f
 repeat' first
   | (with_reducible exact slices_Contains_int_int.mono _ _ _)
   | (with_reducible exact LeO.refl _)
   | (with_reducible exact LeO.none _)
   | (with_reducible refine LeO.ite ?_ ?_)
   | (with_reducible refine LeO.bind ?_ (fun _ => ?_))
   | exact slices_Contains_int_int.mono _ _ _
   | exact LeO.none _
   | refine LeO.ite ?_ ?_
   | refine LeO.bind ?_ (fun _ => ?_)
set_option maxHeartbeats 8000000 in
theorem impl_has.calls (k : Nat) (A0 : Option Addr) (c0 : Nat) (l0 : List Int) (a1 : Int) (r : Bool) (w : World) (hr0 : Kd.C (Kd.int .i64) w A0 l0.length l0) (hc0 : l0.length ≤ c0) (h : impl_has.f k l0 a1 = some r) :
  Calls Try.prog 58 #[.slice A0 l0.length c0, .int .i64 a1] w fun e w' => e = .returned (.bool r) ∧ Drawn0 w w' := by
 have HR0 := Aside0.mk hr0; have HC0 := Aside0.mk hc0; clear hr0 hc0
 have H : ((slices_Contains_int_int.f k l0 a1).bind fun t198 => (some t198)) = some r := h
 clear h; replace H := Option.bind_eq_some_iff.mp H; obtain ⟨t198, A30, H⟩ := H
 replace H : (some t198) = some r := H
 have A3 := Aside0.mk A30; clear A30; obtain rfl := Option.some.inj H
 go_enter Try.func58, Try.ntmps58
 go_wp2_with (first | ((with_reducible refine gate_callee (f := 70) rfl ?_); refine goesL_ (some 7) rfl rfl Try.func70 (by kernel_rfl) rfl #[.slice A0 l0.length c0, .int .i64 a1] rfl (qJ4_1) ?_; (with_reducible refine (slices_Contains_int_int.calls k _ _ l0 a1 t198 _ ?side1 ?side2 A3.out).mono ?_); (case side1 => exact (qJ4_12)); (case side2 => exact HC0.out); rintro e w' ⟨rfl, ⟨nd, rfl⟩⟩; refine ⟨_, rfl, ?_⟩))
 go_ret
 exact ⟨(qJ4_3), (qJ4_8)⟩

/-! ### slices_Clone_int_int: function 67 (by hand: wip/inj) -/
def slices_Clone_int_int.f (l0 : List (Int)) : Option (List (Int)) := if l0.length * 8 ≤ 140737488355328 then some l0 else none
set_option maxHeartbeats 8000000 in
theorem slices_Clone_int_int.calls (A0 : Option Addr) (c0 : Nat) (l0 : List (Int)) (r : List (Int)) (w : World) (hr0 : Kd.C (Kd.int .i64) w A0 l0.length l0) (hc0 : l0.length ≤ c0) (h : slices_Clone_int_int.f l0 = some r) :
  Calls Try.prog 67 #[.slice A0 l0.length c0] w fun e w' => ∃ v0_ : Value, e = .returned v0_ ∧ Kd.R (Kd.int .i64) 3 w' w.heap.size (fun _ => True) v0_ r ∧ Below w.heap.size w w' := by
 unfold slices_Clone_int_int.f at h
 by_cases hl : l0.length * 8 ≤ 140737488355328
 case neg => rw [if_neg hl] at h; cases h
 rw [if_pos hl] at h
 obtain rfl := Option.some.inj h
 have HL := Aside0.mk hl; have HR0 := Aside0.mk hr0; have HC0 := Aside0.mk hc0; clear h hl
 have HB := Aside0.mk (Below.refl w.heap.size w)
 have qeq : ∀ (w : World) (a : Option Addr) (n c n' c' : Nat), (binOp .eql 23 (.slice a n c) (.slice none n' c')).run Try.prog w = .ok (.bool a.isNone) w := fun w a n c n' c' => by
  have hh : ∀ d : Nat, (Op.equalIn (d + 1) 23 (.slice a n c) (.slice none n' c')).run Try.prog w = .ok a.isNone w := fun d => by
   cases a <;> simp [Op.equalIn, run_underlying Try.underlying23]
  simp only [binOp]
  simp [Op.equal, Op.maxDepth, hh 9999]
 cases A0 with
 | none =>
  have h0 : l0.length = 0 := by
   rcases Nat.eq_zero_or_pos l0.length with h0 | h0
   ·exact h0
   ·obtain ⟨ad, e, _⟩ := hr0.2.2 h0
    cases e
  obtain rfl := List.length_eq_zero_iff.1 h0
  clear hr0 hc0 h0
  go_enter Try.func67, Try.ntmps67
  go_wp2
  go_ret
  exact ⟨_, rfl, Kd.R_nil _ _ _ _ _, (by repeat (first | apply pw_below_drewN | apply below_drew1 | exact Below.refl _ _))⟩
 | some ad =>
  clear hr0 hc0
  go_enter Try.func67, Try.ntmps67
  go_wp2_with (first | ((with_reducible refine gate_dst (N := 5) rfl ?_); refine Kd.R_lit (Kd.int .i64) _ 3 ?hg (N := 5) ?hd (xs := ([] : List (Int))) (inner := []) (ok := fun _ => True) (okp := fun _ => True) ?hr ?hp (fun _ hk => hk) trivial (Below.refl _ _) (Nat.le_refl _) (by simp) ?_; (case hd => rfl); (case hg => rfl); (case hr => exact (qJ4_6)); (case hp => exact (Reps.none _ _)); intro v244 w7 ho8 hb hg_ hnew_; clear hg_ hnew_; have n0_ := Aside0.mk (Kd.R_lower ho8 (below_size (qJ4_2))); have n1_ := Aside0.mk (below_step (qJ4_2) hb); clear HB; have HO := n0_; have HB := n1_; clear n0_ n1_; clear hb ho8) | ((with_reducible refine gate_builtin (b := .append) (xs := #[.tmp 5, .tmp 6]) rfl ?_); at_builtin; refine Kd.R_append_rows (Kd.int .i64) (w0 := w) w.heap.size rfl (.tmp 5) (.tmp 6) 23 3 ((.int .i64 0)) 8 rfl Try.underlying23 info3 rfl (by decide) (by decide) _ ([] : List (Int)) l0 _ _ _ (fun _ => True) (fun _ => False) rfl rfl ?aO ?aR (fun _ _ h => h) (fun _ h => h.elim) ?aF ?aB ?aS ?aL ?_; (case aR => exact (qJ4_4)); (case aB => exact (qJ4_2)); (case aF => exact (fun _ _ => trivial)); (case aO => exact (by (with_reducible repeat (first | apply Kd.R_alloc | apply Kd.R_drewN | apply Kd.R_drew)); exact HO.out)); (case aS => exact (by exact (below_size (qJ4_2)))); (case aL => exact (by have hL := HL.out; rw [List.length_nil, Nat.zero_add]; exact hL)); intro v247 w9 ho hb hg hat; rw [List.nil_append] at ho; have n0_ := Aside0.mk hb; have n1_ := Aside0.mk ho; clear HB HO; have HB := n0_; have HO := n1_; clear n0_ n1_; clear ho hb hg hat))
  go_ret
  exact ⟨_, rfl, HO.out, (qJ4_2)⟩


-- NOT PRINTED: function 66 (impl_bestRigging_1)

/-! ### impl_bestRigging: function 39 (by hand: wip/inj) -/
/-- The best one so far: its list, its sum, is there one. -/
abbrev RigSt := List Int × Int × Bool
def rigLeaf (rig : List Int) (sum : Int) (st : RigSt) : RigSt := if st.2.2 = false ∨ sum < st.2.1 then (rig, sum, true) else st
def rigNeed (p : S36) : Int := wrap64 (wrap64 (p.f0 + wrap64 (15 * p.f1)) + 20)
def rigLoop (f : List Int → Int → RigSt → RigSt) (need : Int) (l1 : List Int) (rig : List Int) (sum : Int) : Nat → Nat → RigSt → RigSt
 | 0, _, st => st
 | d + 1, k, st => rigLoop f need l1 rig sum d (k + 1) (if (k : Int) ∈ rig ∨ l1.getD k 0 < need then st else f (rig ++ [(k : Int)]) (sum + l1.getD k 0) st)
def rigGo (l0 : List S36) (l1 : List Int) : Nat → List Int → Int → RigSt → RigSt
 | 0, rig, sum, st => rigLeaf rig sum st
 | d + 1, rig, sum, st => rigLoop (rigGo l0 l1 d) (rigNeed (l0.getD rig.length z36)) l1 rig sum l1.length 0 st
def rigOk (l0 : List S36) (l1 : List Int) : Bool := decide (l0.length ≤ 6) && decide (l1.length ≤ 8) && l1.all (fun x => decide (50 ≤ x ∧ x ≤ 4000))
def impl_bestRigging.f (l0 : List S36) (l1 : List Int) : Option (List Int × Int × Bool) := if rigOk l0 l1 = true then some (rigGo l0 l1 l0.length [] 0 ([], 0, false)) else none
theorem caves_any {l : List Int} {x : Int} : x ∈ l ↔ ∃ i, i < l.length ∧ l.getD i 0 = x := by
 constructor
 ·intro h
  obtain ⟨i, hi, e⟩ := List.getElem_of_mem h
  exact ⟨i, hi, by simp [List.getD_eq_getElem?_getD, List.getElem?_eq_getElem hi, e]⟩
 ·rintro ⟨i, hi, e⟩
  rw [List.getD_eq_getElem?_getD, List.getElem?_eq_getElem hi] at e
  simp only [Option.getD_some] at e
  exact e ▸ List.getElem_mem hi
theorem has_total (l : List Int) (x : Int) (hm : l.length ≤ 9223372036854775807) : ∀ k, l.length < k → impl_has.f k l x = some (decide (x ∈ l)) := by
 have key : ∀ d i k, i + d = l.length → d < k → (∀ j, j < i → l.getD j 0 ≠ x) → ∃ r, slices_Index_int_int.l0 k l x (l.length : Int) (i : Int) = some r ∧ (0 ≤ r ↔ x ∈ l) := by
  intro d
  induction d with
  | zero =>
   intro i k hi hk hno
   obtain ⟨k, rfl⟩ : ∃ m, k = m + 1 := ⟨k - 1, by omega⟩
   refine ⟨-1, by simp only [slices_Index_int_int.l0]; rw [if_neg (by omega)], by omega, fun h => ?_⟩
   obtain ⟨j, hj, he⟩ := caves_any.1 h
   exact absurd he (hno j (by omega))
  | succ d ih =>
   intro i k hi hk hno
   obtain ⟨k, rfl⟩ : ∃ m, k = m + 1 := ⟨k - 1, by omega⟩
   have hil : i < l.length := by omega
   have hr : rd l (i : Int) = l.getD i 0 := by simp [rd]
   have hw : wrap64 ((i : Int) + 1) = ((i + 1 : Nat) : Int) := by unfold wrap64; omega
   simp only [slices_Index_int_int.l0, hr]
   rw [if_pos (by omega), if_pos (by omega), if_pos (by omega), hw]
   by_cases he : x = l.getD i 0
   ·exact ⟨i, by rw [if_pos he], fun _ => caves_any.2 ⟨i, hil, he.symm⟩, fun _ => by omega⟩
   ·rw [if_neg he]
    refine ih (i + 1) k (by omega) (by omega) (fun j hj => ?_)
    by_cases hji : j = i
    ·rw [hji]; exact fun h => he h.symm
    ·exact hno j (by omega)
 intro k hk
 obtain ⟨r, h1, h2⟩ := key l.length 0 k (by omega) hk (fun j hj => by omega)
 have h1' : slices_Index_int_int.l0 k l x (l.length : Int) 0 = some r := h1
 simp only [impl_has.f, slices_Contains_int_int.f, slices_Index_int_int.f, h1', Option.bind_some]
 congr 1
 rw [decide_eq_decide]
 exact h2

def rigClo (gr gL gf gl gb gp gc : Nat) : Value := .func (.func 66) #[] #[.pointer (some ⟨gr, 0, none⟩), .pointer (some ⟨gL, 0, none⟩), .pointer (some ⟨gf, 0, none⟩), .pointer (some ⟨gl, 0, none⟩), .pointer (some ⟨gb, 0, none⟩), .pointer (some ⟨gp, 0, none⟩), .pointer (some ⟨gc, 0, none⟩)]
structure RigS (w : World) (gr gL gf gl gb gp gc : Nat) (vL vP vr vb : Value) (rig best : List Int) (least : Int) (found : Bool) (W : World) : Prop where
 b : Below w.heap.size w W
 hr : W.heap[gr]? = some (.cells #[vr] 23 (0, 0))
 hL : W.heap[gL]? = some (.cells #[vL] 27 (0, 0))
 hf : W.heap[gf]? = some (.cells #[.bool found] 4 (0, 0))
 hl : W.heap[gl]? = some (.cells #[.int .i64 least] 3 (0, 0))
 hb : W.heap[gb]? = some (.cells #[vb] 23 (0, 0))
 hp : W.heap[gp]? = some (.cells #[vP] 23 (0, 0))
 hc : W.heap[gc]? = some (.cells #[rigClo gr gL gf gl gb gp gc] 79 (0, 0))
 rr : Kd.R (Kd.int .i64) 3 W w.heap.size (fun k => k ≠ gl ∧ some k ≠ vb.ownBlock) vr rig
 rb : Kd.R (Kd.int .i64) 3 W w.heap.size (fun k => k ≠ gl ∧ some k ≠ vr.ownBlock) vb best
structure RigOrd (w : World) (gr gL gf gl gb gp gc : Nat) : Prop where
 ord : w.heap.size ≤ gL ∧ gL < gp ∧ gp < gb ∧ gb < gl ∧ gl < gf ∧ gf < gr ∧ gr < gc
section
variable {w : World} {gr gL gf gl gb gp gc : Nat} {vL vP vr vb : Value} {rig best : List Int} {least : Int} {found : Bool} {W W' : World}
theorem RigS.below (h : RigS w gr gL gf gl gb gp gc vL vP vr vb rig best least found W) (hb : Below W.heap.size W W') : RigS w gr gL gf gl gb gp gc vL vP vr vb rig best least found W' :=
 ⟨below_step h.b hb, blk_below h.hr hb, blk_below h.hL hb, blk_below h.hf hb, blk_below h.hl hb, blk_below h.hb hb, blk_below h.hp hb, blk_below h.hc hb, Kd.R_below h.rr hb, Kd.R_below h.rb hb⟩
theorem RigS.drewN (h : RigS w gr gL gf gl gb gp gc vL vP vr vb rig best least found W) (n : Nat) : RigS w gr gL gf gl gb gp gc vL vP vr vb rig best least found (W.drewN n) := h.below (pw_below_drewN (Below.refl _ _) n)
theorem RigS.leaf (ho : RigOrd w gr gL gf gl gb gp gc) (h : RigS w gr gL gf gl gb gp gc vL vP vr vb rig best least found W) (hb : Below W.heap.size W W') {v' : Value} {rig' : List Int} (hR : Kd.R (Kd.int .i64) 3 W' W.heap.size (fun _ => True) v' rig') (sum : Int) :
  RigS w gr gL gf gl gb gp gc vL vP vr v' rig rig' sum true (((W'.setCell ⟨gb, 0, none⟩ v').setCell ⟨gl, 0, none⟩ (.int .i64 sum)).setCell ⟨gf, 0, none⟩ (.bool true)) := by
 have o := ho.ord
 have h1 := h.below hb
 have hgl : gl < W.heap.size := blk_lt h.hl
 have rr1 : Kd.R (Kd.int .i64) 3 W' w.heap.size (fun k => k ≠ gl ∧ some k ≠ v'.ownBlock) vr rig := Kd.R_below (Kd.R_mono (Kd.R_bound h.rr) (fun k hk => ⟨hk.1.1, fun e => Nat.lt_irrefl _ (Nat.lt_of_lt_of_le hk.2.2.1 (Kd.R_base hR k e.symm))⟩)) hb
 have rb1 : Kd.R (Kd.int .i64) 3 W' w.heap.size (fun k => k ≠ gl ∧ some k ≠ vr.ownBlock) v' rig' := Kd.R_lower (Kd.R_mono (Kd.R_bound hR) (fun k hk => ⟨fun e => Nat.lt_irrefl _ (Nat.lt_of_lt_of_le hgl (e ▸ hk.2.1)), fun e => Nat.lt_irrefl _ (Nat.lt_of_lt_of_le (Kd.R_lt h.rr k e.symm) hk.2.1)⟩)) h.b.size
 have hb1 := blk_put h1.hb 0 v' (cs' := #[v']) rfl
 have hl1 := blk_far h1.hl (p := ⟨gb, 0, none⟩) (by simp only; omega) v'
 have hl2 := blk_put hl1 0 (.int .i64 sum) (cs' := #[.int .i64 sum]) rfl
 have hf2 := blk_far (blk_far h1.hf (p := ⟨gb, 0, none⟩) (by simp only; omega) v') (p := ⟨gl, 0, none⟩) (by simp only; omega) (.int .i64 sum)
 refine ⟨((h1.b.setCell (p := ⟨gb, 0, none⟩) (by simp only; omega) _).setCell (p := ⟨gl, 0, none⟩) (by simp only; omega) _).setCell (p := ⟨gf, 0, none⟩) (by simp only; omega) _, ?_, ?_, blk_put hf2 0 _ rfl, ?_, ?_, ?_, ?_, ?_, ?_⟩
 ·exact blk_far (blk_far (blk_far h1.hr (by simp only; omega) _) (by simp only; omega) _) (by simp only; omega) _
 ·exact blk_far (blk_far (blk_far h1.hL (by simp only; omega) _) (by simp only; omega) _) (by simp only; omega) _
 ·exact blk_far hl2 (by simp only; omega) _
 ·exact blk_far (blk_far hb1 (by simp only; omega) _) (by simp only; omega) _
 ·exact blk_far (blk_far (blk_far h1.hp (by simp only; omega) _) (by simp only; omega) _) (by simp only; omega) _
 ·exact blk_far (blk_far (blk_far h1.hc (by simp only; omega) _) (by simp only; omega) _) (by simp only; omega) _
 ·exact Kd.R_set (Kd.R_far (p := ⟨gl, 0, none⟩) (Kd.R_set rr1 h1.hb (by decide) 0 v') (fun k hk => hk.1) _) hf2 (by decide) 0 _
 ·exact Kd.R_set (Kd.R_far (p := ⟨gl, 0, none⟩) (Kd.R_set rb1 h1.hb (by decide) 0 v') (fun k hk => hk.1) _) hf2 (by decide) 0 _
theorem RigS.append (ho : RigOrd w gr gL gf gl gb gp gc) (h : RigS w gr gL gf gl gb gp gc vL vP vr vb rig best least found W) {v1 : Value} {rig' : List Int} (hR : Kd.R (Kd.int .i64) 3 W' w.heap.size (fun k => k ≠ gl ∧ some k ≠ vb.ownBlock) v1 rig')
  (hB : Below w.heap.size w W') (hg : W.grownBy W' vr.ownBlock) (hat : v1.ownBlock = vr.ownBlock ∨ ∃ b, v1.ownBlock = some b ∧ W.heap.size ≤ b) :
  RigS w gr gL gf gl gb gp gc vL vP v1 vb rig' best least found (W'.setCell ⟨gr, 0, none⟩ v1) := by
 have o := ho.ord
 have hr1 := blk_grown h.hr hg (Kd.R_ne h.rr h.hr (by decide))
 have hl1 := blk_grown h.hl hg (fun e => (h.rr.1 gl e.symm).1 rfl)
 have rb1 : Kd.R (Kd.int .i64) 3 W' w.heap.size (fun k => k ≠ gl ∧ some k ≠ v1.ownBlock) vb best := Kd.R_after h.rb hg hat
 refine ⟨hB.setCell (p := ⟨gr, 0, none⟩) (by simp only; omega) _, blk_put hr1 0 _ rfl, ?_, ?_, ?_, ?_, ?_, ?_, ?_, ?_⟩
 ·exact blk_far (blk_grown h.hL hg (Kd.R_ne h.rr h.hL (by decide))) (by simp only; omega) _
 ·exact blk_far (blk_grown h.hf hg (Kd.R_ne h.rr h.hf (by decide))) (by simp only; omega) _
 ·exact blk_far hl1 (by simp only; omega) _
 ·exact blk_far (blk_grown h.hb hg (Kd.R_ne h.rr h.hb (by decide))) (by simp only; omega) _
 ·exact blk_far (blk_grown h.hp hg (Kd.R_ne h.rr h.hp (by decide))) (by simp only; omega) _
 ·exact blk_far (blk_grown h.hc hg (Kd.R_ne h.rr h.hc (by decide))) (by simp only; omega) _
 ·exact Kd.R_set hR hr1 (by decide) 0 _
 ·exact Kd.R_set rb1 hr1 (by decide) 0 _
theorem own_take (A : Option Addr) (n m c : Nat) : (Value.slice A n c).ownBlock = (Value.slice A m c).ownBlock := by cases A <;> rfl
theorem RigS.take (ho : RigOrd w gr gL gf gl gb gp gc) {A : Option Addr} {n c m : Nat} (h : RigS w gr gL gf gl gb gp gc vL vP (.slice A n c) vb rig best least found W) (hm : m ≤ rig.length) :
  RigS w gr gL gf gl gb gp gc vL vP (.slice A m c) vb (rig.take m) best least found (W.setCell ⟨gr, 0, none⟩ (.slice A m c)) := by
 have o := ho.ord
 refine ⟨h.b.setCell (p := ⟨gr, 0, none⟩) (by simp only; omega) _, blk_put h.hr 0 _ rfl, ?_, ?_, ?_, ?_, ?_, ?_, ?_, ?_⟩
 ·exact blk_far h.hL (by simp only; omega) _
 ·exact blk_far h.hf (by simp only; omega) _
 ·exact blk_far h.hl (by simp only; omega) _
 ·exact blk_far h.hb (by simp only; omega) _
 ·exact blk_far h.hp (by simp only; omega) _
 ·exact blk_far h.hc (by simp only; omega) _
 ·exact Kd.R_set (Kd.R_take h.rr hm) h.hr (by decide) 0 _
 ·rw [own_take A m n c]; exact Kd.R_set h.rb h.hr (by decide) 0 _
end
theorem rig_has (l : List Int) (k : Nat) (hm : l.length ≤ 9223372036854775807) : impl_has.f (l.length + 1) l (k : Int) = some (decide ((k : Int) ∈ l)) := has_total l _ hm _ (Nat.lt_succ_self _)
set_option maxHeartbeats 16000000 in
theorem rig_calls (w : World) (gr gL gf gl gb gp gc : Nat) (ho : RigOrd w gr gL gf gl gb gp gc) (A0 : Option Addr) (c0 : Nat) (l0 : List S36) (A1 : Option Addr) (c1 : Nat) (l1 : List Int) (hr0 : Kd.C k36 w A0 l0.length l0) (hc0 : l0.length ≤ c0) (hr1 : Kd.C (Kd.int .i64) w A1 l1.length l1) (hc1 : l1.length ≤ c1) (hok : l0.length ≤ 6 ∧ l1.length ≤ 8 ∧ ∀ x ∈ l1, 50 ≤ x ∧ x ≤ 4000) :
  ∀ (d : Nat) (rig : List Int) (sum : Int) (best : List Int) (least : Int) (found : Bool) (vr vb : Value) (W : World), rig.length + d = l0.length → 0 ≤ sum → sum ≤ 4000 * rig.length → RigS w gr gL gf gl gb gp gc (.slice A0 l0.length c0) (.slice A1 l1.length c1) vr vb rig best least found W →
  Calls Try.prog 66 #[.int .i64 sum, .pointer (some ⟨gr, 0, none⟩), .pointer (some ⟨gL, 0, none⟩), .pointer (some ⟨gf, 0, none⟩), .pointer (some ⟨gl, 0, none⟩), .pointer (some ⟨gb, 0, none⟩), .pointer (some ⟨gp, 0, none⟩), .pointer (some ⟨gc, 0, none⟩)] W fun e W' => (∃ v, e = .returned v) ∧
   ∃ vr' vb', RigS w gr gL gf gl gb gp gc (.slice A0 l0.length c0) (.slice A1 l1.length c1) vr' vb' rig (rigGo l0 l1 d rig sum (best, least, found)).1 (rigGo l0 l1 d rig sum (best, least, found)).2.1 (rigGo l0 l1 d rig sum (best, least, found)).2.2 W' := by
 have HO := Aside0.mk ho; have HR0 := Aside0.mk hr0; have HC0 := Aside0.mk hc0; have HR1 := Aside0.mk hr1; have HC1 := Aside0.mk hc1; have HK := Aside0.mk hok; clear ho hr0 hc0 hr1 hc1 hok
 intro d
 induction d with
 | zero =>
  intro rig sum best least found vr vb W hd h0 h1 hS
  obtain ⟨Ar, cr, er, hlr, hCr⟩ := Kd.R_reads hS.rr
  subst er
  have e1 : ((rig.length : Int) == (l0.length : Int)) = true := beq_iff_eq.2 (by omega)
  have e2 : (rig.length == l0.length) = true := beq_iff_eq.2 (by omega)
  have hcr : W.cell? ⟨gr, 0, none⟩ = some (.slice Ar rig.length cr) := (blk_cell hS.hr 0).trans rfl
  have hcL : W.cell? ⟨gL, 0, none⟩ = some (.slice A0 l0.length c0) := (blk_cell hS.hL 0).trans rfl
  have hcf : W.cell? ⟨gf, 0, none⟩ = some (.bool found) := (blk_cell hS.hf 0).trans rfl
  have hcl : W.cell? ⟨gl, 0, none⟩ = some (.int .i64 least) := (blk_cell hS.hl 0).trans rfl
  have HS := Aside0.mk hS; have HLr := Aside0.mk hlr; have HCr := Aside0.mk hCr
  have H6 := Aside0.mk (show rig.length * 8 ≤ 140737488355328 by have := HK.out; omega)
  clear hlr hCr hS hd h0 h1
  by_cases hq : found = false ∨ sum < least
  ·have HQ : Aside0 (rigGo l0 l1 0 rig sum (best, least, found) = (rig, sum, true)) := ⟨if_pos hq⟩
   rw [HQ.out]
   have HCL := Aside0.mk (slices_Clone_int_int.calls Ar cr rig rig W HCr.out HLr.out (by unfold slices_Clone_int_int.f; exact if_pos H6.out))
   clear HQ
   cases found with
   | false =>
    clear hq
    go_enter Try.func66, Try.ntmps66
    go_wp2_with (go_at_call 67; refine HCL.out.mono ?_; rintro e w1 ⟨v', rfl, hR, hb⟩; obtain ⟨A', c', e'⟩ := Kd.R_slice hR; subst e'; have HS1 := Aside0.mk (HS.out.below hb); have HN := Aside0.mk (RigS.leaf HO.out HS.out hb hR sum); clear hR hb; have hcb1 : w1.cell? ⟨gb, 0, none⟩ = some vb := (blk_cell HS1.out.hb 0).trans rfl; have hfb1 := blk_frozen HS1.out.hb 0; have hk1 := blk_far HS1.out.hl (p := ⟨gb, 0, none⟩) (qJ4_11) (.slice A' rig.length c'); have hcl1 : (w1.setCell ⟨gb, 0, none⟩ (.slice A' rig.length c')).cell? ⟨gl, 0, none⟩ = some (.int .i64 least) := (blk_cell hk1 0).trans rfl; have hfl1 := blk_frozen hk1 0; have hk2 := blk_far (blk_far HS1.out.hf (p := ⟨gb, 0, none⟩) (qJ4_11) (.slice A' rig.length c')) (p := ⟨gl, 0, none⟩) (qJ4_11) (.int .i64 sum); have hcf1 : ((w1.setCell ⟨gb, 0, none⟩ (.slice A' rig.length c')).setCell ⟨gl, 0, none⟩ (.int .i64 sum)).cell? ⟨gf, 0, none⟩ = some (.bool false) := (blk_cell hk2 0).trans rfl; have hff1 := blk_frozen hk2 0; clear hk1 hk2)
    refine bodyPost_ret (results_none rfl _ _ _) rfl ?_
    exact ⟨⟨_, rfl⟩, _, _, HN.out⟩
   | true =>
    have hq2 : sum < least := by simpa using hq
    have dq : decide (sum < least) = true := decide_eq_true hq2
    clear hq hq2
    go_enter Try.func66, Try.ntmps66
    go_wp2_with (go_at_call 67; refine HCL.out.mono ?_; rintro e w1 ⟨v', rfl, hR, hb⟩; obtain ⟨A', c', e'⟩ := Kd.R_slice hR; subst e'; have HS1 := Aside0.mk (HS.out.below hb); have HN := Aside0.mk (RigS.leaf HO.out HS.out hb hR sum); clear hR hb; have hcb1 : w1.cell? ⟨gb, 0, none⟩ = some vb := (blk_cell HS1.out.hb 0).trans rfl; have hfb1 := blk_frozen HS1.out.hb 0; have hk1 := blk_far HS1.out.hl (p := ⟨gb, 0, none⟩) (qJ4_11) (.slice A' rig.length c'); have hcl1 : (w1.setCell ⟨gb, 0, none⟩ (.slice A' rig.length c')).cell? ⟨gl, 0, none⟩ = some (.int .i64 least) := (blk_cell hk1 0).trans rfl; have hfl1 := blk_frozen hk1 0; have hk2 := blk_far (blk_far HS1.out.hf (p := ⟨gb, 0, none⟩) (qJ4_11) (.slice A' rig.length c')) (p := ⟨gl, 0, none⟩) (qJ4_11) (.int .i64 sum); have hcf1 : ((w1.setCell ⟨gb, 0, none⟩ (.slice A' rig.length c')).setCell ⟨gl, 0, none⟩ (.int .i64 sum)).cell? ⟨gf, 0, none⟩ = some (.bool true) := (blk_cell hk2 0).trans rfl; have hff1 := blk_frozen hk2 0; clear hk1 hk2)
    refine bodyPost_ret (results_none rfl _ _ _) rfl ?_
    exact ⟨⟨_, rfl⟩, _, _, HN.out⟩
  ·have HQ : Aside0 (rigGo l0 l1 0 rig sum (best, least, found) = (best, least, found)) := ⟨if_neg hq⟩
   rw [HQ.out]
   have hf1 : found = true := by simpa using (not_or.1 hq).1
   have dq : decide (sum < least) = false := decide_eq_false (not_or.1 hq).2
   subst hf1; clear hq HQ
   go_enter Try.func66, Try.ntmps66
   go_wp2
   refine bodyPost_ret (results_none rfl _ _ _) rfl ?_
   exact ⟨⟨_, rfl⟩, _, _, HS.out⟩
 | succ d ih =>
  intro rig sum best least found vr vb W hd h0 h1 hS
  obtain ⟨Ar, cr, er, hlr, hCr⟩ := Kd.R_reads hS.rr
  subst er
  have e1 : ((rig.length : Int) == (l0.length : Int)) = false := beq_eq_false_iff_ne.2 (by omega)
  have e2 : (rig.length == l0.length) = false := beq_eq_false_iff_ne.2 (by omega)
  have hcr : W.cell? ⟨gr, 0, none⟩ = some (.slice Ar rig.length cr) := (blk_cell hS.hr 0).trans rfl
  have hcL : W.cell? ⟨gL, 0, none⟩ = some (.slice A0 l0.length c0) := (blk_cell hS.hL 0).trans rfl
  have hcp : W.cell? ⟨gp, 0, none⟩ = some (.slice A1 l1.length c1) := (blk_cell hS.hp 0).trans rfl
  have HS := Aside0.mk hS
  have HD := Aside0.mk (And.intro hd (And.intro h0 h1))
  obtain ⟨nd, hnd⟩ : ∃ nd, nd = rigNeed (l0.getD rig.length z36) := ⟨_, rfl⟩
  have HND := Aside0.mk hnd; clear hlr hCr hS hd h0 h1 hnd
  obtain ⟨res, hres⟩ : ∃ res, res = rigGo l0 l1 (d + 1) rig sum (best, least, found) := ⟨_, rfl⟩
  have HRES : Aside0 (rigLoop (rigGo l0 l1 d) nd l1 rig sum l1.length 0 (best, least, found) = res) := ⟨by rw [hres, HND.out]; rfl⟩
  rw [← hres]
  clear hres
  go_enter Try.func66, Try.ntmps66
  go_wp2
  go_loopg [30] l1.length (fun kq v30 w' => ∃ (x : Int) (st : RigSt) (vr vb : Value), v30 = .int .i64 x ∧ Aside0 (0 ≤ x ∧ kq + x.toNat = l1.length ∧ rigLoop (rigGo l0 l1 d) nd l1 rig sum kq x.toNat st = res) ∧ Aside0 (RigS w gr gL gf gl gb gp gc (.slice A0 l0.length c0) (.slice A1 l1.length c1) vr vb rig st.1 st.2.1 st.2.2 w'))
  case atStart => exact ⟨0, (best, least, found), _, _, rfl, ⟨by omega, by simp, HRES.out⟩, HS⟩
  case round =>
   clear HRES HS hcr hcL hcp; obtain ⟨x, st, vr, vb, rfl, HX, HS⟩ := hrel
   by_cases hlt : x < (l1.length : Int)
   ·have d0 : decide (x < (l1.length : Int)) = true := decide_eq_true hlt
    have d1 : decide (0 ≤ x) = true := decide_eq_true HX.out.1
    have HLT := Aside0.mk hlt; clear hlt
    obtain ⟨k1, rfl⟩ : ∃ k1, gk = k1 + 1 := ⟨gk - 1, by have := HX.out; have := HLT.out; omega⟩
    have hxn : ((x.toNat : Nat) : Int) = x := Int.toNat_of_nonneg HX.out.1
    have HXN := Aside0.mk hxn; clear hxn
    have HX1 : Aside0 (0 ≤ wrap64 (x + 1) ∧ k1 + (wrap64 (x + 1)).toNat = l1.length ∧ (wrap64 (x + 1)).toNat = x.toNat + 1) := ⟨by have := HX.out; have := HLT.out; have := HK.out; unfold wrap64; omega, by have := HX.out; have := HLT.out; have := HK.out; unfold wrap64; omega, by have := HX.out; have := HLT.out; have := HK.out; unfold wrap64; omega⟩
    have HST : Aside0 (rigLoop (rigGo l0 l1 d) nd l1 rig sum k1 (x.toNat + 1) (if x ∈ rig ∨ rd l1 x < nd then st else rigGo l0 l1 d (rig ++ [x]) (sum + rd l1 x) st) = res) := ⟨by have h := HX.out.2.2; simp only [rigLoop, HXN.out] at h; exact h⟩
    obtain ⟨Ar, cr, er, hlr, hCr⟩ := Kd.R_reads HS.out.rr
    subst er
    have hCP := Kd.C_below HR1.out HS.out.b
    obtain ⟨adp, ep, hxp⟩ := Kd.at_int hCP x HX.out.1 HLT.out
    cases ep
    have hcr : wr.cell? ⟨gr, 0, none⟩ = some (.slice Ar rig.length cr) := (blk_cell HS.out.hr 0).trans rfl
    have hcL : wr.cell? ⟨gL, 0, none⟩ = some (.slice A0 l0.length c0) := (blk_cell HS.out.hL 0).trans rfl
    have HLr := Aside0.mk hlr; have HCr := Aside0.mk hCr
    have HHAS := Aside0.mk (has_total rig x hCr.2.1 (rig.length + 1) (Nat.lt_succ_self _))
    have px := eq_true HX.out.1
    have qx := eq_true HLT.out
    have hl1 : 50 ≤ rd l1 x ∧ rd l1 x ≤ 4000 := HK.out.2.2 _ (by rw [rd, List.getD_eq_getElem?_getD, List.getElem?_eq_getElem (by have := HX.out; have := HLT.out; omega)]; exact List.getElem_mem _)
    have HL1 := Aside0.mk hl1; clear hlr hCr hCP hl1
    by_cases hin : x ∈ rig
    ·rw [decide_eq_true hin] at HHAS
     rw [if_pos (Or.inl hin)] at HST
     clear hin
     go_wp2_with (go_at_call 58; refine (impl_has.calls (rig.length + 1) _ _ rig x _ _ HCr.out HLr.out HHAS.out).mono ?_; rintro e w1 ⟨rfl, ⟨nq, rfl⟩⟩)
     go_roundg k1
     case measure => omega
     case rel => exact ⟨wrap64 (x + 1), st, _, _, rfl, ⟨HX1.out.1, HX1.out.2.1, by rw [HX1.out.2.2]; exact HST.out⟩, ⟨HS.out.drewN _⟩⟩
    ·rw [decide_eq_false hin] at HHAS
     have p0 : (0 : Int) ≤ (rig.length : Int) := Int.natCast_nonneg _
     have q0 : (rig.length : Int) < (l0.length : Int) := by have := HD.out.1; omega
     obtain ⟨adl, el, hxl0, hxl1⟩ := at_T36 (Kd.C_below HR0.out HS.out.b) (rig.length : Int) p0 q0
     cases el
     have HIN := Aside0.mk hin
     have HND2 : Aside0 (impl_Pitch_need.f (rd_T36 l0 (rig.length : Int)).f0 (rd_T36 l0 (rig.length : Int)).f1 = some nd) := ⟨by rw [HND.out]; rfl⟩
     obtain ⟨pl, hpl⟩ : ∃ pl, pl = rd_T36 l0 (rig.length : Int) := ⟨_, rfl⟩
     rw [← hpl] at hxl0 hxl1 HND2
     replace hxl0 : wr.cell? (adl.add (rig.length * 2)) = some (.int .i64 pl.f0) := hxl0
     replace hxl1 : wr.cell? ⟨(adl.add (rig.length * 2)).block, (adl.add (rig.length * 2)).off + 1, none⟩ = some (.int .i64 pl.f1) := hxl1
     have pl0 := eq_true p0
     have ql0 := eq_true q0
     clear hin hpl p0 q0
     by_cases hlow : rd l1 x < nd
     ·have dl : decide (rd l1 x < nd) = true := decide_eq_true hlow
      rw [if_pos (Or.inr hlow)] at HST
      clear hlow
      go_wp2_with (first | (go_at_call 58; refine (impl_has.calls (rig.length + 1) _ _ rig x _ _ HCr.out HLr.out HHAS.out).mono ?_; rintro e w1 ⟨rfl, ⟨nq, rfl⟩⟩; have HS1 := Aside0.mk (HS.out.drewN nq)) | (go_at_call 44; refine (impl_Pitch_need.calls pl.f0 pl.f1 nd _ HND2.out).mono ?_; rintro e w2 ⟨rfl, hb⟩; have HS2 := Aside0.mk (HS1.out.below hb); clear hb))
      go_roundg k1
      case measure => omega
      case rel => exact ⟨wrap64 (x + 1), st, _, _, rfl, ⟨HX1.out.1, HX1.out.2.1, by rw [HX1.out.2.2]; exact HST.out⟩, HS2⟩
     ·have dl : decide (rd l1 x < nd) = false := decide_eq_false hlow
      rw [if_neg (fun h => h.elim HIN.out hlow)] at HST
      clear hlow
      obtain ⟨res1, hres1⟩ : ∃ r_, r_ = rigGo l0 l1 d (rig ++ [x]) (sum + rd l1 x) st := ⟨_, rfl⟩
      rw [← hres1] at HST
      have HRES1 := Aside0.mk hres1; clear hres1
      have bd0 : 0 ≤ sum := HD.out.2.1
      have bd1 : sum ≤ 24000 := by have := HD.out; have := HK.out.1; omega
      have bd2 : 50 ≤ rd l1 x := HL1.out.1
      have bd3 : rd l1 x ≤ 4000 := HL1.out.2
      have hsl : ∀ (A4 : Option Addr) (c4 : Nat) (_ : rig.length + 1 ≤ c4) (W : World), (Instr.slice 23 (.slice A4 (rig.length + 1) c4) none (some (.int .i64 (rig.length : Int))) none).run Try.prog W = .ok (.slice A4 rig.length c4) W := fun A4 c4 hc4 W => by
       obtain ⟨i0, hi, hzz⟩ := Option.map_eq_some_iff.1 info3
       simp only [Prod.mk.injEq] at hzz
       have h := (print_take_of (P := Try.prog) (Value.int .i64) 0 23 3 .i64 Try.underlying23 hi hzz.2.1 A4 c4 (rig ++ [x]) (rig.length : Int) (Int.natCast_nonneg _) (by simp; omega) (by simpa using hc4)).1 W
       simpa using h
      go_wp2_with (first | (go_at_call 58; refine (impl_has.calls (rig.length + 1) _ _ rig x _ _ HCr.out HLr.out HHAS.out).mono ?_; rintro e w1 ⟨rfl, ⟨nq, rfl⟩⟩; have HS1 := Aside0.mk (HS.out.drewN nq)) | (go_at_call 44; refine (impl_Pitch_need.calls pl.f0 pl.f1 nd _ HND2.out).mono ?_; rintro e w2 ⟨rfl, hb⟩; have HS2 := Aside0.mk (HS1.out.below hb); clear hb; have hcr2 : w2.cell? ⟨gr, 0, none⟩ = some (.slice Ar rig.length cr) := (blk_cell HS2.out.hr 0).trans rfl) | ((with_reducible refine gate_builtin (b := .append) (xs := #[.tmp 47, .tmp 49]) rfl ?_); at_builtin; refine Kd.R_append (Kd.int .i64) (w0 := w) w.heap.size rfl (.tmp 47) (.tmp 49) 23 3 (.int .i64 0) 8 rfl Try.underlying23 info3 rfl (by decide) (by omega) (.slice Ar rig.length cr) rig x [.int .i64 x] (fun k_ => k_ ≠ gl ∧ some k_ ≠ vb.ownBlock) (fun _ => False) rfl rfl ?aP (fun _ hk => hk.elim) ?aF ?aO ?aB ?aS ?aL ?_; (case aP => exact rfl); (case aB => exact HS2.out.b); (case aF => exact (by exact fun k_ hk_ => ⟨fun e_ => Nat.lt_irrefl _ (Nat.lt_of_lt_of_le (blk_lt HS2.out.hl) (e_ ▸ hk_)), fun e_ => Nat.lt_irrefl _ (Nat.lt_of_lt_of_le (Kd.R_lt HS2.out.rb k_ e_.symm) hk_)⟩)); (case aO => exact HS2.out.rr); (case aS => exact HS2.out.b.size); (case aL => exact (by have h_ := HD.out.1; have h2_ := HK.out.1; omega)); intro v212 w22 ho hb hg hat; obtain ⟨A3, c3, e3⟩ := Kd.R_slice ho; rw [List.length_append, List.length_singleton] at e3; subst e3; have HN := Aside0.mk (RigS.append HO.out HS2.out ho hb hg hat); have hk1 := blk_grown HS2.out.hr hg (Kd.R_ne HS2.out.rr HS2.out.hr (by decide)); have hcg : w22.cell? ⟨gr, 0, none⟩ = some (.slice Ar rig.length cr) := (blk_cell hk1 0).trans rfl; have hfg := blk_frozen hk1 0; have hcc : (w22.setCell ⟨gr, 0, none⟩ (.slice A3 (rig.length + 1) c3)).cell? ⟨gc, 0, none⟩ = some (.func (.func 66) #[] #[.pointer (some ⟨gr, 0, none⟩), .pointer (some ⟨gL, 0, none⟩), .pointer (some ⟨gf, 0, none⟩), .pointer (some ⟨gl, 0, none⟩), .pointer (some ⟨gb, 0, none⟩), .pointer (some ⟨gp, 0, none⟩), .pointer (some ⟨gc, 0, none⟩)]) := (blk_cell HN.out.hc 0).trans rfl; clear ho hb hg hat hk1) | (go_at_call 66; refine (ih (rig ++ [x]) (sum + rd l1 x) st.1 st.2.1 st.2.2 _ vb _ ?i1 ?i2 ?i3 HN.out).mono ?_; (case i1 => exact (by have h_ := HD.out.1; rw [List.length_append, List.length_singleton]; omega)); (case i2 => omega); (case i3 => exact (by have h_ := HD.out.2.2; rw [List.length_append, List.length_singleton]; omega)); rintro e w4 ⟨⟨v, rfl⟩, vr', vb', hS4⟩; obtain ⟨A4, c4, e4, hl4, _⟩ := Kd.R_reads hS4.rr; rw [List.length_append, List.length_singleton] at e4 hl4; subst e4; have HT := Aside0.mk (RigS.take HO.out hS4 (m := rig.length) (by rw [List.length_append]; omega)); have HS4 := Aside0.mk hS4; have hsl4 := hsl A4 c4 hl4; have hcr4 : w4.cell? ⟨gr, 0, none⟩ = some (.slice A4 (rig.length + 1) c4) := (blk_cell hS4.hr 0).trans rfl; have hfr4 := blk_frozen hS4.hr 0; clear hS4 hl4))
      go_roundg k1
      case measure => omega
      case rel => exact ⟨wrap64 (x + 1), res1, _, _, rfl, ⟨HX1.out.1, HX1.out.2.1, by rw [HX1.out.2.2]; exact HST.out⟩, ⟨by have h := HT.out; rw [List.take_left] at h; rw [HRES1.out]; exact h⟩⟩
   ·have d0 : decide (x < (l1.length : Int)) = false := decide_eq_false hlt
    obtain rfl : gk = 0 := by have := HX.out; omega
    have HE : Aside0 (st = res) := ⟨HX.out.2.2⟩
    clear hlt HX
    go_wp2
    go_end0
    exact ⟨⟨_, rfl⟩, _, _, by rw [← HE.out]; exact HS.out⟩
theorem run_store_fn (P : Program) (w : World) (a : Addr) (m : Mode) (f : _) (x : _) (y : _) : (store a (.func f x y) m).run P w = stored P w a (.func f x y) m := run_store P w a _ m rfl
attribute [local go_sem] run_store_fn
set_option maxHeartbeats 16000000 in
theorem impl_bestRigging.calls (A0 : Option Addr) (c0 : Nat) (l0 : List S36) (A1 : Option Addr) (c1 : Nat) (l1 : List Int) (r1 : List Int) (r2 : Int) (r3 : Bool) (w : World) (hr0 : Kd.C k36 w A0 l0.length l0) (hc0 : l0.length ≤ c0) (hr1 : Kd.C (Kd.int .i64) w A1 l1.length l1) (hc1 : l1.length ≤ c1) (h : impl_bestRigging.f l0 l1 = some (r1, r2, r3)) :
  Calls Try.prog 39 #[.slice A0 l0.length c0, .slice A1 l1.length c1] w fun e w' => ∃ v0_ : Value, e = .returned (.tuple #[v0_, .int .i64 r2, .bool r3]) ∧ Kd.R (Kd.int .i64) 3 w' w.heap.size (fun _ => True) v0_ r1 ∧ Below w.heap.size w w' := by
 unfold impl_bestRigging.f at h
 split at h
 case isFalse => cases h
 rename_i hok
 have hres := Option.some.inj h
 simp only [rigOk, Bool.and_eq_true, decide_eq_true_eq, List.all_eq_true] at hok
 have HK := Aside0.mk (show l0.length ≤ 6 ∧ l1.length ≤ 8 ∧ ∀ x ∈ l1, 50 ≤ x ∧ x ≤ 4000 from ⟨hok.1.1, hok.1.2, hok.2⟩)
 have HR0 := Aside0.mk hr0; have HC0 := Aside0.mk hc0; have HR1 := Aside0.mk hr1; have HC1 := Aside0.mk hc1; have HRES := Aside0.mk hres; clear h hok hres hr0 hc0 hr1 hc1
 go_enter Try.func39, Try.ntmps39
 go_wp2_with (first | ((with_reducible refine gate_dst (N := 2) rfl ?_); refine box_event ?hg (N := 2) ?hd (cs := #[.slice A0 l0.length c0]) (t := 27) ?hr ?_; (case hd => rfl); (case hg => rfl); (case hr => exact (qJ4_6)); intro gL hg w1 hbox hb; have HXgL := Aside0.mk hbox; have HBgL := Aside0.mk hb; have HEgL := Aside0.mk hg; clear hbox hb hg; skip) | ((with_reducible refine gate_dst (N := 3) rfl ?_); refine box_event ?hg (N := 3) ?hd (cs := #[.slice A1 l1.length c1]) (t := 23) ?hr ?_; (case hd => rfl); (case hg => rfl); (case hr => exact (qJ4_6)); intro gp hg w2 hbox hb; have HXgp := Aside0.mk hbox; have HBgp := Aside0.mk hb; have HEgp := Aside0.mk hg; clear hbox hb hg; skip) | ((with_reducible refine gate_dst (N := 12) rfl ?_); refine Kd.R_lit (Kd.int .i64) _ 3 ?hg (N := 12) ?hd (xs := ([] : List Int)) (inner := []) (ok := fun _ => True) (okp := fun _ => True) ?hr ?hp (fun _ hk => hk) trivial (Below.refl _ _) (Nat.le_refl _) (by simp) ?_; (case hd => rfl); (case hg => rfl); (case hr => exact (qJ4_6)); (case hp => exact (Reps.none _ _)); intro v12 w3 ho hb hg_ hnew_; clear hg_ hnew_; obtain ⟨Ab, cb, eb⟩ := Kd.R_slice ho; subst eb; have HOb := Aside0.mk ho; have HBb := Aside0.mk hb; clear ho hb) | ((with_reducible refine gate_dst (N := 7) rfl ?_); refine box_event ?hg (N := 7) ?hd (cs := #[.slice none 0 0]) (t := 23) ?hr ?_; (case hd => rfl); (case hg => rfl); (case hr => exact (qJ4_6)); intro gb hg w4 hbox hb; have HXgb := Aside0.mk hbox; have HBgb := Aside0.mk hb; have HEgb := Aside0.mk hg; clear hbox hb hg; skip) | ((with_reducible refine gate_dst (N := 8) rfl ?_); refine box_event ?hg (N := 8) ?hd (cs := #[.int .i64 0]) (t := 3) ?hr ?_; (case hd => rfl); (case hg => rfl); (case hr => exact (qJ4_6)); intro gl hg w5 hbox hb; have HXgl := Aside0.mk hbox; have HBgl := Aside0.mk hb; have HEgl := Aside0.mk hg; clear hbox hb hg; skip) | ((with_reducible refine gate_dst (N := 9) rfl ?_); refine box_event ?hg (N := 9) ?hd (cs := #[.bool false]) (t := 4) ?hr ?_; (case hd => rfl); (case hg => rfl); (case hr => exact (qJ4_6)); intro gf hg w6 hbox hb; have HXgf := Aside0.mk hbox; have HBgf := Aside0.mk hb; have HEgf := Aside0.mk hg; clear hbox hb hg; have hk1 := blk_below (blk_below HXgb.out HBgl.out) HBgf.out; have hk2 := blk_far (blk_below HXgl.out HBgf.out) (p := ⟨gb, 0, none⟩) (by have := HEgl.out; have := blk_lt HXgb.out; simp only; omega) (.slice Ab 0 cb); have hk3 := blk_far (blk_far HXgf.out (p := ⟨gb, 0, none⟩) (by have := HEgf.out; have := HEgl.out; have := blk_lt HXgb.out; have := blk_lt HXgl.out; simp only; omega) (.slice Ab 0 cb)) (p := ⟨gl, 0, none⟩) (by have := HEgf.out; have := blk_lt HXgl.out; simp only; omega) (.int .i64 0); have hcb : w6.cell? ⟨gb, 0, none⟩ = some (.slice none 0 0) := (blk_cell hk1 0).trans rfl; have hcl : (w6.setCell ⟨gb, 0, none⟩ (.slice Ab 0 cb)).cell? ⟨gl, 0, none⟩ = some (.int .i64 0) := (blk_cell hk2 0).trans rfl; have hcf : ((w6.setCell ⟨gb, 0, none⟩ (.slice Ab 0 cb)).setCell ⟨gl, 0, none⟩ (.int .i64 0)).cell? ⟨gf, 0, none⟩ = some (.bool false) := (blk_cell hk3 0).trans rfl; have hfb := blk_frozen hk1 0; have hfl := blk_frozen hk2 0; have hff := blk_frozen hk3 0; clear hk1 hk2 hk3) | ((with_reducible refine gate_dst (N := 13) rfl ?_); refine Kd.R_lit (Kd.int .i64) _ 3 ?hg (N := 13) ?hd (xs := ([] : List Int)) (inner := []) (ok := fun _ => True) (okp := fun _ => True) ?hr ?hp (fun _ hk => hk) trivial (Below.refl _ _) (Nat.le_refl _) (by simp) ?_; (case hd => rfl); (case hg => rfl); (case hr => exact (qJ4_6)); (case hp => exact (Reps.none _ _)); intro v13 w7 ho hb hg_ hnew_; clear hg_ hnew_; obtain ⟨Ar, cr, er⟩ := Kd.R_slice ho; subst er; have HOr := Aside0.mk ho; have HBr := Aside0.mk hb; clear ho hb) | ((with_reducible refine gate_dst (N := 10) rfl ?_); refine box_event ?hg (N := 10) ?hd (cs := #[.slice none 0 0]) (t := 23) ?hr ?_; (case hd => rfl); (case hg => rfl); (case hr => exact (qJ4_6)); intro gr hg w8 hbox hb; have HXgr := Aside0.mk hbox; have HBgr := Aside0.mk hb; have HEgr := Aside0.mk hg; clear hbox hb hg; have hcr : w8.cell? ⟨gr, 0, none⟩ = some (.slice none 0 0) := (blk_cell HXgr.out 0).trans rfl; have hfr := blk_frozen HXgr.out 0) | ((with_reducible refine gate_dst (N := 11) rfl ?_); refine box_event ?hg (N := 11) ?hd (cs := ?cs) (t := 79) ?hr ?_; (case hd => rfl); (case hg => rfl); (case hr => exact (qJ4_6)); intro gc hg w9 hbox hb; have HXgc := Aside0.mk hbox; have HBgc := Aside0.mk hb; have HEgc := Aside0.mk hg; clear hbox hb hg; obtain ⟨zc, hzc⟩ : ∃ zc, w9.cell? ⟨gc, 0, none⟩ = some zc := ⟨_, (blk_cell HXgc.out 0).trans rfl⟩; have hfc := blk_frozen HXgc.out 0) | fail)
 have o1 := HEgL.out
 have o2 := HEgp.out
 have o3 := HEgb.out
 have o4 := HEgl.out
 have o5 := HEgf.out
 have o6 := HEgr.out
 have o7 := HEgc.out
 have s1 := blk_lt HXgL.out
 have s2 := blk_lt HXgp.out
 have s3 := HBb.out.size
 have s4 := blk_lt HXgb.out
 have s5 := blk_lt HXgl.out
 have s6 := blk_lt HXgf.out
 have s8 := blk_lt HXgr.out
 obtain ⟨Z6, hZ6⟩ : ∃ Z, Z = ((w6.setCell ⟨gb, 0, none⟩ (.slice Ab 0 cb)).setCell ⟨gl, 0, none⟩ (.int .i64 0)).setCell ⟨gf, 0, none⟩ (.bool false) := ⟨_, rfl⟩
 have z6 : Z6.heap.size = w6.heap.size := by rw [hZ6]; simp [World.setCell]
 have hBr : Below Z6.heap.size Z6 w7 := by rw [hZ6]; exact HBr.out
 have hOr : Kd.R (Kd.int .i64) 3 w7 Z6.heap.size (fun _ => True) (.slice Ar 0 cr) [] := by rw [hZ6]; exact HOr.out
 obtain ⟨Z8, hZ8⟩ : ∃ Z, Z = w8.setCell ⟨gr, 0, none⟩ (.slice Ar 0 cr) := ⟨_, rfl⟩
 have z8 : Z8.heap.size = w8.heap.size := by rw [hZ8]; simp [World.setCell]
 have hBc : Below Z8.heap.size Z8 w9 := by rw [hZ8]; exact HBgc.out
 have o7' : gc = Z8.heap.size := by rw [hZ8]; exact o7
 have s7 := hBr.size
 have hord : RigOrd w gr gL gf gl gb gp gc := ⟨by omega⟩
 have C3 : Below w3.heap.size w3 Z6 := by
  rw [hZ6]
  exact (((below_step (below_step HBgb.out HBgl.out) HBgf.out).setCell (p := ⟨gb, 0, none⟩) (by simp only; omega) _).setCell (p := ⟨gl, 0, none⟩) (by simp only; omega) _).setCell (p := ⟨gf, 0, none⟩) (by simp only; omega) _
 have q1 : Z6.heap[gb]? = some (.cells #[.slice Ab 0 cb] 23 (0, 0)) := by
  rw [hZ6]
  exact blk_far (blk_far (blk_put (blk_below (blk_below HXgb.out HBgl.out) HBgf.out) 0 _ rfl) (by simp only; omega) _) (by simp only; omega) _
 have q2 : Z6.heap[gl]? = some (.cells #[.int .i64 0] 3 (0, 0)) := by
  rw [hZ6]
  exact blk_far (blk_put (blk_far (blk_below HXgl.out HBgf.out) (by simp only; omega) _) 0 _ rfl) (by simp only; omega) _
 have q3 : Z6.heap[gf]? = some (.cells #[.bool false] 4 (0, 0)) := by
  rw [hZ6]
  exact blk_put (blk_far (blk_far HXgf.out (by simp only; omega) _) (by simp only; omega) _) 0 _ rfl
 have C7 : Below w7.heap.size w7 Z8 := by
  rw [hZ8]
  exact HBgr.out.setCell (p := ⟨gr, 0, none⟩) (by simp only; omega) _
 have q4 : Z8.heap[gr]? = some (.cells #[.slice Ar 0 cr] 23 (0, 0)) := by
  rw [hZ8]
  exact blk_put HXgr.out 0 _ rfl
 have C8 : Below Z8.heap.size Z8 (w9.setCell ⟨gc, 0, none⟩ (rigClo gr gL gf gl gb gp gc)) := hBc.setCell (p := ⟨gc, 0, none⟩) (by simp only; omega) _
 have q5 := blk_put HXgc.out 0 (rigClo gr gL gf gl gb gp gc) (cs' := #[rigClo gr gL gf gl gb gp gc]) rfl
 have D6 := below_step (below_step hBr C7) C8
 have D3 := below_step C3 D6
 have D2 := below_step HBb.out D3
 have D1 := below_step HBgp.out D2
 have D0 := below_step HBgL.out D1
 have c3 := C3.size
 have rr : Kd.R (Kd.int .i64) 3 (w9.setCell ⟨gc, 0, none⟩ (rigClo gr gL gf gl gb gp gc)) w.heap.size (fun k => k ≠ gl ∧ some k ≠ (Value.slice Ab 0 cb).ownBlock) (.slice Ar 0 cr) [] :=
  Kd.R_lower (Kd.R_below (Kd.R_mono (Kd.R_bound hOr) (fun k hk => ⟨by have := hk.2.1; omega, fun e => by have := hk.2.1; have := Kd.R_lt HOb.out k e.symm; omega⟩)) (below_step C7 C8)) (by omega)
 have rb : Kd.R (Kd.int .i64) 3 (w9.setCell ⟨gc, 0, none⟩ (rigClo gr gL gf gl gb gp gc)) w.heap.size (fun k => k ≠ gl ∧ some k ≠ (Value.slice Ar 0 cr).ownBlock) (.slice Ab 0 cb) [] :=
  Kd.R_lower (Kd.R_below (Kd.R_mono (Kd.R_bound HOb.out) (fun k hk => ⟨by have := hk.2.2.1; omega, fun e => by have := hk.2.2.1; have := Kd.R_base hOr k e.symm; omega⟩)) D3) (by omega)
 have hS0 : RigS w gr gL gf gl gb gp gc (.slice A0 l0.length c0) (.slice A1 l1.length c1) (.slice Ar 0 cr) (.slice Ab 0 cb) [] [] 0 false (w9.setCell ⟨gc, 0, none⟩ (rigClo gr gL gf gl gb gp gc)) :=
  ⟨D0, blk_below q4 C8, blk_below HXgL.out D1, blk_below q3 D6, blk_below q2 D6, blk_below q1 D6, blk_below HXgp.out D2, q5, rr, rb⟩
 refine (rig_calls w gr gL gf gl gb gp gc hord A0 c0 l0 A1 c1 l1 HR0.out HC0.out HR1.out HC1.out HK.out l0.length [] 0 [] 0 false _ _ _ (by simp) (by omega) (by simp) hS0).mono ?_
 rintro e w10 ⟨⟨v, rfl⟩, vr', vb', hS⟩
 rw [HRES.out] at hS
 simp only at hS
 have HSF := Aside0.mk hS
 have hb10 : w10.cell? ⟨gb, 0, none⟩ = some vb' := (blk_cell hS.hb 0).trans rfl
 have hl10 : w10.cell? ⟨gl, 0, none⟩ = some (.int .i64 r2) := (blk_cell hS.hl 0).trans rfl
 have hf10 : w10.cell? ⟨gf, 0, none⟩ = some (.bool r3) := (blk_cell hS.hf 0).trans rfl
 clear hS hS0 rr rb q1 q2 q3 q4 q5 C3 C7 C8 D0 D1 D2 D3 D6 hBr hOr hBc z6 z8 hZ6 hZ8 o1 o2 o3 o4 o5 o6 o7 o7' s1 s2 s3 s4 s5 s6 s7 s8 c3 hord
 go_wp2
 go_quiet (fail)
 go_wp2
 go_ret3
 exact ⟨vb', rfl, Kd.R_mono (Kd.R_below HSF.out.rb (pw_below_drewN (Below.refl _ _) _)) (fun _ _ => trivial), below_step HSF.out.b (pw_below_drewN (Below.refl _ _) _)⟩


/-! ### impl_DeepestFirst: function 10 -/
mutual
def impl_DeepestFirst.j0 : Nat → List (S36) → List Int → Bool → Option (Int × Bool)
 | 0, _, _, _ => none
 | k + 1, x0, x1, x17 => if x17 = true then (some (0, false)) else (impl_DeepestFirst.l0 k x0 x1 (x0.length : Int))
def impl_DeepestFirst.l0 : Nat → List (S36) → List Int → Int → Option (Int × Bool)
 | 0, _, _, _ => none
 | k + 1, x0, x1, x6 => if x6 > 0 then (if 0 ≤ x6 then (if x6 ≤ (x0.length : Int) then ((impl_bestRigging.f (x0.take (x6 : Int).toNat) x1).bind fun bt205 => (if bt205.2.2 = true then (some (x6, true)) else (impl_DeepestFirst.l0 k x0 x1 (wrap64 (x6 - 1))))) else (none)) else (none)) else (some (0, true))
end
def impl_DeepestFirst.f (k : Nat) (l0 : List (S36)) (l1 : List Int) : Option (Int × Bool) := (impl_ArePitches.f l0).bind fun t199 => (if t199 = true then ((impl_AreRopes.f l1).bind fun t200 => (impl_DeepestFirst.j0 k l0 l1 (!t200))) else (impl_DeepestFirst.j0 k l0 l1 true))
theorem impl_DeepestFirst.mono_l : ∀ k, (∀ y0 y1 y2, LeO (impl_DeepestFirst.j0 k y0 y1 y2) (impl_DeepestFirst.j0 (k + 1) y0 y1 y2)) ∧ (∀ y0 y1 y2, LeO (impl_DeepestFirst.l0 k y0 y1 y2) (impl_DeepestFirst.l0 (k + 1) y0 y1 y2))
 | 0 => ⟨fun _ _ _ r h => by simp [impl_DeepestFirst.j0] at h, fun _ _ _ r h => by simp [impl_DeepestFirst.l0] at h⟩
 | k + 1 => by
  obtain ⟨ih0, ih1⟩ := impl_DeepestFirst.mono_l k
  refine ⟨?_, ?_⟩
  ·intro y0 y1 y2
   unfold impl_DeepestFirst.j0
   repeat' first
   | (with_reducible exact ih0 _ _ _)
   | (with_reducible exact ih1 _ _ _)
   | (with_reducible exact LeO.refl _)
   | (with_reducible exact LeO.none _)
   | (with_reducible refine LeO.ite ?_ ?_)
   | (with_reducible refine LeO.bind ?_ (fun _ => ?_))
   | exact ih0 _ _ _
   | exact ih1 _ _ _
   | exact LeO.none _
   | refine LeO.ite ?_ ?_
   | refine LeO.bind ?_ (fun _ => ?_)
  ·intro y0 y1 y2
   unfold impl_DeepestFirst.l0
   repeat' first
   | (with_reducible exact ih0 _ _ _)
   | (with_reducible exact ih1 _ _ _)
   | (with_reducible exact LeO.refl _)
   | (with_reducible exact LeO.none _)
   | (with_reducible refine LeO.ite ?_ ?_)
   | (with_reducible refine LeO.bind ?_ (fun _ => ?_))
   | exact ih0 _ _ _
   | exact ih1 _ _ _
   | exact LeO.none _
   | refine LeO.ite ?_ ?_
   | refine LeO.bind ?_ (fun _ => ?_)
theorem impl_DeepestFirst.mono : ∀ a0 a1 k, LeO (impl_DeepestFirst.f k a0 a1) (impl_DeepestFirst.f (k + 1) a0 a1) := by
 intro a0 a1 k
 obtain ⟨ih0, ih1⟩ := impl_DeepestFirst.mono_l k
 unfold impl_DeepestFirst.f
 repeat' first
   | (with_reducible exact ih0 _ _ _)
   | (with_reducible exact ih1 _ _ _)
   | (with_reducible exact LeO.refl _)
   | (with_reducible exact LeO.none _)
   | (with_reducible refine LeO.ite ?_ ?_)
   | (with_reducible refine LeO.bind ?_ (fun _ => ?_))
   | exact ih0 _ _ _
   | exact ih1 _ _ _
   | exact LeO.none _
   | refine LeO.ite ?_ ?_
   | refine LeO.bind ?_ (fun _ => ?_)
set_option maxHeartbeats 8000000 in
theorem impl_DeepestFirst.calls (k : Nat) (A0 : Option Addr) (c0 : Nat) (l0 : List (S36)) (A1 : Option Addr) (c1 : Nat) (l1 : List Int) (r1 : Int) (r2 : Bool) (w : World) (hr0 : Kd.C k36 w A0 l0.length l0) (hc0 : l0.length ≤ c0) (hr1 : Kd.C (Kd.int .i64) w A1 l1.length l1) (hc1 : l1.length ≤ c1) (h : impl_DeepestFirst.f k l0 l1 = some (r1, r2)) :
  Calls Try.prog 10 #[.slice A0 l0.length c0, .slice A1 l1.length c1] w fun e w' => e = .returned (.tuple #[.int .i64 r1, .bool r2]) ∧ Below w.heap.size w w' := by
 have HR0 := Aside0.mk hr0; have HC0 := Aside0.mk hc0; clear hr0 hc0; have HR1 := Aside0.mk hr1; have HC1 := Aside0.mk hc1; clear hr1 hc1
 have HB := Aside0.mk (Below.refl w.heap.size w)
 have H : ((impl_ArePitches.f l0).bind fun t199 => (if t199 = true then ((impl_AreRopes.f l1).bind fun t200 => (impl_DeepestFirst.j0 k l0 l1 (!t200))) else (impl_DeepestFirst.j0 k l0 l1 true))) = some (r1, r2) := h
 clear h; have HC3 := Aside0.mk H; clear H
 go_enter Try.func10, Try.ntmps10
 go_upto_region 1 with (fail)
 go_cut [17] (fun v17 wc => ∃ (kq : Nat) (x17_2 : Bool), v17 = .bool x17_2 ∧ Aside0 (impl_DeepestFirst.j0 kq l0 l1 x17_2 = some (r1, r2)) ∧ Aside0 (kq ≤ k) ∧ Aside0 (Below w.heap.size w wc))
 case first =>
  have H := HC3.out
  clear HC3; replace H := Option.bind_eq_some_iff.mp H; obtain ⟨t199, A40, H⟩ := H
  try dsimp only at H
  have A4 := Aside0.mk A40; clear A40
  by_cases c5 : t199 = true
  ·subst c5
   have H1 : ((impl_AreRopes.f l1).bind fun t200 => (impl_DeepestFirst.j0 k l0 l1 (!t200))) = some (r1, r2) := by rw [if_pos rfl] at H; exact H
   clear H; have H := H1; clear H1; replace H := Option.bind_eq_some_iff.mp H; obtain ⟨t200, A60, H⟩ := H
   replace H : (impl_DeepestFirst.j0 k l0 l1 (!t200)) = some (r1, r2) := H
   have A6 := Aside0.mk A60; clear A60
   have H' := Aside0.mk H
   clear H
   go_wp2_with (first | ((with_reducible refine gate_callee (f := 28) rfl ?_); refine goesL_ (some 11) rfl rfl Try.func28 (by kernel_rfl) rfl #[.slice A0 l0.length c0] rfl (qJ4_1) ?_; (with_reducible refine (impl_ArePitches.calls _ _ l0 true _ ?side1 ?side2 A4.out).mono ?_); (case side1 => exact (qJ4_4)); (case side2 => exact HC0.out); rintro e w7 ⟨rfl, hb⟩; refine ⟨_, rfl, ?_⟩; have n0_ := Aside0.mk (below_step (qJ4_0) hb); clear HB; have HB := n0_; clear n0_; (try clear hb); (try clear hb2); (try clear hk); (try clear hi)) | (go_at_call 29; (with_reducible refine (impl_AreRopes.calls _ _ l1 t200 _ ?side1 ?side2 A6.out).mono ?_); (case side1 => exact (qJ4_5)); (case side2 => exact HC1.out); rintro e w8 ⟨rfl, hb⟩; have n0_ := Aside0.mk (below_step (qJ4_0) hb); clear HB; have HB := n0_; clear n0_; (try clear hb); (try clear hb2); (try clear hk); (try clear hi)))
   go_meet
   case rel => exact ⟨_, (!t200), (qJ4_3), H', ⟨by first | omega | exact Nat.le_refl _⟩, ⟨(qJ4_0)⟩⟩
  ·replace c5 := Bool.eq_false_iff.mpr c5
   subst c5
   have H1 : (impl_DeepestFirst.j0 k l0 l1 true) = some (r1, r2) := by rw [if_neg (show ¬ (false = true) by decide)] at H; exact H
   clear H; have H := H1; clear H1
   have H' := Aside0.mk H
   clear H
   go_wp2_with (first | ((with_reducible refine gate_callee (f := 28) rfl ?_); refine goesL_ (some 11) rfl rfl Try.func28 (by kernel_rfl) rfl #[.slice A0 l0.length c0] rfl (qJ4_1) ?_; (with_reducible refine (impl_ArePitches.calls _ _ l0 false _ ?side1 ?side2 A4.out).mono ?_); (case side1 => exact (qJ4_4)); (case side2 => exact HC0.out); rintro e w9 ⟨rfl, hb⟩; refine ⟨_, rfl, ?_⟩; have n0_ := Aside0.mk (below_step (qJ4_0) hb); clear HB; have HB := n0_; clear n0_; (try clear hb); (try clear hb2); (try clear hk); (try clear hi)))
   go_meet
   case rel => exact ⟨_, (true), (qJ4_3), H', ⟨by first | omega | exact Nat.le_refl _⟩, ⟨(qJ4_0)⟩⟩
 case rest =>
  clear HC3
  try clear c1
  try clear c2
  try clear p2
  try clear c5
  obtain ⟨kq, x17_2, rfl, HA, HJ2, HB⟩ := hcut
  cases kq with
  | zero => exact absurd HA.out (by simp [impl_DeepestFirst.j0])
  | succ kj2 =>
   have H := HA.out
   clear HA
   simp only [impl_DeepestFirst.j0] at H
   by_cases c10 : x17_2 = true
   ·subst c10
    have H1 : (some (0, false)) = some (r1, r2) := by rw [if_pos rfl] at H; exact H
    clear H; have H := H1; clear H1
    simp only [Option.some.injEq, Prod.mk.injEq] at H
    obtain ⟨rfl, rfl⟩ := H
    go_wp2
    go_ret2
    exact ⟨(qJ4_9), (qJ4_0)⟩
   ·replace c10 := Bool.eq_false_iff.mpr c10
    subst c10
    have H1 : (impl_DeepestFirst.l0 kj2 l0 l1 (l0.length : Int)) = some (r1, r2) := by rw [if_neg (show ¬ (false = true) by decide)] at H; exact H
    clear H; have H := H1; clear H1
    have H' := Aside0.mk H
    clear H
    go_wp2
    go_loopg [6] kj2 (fun kq v6 w' => ∃ (x6_2 : Int), v6 = .int .i64 x6_2 ∧ Aside0 (impl_DeepestFirst.l0 kq l0 l1 x6_2 = some (r1, r2)) ∧ Aside0 (kq ≤ kj2) ∧ Aside0 (Below w.heap.size w w'))
    case atStart => exact ⟨((l0.length : Int)), (qJ4_3), H', ⟨Nat.le_refl _⟩, ⟨(qJ4_0)⟩⟩
    case round =>
     clear H'
     try clear c1
     try clear c2
     try clear p2
     try clear c5
     try clear c10
     try clear p2
     obtain ⟨x6_2, rfl, HA, HK2, HB⟩ := hrel
     cases gk with
     | zero => exact absurd HA.out (by simp [impl_DeepestFirst.l0])
     | succ k2 =>
      have H := HA.out
      clear HA
      simp only [impl_DeepestFirst.l0] at H
      by_cases c11 : x6_2 > 0
      ·rw [if_pos c11] at H
       have c11b0 : decide (0 < x6_2) = true := decide_eq_true c11
       clear c11
       by_cases c12 : 0 ≤ x6_2
       ·rw [if_pos c12] at H
        have c12b0 := eq_true c12
        have c12b1 : decide (0 ≤ x6_2) = true := decide_eq_true c12
        clear c12
        by_cases c13 : x6_2 ≤ (l0.length : Int)
        ·rw [if_pos c13] at H
         have c13b0 := eq_true c13
         have c13b1 : decide (x6_2 ≤ (l0.length : Int)) = true := decide_eq_true c13
         clear c13
         obtain ⟨y201, hy201⟩ : ∃ y_ : List (S36), y_ = (l0.take (x6_2 : Int).toNat) := ⟨_, rfl⟩
         replace H : ((impl_bestRigging.f y201 l1).bind fun bt205 => (if bt205.2.2 = true then (some (x6_2, true)) else (impl_DeepestFirst.l0 k2 l0 l1 (wrap64 (x6_2 - 1))))) = some (r1, r2) := by first | (rw [hy201]; with_reducible exact H) | (have H2_ := (Option.bind_some _ _).symm.trans H; rw [hy201]; with_reducible exact H2_) | (have H2_ := (Option.bind_some _ _).symm.trans H; with_reducible exact H2_) | with_reducible exact H | (rw [hy201]; exact H) | exact H
         have Ny201 := Aside0.mk hy201; clear hy201; replace H := Option.bind_eq_some_iff.mp H; obtain ⟨⟨t205, t206, t207⟩, A140, H⟩ := H
         try dsimp only at H
         have A14 := Aside0.mk A140; clear A140
         by_cases c15 : t207 = true
         ·subst c15
          have H1 : (some (x6_2, true)) = some (r1, r2) := by rw [if_pos rfl] at H; exact H
          clear H; have H := H1; clear H1
          simp only [Option.some.injEq, Prod.mk.injEq] at H
          obtain ⟨rfl, rfl⟩ := H
          have q16 : (x6_2 : Int) ≤ ((l0.length : Int) : Int) := of_decide_eq_true (qJ4_7)
          obtain ⟨i016, hi016, _, hsz16, _⟩ := info_parts info36
          have hroom16 : l0.length ≤ c0 := HC0.out
          have hC16 : Kd.C k36 _ A0 l0.length l0 := HR0.out
          have hcut16 := cut_to (P := Try.prog) 27 36 .i64 Try.underlying27 hi016 A0 l0.length c0 x6_2 (of_decide_eq_true (qJ4_7)) q16 hroom16
          have hr16 := Kd.C_take (m := (x6_2 : Int).toNat) hC16 (by omega)
          have hy16 : y201.length = (x6_2 : Int).toNat := (by rw [Ny201.out, List.length_take]; omega)
          rw [← Ny201.out] at hr16
          rw [← hy16] at hcut16
          have HR204 := Aside0.mk hr16
          have HC204 := Aside0.mk (show y201.length ≤ c0 from by omega)
          clear hr16 hC16 hroom16 hi016 hsz16; have KY16 := Aside0.mk hy16; clear hy16
          replace q16 := eq_true q16
          go_wp2_with (first | ((with_reducible refine gate_callee (f := 39) rfl ?_); refine goesL_ (some 29) rfl rfl Try.func39 (by kernel_rfl) rfl #[.slice A0 y201.length c0, .slice A1 l1.length c1] rfl (qJ4_1) ?_; (with_reducible refine (impl_bestRigging.calls _ _ y201 _ _ l1 t205 t206 true _ ?side1 ?side2 ?side3 ?side4 A14.out).mono ?_); (case side1 => exact (qJ4_10)); (case side2 => exact HC204.out); (case side3 => exact (qJ4_5)); (case side4 => exact HC1.out); rintro e w17 ⟨v208, rfl, ho0, hb⟩; refine ⟨_, rfl, ?_⟩; have n0_ := Aside0.mk (Kd.R_lower ho0 (below_size (qJ4_0))); have n1_ := Aside0.mk (below_step (qJ4_0) hb); clear HB; have HO209 := n0_; have HB := n1_; clear n0_ n1_; (try clear hb); (try clear hb2); (try clear hk); (try clear hi); (try clear ho0)))
          go_ret2
          exact ⟨(qJ4_9), (qJ4_0)⟩
         ·replace c15 := Bool.eq_false_iff.mpr c15
          subst c15
          have H1 : (impl_DeepestFirst.l0 k2 l0 l1 (wrap64 (x6_2 - 1))) = some (r1, r2) := by rw [if_neg (show ¬ (false = true) by decide)] at H; exact H
          clear H; have H := H1; clear H1
          have H' := Aside0.mk H
          clear H
          have q18 : (x6_2 : Int) ≤ ((l0.length : Int) : Int) := of_decide_eq_true (qJ4_7)
          obtain ⟨i018, hi018, _, hsz18, _⟩ := info_parts info36
          have hroom18 : l0.length ≤ c0 := HC0.out
          have hC18 : Kd.C k36 _ A0 l0.length l0 := HR0.out
          have hcut18 := cut_to (P := Try.prog) 27 36 .i64 Try.underlying27 hi018 A0 l0.length c0 x6_2 (of_decide_eq_true (qJ4_7)) q18 hroom18
          have hr18 := Kd.C_take (m := (x6_2 : Int).toNat) hC18 (by omega)
          have hy18 : y201.length = (x6_2 : Int).toNat := (by rw [Ny201.out, List.length_take]; omega)
          rw [← Ny201.out] at hr18
          rw [← hy18] at hcut18
          have HR204 := Aside0.mk hr18
          have HC204 := Aside0.mk (show y201.length ≤ c0 from by omega)
          clear hr18 hC18 hroom18 hi018 hsz18; have KY18 := Aside0.mk hy18; clear hy18
          replace q18 := eq_true q18
          go_wp2_with (first | ((with_reducible refine gate_callee (f := 39) rfl ?_); refine goesL_ (some 29) rfl rfl Try.func39 (by kernel_rfl) rfl #[.slice A0 y201.length c0, .slice A1 l1.length c1] rfl (qJ4_1) ?_; (with_reducible refine (impl_bestRigging.calls _ _ y201 _ _ l1 t205 t206 false _ ?side1 ?side2 ?side3 ?side4 A14.out).mono ?_); (case side1 => exact (qJ4_10)); (case side2 => exact HC204.out); (case side3 => exact (qJ4_5)); (case side4 => exact HC1.out); rintro e w19 ⟨v208, rfl, ho0, hb⟩; refine ⟨_, rfl, ?_⟩; have n0_ := Aside0.mk (Kd.R_lower ho0 (below_size (qJ4_0))); have n1_ := Aside0.mk (below_step (qJ4_0) hb); clear HB; have HO209 := n0_; have HB := n1_; clear n0_ n1_; (try clear hb); (try clear hb2); (try clear hk); (try clear hi); (try clear ho0)))
          go_roundg k2
          case measure => have := HJ2.out; have := HK2.out; omega
          case rel => exact ⟨(wrap64 (x6_2 - 1)), (qJ4_3), H', ⟨by have := HJ2.out; have := HK2.out; omega⟩, ⟨(qJ4_0)⟩⟩
        ·rw [if_neg c13] at H
         exact absurd H (by simp)
       ·rw [if_neg c12] at H
        exact absurd H (by simp)
      ·rw [if_neg c11] at H
       have c11b0 : decide (0 < x6_2) = false := decide_eq_false c11
       clear c11
       simp only [Option.some.injEq, Prod.mk.injEq] at H
       obtain ⟨rfl, rfl⟩ := H
       go_wp2
       go_ret2
       exact ⟨(qJ4_9), (qJ4_0)⟩

end Go.Proofs.Ytfjpbochanekoaa.MJ
