-- Written by a program of this session (wip/drv.py) out of Lean's own print of the loaded program; hand-proved parts from wip/inj.
import Derived.Test.YtppekffbjfjhfaaMAx0
import Derived.Test.YtppekffbjfjhfaaMAx3
import Derived.Test.YtppekffbjfjhfaaMAx15
namespace Go.Proofs.Ytppekffbjfjhfaa.MA
open Go.RowKit Go.Proofs.YtppekffbjfjhfaaW.PrintWords Go.Proofs.YtppekffbjfjhfaaW.PrintLast Go.Proofs.YtppekffbjfjhfaaW.PrintMore
attribute [local go_sem] max2_int min2_int max_two min_two max_three min_three max_four min_four   -- for this text's walks alone
set_option linter.unusedVariables false
set_option linter.unusedSimpArgs false

/-! ### impl_FoldedWidth: function 32 (by hand: wip/inj) -/
def idxF {α : Type} (p : α → Bool) : List α → Int → Int
  | [], _ => -1
  | x :: l, i => if p x then i else idxF p l (i + 1)
theorem idxF_step {α : Type} (p : α → Bool) (l : List α) (d : α) (x : Int) (h0 : 0 ≤ x) (h1 : x < l.length) (hm : l.length ≤ 9223372036854775807) :
    idxF p (l.drop x.toNat) x = if p (l.getD x.toNat d) then x else idxF p (l.drop (wrap64 (x + 1)).toNat) (wrap64 (x + 1)) := by
  have hw : wrap64 (x + 1) = x + 1 := by unfold wrap64; omega
  have hl : x.toNat < l.length := by omega
  rw [hw, List.drop_eq_getElem_cons hl, show (x + 1).toNat = x.toNat + 1 by omega]
  simp only [idxF, List.getD_eq_getElem?_getD, List.getElem?_eq_getElem hl, Option.getD_some]
theorem idxF_end {α : Type} (p : α → Bool) (l : List α) (x : Int) (h1 : ¬ x < l.length) : idxF p (l.drop x.toNat) x = -1 := by
  rw [List.drop_eq_nil_of_le (by omega)]
  rfl
theorem idxF_ge {α : Type} (p : α → Bool) : ∀ (l : List α) (i : Int), 0 ≤ i → decide (0 ≤ idxF p l i) = l.any p
  | [], _, _ => by simp [idxF]
  | x :: l, i, hi => by
    by_cases h : p x = true
    · simp [idxF, h, hi]
    · simp only [Bool.not_eq_true] at h
      simp [idxF, h, idxF_ge p l (i + 1) (by omega)]
theorem idxF_range {α : Type} (p : α → Bool) : ∀ (l : List α) (i : Int), idxF p l i = -1 ∨ (i ≤ idxF p l i ∧ idxF p l i < i + l.length)
  | [], _ => .inl rfl
  | x :: l, i => by
    by_cases h : p x = true
    · right
      simp [idxF, h]
      omega
    · simp only [Bool.not_eq_true] at h
      simp only [idxF, h]
      rcases idxF_range p l (i + 1) with h | h
      · left
        simpa using h
      · right
        simp only [List.length_cons]
        simp
        omega
set_option maxHeartbeats 8000000 in
set_option maxRecDepth 100000 in
theorem impl_FoldedWidth_idx.calls (caps : Array Value) (p : Int → Bool) (A0 : Option Addr) (c0 : Nat) (l0 : List (Int)) (w : World) (hr0 : Kd.C (Kd.int .i64) w A0 l0.length l0) (hc0 : l0.length ≤ c0)
    (hp : ∀ x W, Below w.heap.size w W → Calls Try.prog 60 (#[.int .i64 x] ++ caps) W fun e W' => e = .returned (.bool (p x)) ∧ Below W.heap.size W W') :
    Calls Try.prog 71 #[.slice A0 l0.length c0, .func (.func 60) #[] caps] w fun e w' => e = .returned (.int .i64 (idxF p l0 0)) ∧ Below w.heap.size w w' := by
  have HR0 := Aside0.mk hr0
  have HC0 := Aside0.mk hc0
  have HP := Aside0.mk hp
  have HM := Aside0.mk hr0.2.1
  clear hr0 hc0 hp
  go_enter Try.func71, Try.ntmps71
  go_wp2
  go_loopg [8] l0.length (fun kq v8 w' => ∃ x : Int, v8 = .int .i64 x ∧ Aside0 (0 ≤ x ∧ kq + x.toNat = l0.length ∧ idxF p l0 0 = idxF p (l0.drop x.toNat) x) ∧ Aside0 (Below w.heap.size w w'))
  case atStart => exact ⟨0, rfl, ⟨by simp⟩, ⟨Below.refl _ _⟩⟩
  case round =>
    obtain ⟨x, rfl, HA, HB⟩ := hrel
    by_cases hlt : x < (l0.length : Int)
    · have c0 : decide (x < (l0.length : Int)) = true := decide_eq_true hlt
      have c1 : decide (0 ≤ x) = true := decide_eq_true HA.out.1
      obtain ⟨ad, e, hx⟩ := Kd.at_int (Kd.C_below HR0.out HB.out) x HA.out.1 hlt
      cases e
      have HLT := Aside0.mk hlt
      have p1 := eq_true HA.out.1
      have q1 := eq_true hlt
      clear hlt
      obtain ⟨k1, rfl⟩ : ∃ k1, gk = k1 + 1 := ⟨gk - 1, by have := HA.out; have := HLT.out; omega⟩
      have HS := Aside0.mk (HA.out.2.2.trans (idxF_step p l0 0 x HA.out.1 HLT.out HM.out))
      cases hq : p (rd l0 x) with
      | true =>
        have HQ := Aside0.mk hq
        go_wp2_with (go_at_call 60; refine (HP.out _ _ HB.out).mono ?_; rintro e w1 ⟨rfl, hb⟩)
        go_ret
        exact ⟨by rw [HS.out, show p (l0.getD x.toNat 0) = true from HQ.out]; rfl, Below.trans HB.out (hb.mono HB.out.size)⟩
      | false =>
        have HQ := Aside0.mk hq
        go_wp2_with (go_at_call 60; refine (HP.out _ _ HB.out).mono ?_; rintro e w1 ⟨rfl, hb⟩)
        go_roundg k1
        case measure => omega
        case rel => exact ⟨wrap64 (x + 1), rfl, ⟨by have := HA.out; have := HLT.out; have := HM.out; unfold wrap64; omega, by have := HA.out; have := HLT.out; have := HM.out; unfold wrap64; omega, by rw [HS.out, show p (l0.getD x.toNat 0) = false from HQ.out]; rfl⟩, ⟨Below.trans HB.out (hb.mono HB.out.size)⟩⟩
    · have c0 : decide (x < (l0.length : Int)) = false := decide_eq_false hlt
      have HS := Aside0.mk (HA.out.2.2.trans (idxF_end p l0 x hlt))
      clear hlt
      go_wp2
      go_ret
      exact ⟨by rw [HS.out]; rfl, HB.out⟩
set_option maxHeartbeats 8000000 in
set_option maxRecDepth 100000 in
theorem impl_FoldedWidth_cont.calls (caps : Array Value) (p : Int → Bool) (A0 : Option Addr) (c0 : Nat) (l0 : List (Int)) (w : World) (hr0 : Kd.C (Kd.int .i64) w A0 l0.length l0) (hc0 : l0.length ≤ c0)
    (hp : ∀ x W, Below w.heap.size w W → Calls Try.prog 60 (#[.int .i64 x] ++ caps) W fun e W' => e = .returned (.bool (p x)) ∧ Below W.heap.size W W') :
    Calls Try.prog 59 #[.slice A0 l0.length c0, .func (.func 60) #[] caps] w fun e w' => e = .returned (.bool (l0.any p)) ∧ Below w.heap.size w w' := by
  have HI := Aside0.mk (impl_FoldedWidth_idx.calls caps p A0 c0 l0 w hr0 hc0 hp)
  clear hr0 hc0 hp
  go_enter Try.func59, Try.ntmps59
  go_wp2_with (go_at_call 71; refine HI.out.mono ?_; rintro e w1 ⟨rfl, hb⟩)
  go_ret
  exact ⟨by rw [← idxF_ge p l0 0 (by omega)]; rfl, hb⟩
def impl_FoldedWidth.bad (x : Int) : Bool := x != 1 && x != -1
theorem impl_FoldedWidth.bad_eq (x : Int) : impl_FoldedWidth_1.f x = some (impl_FoldedWidth.bad x) := by
  unfold impl_FoldedWidth_1.f impl_FoldedWidth.bad
  by_cases h1 : x = 1 <;> by_cases h2 : x = -1 <;> simp [h1, h2]
def impl_FoldedWidth.f (k : Nat) (l0 : List (S57)) (l1 : List Int) : Option (Int × Bool) := (impl_IsWay.f k l0).bind fun t => if (t && (decide (l1.length = l0.length) && !(l1.any impl_FoldedWidth.bad))) = true then ((impl_foldedWidth.f k l0 l1).bind fun v => some (v, true)) else some (0, false)
theorem impl_FoldedWidth.mono : ∀ a0 a1 k, LeO (impl_FoldedWidth.f k a0 a1) (impl_FoldedWidth.f (k + 1) a0 a1) := by
  intro a0 a1 k
  unfold impl_FoldedWidth.f
  repeat' first
      | (with_reducible exact impl_IsWay.mono _ _)
      | (with_reducible exact impl_foldedWidth.mono _ _ _)
      | (with_reducible exact LeO.refl _)
      | (with_reducible exact LeO.none _)
      | (with_reducible refine LeO.ite ?_ ?_)
      | (with_reducible refine LeO.bind ?_ (fun _ => ?_))
      | exact impl_IsWay.mono _ _
      | exact impl_foldedWidth.mono _ _ _
      | exact LeO.none _
      | refine LeO.ite ?_ ?_
      | refine LeO.bind ?_ (fun _ => ?_)
set_option maxHeartbeats 8000000 in
set_option maxRecDepth 100000 in
theorem impl_FoldedWidth.calls (k : Nat) (A0 : Option Addr) (c0 : Nat) (l0 : List (S57)) (A1 : Option Addr) (c1 : Nat) (l1 : List Int) (r1 : Int) (r2 : Bool) (w : World) (hr0 : Kd.C k57 w A0 l0.length l0) (hc0 : l0.length ≤ c0) (hr1 : Kd.C (Kd.int .i64) w A1 l1.length l1) (hc1 : l1.length ≤ c1) (h : impl_FoldedWidth.f k l0 l1 = some (r1, r2)) :
    Calls Try.prog 32 #[.slice A0 l0.length c0, .slice A1 l1.length c1] w fun e w' => e = .returned (.tuple #[.int .i64 r1, .bool r2]) ∧ Below w.heap.size w w' := by
  obtain ⟨t, ht, h⟩ := Option.bind_eq_some_iff.mp h
  have HL := Aside0.mk (impl_IsWay.calls k A0 c0 l0 t w hr0 hc0 ht)
  have HC := Aside0.mk (fun w1 (hb : Below w.heap.size w w1) => impl_FoldedWidth_cont.calls #[] impl_FoldedWidth.bad A1 c1 l1 w1 (Kd.C_below hr1 hb) hc1 (fun x W _ => (impl_FoldedWidth_1.calls x _ W (impl_FoldedWidth.bad_eq x)).mono fun e W' he => ⟨he.1, he.2.below⟩))
  have HF := Aside0.mk (fun v w1 (hb : Below w.heap.size w w1) (hv : impl_foldedWidth.f k l0 l1 = some v) => impl_foldedWidth.calls k A0 c0 l0 A1 c1 l1 v w1 (Kd.C_below hr0 hb) hc0 (Kd.C_below hr1 hb) hc1 hv)
  have HM0 := Aside0.mk hr0.2.1
  have HM1 := Aside0.mk hr1.2.1
  clear hr0 hc0 hr1 hc1 ht
  cases t with
  | false =>
    simp only [Bool.false_and, Bool.false_eq_true, if_false, Option.some.injEq, Prod.mk.injEq] at h
    obtain ⟨rfl, rfl⟩ := h
    go_enter Try.func32, Try.ntmps32
    go_wp2_with (go_at_call 16; refine HL.out.mono ?_; rintro e w1 ⟨rfl, hb⟩)
    go_ret2
    exact ⟨rfl, hb⟩
  | true =>
    by_cases hl : l1.length = l0.length
    · have d0 : ((l1.length : Int) != (l0.length : Int)) = false := bne_eq_false_iff_eq.2 (by omega)
      have d1 : (l1.length != l0.length) = false := bne_eq_false_iff_eq.2 hl
      have d2 : ((l1.length : Int) == (l0.length : Int)) = true := beq_iff_eq.2 (by omega)
      have d3 : (l1.length == l0.length) = true := beq_iff_eq.2 hl
      simp only [hl, decide_true, Bool.true_and] at h
      have D2 := Aside0.mk hl
      clear hl
      cases ha : l1.any impl_FoldedWidth.bad with
      | true =>
        simp only [ha, Bool.not_true, Bool.false_eq_true, if_false, Option.some.injEq, Prod.mk.injEq] at h
        obtain ⟨rfl, rfl⟩ := h
        have HA := Aside0.mk ha
        simp only [ha] at HC
        clear ha
        go_enter Try.func32, Try.ntmps32
        go_wp2_with (first | (go_at_call 16; refine HL.out.mono ?_; rintro e w1 ⟨rfl, hb⟩; have HB := Aside0.mk hb; clear hb) | (go_at_call 59; refine (HC.out _ HB.out).mono ?_; rintro e w2 ⟨rfl, hb2⟩))
        go_ret2
        exact ⟨rfl, HB.out.trans (hb2.mono HB.out.size)⟩
      | false =>
        simp only [ha, Bool.not_false, if_true] at h
        obtain ⟨v, hv, h⟩ := Option.bind_eq_some_iff.mp h
        simp only [Option.some.injEq, Prod.mk.injEq] at h
        obtain ⟨rfl, rfl⟩ := h
        have HV := Aside0.mk hv
        simp only [ha] at HC
        clear ha hv
        go_enter Try.func32, Try.ntmps32
        go_wp2_with (first | (go_at_call 16; refine HL.out.mono ?_; rintro e w1 ⟨rfl, hb⟩; have HB := Aside0.mk hb; clear hb) | (go_at_call 59; refine (HC.out _ HB.out).mono ?_; rintro e w2 ⟨rfl, hb2⟩; have HB2 := Aside0.mk (HB.out.trans (hb2.mono HB.out.size)); clear hb2) | (go_at_call 61; refine (HF.out _ _ HB2.out HV.out).mono ?_; rintro e w3 ⟨rfl, hb3⟩))
        go_ret2
        exact ⟨rfl, HB2.out.trans (hb3.mono HB2.out.size)⟩
    · have d0 : ((l1.length : Int) != (l0.length : Int)) = true := bne_iff_ne.2 (by omega)
      have d1 : (l1.length != l0.length) = true := bne_iff_ne.2 hl
      have d2 : ((l1.length : Int) == (l0.length : Int)) = false := beq_eq_false_iff_ne.2 (by omega)
      have d3 : (l1.length == l0.length) = false := beq_eq_false_iff_ne.2 hl
      simp only [hl, decide_false, Bool.false_and, Bool.and_false, Bool.false_eq_true, if_false, Option.some.injEq, Prod.mk.injEq] at h
      obtain ⟨rfl, rfl⟩ := h
      clear hl
      go_enter Try.func32, Try.ntmps32
      go_wp2_with (go_at_call 16; refine HL.out.mono ?_; rintro e w1 ⟨rfl, hb⟩)
      go_ret2
      exact ⟨rfl, hb⟩


/-! ### laws_eqIntS: function 33 -/
def laws_eqIntS.l0 : Nat → List Int → List Int → Int → Option (Bool)
  | 0, _, _, _ => none
  | k + 1, x0, x1, x5 => if x5 < (x0.length : Int) then (if 0 ≤ x5 then (if x5 < (x1.length : Int) then (if (rd x0 x5) = (rd x1 x5) then (laws_eqIntS.l0 k x0 x1 (wrap64 (x5 + 1))) else (some false)) else (none)) else (none)) else (some true)
def laws_eqIntS.f (k : Nat) (l0 : List Int) (l1 : List Int) : Option (Bool) := if (l0.length : Int) = (l1.length : Int) then (laws_eqIntS.l0 k l0 l1 0) else (some false)
theorem laws_eqIntS.mono_l : ∀ k, (∀ y0 y1 y2, LeO (laws_eqIntS.l0 k y0 y1 y2) (laws_eqIntS.l0 (k + 1) y0 y1 y2))
  | 0 => fun _ _ _ r h => by simp [laws_eqIntS.l0] at h
  | k + 1 => by
    have ih0 := laws_eqIntS.mono_l k
    · intro y0 y1 y2
      unfold laws_eqIntS.l0
      repeat' first
      | (with_reducible exact ih0 _ _ _)
      | (with_reducible exact LeO.refl _)
      | (with_reducible exact LeO.none _)
      | (with_reducible refine LeO.ite ?_ ?_)
      | (with_reducible refine LeO.bind ?_ (fun _ => ?_))
      | exact ih0 _ _ _
      | exact LeO.none _
      | refine LeO.ite ?_ ?_
      | refine LeO.bind ?_ (fun _ => ?_)
theorem laws_eqIntS.mono : ∀ a0 a1 k, LeO (laws_eqIntS.f k a0 a1) (laws_eqIntS.f (k + 1) a0 a1) := by
  intro a0 a1 k
  have ih0 := laws_eqIntS.mono_l k
  unfold laws_eqIntS.f
  repeat' first
      | (with_reducible exact ih0 _ _ _)
      | (with_reducible exact LeO.refl _)
      | (with_reducible exact LeO.none _)
      | (with_reducible refine LeO.ite ?_ ?_)
      | (with_reducible refine LeO.bind ?_ (fun _ => ?_))
      | exact ih0 _ _ _
      | exact LeO.none _
      | refine LeO.ite ?_ ?_
      | refine LeO.bind ?_ (fun _ => ?_)
set_option maxHeartbeats 8000000 in
set_option maxRecDepth 100000 in
theorem laws_eqIntS.calls (k : Nat) (A0 : Option Addr) (c0 : Nat) (l0 : List Int) (A1 : Option Addr) (c1 : Nat) (l1 : List Int) (r : Bool) (w : World) (hr0 : Kd.C (Kd.int .i64) w A0 l0.length l0) (hc0 : l0.length ≤ c0) (hr1 : Kd.C (Kd.int .i64) w A1 l1.length l1) (hc1 : l1.length ≤ c1) (h : laws_eqIntS.f k l0 l1 = some r) :
    Calls Try.prog 33 #[.slice A0 l0.length c0, .slice A1 l1.length c1] w fun e w' => e = .returned (.bool r) ∧ Drawn0 w w' := by
  have HR0 := Aside0.mk hr0
  have HC0 := Aside0.mk hc0
  clear hr0 hc0
  have HR1 := Aside0.mk hr1
  have HC1 := Aside0.mk hc1
  clear hr1 hc1
  have H : (if (l0.length : Int) = (l1.length : Int) then (laws_eqIntS.l0 k l0 l1 0) else (some false)) = some r := h
  clear h
  by_cases c3 : (l0.length : Int) = (l1.length : Int)
  · rw [if_pos c3] at H
    have c3b0 : ((l0.length : Int) == (l1.length : Int)) = true := beq_iff_eq.mpr c3
    have c3b1 : ((l0.length : Int) != (l1.length : Int)) = false := bne_eq_false_iff_eq.mpr c3
    have c3b2 : (l0.length == l1.length) = true := by first | simpa using c3 | (simp at c3 ⊢; omega)
    clear c3
    have H' := Aside0.mk H
    clear H
    go_enter Try.func33, Try.ntmps33
    go_wp2
    repeat (go_quiet (fail); try go_wp2)
    go_loopg [5] k (fun kq v5 w' => ∃ (x5_1 : Int), v5 = .int .i64 x5_1 ∧ Aside0 (laws_eqIntS.l0 kq l0 l1 x5_1 = some r) ∧ Aside0 (kq ≤ k) ∧ Drawn0 w w')
    case atStart => exact ⟨(0), (by first | rfl | (simp; done) | (simp [*]; done)), H', ⟨Nat.le_refl _⟩, by repeat (first | exact Drawn0.refl _ | apply Drawn0.step)⟩
    case round =>
      clear H'
      try clear c1
      try clear p2
      try clear c3
      try clear c3b0
      try clear c3b1
      try clear c3b2
      obtain ⟨x5_1, rfl, HA, HK1, ⟨m1, rfl⟩⟩ := hrel
      cases gk with
      | zero => exact absurd HA.out (by simp [laws_eqIntS.l0])
      | succ k1 =>
        have H := HA.out
        clear HA
        simp only [laws_eqIntS.l0] at H
        by_cases c4 : x5_1 < (l0.length : Int)
        · rw [if_pos c4] at H
          have c4b0 : decide (x5_1 < (l0.length : Int)) = true := decide_eq_true c4
          clear c4
          by_cases c5 : 0 ≤ x5_1
          · rw [if_pos c5] at H
            have c5b0 : decide (0 ≤ x5_1) = true := decide_eq_true c5
            clear c5
            by_cases c6 : x5_1 < (l1.length : Int)
            · rw [if_pos c6] at H
              have c6b0 : decide (x5_1 < (l1.length : Int)) = true := decide_eq_true c6
              clear c6
              by_cases c7 : (rd l0 x5_1) = (rd l1 x5_1)
              · rw [if_pos c7] at H
                have c7b0 : ((rd l0 x5_1) == (rd l1 x5_1)) = true := beq_iff_eq.mpr c7
                have c7b1 : ((rd l0 x5_1) != (rd l1 x5_1)) = false := bne_eq_false_iff_eq.mpr c7
                clear c7
                have H' := Aside0.mk H
                clear H
                have p296 : 0 ≤ (x5_1 : Int) := of_decide_eq_true (by first | (with_reducible assumption) | assumption)
                have q296 : x5_1 < (l0.length : Int) := of_decide_eq_true (by first | (with_reducible assumption) | assumption)
                obtain ⟨ad296, e296, hx296_0⟩ := Kd.at_int HR0.out x5_1 p296 q296
                cases e296
                replace p296 := eq_true p296
                replace q296 := eq_true q296
                have p297 : 0 ≤ (x5_1 : Int) := of_decide_eq_true (by first | (with_reducible assumption) | assumption)
                have q297 : x5_1 < (l1.length : Int) := of_decide_eq_true (by first | (with_reducible assumption) | assumption)
                obtain ⟨ad297, e297, hx297_0⟩ := Kd.at_int HR1.out x5_1 p297 q297
                cases e297
                replace p297 := eq_true p297
                replace q297 := eq_true q297
                go_wp2
                repeat (go_quiet (fail); try go_wp2)
                go_roundg k1
                case measure => have := HK1.out; omega
                case rel => exact ⟨(wrap64 (x5_1 + 1)), (by first | rfl | (simp; done) | (simp [*]; done)), H', ⟨by have := HK1.out; omega⟩, by repeat (first | exact Drawn0.refl _ | apply Drawn0.step)⟩
              · rw [if_neg c7] at H
                have c7b0 : ((rd l0 x5_1) == (rd l1 x5_1)) = false := beq_eq_false_iff_ne.mpr c7
                have c7b1 : ((rd l0 x5_1) != (rd l1 x5_1)) = true := bne_iff_ne.mpr c7
                obtain rfl := Option.some.inj H
                have p296 : 0 ≤ (x5_1 : Int) := of_decide_eq_true (by first | (with_reducible assumption) | assumption)
                have q296 : x5_1 < (l0.length : Int) := of_decide_eq_true (by first | (with_reducible assumption) | assumption)
                obtain ⟨ad296, e296, hx296_0⟩ := Kd.at_int HR0.out x5_1 p296 q296
                cases e296
                replace p296 := eq_true p296
                replace q296 := eq_true q296
                have p297 : 0 ≤ (x5_1 : Int) := of_decide_eq_true (by first | (with_reducible assumption) | assumption)
                have q297 : x5_1 < (l1.length : Int) := of_decide_eq_true (by first | (with_reducible assumption) | assumption)
                obtain ⟨ad297, e297, hx297_0⟩ := Kd.at_int HR1.out x5_1 p297 q297
                cases e297
                replace p297 := eq_true p297
                replace q297 := eq_true q297
                go_wp2
                repeat (go_quiet (fail); try go_wp2)
                go_ret
                exact ⟨by first | rfl | (simp; done) | (simp [*]; done), by repeat (first | exact Drawn0.refl _ | apply Drawn0.step)⟩
            · rw [if_neg c6] at H
              exact absurd H (by simp)
          · rw [if_neg c5] at H
            exact absurd H (by simp)
        · rw [if_neg c4] at H
          have c4b0 : decide (x5_1 < (l0.length : Int)) = false := decide_eq_false c4
          clear c4
          obtain rfl := Option.some.inj H
          go_wp2
          repeat (go_quiet (fail); try go_wp2)
          go_ret
          exact ⟨by first | rfl | (simp; done) | (simp [*]; done), by repeat (first | exact Drawn0.refl _ | apply Drawn0.step)⟩
  · rw [if_neg c3] at H
    have c3b0 : ((l0.length : Int) == (l1.length : Int)) = false := beq_eq_false_iff_ne.mpr c3
    have c3b1 : ((l0.length : Int) != (l1.length : Int)) = true := bne_iff_ne.mpr c3
    have c3b2 : (l0.length == l1.length) = false := by first | simpa using c3 | (simp at c3 ⊢; omega)
    obtain rfl := Option.some.inj H
    go_enter Try.func33, Try.ntmps33
    go_wp2
    repeat (go_quiet (fail); try go_wp2)
    go_ret
    exact ⟨by first | rfl | (simp; done) | (simp [*]; done), by repeat (first | exact Drawn0.refl _ | apply Drawn0.step)⟩

end Go.Proofs.Ytppekffbjfjhfaa.MA
