-- Written by a program of this session (wip/drv.py) out of Lean's own print of the loaded program; hand-proved parts from wip/inj.
import Derived.Test.YtdfmjmmiepmplaaMVx0
import Derived.Test.YtdfmjmmiepmplaaMVx1
import Derived.Test.YtdfmjmmiepmplaaMVx4
import Derived.Test.YtdfmjmmiepmplaaMVx6
namespace Go.Proofs.Ytdfmjmmiepmplaa.MV
open Go.RowKit Go.Proofs.YtdfmjmmiepmplaaW.PrintWords Go.Proofs.YtdfmjmmiepmplaaW.PrintLast Go.Proofs.YtdfmjmmiepmplaaW.PrintMore
attribute [local go_sem] max2_int min2_int max_two min_two max_three min_three max_four min_four   -- for this text's walks alone
set_option linter.unusedVariables false
set_option linter.unusedSimpArgs false

/-! ### laws_markIntSS: function 35 (by hand: wip/inj) -/
def laws_markIntSS.l0 : Nat → List (List Int) → Int → Int → Option (Int × List (List Int))
  | 0, _, _, _ => none
  | k + 1, x0, x1, x5 => if x5 < (x0.length : Int) then (if 0 ≤ x5 then ((laws_markIntS.f k (rd_L3 x0 x5) x1).bind fun t => (laws_markIntSS.l0 k (x0.set (x5 : Int).toNat t.2) t.1 (wrap64 (x5 + 1)))) else (none)) else (some (x1, x0))
def laws_markIntSS.f (k : Nat) (l0 : List (List Int)) (a1 : Int) : Option (Int × List (List Int)) := laws_markIntSS.l0 k l0 a1 0
theorem laws_markIntSS.mono_l : ∀ k, (∀ y0 y1 y2, LeO (laws_markIntSS.l0 k y0 y1 y2) (laws_markIntSS.l0 (k + 1) y0 y1 y2))
  | 0 => fun _ _ _ r h => by simp [laws_markIntSS.l0] at h
  | k + 1 => by
    have ih0 := laws_markIntSS.mono_l k
    intro y0 y1 y2
    unfold laws_markIntSS.l0
    exact LeO.ite (LeO.ite (LeO.bind (laws_markIntS.mono _ _ _) (fun _ => ih0 _ _ _)) (LeO.none _)) (LeO.refl _)
theorem laws_markIntSS.mono : ∀ a0 a1 k, LeO (laws_markIntSS.f k a0 a1) (laws_markIntSS.f (k + 1) a0 a1) := fun _ _ k => laws_markIntSS.mono_l k _ _ _
set_option maxHeartbeats 8000000 in
set_option maxRecDepth 100000 in
theorem laws_markIntSS.calls (k : Nat) (P0_ : Nat → Prop) (u9000_ : Value) (l0 : List (List Int)) (a1 : Int) (r1 : Int) (r2 : List (List Int)) (w0 w : World) (hB : Below w0.heap.size w0 w) (ho0 : Kd.S (Kd.slice 3 (Kd.int .i64)) 35 w w0.heap.size P0_ u9000_ l0) (h : laws_markIntSS.f k l0 a1 = some (r1, r2)) :
    Calls Try.prog 35 #[u9000_, .int .i64 a1] w fun e w' => e = .returned (.int .i64 r1) ∧ Kd.S (Kd.slice 3 (Kd.int .i64)) 35 w' w0.heap.size (fun k_ => (P0_ k_ ∨ w.heap.size ≤ k_)) u9000_ r2 ∧ Below w0.heap.size w0 w' ∧ Kept w w' (fun k_ => P0_ k_) := by
  have HO0 := Aside0.mk (show Kd.S (Kd.slice 3 (Kd.int .i64)) 35 w w0.heap.size (fun k_ => (P0_ k_ ∨ w.heap.size ≤ k_)) u9000_ l0 from Kd.S_mono ho0 (fun k_ hk => (.inl hk)))
  have HK := Aside0.mk (Kept.refl w (fun k_ => P0_ k_))
  have HB := Aside0.mk hB
  clear hB
  have H : (laws_markIntSS.l0 k l0 a1 0) = some (r1, r2) := h
  clear h
  have H' := Aside0.mk H
  clear H
  go_enter Try.func35, Try.ntmps35
  go_wp2
  go_loopg [1, 5] k (fun kq v1 v5 w' => ∃ (x0_1 : List (List Int)) (x1_1 : Int) (x5_1 : Int), v1 = .int .i64 x1_1 ∧ v5 = .int .i64 x5_1 ∧ Aside0 (laws_markIntSS.l0 kq x0_1 x1_1 x5_1 = some (r1, r2)) ∧ Aside0 (Kd.S (Kd.slice 3 (Kd.int .i64)) 35 w' w0.heap.size (fun k_ => (P0_ k_ ∨ w.heap.size ≤ k_)) u9000_ x0_1) ∧ Aside0 (Kept w w' (fun k_ => P0_ k_)) ∧ Aside0 (Below w0.heap.size w0 w'))
  case atStart => exact ⟨l0, a1, 0, rfl, rfl, H', HO0, HK, HB⟩
  case round =>
    clear H'
    obtain ⟨x0_1, x1_1, x5_1, rfl, rfl, HA, HO_0, HK, HB⟩ := hrel
    cases gk with
    | zero => exact absurd HA.out (by simp [laws_markIntSS.l0])
    | succ k1 =>
      have H := HA.out
      clear HA
      simp only [laws_markIntSS.l0] at H
      by_cases c3 : x5_1 < (x0_1.length : Int)
      · rw [if_pos c3] at H
        have c3b0 : decide (x5_1 < (x0_1.length : Int)) = true := decide_eq_true c3
        clear c3
        by_cases c4 : 0 ≤ x5_1
        · rw [if_pos c4] at H
          have c4b0 : decide (0 ≤ x5_1) = true := decide_eq_true c4
          clear c4
          obtain ⟨⟨t1, t2⟩, ht, H⟩ := Option.bind_eq_some_iff.mp H
          obtain ⟨y235, hy235⟩ : ∃ y_ : List (List Int), y_ = (x0_1.set (x5_1 : Int).toNat t2) := ⟨_, rfl⟩
          have H' : Aside0 (laws_markIntSS.l0 k1 y235 t1 (wrap64 (x5_1 + 1)) = some (r1, r2)) := ⟨by rw [hy235]; exact H⟩
          clear H
          have p5 : 0 ≤ (x5_1 : Int) := of_decide_eq_true (by with_reducible assumption)
          have q5 : (x5_1 : Int) < ((x0_1.length : Int) : Int) := of_decide_eq_true (by with_reducible assumption)
          obtain ⟨go5, co5, eo5, gb5, gl5, cl5, HG5⟩ := Kd.S_form HO_0.out (by omega)
          (first | cases eo5 | (injection eo5 with ea_ en_ ec_; (first | subst ea_ | (injection ea_ with ea_; subst ea_)); subst ec_; clear en_))
          clear gb5 gl5 HG5
          obtain ⟨oki, cs, hcl, hM, hcc, hfr, hoki, hH⟩ := Kd.S_elem HO_0.out ([] : List Int) x5_1 p5 q5
          obtain ⟨vi, rfl, hRi⟩ := hM
          have ht : laws_markIntS.f k1 (x0_1.getD x5_1.toNat []) x1_1 = some (t1, t2) := ht
          obtain ⟨li, hli⟩ : ∃ l_, l_ = x0_1.getD x5_1.toNat [] := ⟨_, rfl⟩
          rw [← hli] at hRi ht
          clear hli
          have hx5 : wr.cell? ⟨go5, x5_1.toNat, none⟩ = some vi := by
            have := hcc 0 vi rfl
            rwa [show x5_1.toNat * (Kd.slice 3 (Kd.int .i64)).sz + 0 = x5_1.toNat from by show x5_1.toNat * 1 + 0 = _; omega] at this
          obtain ⟨Ai, ci, ei⟩ := Kd.R_slice hRi
          subst ei
          have HC := Aside0.mk (laws_markIntS.calls k1 oki _ li x1_1 t1 t2 w0 wr HB.out hRi ht)
          have HH := Aside0.mk hH
          have HI := Aside0.mk hoki
          have HOLD : Aside0 (∀ k_, (Value.slice Ai li.length ci).ownBlock = some k_ → oki k_) := ⟨hRi.1⟩
          have HOK := Aside0.mk HO_0.out
          have HY := Aside0.mk hy235
          replace p5 := eq_true p5
          replace q5 := eq_true q5
          clear hH hoki hRi ht hcl hcc hfr hy235
          go_wp2_with (go_at_call 29; refine HC.out.mono ?_; rintro e w2 ⟨rfl, hr2, hb2, hk2⟩; have n0_ : Aside0 (Kd.S (Kd.slice 3 (Kd.int .i64)) 35 w2 w0.heap.size (fun k_ => (P0_ k_ ∨ w.heap.size ≤ k_)) _ y235) := ⟨by rw [HY.out]; exact Kd.H_back (Kd.H_kept HH.out hk2 (fun _ _ h => h)) (okp := oki) (show (Kd.slice 3 (Kd.int .i64)).M w2 w0.heap.size oki t2 _ from ⟨_, rfl, Kd.R_reok rfl hr2 HOLD.out⟩) (fun _ h => h)⟩; have n1_ := Aside0.mk hb2; have n2_ : Aside0 (Kept w w2 (fun k_ => P0_ k_)) := ⟨HK.out.then_ hk2 (fun k_ h_ => (HI.out k_ h_).1)⟩; clear HO_0 HB HK HC HH; have HO_0 := n0_; have HB := n1_; have HK := n2_; clear n0_ n1_ n2_ hr2 hb2 hk2)
          go_roundg k1
          case measure => omega
          case rel => exact ⟨y235, t1, wrap64 (x5_1 + 1), rfl, rfl, H', HO_0, HK, HB⟩
        · rw [if_neg c4] at H
          exact absurd H (by simp)
      · rw [if_neg c3] at H
        have c3b0 : decide (x5_1 < (x0_1.length : Int)) = false := decide_eq_false c3
        clear c3
        simp only [Option.some.injEq, Prod.mk.injEq] at H
        obtain ⟨rfl, rfl⟩ := H
        obtain ⟨Ao9, co9, eo9⟩ := Kd.S_slice HO_0.out
        subst eo9
        go_wp2
        go_ret
        exact ⟨rfl, HO_0.out, HB.out, HK.out⟩


/-! ### laws_heldIntS: function 39 -/
def laws_heldIntS.l0 : Nat → List Int → Int → Int → Option (Int)
  | 0, _, _, _ => none
  | k + 1, x0, x1, x5 => if x5 < (x0.length : Int) then (if 0 ≤ x5 then (if (rd x0 x5) = x1 then (laws_heldIntS.l0 k x0 (wrap64 (x1 + 1)) (wrap64 (x5 + 1))) else (some (-1))) else (none)) else (some x1)
def laws_heldIntS.f (k : Nat) (l0 : List Int) (a1 : Int) : Option (Int) := laws_heldIntS.l0 k l0 a1 0
theorem laws_heldIntS.mono_l : ∀ k, (∀ y0 y1 y2, LeO (laws_heldIntS.l0 k y0 y1 y2) (laws_heldIntS.l0 (k + 1) y0 y1 y2))
  | 0 => fun _ _ _ r h => by simp [laws_heldIntS.l0] at h
  | k + 1 => by
    have ih0 := laws_heldIntS.mono_l k
    · intro y0 y1 y2
      unfold laws_heldIntS.l0
      repeat' first
      | (with_reducible exact ih0 _ _ _)
      | (with_reducible exact LeO.refl _)
      | (with_reducible exact LeO.none _)
      | (with_reducible refine LeO.ite ?_ ?_)
      | (with_reducible refine LeO.bind ?_ (fun _ => ?_))
      | exact ih0 _ _ _
      | exact LeO.none _
      | refine LeO.ite ?_ ?_
      | refine LeO.bind ?_ (fun _ => ?_)
theorem laws_heldIntS.mono : ∀ a0 a1 k, LeO (laws_heldIntS.f k a0 a1) (laws_heldIntS.f (k + 1) a0 a1) := by
  intro a0 a1 k
  have ih0 := laws_heldIntS.mono_l k
  unfold laws_heldIntS.f
  repeat' first
      | (with_reducible exact ih0 _ _ _)
      | (with_reducible exact LeO.refl _)
      | (with_reducible exact LeO.none _)
      | (with_reducible refine LeO.ite ?_ ?_)
      | (with_reducible refine LeO.bind ?_ (fun _ => ?_))
      | exact ih0 _ _ _
      | exact LeO.none _
      | refine LeO.ite ?_ ?_
      | refine LeO.bind ?_ (fun _ => ?_)
set_option maxHeartbeats 8000000 in
set_option maxRecDepth 100000 in
theorem laws_heldIntS.calls (k : Nat) (A0 : Option Addr) (c0 : Nat) (l0 : List Int) (a1 : Int) (r : Int) (w : World) (hr0 : Kd.C (Kd.int .i64) w A0 l0.length l0) (hc0 : l0.length ≤ c0) (h : laws_heldIntS.f k l0 a1 = some r) :
    Calls Try.prog 39 #[.slice A0 l0.length c0, .int .i64 a1] w fun e w' => e = .returned (.int .i64 r) ∧ Drawn0 w w' := by
  have HR0 := Aside0.mk hr0
  have HC0 := Aside0.mk hc0
  clear hr0 hc0
  have H : (laws_heldIntS.l0 k l0 a1 0) = some r := h
  clear h
  have H' := Aside0.mk H
  clear H
  go_enter Try.func39, Try.ntmps39
  go_wp2
  go_loopg [1, 5] k (fun kq v1 v5 w' => ∃ (x1_1 : Int) (x5_1 : Int), v1 = .int .i64 x1_1 ∧ v5 = .int .i64 x5_1 ∧ Aside0 (laws_heldIntS.l0 kq l0 x1_1 x5_1 = some r) ∧ Aside0 (kq ≤ k) ∧ Drawn0 w w')
  case atStart => exact ⟨(a1), (0), (by first | rfl | (simp; done) | (simp [*]; done)), (by first | rfl | (simp; done) | (simp [*]; done)), H', ⟨Nat.le_refl _⟩, by repeat (first | exact Drawn0.refl _ | apply Drawn0.step)⟩
  case round =>
    clear H'
    try clear p2
    obtain ⟨x1_1, x5_1, rfl, rfl, HA, HK1, ⟨m1, rfl⟩⟩ := hrel
    cases gk with
    | zero => exact absurd HA.out (by simp [laws_heldIntS.l0])
    | succ k1 =>
      have H := HA.out
      clear HA
      simp only [laws_heldIntS.l0] at H
      by_cases c3 : x5_1 < (l0.length : Int)
      · rw [if_pos c3] at H
        have c3b0 : decide (x5_1 < (l0.length : Int)) = true := decide_eq_true c3
        clear c3
        by_cases c4 : 0 ≤ x5_1
        · rw [if_pos c4] at H
          have c4b0 : decide (0 ≤ x5_1) = true := decide_eq_true c4
          clear c4
          by_cases c5 : (rd l0 x5_1) = x1_1
          · rw [if_pos c5] at H
            have c5b0 : ((rd l0 x5_1) == x1_1) = true := beq_iff_eq.mpr c5
            have c5b1 : ((rd l0 x5_1) != x1_1) = false := bne_eq_false_iff_eq.mpr c5
            clear c5
            have H' := Aside0.mk H
            clear H
            have p236 : 0 ≤ (x5_1 : Int) := of_decide_eq_true (by first | (with_reducible assumption) | assumption)
            have q236 : x5_1 < (l0.length : Int) := of_decide_eq_true (by first | (with_reducible assumption) | assumption)
            obtain ⟨ad236, e236, hx236_0⟩ := Kd.at_int HR0.out x5_1 p236 q236
            cases e236
            replace p236 := eq_true p236
            replace q236 := eq_true q236
            go_wp2
            go_roundg k1
            case measure => have := HK1.out; omega
            case rel => exact ⟨(wrap64 (x1_1 + 1)), (wrap64 (x5_1 + 1)), (by first | rfl | (simp; done) | (simp [*]; done)), (by first | rfl | (simp; done) | (simp [*]; done)), H', ⟨by have := HK1.out; omega⟩, by repeat (first | exact Drawn0.refl _ | apply Drawn0.step)⟩
          · rw [if_neg c5] at H
            have c5b0 : ((rd l0 x5_1) == x1_1) = false := beq_eq_false_iff_ne.mpr c5
            have c5b1 : ((rd l0 x5_1) != x1_1) = true := bne_iff_ne.mpr c5
            obtain rfl := Option.some.inj H
            have p236 : 0 ≤ (x5_1 : Int) := of_decide_eq_true (by first | (with_reducible assumption) | assumption)
            have q236 : x5_1 < (l0.length : Int) := of_decide_eq_true (by first | (with_reducible assumption) | assumption)
            obtain ⟨ad236, e236, hx236_0⟩ := Kd.at_int HR0.out x5_1 p236 q236
            cases e236
            replace p236 := eq_true p236
            replace q236 := eq_true q236
            go_wp2
            go_ret
            exact ⟨by first | rfl | (simp; done) | (simp [*]; done), by repeat (first | exact Drawn0.refl _ | apply Drawn0.step)⟩
        · rw [if_neg c4] at H
          exact absurd H (by simp)
      · rw [if_neg c3] at H
        have c3b0 : decide (x5_1 < (l0.length : Int)) = false := decide_eq_false c3
        clear c3
        obtain rfl := Option.some.inj H
        go_wp2
        go_ret
        exact ⟨by first | rfl | (simp; done) | (simp [*]; done), by repeat (first | exact Drawn0.refl _ | apply Drawn0.step)⟩

/-! ### laws_heldIntSS: function 36 -/
def laws_heldIntSS.l0 : Nat → List (List Int) → Int → Int → Option (Int)
  | 0, _, _, _ => none
  | k + 1, x0, x1, x5 => if x5 < (x0.length : Int) then (if 0 ≤ x5 then ((laws_heldIntS.f k (rd_L3 x0 x5) x1).bind fun t238 => (if t238 < 0 then (some (-1)) else (laws_heldIntSS.l0 k x0 t238 (wrap64 (x5 + 1))))) else (none)) else (some x1)
def laws_heldIntSS.f (k : Nat) (l0 : List (List Int)) (a1 : Int) : Option (Int) := laws_heldIntSS.l0 k l0 a1 0
theorem laws_heldIntSS.mono_l : ∀ k, (∀ y0 y1 y2, LeO (laws_heldIntSS.l0 k y0 y1 y2) (laws_heldIntSS.l0 (k + 1) y0 y1 y2))
  | 0 => fun _ _ _ r h => by simp [laws_heldIntSS.l0] at h
  | k + 1 => by
    have ih0 := laws_heldIntSS.mono_l k
    · intro y0 y1 y2
      unfold laws_heldIntSS.l0
      repeat' first
      | (with_reducible exact ih0 _ _ _)
      | (with_reducible exact laws_heldIntS.mono _ _ _)
      | (with_reducible exact LeO.refl _)
      | (with_reducible exact LeO.none _)
      | (with_reducible refine LeO.ite ?_ ?_)
      | (with_reducible refine LeO.bind ?_ (fun _ => ?_))
      | exact ih0 _ _ _
      | exact laws_heldIntS.mono _ _ _
      | exact LeO.none _
      | refine LeO.ite ?_ ?_
      | refine LeO.bind ?_ (fun _ => ?_)
theorem laws_heldIntSS.mono : ∀ a0 a1 k, LeO (laws_heldIntSS.f k a0 a1) (laws_heldIntSS.f (k + 1) a0 a1) := by
  intro a0 a1 k
  have ih0 := laws_heldIntSS.mono_l k
  unfold laws_heldIntSS.f
  repeat' first
      | (with_reducible exact ih0 _ _ _)
      | (with_reducible exact laws_heldIntS.mono _ _ _)
      | (with_reducible exact LeO.refl _)
      | (with_reducible exact LeO.none _)
      | (with_reducible refine LeO.ite ?_ ?_)
      | (with_reducible refine LeO.bind ?_ (fun _ => ?_))
      | exact ih0 _ _ _
      | exact laws_heldIntS.mono _ _ _
      | exact LeO.none _
      | refine LeO.ite ?_ ?_
      | refine LeO.bind ?_ (fun _ => ?_)
set_option maxHeartbeats 8000000 in
set_option maxRecDepth 100000 in
theorem laws_heldIntSS.calls (k : Nat) (A0 : Option Addr) (c0 : Nat) (l0 : List (List Int)) (a1 : Int) (r : Int) (w : World) (hr0 : Kd.C (Kd.slice 3 (Kd.int .i64)) w A0 l0.length l0) (hc0 : l0.length ≤ c0) (h : laws_heldIntSS.f k l0 a1 = some r) :
    Calls Try.prog 36 #[.slice A0 l0.length c0, .int .i64 a1] w fun e w' => e = .returned (.int .i64 r) ∧ Drawn0 w w' := by
  have HR0 := Aside0.mk hr0
  have HC0 := Aside0.mk hc0
  clear hr0 hc0
  have H : (laws_heldIntSS.l0 k l0 a1 0) = some r := h
  clear h
  have H' := Aside0.mk H
  clear H
  go_enter Try.func36, Try.ntmps36
  go_wp2
  go_loopg [1, 5] k (fun kq v1 v5 w' => ∃ (x1_1 : Int) (x5_1 : Int), v1 = .int .i64 x1_1 ∧ v5 = .int .i64 x5_1 ∧ Aside0 (laws_heldIntSS.l0 kq l0 x1_1 x5_1 = some r) ∧ Aside0 (kq ≤ k) ∧ Drawn0 w w')
  case atStart => exact ⟨(a1), (0), (by first | rfl | (simp; done) | (simp [*]; done)), (by first | rfl | (simp; done) | (simp [*]; done)), H', ⟨Nat.le_refl _⟩, by repeat (first | exact Drawn0.refl _ | apply Drawn0.step)⟩
  case round =>
    clear H'
    try clear p2
    obtain ⟨x1_1, x5_1, rfl, rfl, HA, HK1, ⟨m1, rfl⟩⟩ := hrel
    cases gk with
    | zero => exact absurd HA.out (by simp [laws_heldIntSS.l0])
    | succ k1 =>
      have H := HA.out
      clear HA
      simp only [laws_heldIntSS.l0] at H
      by_cases c3 : x5_1 < (l0.length : Int)
      · rw [if_pos c3] at H
        have c3b0 : decide (x5_1 < (l0.length : Int)) = true := decide_eq_true c3
        clear c3
        by_cases c4 : 0 ≤ x5_1
        · rw [if_pos c4] at H
          have c4b0 : decide (0 ≤ x5_1) = true := decide_eq_true c4
          clear c4
          replace H := Option.bind_eq_some_iff.mp H
          obtain ⟨t238, A50, H⟩ := H
          replace H : (if t238 < 0 then (some (-1)) else (laws_heldIntSS.l0 k1 l0 t238 (wrap64 (x5_1 + 1)))) = some r := H
          have A5 := Aside0.mk A50
          clear A50
          by_cases c6 : t238 < 0
          · rw [if_pos c6] at H
            have c6b0 : decide (t238 < 0) = true := decide_eq_true c6
            clear c6
            obtain rfl := Option.some.inj H
            have p237 : 0 ≤ (x5_1 : Int) := of_decide_eq_true (by first | (with_reducible assumption) | assumption)
            have q237 : x5_1 < (l0.length : Int) := of_decide_eq_true (by first | (with_reducible assumption) | assumption)
            obtain ⟨ad237, A237_0, c237_0, e237, hx237_0, hl237_0, hi237_0⟩ := at_L3 HR0.out x5_1 p237 q237
            cases e237
            have HR237_0 := Aside0.mk hi237_0
            have HC237_0 := Aside0.mk hl237_0
            clear hi237_0 hl237_0
            replace p237 := eq_true p237
            replace q237 := eq_true q237
            go_wp2_with (first | ((with_reducible refine gate_callee (f := 39) rfl ?_); refine goesL_ (some 17) rfl rfl Try.func39 (by kernel_rfl) rfl #[.slice A237_0 (rd_L3 l0 x5_1).length c237_0, .int .i64 x1_1] rfl (by (try simp only [List.map_toArray, List.map_cons, List.map_nil]); first | done | rfl | (simp only [List.length_drop, List.length_take]; rfl)) ?_; (with_reducible refine (laws_heldIntS.calls k1 _ _ (rd_L3 l0 x5_1) x1_1 t238 _ ?side1 ?side2 A5.out).mono ?_); (case side1 => repeat (first | exact HR237_0.out | (with_reducible refine Kd.C_alloc ?_ _) | (with_reducible refine Kd.C_drewN ?_ _) | (with_reducible refine Kd.C_drew ?_))); (case side2 => exact HC237_0.out); rintro e w' ⟨rfl, ⟨nd, rfl⟩⟩; refine ⟨_, rfl, ?_⟩))
            go_ret
            exact ⟨by first | rfl | (simp; done) | (simp [*]; done), by repeat (first | exact Drawn0.refl _ | apply Drawn0.step)⟩
          · rw [if_neg c6] at H
            have c6b0 : decide (t238 < 0) = false := decide_eq_false c6
            clear c6
            have H' := Aside0.mk H
            clear H
            have p237 : 0 ≤ (x5_1 : Int) := of_decide_eq_true (by first | (with_reducible assumption) | assumption)
            have q237 : x5_1 < (l0.length : Int) := of_decide_eq_true (by first | (with_reducible assumption) | assumption)
            obtain ⟨ad237, A237_0, c237_0, e237, hx237_0, hl237_0, hi237_0⟩ := at_L3 HR0.out x5_1 p237 q237
            cases e237
            have HR237_0 := Aside0.mk hi237_0
            have HC237_0 := Aside0.mk hl237_0
            clear hi237_0 hl237_0
            replace p237 := eq_true p237
            replace q237 := eq_true q237
            go_wp2_with (first | ((with_reducible refine gate_callee (f := 39) rfl ?_); refine goesL_ (some 17) rfl rfl Try.func39 (by kernel_rfl) rfl #[.slice A237_0 (rd_L3 l0 x5_1).length c237_0, .int .i64 x1_1] rfl (by (try simp only [List.map_toArray, List.map_cons, List.map_nil]); first | done | rfl | (simp only [List.length_drop, List.length_take]; rfl)) ?_; (with_reducible refine (laws_heldIntS.calls k1 _ _ (rd_L3 l0 x5_1) x1_1 t238 _ ?side1 ?side2 A5.out).mono ?_); (case side1 => repeat (first | exact HR237_0.out | (with_reducible refine Kd.C_alloc ?_ _) | (with_reducible refine Kd.C_drewN ?_ _) | (with_reducible refine Kd.C_drew ?_))); (case side2 => exact HC237_0.out); rintro e w' ⟨rfl, ⟨nd, rfl⟩⟩; refine ⟨_, rfl, ?_⟩))
            go_roundg k1
            case measure => have := HK1.out; omega
            case rel => exact ⟨(t238), (wrap64 (x5_1 + 1)), (by first | rfl | (simp; done) | (simp [*]; done)), (by first | rfl | (simp; done) | (simp [*]; done)), H', ⟨by have := HK1.out; omega⟩, by repeat (first | exact Drawn0.refl _ | apply Drawn0.step)⟩
        · rw [if_neg c4] at H
          exact absurd H (by simp)
      · rw [if_neg c3] at H
        have c3b0 : decide (x5_1 < (l0.length : Int)) = false := decide_eq_false c3
        clear c3
        obtain rfl := Option.some.inj H
        go_wp2
        go_ret
        exact ⟨by first | rfl | (simp; done) | (simp [*]; done), by repeat (first | exact Drawn0.refl _ | apply Drawn0.step)⟩

/-! ### laws_FnExactCavesOf: function 8 (by hand: wip/inj) -/
theorem lss_drawn {w w' : World} (h : Drawn0 w w') : Below w.heap.size w w' := by
  obtain ⟨n, rfl⟩ := h.out
  exact pw_below_drewN (Below.refl _ _) n

def laws_FnExactCavesOf.f (k : Nat) (l0 : List (S71)) : Option Bool := (laws_szLegS.f l0 1048576).bind fun v0 => if v0 < 0 then some true else (laws_toLegS.f k l0).bind fun m0 => (spec_CavesOf.f k m0).bind fun s => (impl_CavesOf.f k m0).bind fun g => (laws_eqIntSS.f k g.1 s.1).bind fun e => (laws_eqLegS.f k m0 m0).bind fun e0 => (laws_markLegS.f k m0 1).bind fun q0 => (laws_markIntSS.f k g.1 1).bind fun mk => (laws_heldIntSS.f k mk.2 1).bind fun hd => if e = true ∧ g.2 = s.2 ∧ e0 = true ∧ 0 ≤ q0.1 ∧ hd = mk.1 ∧ 0 ≤ hd then some true else none
theorem laws_FnExactCavesOf.mono : ∀ a0 k, LeO (laws_FnExactCavesOf.f k a0) (laws_FnExactCavesOf.f (k + 1) a0) := by
  intro a0 k
  unfold laws_FnExactCavesOf.f
  repeat' first
      | (with_reducible exact laws_toLegS.mono _ _)
      | (with_reducible exact spec_CavesOf.mono _ _)
      | (with_reducible exact impl_CavesOf.mono _ _)
      | (with_reducible exact laws_eqIntSS.mono _ _ _)
      | (with_reducible exact laws_eqLegS.mono _ _ _)
      | (with_reducible exact laws_markLegS.mono _ _ _)
      | (with_reducible exact laws_markIntSS.mono _ _ _)
      | (with_reducible exact laws_heldIntSS.mono _ _ _)
      | (with_reducible exact LeO.refl _)
      | (with_reducible exact LeO.none _)
      | (with_reducible refine LeO.ite ?_ ?_)
      | (with_reducible refine LeO.bind ?_ (fun _ => ?_))
      | exact laws_toLegS.mono _ _
      | exact spec_CavesOf.mono _ _
      | exact impl_CavesOf.mono _ _
      | exact laws_eqIntSS.mono _ _ _
      | exact laws_eqLegS.mono _ _ _
      | exact laws_markLegS.mono _ _ _
      | exact laws_markIntSS.mono _ _ _
      | exact laws_heldIntSS.mono _ _ _
      | exact LeO.none _
      | refine LeO.ite ?_ ?_
      | refine LeO.bind ?_ (fun _ => ?_)
set_option maxHeartbeats 16000000 in
set_option maxRecDepth 100000 in
theorem laws_FnExactCavesOf.calls (k : Nat) (A0 : Option Addr) (c0 : Nat) (l0 : List (S71)) (r : Bool) (w : World) (hr0 : Kd.C k71 w A0 l0.length l0) (hc0 : l0.length ≤ c0) (h : laws_FnExactCavesOf.f k l0 = some r) :
    Calls Try.prog 8 #[.slice A0 l0.length c0] w fun e w' => e = .returned (.bool r) ∧ Below w.heap.size w w' := by
  have HR0 := Aside0.mk hr0
  have HC0 := Aside0.mk hc0
  have HM0 := Aside0.mk hr0.2.1
  have HB0 := Aside0.mk (Below.refl w.heap.size w)
  clear hr0 hc0
  unfold laws_FnExactCavesOf.f at h
  have HB_0 := HB0
  obtain ⟨v0, hv0, h⟩ := Option.bind_eq_some_iff.mp h
  have HV0 := Aside0.mk hv0
  clear hv0
  by_cases hz0 : v0 < 0
  · rw [if_pos hz0] at h
    obtain rfl := Option.some.inj h
    have z0 : decide (v0 < 0) = true := decide_eq_true hz0
    clear hz0 h
    go_enter Try.func8, Try.ntmps8
    go_wp2_with (fail)
    go_at_call 12
    refine (laws_szLegS.calls _ _ l0 (1048576) v0 _ (Kd.C_below HR0.out HB_0.out) HC0.out HV0.out).mono ?_
    rintro e_ w1_ ⟨rfl, hb⟩
    replace hb := lss_drawn hb
    have HB_1 := Aside0.mk (HB_0.out.trans (hb.mono HB_0.out.size))
    clear hb
    go_wp2
    go_ret
    exact ⟨rfl, HB_1.out⟩
  rw [if_neg hz0] at h
  have z0 : decide (v0 < 0) = false := decide_eq_false hz0
  have HZ0 := Aside0.mk hz0
  clear hz0
  obtain ⟨m0, hx_m0, h⟩ := Option.bind_eq_some_iff.mp h
  have HX_m0 := Aside0.mk hx_m0
  clear hx_m0
  obtain ⟨⟨s1, s2⟩, hx_s, h⟩ := Option.bind_eq_some_iff.mp h
  have HX_s := Aside0.mk hx_s
  clear hx_s
  obtain ⟨⟨g1, g2⟩, hx_g, h⟩ := Option.bind_eq_some_iff.mp h
  have HX_g := Aside0.mk hx_g
  clear hx_g
  obtain ⟨e, hx_e, h⟩ := Option.bind_eq_some_iff.mp h
  have HX_e := Aside0.mk hx_e
  clear hx_e
  obtain ⟨e0, hx_e0, h⟩ := Option.bind_eq_some_iff.mp h
  have HX_e0 := Aside0.mk hx_e0
  clear hx_e0
  obtain ⟨⟨q01, q02⟩, hx_q0, h⟩ := Option.bind_eq_some_iff.mp h
  have HX_q0 := Aside0.mk hx_q0
  clear hx_q0
  obtain ⟨⟨mk1, mk2⟩, hx_mk, h⟩ := Option.bind_eq_some_iff.mp h
  have HX_mk := Aside0.mk hx_mk
  clear hx_mk
  obtain ⟨hd, hx_hd, h⟩ := Option.bind_eq_some_iff.mp h
  have HX_hd := Aside0.mk hx_hd
  clear hx_hd
  split at h
  case isFalse => cases h
  rename_i hco
  obtain rfl := Option.some.inj h
  clear h
  simp only at hco
  obtain ⟨rfl, rfl, rfl, hq_, rfl, hh_⟩ := hco
  have dq : decide (q01 < 0) = false := decide_eq_false (by omega)
  have dh : decide (hd < 0) = false := decide_eq_false (by omega)
  clear hq_ hh_
  go_enter Try.func8, Try.ntmps8
  go_wp2_with (fail)
  go_at_call 12
  refine (laws_szLegS.calls _ _ l0 (1048576) v0 _ (Kd.C_below HR0.out HB_0.out) HC0.out HV0.out).mono ?_
  rintro e_ w1_ ⟨rfl, hb⟩
  replace hb := lss_drawn hb
  have HB_1 := Aside0.mk (HB_0.out.trans (hb.mono HB_0.out.size))
  clear hb
  go_wp2_with (fail)
  go_at_call 14
  refine (laws_toLegS.calls k _ _ l0 m0 _ (Kd.C_below HR0.out HB_1.out) HC0.out HX_m0.out).mono ?_
  rintro e_ w2_ ⟨v_, rfl, hr_, hb⟩
  obtain ⟨At0, ct0, e_t0⟩ := Kd.R_slice hr_
  subst e_t0
  have HRt0 := Aside0.mk (Kd.R_mono (Kd.R_bound hr_) (fun k_ hk_ => (⟨hk_.2.1, hk_.2.2.1⟩ : w1_.heap.size ≤ k_ ∧ k_ < w2_.heap.size)))
  have HKt0 := Aside0.mk (Kd.R_reads' hr_).2
  clear hr_
  have HB_2 := Aside0.mk (HB_1.out.trans (hb.mono HB_1.out.size))
  clear hb
  go_wp2_with (fail)
  have HBmt0_2 := Aside0.mk (Below.refl w2_.heap.size w2_)
  go_at_call 32
  refine (spec_CavesOf.calls k _ _ m0 s1 g2 _ (Kd.C_below HKt0.out.2 (HBmt0_2.out)) HKt0.out.1 HX_s.out).mono ?_
  rintro e_ w3_ ⟨v_, rfl, hr_, hb⟩
  obtain ⟨As, cs_, es⟩ := Kd.S_slice hr_
  subst es
  have HS := Aside0.mk (Kd.S_reads' hr_).2
  clear hr_
  have HB_3 := Aside0.mk (HB_2.out.trans (hb.mono HB_2.out.size))
  clear hb HBmt0_2
  have HBms_3 := Aside0.mk (Below.refl w3_.heap.size w3_)
  go_wp2_with (fail)
  go_at_call 14
  refine (laws_toLegS.calls k _ _ l0 m0 _ (Kd.C_below HR0.out HB_3.out) HC0.out HX_m0.out).mono ?_
  rintro e_ w4_ ⟨v_, rfl, hr_, hb⟩
  obtain ⟨Ax0, cx0, e_x0⟩ := Kd.R_slice hr_
  subst e_x0
  have HRx0 := Aside0.mk (Kd.R_mono (Kd.R_bound hr_) (fun k_ hk_ => (⟨hk_.2.1, hk_.2.2.1⟩ : w3_.heap.size ≤ k_ ∧ k_ < w4_.heap.size)))
  have HKx0 := Aside0.mk (Kd.R_reads' hr_).2
  clear hr_
  have HB_4 := Aside0.mk (HB_3.out.trans (hb.mono HB_3.out.size))
  have HBms_4 := Aside0.mk (HBms_3.out.trans (hb.mono HBms_3.out.size))
  clear hb
  go_wp2_with (fail)
  have HBmx0_4 := Aside0.mk (Below.refl w4_.heap.size w4_)
  go_at_call 33
  refine (impl_CavesOf.calls k _ _ m0 g1 g2 _ (Kd.C_below HKx0.out.2 (HBmx0_4.out)) HKx0.out.1 HX_g.out).mono ?_
  rintro e_ w5_ ⟨v_, rfl, hr_, hb⟩
  obtain ⟨Ag, cg, eg⟩ := Kd.S_slice hr_
  subst eg
  have HG := Aside0.mk (Kd.S_mono (Kd.S_bound hr_) (fun k_ hk_ => (⟨hk_.2.1, hk_.2.2.1⟩ : w4_.heap.size ≤ k_ ∧ k_ < w5_.heap.size)))
  clear hr_
  have HB_5 := Aside0.mk (HB_4.out.trans (hb.mono HB_4.out.size))
  have HBms_5 := Aside0.mk (HBms_4.out.trans (hb.mono HBms_4.out.size))
  have HBmx0_5 := Aside0.mk (HBmx0_4.out.trans (hb.mono HBmx0_4.out.size))
  clear hb
  have HBmg_5 := Aside0.mk (Below.refl w5_.heap.size w5_)
  go_wp2_with (fail)
  go_at_call 34
  refine (laws_eqIntSS.calls k _ _ g1 _ _ s1 true _ (Kd.S_reads' HG.out).2.2 (Kd.S_reads' HG.out).2.1 (Kd.C_below HS.out.2 HBms_5.out) HS.out.1 HX_e.out).mono ?_
  rintro e_ w6_ ⟨rfl, hb⟩
  replace hb := lss_drawn hb
  have HB_6 := Aside0.mk (HB_5.out.trans (hb.mono HB_5.out.size))
  have HBms_6 := Aside0.mk (HBms_5.out.trans (hb.mono HBms_5.out.size))
  have HBmx0_6 := Aside0.mk (HBmx0_5.out.trans (hb.mono HBmx0_5.out.size))
  have HBmg_6 := Aside0.mk (HBmg_5.out.trans (hb.mono HBmg_5.out.size))
  clear hb
  go_wp2_with (fail)
  go_at_call 14
  refine (laws_toLegS.calls k _ _ l0 m0 _ (Kd.C_below HR0.out HB_6.out) HC0.out HX_m0.out).mono ?_
  rintro e_ w7_ ⟨v_, rfl, hr_, hb⟩
  obtain ⟨Ay0, cy0, e_y0⟩ := Kd.R_slice hr_
  subst e_y0
  have HRy0 := Aside0.mk (Kd.R_mono (Kd.R_bound hr_) (fun k_ hk_ => (⟨hk_.2.1, hk_.2.2.1⟩ : w6_.heap.size ≤ k_ ∧ k_ < w7_.heap.size)))
  have HKy0 := Aside0.mk (Kd.R_reads' hr_).2
  clear hr_
  have HB_7 := Aside0.mk (HB_6.out.trans (hb.mono HB_6.out.size))
  have HBms_7 := Aside0.mk (HBms_6.out.trans (hb.mono HBms_6.out.size))
  have HBmx0_7 := Aside0.mk (HBmx0_6.out.trans (hb.mono HBmx0_6.out.size))
  have HBmg_7 := Aside0.mk (HBmg_6.out.trans (hb.mono HBmg_6.out.size))
  clear hb
  go_wp2_with (fail)
  go_at_call 16
  refine (laws_eqLegS.calls k _ _ m0 _ _ m0 true _ (Kd.C_below HKx0.out.2 HBmx0_7.out) HKx0.out.1 HKy0.out.2 HKy0.out.1 HX_e0.out).mono ?_
  rintro e_ w8_ ⟨rfl, hb⟩
  have HB_8 := Aside0.mk (HB_7.out.trans (hb.mono HB_7.out.size))
  have HBms_8 := Aside0.mk (HBms_7.out.trans (hb.mono HBms_7.out.size))
  have HBmx0_8 := Aside0.mk (HBmx0_7.out.trans (hb.mono HBmx0_7.out.size))
  have HBmg_8 := Aside0.mk (HBmg_7.out.trans (hb.mono HBmg_7.out.size))
  clear hb HRy0 HKy0
  go_wp2_with (fail)
  have HSG : Aside0 (w4_.heap.size ≤ w4_.heap.size) := ⟨Nat.le_refl _⟩
  have HG_ := Aside0.mk (Kd.S_below HG.out HBmg_8.out)
  clear HG
  have HG := HG_
  clear HG_
  have HRz0 := Aside0.mk (Kd.R_below HRx0.out HBmx0_8.out)
  go_at_call 28
  refine (laws_markLegS.calls k (fun k_ => w3_.heap.size ≤ k_ ∧ k_ < w4_.heap.size) _ m0 (1) q01 q02 w3_ _ HBms_8.out (Kd.R_lower HRz0.out (Nat.le_refl _)) HX_q0.out).mono ?_
  rintro e_ w9_ ⟨rfl, hr_, hb, hk_⟩
  clear hr_
  have HBms_9 := Aside0.mk hb
  have HB_9 := Aside0.mk (HB_3.out.trans (hb.mono HB_3.out.size))
  have HG_ := Aside0.mk (Kd.S_kept HG.out hk_ (fun k_ h_ h2_ => by have := h_.1; have := h2_.2; have := HSG.out; omega))
  clear HG
  have HG := HG_
  clear HG_ hb hk_
  go_wp2_with (fail)
  go_at_call 34
  refine (laws_eqIntSS.calls k _ _ g1 _ _ s1 true _ (Kd.S_reads' HG.out).2.2 (Kd.S_reads' HG.out).2.1 (Kd.C_below HS.out.2 HBms_9.out) HS.out.1 HX_e.out).mono ?_
  rintro e_ w10_ ⟨rfl, hb⟩
  replace hb := lss_drawn hb
  have HB_10 := Aside0.mk (HB_9.out.trans (hb.mono HB_9.out.size))
  have HBms_10 := Aside0.mk (HBms_9.out.trans (hb.mono HBms_9.out.size))
  have HG_ := Aside0.mk (Kd.S_below HG.out hb)
  clear HG
  have HG := HG_
  clear HG_ hb
  go_wp2_with (fail)
  go_at_call 35
  refine (laws_markIntSS.calls k (fun k_ => w4_.heap.size ≤ k_ ∧ k_ < w5_.heap.size) _ g1 1 hd mk2 w3_ _ HBms_10.out (Kd.S_lower HG.out HBms_4.out.size) HX_mk.out).mono ?_
  rintro e_ w11_ ⟨rfl, hr_, hb, hk_⟩
  have HG_ := Aside0.mk hr_
  clear HG hr_ hk_
  have HG := HG_
  clear HG_
  have HBms_11 := Aside0.mk hb
  have HB_11 := Aside0.mk (HB_3.out.trans (hb.mono HB_3.out.size))
  clear hb
  have HNL : mk2.length = g1.length := (Kd.S_reads' HG.out).1.symm
  rw [← HNL] at HG
  have HL := Aside0.mk HNL.symm
  clear HNL
  go_wp2_with (fail)
  go_at_call 36
  try rw [HL.out]
  refine (laws_heldIntSS.calls k _ _ mk2 1 hd _ (Kd.S_reads' HG.out).2.2 (Kd.S_reads' HG.out).2.1 HX_hd.out).mono ?_
  rintro e_ w12_ ⟨rfl, hb⟩
  replace hb := lss_drawn hb
  have HB_12 := Aside0.mk (HB_11.out.trans (hb.mono HB_11.out.size))
  have HBms_12 := Aside0.mk (HBms_11.out.trans (hb.mono HBms_11.out.size))
  have HG_ := Aside0.mk (Kd.S_below HG.out hb)
  clear HG
  have HG := HG_
  clear HG_ hb
  go_wp2_with (fail)
  have HBmh0_12 := Aside0.mk (Below.refl w12_.heap.size w12_)
  go_at_call 14
  refine (laws_toLegS.calls k _ _ l0 m0 _ (Kd.C_below HR0.out HB_12.out) HC0.out HX_m0.out).mono ?_
  rintro e_ w13_ ⟨v_, rfl, hr_, hb⟩
  obtain ⟨Az0, cz0, e_z0⟩ := Kd.R_slice hr_
  subst e_z0
  have HRz0 := Aside0.mk (Kd.R_mono (Kd.R_bound hr_) (fun k_ hk_ => (⟨hk_.2.1, hk_.2.2.1⟩ : w12_.heap.size ≤ k_ ∧ k_ < w13_.heap.size)))
  have HKz0 := Aside0.mk (Kd.R_reads' hr_).2
  clear hr_
  have HB_13 := Aside0.mk (HB_12.out.trans (hb.mono HB_12.out.size))
  have HBms_13 := Aside0.mk (HBms_12.out.trans (hb.mono HBms_12.out.size))
  have HBmh0_13 := Aside0.mk (HBmh0_12.out.trans (hb.mono HBmh0_12.out.size))
  clear hb
  go_wp2_with (fail)
  have HBmz0_13 := Aside0.mk (Below.refl w13_.heap.size w13_)
  go_at_call 33
  refine (impl_CavesOf.calls k _ _ m0 g1 g2 _ (Kd.C_below HKz0.out.2 (HBmz0_13.out)) HKz0.out.1 HX_g.out).mono ?_
  rintro e_ w14_ ⟨v_, rfl, hr_, hb⟩
  obtain ⟨Ah, ch, eh⟩ := Kd.S_slice hr_
  subst eh
  have HH := Aside0.mk hr_
  clear hr_
  have HB_14 := Aside0.mk (HB_13.out.trans (hb.mono HB_13.out.size))
  have HBms_14 := Aside0.mk (HBms_13.out.trans (hb.mono HBms_13.out.size))
  have HBmh0_14 := Aside0.mk (HBmh0_13.out.trans (hb.mono HBmh0_13.out.size))
  have HG_ := Aside0.mk (Kd.S_below HG.out HBmh0_14.out)
  clear HG
  have HG := HG_
  clear HG_ hb
  go_wp2_with (fail)
  go_at_call 34
  refine (laws_eqIntSS.calls k _ _ g1 _ _ s1 true _ (Kd.S_reads' HH.out).2.2 (Kd.S_reads' HH.out).2.1 (Kd.C_below HS.out.2 HBms_14.out) HS.out.1 HX_e.out).mono ?_
  rintro e_ w15_ ⟨rfl, hb⟩
  replace hb := lss_drawn hb
  have HB_15 := Aside0.mk (HB_14.out.trans (hb.mono HB_14.out.size))
  have HBms_15 := Aside0.mk (HBms_14.out.trans (hb.mono HBms_14.out.size))
  have HG_ := Aside0.mk (Kd.S_below HG.out hb)
  clear HG
  have HG := HG_
  clear HG_ hb
  go_wp2_with (fail)
  go_at_call 36
  try rw [HL.out]
  refine (laws_heldIntSS.calls k _ _ mk2 1 hd _ (Kd.S_reads' HG.out).2.2 (Kd.S_reads' HG.out).2.1 HX_hd.out).mono ?_
  rintro e_ w16_ ⟨rfl, hb⟩
  replace hb := lss_drawn hb
  have HB_16 := Aside0.mk (HB_15.out.trans (hb.mono HB_15.out.size))
  have HBms_16 := Aside0.mk (HBms_15.out.trans (hb.mono HBms_15.out.size))
  have HG_ := Aside0.mk (Kd.S_below HG.out hb)
  clear HG
  have HG := HG_
  clear HG_ hb
  go_wp2
  go_ret
  exact ⟨rfl, HB_16.out⟩


end Go.Proofs.Ytdfmjmmiepmplaa.MV
