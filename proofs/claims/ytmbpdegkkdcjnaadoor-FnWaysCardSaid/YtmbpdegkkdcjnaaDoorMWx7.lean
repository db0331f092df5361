-- Written by a program of this session (wip/drv.py, wip/tight2.py). -- tight2
import Derived.Test.YtmbpdegkkdcjnaaDoorMWx0
import Derived.Test.YtmbpdegkkdcjnaaDoorMWx3
namespace Go.Proofs.YtmbpdegkkdcjnaaDoor.MW
open Go.RowKit Go.Proofs.YtmbpdegkkdcjnaaDoorW.PrintWords Go.Proofs.YtmbpdegkkdcjnaaDoorW.PrintLast Go.Proofs.YtmbpdegkkdcjnaaDoorW.PrintMore
set_option maxHeartbeats 8000000
set_option maxRecDepth 100000
attribute [local go_sem] max2_int min2_int max_two min_two max_three min_three max_four min_four   -- for this text's walks alone
set_option linter.unusedVariables false
set_option linter.unusedSimpArgs false

/-! ### impl_Run_43: function 43 (by hand: wip/inj) -/


/-! ### impl_Run_30: function 30 (by hand: wip/inj) -/
theorem slices_Grow_nil.calls (n : Nat) (hn : n ≤ 24) (w : World) :
  Calls Tryd.prog 43 #[.slice none 0 0, .int .i64 n] w fun e w' => ∃ v, e = .returned v ∧ Kd.R k44 44 w' w.heap.size (fun _ => True) v [] ∧ Below w.heap.size w w' := by
 have HN := Aside0.mk hn
 have c1 : decide ((n : Int) < 0) = false := decide_eq_false (by omega)
 by_cases h0 : n = 0
 ·subst h0; clear hn
  go_enter Tryd.func43, Tryd.ntmps43
  go_wp2
  go_ret
  exact ⟨_, rfl, Kd.R_nil _ _ _ _ _, Below.refl _ _⟩
 ·have c2 : decide ((n : Int) > 0) = true := decide_eq_true (by omega)
  have HW : Aside0 (wrap64 (n : Int) = (n : Int)) := ⟨by unfold wrap64; omega⟩
  have c3 : decide (wrap64 (n : Int) > 0) = true := by rw [HW.out]; exact c2
  clear h0 hn
  go_enter Tryd.func43, Tryd.ntmps43
  go_wp2_with (first | ((with_reducible refine gate_builtin (b := .append) (xs := #[.tmp 20, .tmp 21]) rfl ?_); at_builtin; refine Kd.R_append_zeros k44 (w0 := w) w.heap.size rfl (.tmp 20) (.tmp 21) 24 3 44 (.agg #[(.int .i64 0), (.int .i64 0)]) 16 rfl Tryd.underlying24 Tryd.underlying3 info44 rfl (by decide) (by decide) (.slice none 0 0) [] z44 (wrap64 (n : Int)) (fun _ => True) rfl rfl ?aZ (fun _ _ => trivial) (Kd.R_nil _ _ _ _ _) (by rw [HW.out]; exact Int.natCast_nonneg n) ?aB ?aS ?aL ?_; (case aZ => exact k44_mkM _ _ _ z44); (case aB => exact (qW68)); (case aS => exact Nat.le_refl _); (case aL => exact (by have h24 := HN.out; rw [HW.out, List.length_nil, Int.toNat_natCast, Nat.zero_add]; exact Nat.le_trans (Nat.mul_le_mul_right 16 h24) (by decide))); intro v1 w1 ho hb hg hat; generalize ([] ++ List.replicate (wrap64 (n : Int)).toNat z44 : List S44) = xs0 at ho; have HB := Aside0.mk hb; obtain ⟨A1, cc1, ev⟩ := Kd.R_slice ho; subst ev; have HO := Aside0.mk ho; clear ho hb hg hat))
  go_ret
  refine ⟨_, rfl, ?_, HB.out⟩
  have ht := Kd.R_take (m := 0) HO.out (Nat.zero_le _)
  rw [List.take_zero] at ht
  exact ht
theorem flat_up {ll : List (List S44)} {x : Int} (h0 : 0 ≤ x) (h1 : x < ll.length) : (ll.take (x + 1).toNat).flatten = (ll.take x.toNat).flatten ++ rd_L3 ll x := by
 have hx : x.toNat < ll.length := by omega
 rw [show (x + 1).toNat = x.toNat + 1 by omega, List.take_succ_eq_append_getElem hx, List.flatten_append]
 simp [rd_L3, List.getElem?_eq_getElem hx]
theorem flat_le (ll : List (List S44)) (n : Nat) : (ll.take n).flatten.length ≤ ll.flatten.length := by
 have h : ll.flatten = (ll.take n).flatten ++ (ll.drop n).flatten := by rw [← List.flatten_append, List.take_append_drop]
 rw [h, List.length_append]
 exact Nat.le_add_right _ _
theorem slices_Concat.calls (A : Option Addr) (c : Nat) (ll : List (List S44)) (w : World) (hr : Kd.C (Kd.slice 44 k44) w A ll.length ll) (hc : ll.length ≤ c) (h24 : ll.flatten.length ≤ 24) :
  Calls Tryd.prog 30 #[.slice A ll.length c] w fun e w' => ∃ v, e = .returned v ∧ Kd.R k44 44 w' w.heap.size (fun _ => True) v ll.flatten ∧ Below w.heap.size w w' := by
 have HR0 := Aside0.mk hr; have HC0 := Aside0.mk hc
 have HM := Aside0.mk hr.2.1
 have H24 := Aside0.mk h24; clear hr hc h24
 go_enter Tryd.func30, Tryd.ntmps30
 go_wp2
 go_loopg [3, 11] ll.length (fun kq v3 v11 w' => ∃ (x s : Int), v3 = .int .i64 s ∧ v11 = .int .i64 x ∧ Aside0 (0 ≤ x ∧ kq + x.toNat = ll.length ∧ s = (((ll.take x.toNat).flatten.length : Nat) : Int)) ∧ Aside0 (Below w.heap.size w w'))
 case atStart => exact ⟨0, 0, rfl, rfl, ⟨by simp⟩, ⟨(qW68)⟩⟩
 case round =>
  obtain ⟨x, s, rfl, rfl, HA, HB⟩ := hrel
  by_cases hlt : x < (ll.length : Int)
  ·have c0 : decide (x < (ll.length : Int)) = true := decide_eq_true hlt
   have c1 : decide (0 ≤ x) = true := decide_eq_true HA.out.1
   obtain ⟨ad, Ax, cx, e, hx, hxl, hxC⟩ := at_L3 (Kd.C_below HR0.out HB.out) x HA.out.1 hlt
   cases e
   have HUP := Aside0.mk (flat_up HA.out.1 hlt)
   have hs : wrap64 (s + ((rd_L3 ll x).length : Int)) = (((ll.take (x + 1).toNat).flatten.length : Nat) : Int) := by
    have h1 := flat_le ll (x + 1).toNat
    have h2 := H24.out
    rw [HUP.out, List.length_append] at h1 ⊢
    rw [HA.out.2.2]
    unfold wrap64
    omega
   have HS := Aside0.mk hs
   have c2 : decide (wrap64 (s + ((rd_L3 ll x).length : Int)) < 0) = false := by
    rw [hs]
    exact decide_eq_false (Int.not_lt.2 (Int.natCast_nonneg _))
   have HLT := Aside0.mk hlt
   have p1 := eq_true HA.out.1
   have q1 := eq_true hlt
   have HXL := Aside0.mk hxl; clear hlt hs hxl hxC
   obtain ⟨k1, rfl⟩ : ∃ k1, gk = k1 + 1 := ⟨gk - 1, by have := HA.out; have := HLT.out; omega⟩
   go_wp2
   go_roundg k1
   case measure => omega
   case rel => exact ⟨wrap64 (x + 1), wrap64 (s + ((rd_L3 ll x).length : Int)), rfl, rfl, ⟨by have := HA.out; have := HLT.out; have := HM.out; unfold wrap64; omega, by have := HA.out; have := HLT.out; have := HM.out; unfold wrap64; omega, by rw [HS.out, show wrap64 (x + 1) = x + 1 by have := HA.out; have := HLT.out; have := HM.out; unfold wrap64; omega]⟩, ⟨(qW36)⟩⟩
  ·have c0 : decide (x < (ll.length : Int)) = false := decide_eq_false hlt
   have hall : s = ((ll.flatten.length : Nat) : Int) := by
    rw [HA.out.2.2, List.take_of_length_le (by have := HA.out; omega)]
   obtain ⟨n, hn⟩ : ∃ n : Nat, n = ll.flatten.length := ⟨_, rfl⟩
   rw [← hn] at hall
   have HN24 : Aside0 (n ≤ 24) := ⟨by rw [hn]; exact H24.out⟩
   clear hn; subst hall; clear hlt HA
   go_wp2_with (go_at_call 43; refine (slices_Grow_nil.calls n HN24.out _).mono ?_; rintro e w1 ⟨v6, rfl, ho, hb⟩; have n0_ := Aside0.mk (Kd.R_lower ho (below_size HB.out)); have n1_ := Aside0.mk (below_step HB.out hb); clear HB; have HO := n0_; have HB := n1_; clear n0_ n1_ ho hb)
   go_loopg [6, 27] ll.length (fun kq v6 v27 w' => ∃ x : Int, v27 = .int .i64 x ∧ Aside0 (0 ≤ x ∧ kq + x.toNat = ll.length) ∧ Aside0 (Kd.R k44 44 w' w.heap.size (fun _ => True) v6 (ll.take x.toNat).flatten) ∧ Aside0 (Below w.heap.size w w'))
   case atStart => exact ⟨0, rfl, ⟨by simp⟩, ⟨(by (with_reducible repeat (first | apply Kd.R_alloc | apply Kd.R_drewN | apply Kd.R_drew)); exact HO.out)⟩, ⟨(qW36)⟩⟩
   case round =>
    clear HO; obtain ⟨x, rfl, HA, HO, HB⟩ := hrel
    by_cases hlt : x < (ll.length : Int)
    ·have c0 : decide (x < (ll.length : Int)) = true := decide_eq_true hlt
     have c1 : decide (0 ≤ x) = true := decide_eq_true HA.out.1
     obtain ⟨ad, Ax, cx, e, hx, hxl, hxC⟩ := at_L3 (Kd.C_below HR0.out HB.out) x HA.out.1 hlt
     cases e
     have HUP := Aside0.mk (flat_up HA.out.1 hlt)
     have HXC := Aside0.mk hxC
     have HL : Aside0 (((ll.take x.toNat).flatten.length + (rd_L3 ll x).length) * 16 ≤ 140737488355328) := ⟨by
      have h1 := flat_le ll (x + 1).toNat
      have h2 := H24.out
      rw [HUP.out, List.length_append] at h1
      omega⟩
     have HLT := Aside0.mk hlt
     have p1 := eq_true HA.out.1
     have q1 := eq_true hlt
     clear hlt hxl hxC
     obtain ⟨k1, rfl⟩ : ∃ k1, gk = k1 + 1 := ⟨gk - 1, by have := HA.out; have := HLT.out; omega⟩
     obtain ⟨y, hy⟩ : ∃ y, (ll.take x.toNat).flatten ++ rd_L3 ll x = y := ⟨_, rfl⟩
     have HY := Aside0.mk hy; clear hy
     go_wp2_with (first | ((with_reducible refine gate_builtin (b := .append) (xs := #[.tmp 31, .tmp 32]) rfl ?_); at_builtin; refine Kd.R_append_rows k44 (w0 := w) w.heap.size rfl (.tmp 31) (.tmp 32) 24 44 (.agg #[(.int .i64 0), (.int .i64 0)]) 16 rfl Tryd.underlying24 info44 rfl (by decide) (by decide) _ (ll.take x.toNat).flatten (rd_L3 ll x) _ _ _ (fun _ => True) (fun _ => False) rfl rfl ?aO ?aR (fun _ _ h => h) (fun _ h => h.elim) ?aF ?aB ?aS ?aL ?_; (case aR => exact HXC.out); (case aB => exact HB.out); (case aF => exact (fun _ _ => trivial)); (case aO => exact HO.out); (case aS => exact (below_size HB.out)); (case aL => exact HL.out); intro v1 w1 ho hb hg hat; rw [HY.out] at ho; have n0_ := Aside0.mk hb; have n1_ := Aside0.mk ho; clear HB HO; have HB := n0_; have HO := n1_; clear n0_ n1_ ho hb hg hat))
     go_roundg k1
     case measure => omega
     case rel => exact ⟨wrap64 (x + 1), rfl, ⟨by have := HA.out; have := HLT.out; have := HM.out; unfold wrap64; omega, by have := HA.out; have := HLT.out; have := HM.out; unfold wrap64; omega⟩, ⟨by rw [show wrap64 (x + 1) = x + 1 by have := HA.out; have := HLT.out; have := HM.out; unfold wrap64; omega, HUP.out, HY.out]; exact HO.out⟩, ⟨(qW36)⟩⟩
    ·have c0 : decide (x < (ll.length : Int)) = false := decide_eq_false hlt
     have HALL : Aside0 ((ll.take x.toNat).flatten = ll.flatten) := ⟨by rw [List.take_of_length_le (by have := HA.out; omega)]⟩
     clear hlt
     go_wp2
     go_ret
     exact ⟨_, rfl, by rw [← HALL.out]; exact HO.out, HB.out⟩


/-! ### impl_JoinWays: function 17 (by hand: wip/inj) -/
def impl_JoinWays.f (k : Nat) (l0 l1 : List (S44)) : Option ((List (S44)) × Bool) := (impl_IsWay.f k l0).bind fun t => (if t = true then ((impl_IsWay.f k l1).bind fun t2 => (if t2 = true then (if wrap64 ((l0.length : Int) + (l1.length : Int)) > 12 then some (([] : List (S44)), false) else (if l0.length + l1.length ≤ 24 then some (l0 ++ l1, true) else none)) else some (([] : List (S44)), false))) else some (([] : List (S44)), false))
theorem impl_JoinWays.mono : ∀ a0 a1 k, LeO (impl_JoinWays.f k a0 a1) (impl_JoinWays.f (k + 1) a0 a1) := by
 intro a0 a1 k
 unfold impl_JoinWays.f
 have m0 := @impl_IsWay.mono
 exact qmono
theorem reads_two {w : World} {g T : Nat} {A0 A1 : Option Addr} {c0 c1 : Nat} {l0 l1 : List S44} (hg : w.heap[g]? = some (.cells #[.slice A0 l0.length c0, .slice A1 l1.length c1] T (0, 0))) (h0 : Kd.C k44 w A0 l0.length l0) (hc0 : l0.length ≤ c0) (h1 : Kd.C k44 w A1 l1.length l1) (hc1 : l1.length ≤ c1) : Kd.C (Kd.slice 44 k44) w (some ⟨g, 0, none⟩) 2 [l0, l1] := by
 refine ⟨rfl, by decide, fun _ => ⟨⟨g, 0, none⟩, rfl, fun j p hj => ?_⟩⟩
 match j, hj with
 | 0, hj =>
  obtain rfl : l0 = p := by simpa using hj
  refine ⟨[.slice A0 l0.length c0], rfl, ⟨A0, c0, rfl, hc0, h0⟩, fun i u hu => ?_⟩
  match i, hu with
  | 0, hu =>
   obtain rfl : Value.slice A0 l0.length c0 = u := by simpa using hu
   exact (blk_cell hg 0).trans rfl
  | i + 1, hu => simp at hu
 | 1, hj =>
  obtain rfl : l1 = p := by simpa using hj
  refine ⟨[.slice A1 l1.length c1], rfl, ⟨A1, c1, rfl, hc1, h1⟩, fun i u hu => ?_⟩
  match i, hu with
  | 0, hu =>
   obtain rfl : Value.slice A1 l1.length c1 = u := by simpa using hu
   exact (blk_cell hg 1).trans rfl
  | i + 1, hu => simp at hu
 | j + 2, hj => simp at hj
theorem impl_JoinWays.calls (k : Nat) (A0 : Option Addr) (c0 : Nat) (l0 : List (S44)) (A1 : Option Addr) (c1 : Nat) (l1 : List (S44)) (r1 : List (S44)) (r2 : Bool) (w : World) (hr0 : Kd.C k44 w A0 l0.length l0) (hc0 : l0.length ≤ c0) (hr1 : Kd.C k44 w A1 l1.length l1) (hc1 : l1.length ≤ c1) (h : impl_JoinWays.f k l0 l1 = some (r1, r2)) :
  Calls Tryd.prog 17 #[.slice A0 l0.length c0, .slice A1 l1.length c1] w fun e w' => ∃ v0_ : Value, e = .returned (.tuple #[v0_, .bool r2]) ∧ Kd.R k44 44 w' w.heap.size (fun _ => True) v0_ r1 ∧ Below w.heap.size w w' := by
 have HR0 := Aside0.mk hr0; have HC0 := Aside0.mk hc0; have HR1 := Aside0.mk hr1; have HC1 := Aside0.mk hc1; clear hr0 hc0 hr1 hc1
 have HB := Aside0.mk (Below.refl w.heap.size w)
 unfold impl_JoinWays.f at h
 obtain ⟨t, B1, h⟩ := Option.bind_eq_some_iff.mp h
 have H1 := Aside0.mk B1; clear B1
 cases t with
 | false =>
  rw [if_neg (by decide)] at h
  simp only [Option.some.injEq, Prod.mk.injEq] at h
  obtain ⟨rfl, rfl⟩ := h
  go_enter Tryd.func17, Tryd.ntmps17
  go_wp2_with (first | (go_at_call 9; (with_reducible refine (impl_IsWay.calls k _ _ l0 false _ ?side1 ?side2 H1.out).mono ?_); (case side1 => exact (qW25 HR0.out)); (case side2 => exact HC0.out); rintro e w8 ⟨rfl, hb⟩; have n0_ := Aside0.mk (below_step (qW36) hb); clear HB; have HB := n0_; clear n0_ hb))
  go_ret2
  exact ⟨_, rfl, Kd.R_nil _ _ _ _ _, (qW36)⟩
 | true =>
  rw [if_pos rfl] at h
  obtain ⟨t2, B2, h⟩ := Option.bind_eq_some_iff.mp h
  have H2 := Aside0.mk B2; clear B2
  cases t2 with
  | false =>
   rw [if_neg (by decide)] at h
   simp only [Option.some.injEq, Prod.mk.injEq] at h
   obtain ⟨rfl, rfl⟩ := h
   go_enter Tryd.func17, Tryd.ntmps17
   go_wp2_with (first | (go_at_call 9; (with_reducible refine (impl_IsWay.calls k _ _ l0 true _ ?side1 ?side2 H1.out).mono ?_); (case side1 => exact (qW25 HR0.out)); (case side2 => exact HC0.out); rintro e w8 ⟨rfl, hb⟩; have n0_ := Aside0.mk (below_step (qW36) hb); clear HB; have HB := n0_; clear n0_ hb) | (go_at_call 9; (with_reducible refine (impl_IsWay.calls k _ _ l1 false _ ?side1 ?side2 H2.out).mono ?_); (case side1 => exact (qW25 HR1.out)); (case side2 => exact HC1.out); rintro e w8 ⟨rfl, hb⟩; have n0_ := Aside0.mk (below_step (qW36) hb); clear HB; have HB := n0_; clear n0_ hb))
   go_ret2
   exact ⟨_, rfl, Kd.R_nil _ _ _ _ _, (qW36)⟩
  | true =>
   rw [if_pos rfl] at h
   by_cases hgt : wrap64 ((l0.length : Int) + (l1.length : Int)) > 12
   ·rw [if_pos hgt] at h
    have d0 : decide (12 < wrap64 ((l0.length : Int) + (l1.length : Int))) = true := decide_eq_true hgt
    simp only [Option.some.injEq, Prod.mk.injEq] at h
    obtain ⟨rfl, rfl⟩ := h; clear hgt
    go_enter Tryd.func17, Tryd.ntmps17
    go_wp2_with (first | (go_at_call 9; (with_reducible refine (impl_IsWay.calls k _ _ l0 true _ ?side1 ?side2 H1.out).mono ?_); (case side1 => exact (qW25 HR0.out)); (case side2 => exact HC0.out); rintro e w8 ⟨rfl, hb⟩; have n0_ := Aside0.mk (below_step (qW36) hb); clear HB; have HB := n0_; clear n0_ hb) | (go_at_call 9; (with_reducible refine (impl_IsWay.calls k _ _ l1 true _ ?side1 ?side2 H2.out).mono ?_); (case side1 => exact (qW25 HR1.out)); (case side2 => exact HC1.out); rintro e w8 ⟨rfl, hb⟩; have n0_ := Aside0.mk (below_step (qW36) hb); clear HB; have HB := n0_; clear n0_ hb))
    go_ret2
    exact ⟨_, rfl, Kd.R_nil _ _ _ _ _, (qW36)⟩
   ·rw [if_neg hgt] at h
    have d0 : decide (12 < wrap64 ((l0.length : Int) + (l1.length : Int))) = false := decide_eq_false hgt
    by_cases h24 : l0.length + l1.length ≤ 24
    case neg => rw [if_neg h24] at h; cases h
    rw [if_pos h24] at h
    simp only [Option.some.injEq, Prod.mk.injEq] at h
    obtain ⟨rfl, rfl⟩ := h
    have H24 : Aside0 (([l0, l1] : List (List S44)).flatten.length ≤ 24) := ⟨by simpa using h24⟩
    have HFL : Aside0 (([l0, l1] : List (List S44)).flatten = l0 ++ l1) := ⟨by simp⟩
    clear hgt h24
    go_enter Tryd.func17, Tryd.ntmps17
    go_wp2_with (first | (go_at_call 9; (with_reducible refine (impl_IsWay.calls k _ _ l0 true _ ?side1 ?side2 H1.out).mono ?_); (case side1 => exact (qW25 HR0.out)); (case side2 => exact HC0.out); rintro e w8 ⟨rfl, hb⟩; have n0_ := Aside0.mk (below_step (qW36) hb); clear HB; have HB := n0_; clear n0_ hb) | (go_at_call 9; (with_reducible refine (impl_IsWay.calls k _ _ l1 true _ ?side1 ?side2 H2.out).mono ?_); (case side1 => exact (qW25 HR1.out)); (case side2 => exact HC1.out); rintro e w8 ⟨rfl, hb⟩; have n0_ := Aside0.mk (below_step (qW36) hb); clear HB; have HB := n0_; clear n0_ hb) | (go_at_call 30; refine (slices_Concat.calls _ 2 [l0, l1] _ (reads_two (blk_new _ _) (Kd.C_alloc (Kd.C_below HR0.out HB.out) _) HC0.out (Kd.C_alloc (Kd.C_below HR1.out HB.out) _) HC1.out) (Nat.le_refl _) H24.out).mono ?_; rintro e w9 ⟨v6, rfl, ho, hb⟩; rw [HFL.out] at ho; have n0_ := Aside0.mk (below_step (below_alloc HB.out _) hb); have HO := Aside0.mk (Kd.R_lower ho (below_size (below_alloc HB.out _))); clear HB; have HB := n0_; clear n0_ ho hb))
    go_ret2
    exact ⟨_, rfl, HO.out, HB.out⟩


/-! ### spec_JoinWays: function 18 -/
def spec_JoinWays.f (k : Nat) (l0 : List (S44)) (l1 : List (S44)) : Option ((List (S44)) × Bool) := (some (([] : List (S44)) : List (S44))).bind fun y260 => (if y260.length + l0.length < 8796093022208 then ((some (y260 ++ l0 : List (S44))).bind fun y263 => (if y263.length + l1.length < 8796093022208 then ((some (y263 ++ l1 : List (S44))).bind fun y266 => ((spec_l14Good.f k y266).bind fun t269 => (if t269 = true then (some (y266, true)) else (some ((([] : List (S44))), false))))) else (none))) else (none))
theorem spec_JoinWays.mono : ∀ a0 a1 k, LeO (spec_JoinWays.f k a0 a1) (spec_JoinWays.f (k + 1) a0 a1) := by
 intro a0 a1 k
 unfold spec_JoinWays.f
 have m0 := @spec_l14Good.mono
 exact qmono
theorem spec_JoinWays.calls (k : Nat) (A0 : Option Addr) (c0 : Nat) (l0 : List (S44)) (A1 : Option Addr) (c1 : Nat) (l1 : List (S44)) (r1 : List (S44)) (r2 : Bool) (w : World) (hr0 : Kd.C k44 w A0 l0.length l0) (hc0 : l0.length ≤ c0) (hr1 : Kd.C k44 w A1 l1.length l1) (hc1 : l1.length ≤ c1) (h : spec_JoinWays.f k l0 l1 = some (r1, r2)) :
  Calls Tryd.prog 18 #[.slice A0 l0.length c0, .slice A1 l1.length c1] w fun e w' => ∃ v0_ : Value, e = .returned (.tuple #[v0_, .bool r2]) ∧ Kd.R k44 44 w' w.heap.size (fun _ => True) v0_ r1 ∧ Below w.heap.size w w' := by
 have HR0 := Aside0.mk hr0; have HC0 := Aside0.mk hc0; clear hr0 hc0; have HR1 := Aside0.mk hr1; have HC1 := Aside0.mk hc1; clear hr1 hc1
 have HB := Aside0.mk (Below.refl w.heap.size w)
 have H : ((some (([] : List (S44)) : List (S44))).bind fun y260 => (if y260.length + l0.length < 8796093022208 then ((some (y260 ++ l0 : List (S44))).bind fun y263 => (if y263.length + l1.length < 8796093022208 then ((some (y263 ++ l1 : List (S44))).bind fun y266 => ((spec_l14Good.f k y266).bind fun t269 => (if t269 = true then (some (y266, true)) else (some ((([] : List (S44))), false))))) else (none))) else (none))) = some (r1, r2) := h
 clear h
 obtain ⟨y260, hy260⟩ : ∃ y_ : List (S44), y_ = (([] : List (S44))) := ⟨_, rfl⟩
 replace H : (if y260.length + l0.length < 8796093022208 then ((some (y260 ++ l0 : List (S44))).bind fun y263 => (if y263.length + l1.length < 8796093022208 then ((some (y263 ++ l1 : List (S44))).bind fun y266 => ((spec_l14Good.f k y266).bind fun t269 => (if t269 = true then (some (y266, true)) else (some ((([] : List (S44))), false))))) else (none))) else (none)) = some (r1, r2) := (qW7 hy260)
 have Ny260 := Aside0.mk hy260; clear hy260
 by_cases c3 : y260.length + l0.length < 8796093022208
 ·rw [if_pos c3] at H; have LMc3 := Aside0.mk c3; clear c3
  obtain ⟨y263, hy263⟩ : ∃ y_ : List (S44), y_ = (y260 ++ l0) := ⟨_, rfl⟩
  replace H : (if y263.length + l1.length < 8796093022208 then ((some (y263 ++ l1 : List (S44))).bind fun y266 => ((spec_l14Good.f k y266).bind fun t269 => (if t269 = true then (some (y266, true)) else (some ((([] : List (S44))), false))))) else (none)) = some (r1, r2) := (qW7 hy263)
  have Ny263 := Aside0.mk hy263; clear hy263
  by_cases c4 : y263.length + l1.length < 8796093022208
  ·rw [if_pos c4] at H; have LMc4 := Aside0.mk c4; clear c4
   obtain ⟨y266, hy266⟩ : ∃ y_ : List (S44), y_ = (y263 ++ l1) := ⟨_, rfl⟩
   replace H : ((spec_l14Good.f k y266).bind fun t269 => (if t269 = true then (some (y266, true)) else (some ((([] : List (S44))), false)))) = some (r1, r2) := (qW7 hy266)
   have Ny266 := Aside0.mk hy266; clear hy266; replace H := Option.bind_eq_some_iff.mp H; obtain ⟨t269, A50, H⟩ := H
   try dsimp only at H
   have A5 := Aside0.mk A50; clear A50
   by_cases c6 : t269 = true
   ·subst c6; rw [if_pos rfl] at H
    simp only [Option.some.injEq, Prod.mk.injEq] at H
    obtain ⟨rfl, rfl⟩ := H
    go_enter Tryd.func18, Tryd.ntmps18
    go_wp2_with (first | ((with_reducible refine gate_dst (N := 7) rfl ?_); refine Kd.R_lit k44 _ 44 ?hg (N := 7) ?hd (xs := ([] : List (S44))) (inner := []) (ok := fun _ => True) (okp := fun _ => True) ?hr ?hp (fun _ hk => hk) trivial (Below.refl _ _) (Nat.le_refl _) (by simp) ?_; (case hd => rfl); (case hg => rfl); (case hr => exact (qW22)); (case hp => exact (Reps.none _ _)); intro v261 w7 ho8 hb hg_ hnew_; clear hg_ hnew_; (first | rw [← Ny260.out] at ho8 | (simp only [Int.reduceToNat] at ho8; rw [← Ny260.out] at ho8)); have HO262 := Aside0.mk (Kd.R_lower ho8 (below_size (qW0))); replace HB := Aside0.mk (below_step (qW0) hb); clear hb ho8) | ((with_reducible refine gate_builtin (b := .append) (xs := #[.tmp 7, .tmp 8]) rfl ?_); at_builtin; refine Kd.R_append_rows k44 (w0 := w) w.heap.size rfl (.tmp 7) (.tmp 8) 24 44 (.agg #[(.int .i64 0), (.int .i64 0)]) 16 rfl Tryd.underlying24 info44 rfl (by decide) (by omega) v261 y260 l0 _ _ _ (fun _ => True) (fun _ => False) rfl rfl ?aO ?aR (fun _ _ h => h) (fun _ h => h.elim) ?aF ?aB ?aS ?aL ?_; (case aR => exact (qW25 HR0.out)); (case aB => exact (qW0)); (case aF => exact (fun _ _ => trivial)); (case aO => exact (qW2 HO262.out)); (case aS => exact (qW75)); (case aL => have := LMc3.out; omega); intro v264 w9 ho hb hg hat; rw [← Ny263.out] at ho; replace HB := Aside0.mk (hb); have HO265 := Aside0.mk (ho); clear HO262; clear ho hb hg hat) | ((with_reducible refine gate_builtin (b := .append) (xs := #[.tmp 9, .tmp 10]) rfl ?_); at_builtin; refine Kd.R_append_rows k44 (w0 := w) w.heap.size rfl (.tmp 9) (.tmp 10) 24 44 (.agg #[(.int .i64 0), (.int .i64 0)]) 16 rfl Tryd.underlying24 info44 rfl (by decide) (by omega) v264 y263 l1 _ _ _ (fun _ => True) (fun _ => False) rfl rfl ?aO ?aR (fun _ _ h => h) (fun _ h => h.elim) ?aF ?aB ?aS ?aL ?_; (case aR => exact (qW25 HR1.out)); (case aB => exact (qW0)); (case aF => exact (fun _ _ => trivial)); (case aO => exact (qW2 HO265.out)); (case aS => exact (qW75)); (case aL => have := LMc4.out; omega); intro v267 w10 ho hb hg hat; rw [← Ny266.out] at ho; replace HB := Aside0.mk (hb); have HO268 := Aside0.mk (ho); clear HO265; clear ho hb hg hat; obtain ⟨Ao11, co11, eo11⟩ := Kd.R_slice HO268.out; subst eo11) | ((with_reducible refine gate_callee (f := 23) rfl ?_); refine goesL_ (some 13) rfl rfl Tryd.func23 (by kernel_rfl) rfl #[.slice Ao11 y266.length co11] rfl (qW1) ?_; (with_reducible refine (spec_l14Good.calls k _ _ y266 true _ ?side1 ?side2 A5.out).mono ?_); (case side1 => exact (qW6 HO268.out)); (case side2 => exact (qW41 HO268.out)); rintro e w12 ⟨rfl, hb⟩; refine ⟨_, rfl, ?_⟩; replace HO268 := Aside0.mk (Kd.R_below (qW2 HO268.out) hb); replace HB := Aside0.mk (below_step (qW0) hb); clear hb))
    go_ret2
    exact ⟨_, (qW9), (qW2 HO268.out), (qW0)⟩
   ·replace c6 := Bool.eq_false_iff.mpr c6
    subst c6
    rw [if_neg (show ¬ (false = true) by decide)] at H
    obtain ⟨y270, hy270⟩ : ∃ y_ : List (S44), y_ = (([] : List (S44))) := ⟨_, rfl⟩
    replace H : (some (y270, false)) = some (r1, r2) := (qW7 hy270)
    have Ny270 := Aside0.mk hy270; clear hy270
    simp only [Option.some.injEq, Prod.mk.injEq] at H
    obtain ⟨rfl, rfl⟩ := H
    go_enter Tryd.func18, Tryd.ntmps18
    go_wp2_with (first | ((with_reducible refine gate_dst (N := 7) rfl ?_); refine Kd.R_lit k44 _ 44 ?hg (N := 7) ?hd (xs := ([] : List (S44))) (inner := []) (ok := fun _ => True) (okp := fun _ => True) ?hr ?hp (fun _ hk => hk) trivial (Below.refl _ _) (Nat.le_refl _) (by simp) ?_; (case hd => rfl); (case hg => rfl); (case hr => exact (qW22)); (case hp => exact (Reps.none _ _)); intro v261 w13 ho14 hb hg_ hnew_; clear hg_ hnew_; (first | rw [← Ny260.out] at ho14 | (simp only [Int.reduceToNat] at ho14; rw [← Ny260.out] at ho14)); have HO262 := Aside0.mk (Kd.R_lower ho14 (below_size (qW0))); replace HB := Aside0.mk (below_step (qW0) hb); clear hb ho14) | ((with_reducible refine gate_builtin (b := .append) (xs := #[.tmp 7, .tmp 8]) rfl ?_); at_builtin; refine Kd.R_append_rows k44 (w0 := w) w.heap.size rfl (.tmp 7) (.tmp 8) 24 44 (.agg #[(.int .i64 0), (.int .i64 0)]) 16 rfl Tryd.underlying24 info44 rfl (by decide) (by omega) v261 y260 l0 _ _ _ (fun _ => True) (fun _ => False) rfl rfl ?aO ?aR (fun _ _ h => h) (fun _ h => h.elim) ?aF ?aB ?aS ?aL ?_; (case aR => exact (qW25 HR0.out)); (case aB => exact (qW0)); (case aF => exact (fun _ _ => trivial)); (case aO => exact (qW2 HO262.out)); (case aS => exact (qW75)); (case aL => have := LMc3.out; omega); intro v264 w15 ho hb hg hat; rw [← Ny263.out] at ho; replace HB := Aside0.mk (hb); have HO265 := Aside0.mk (ho); clear HO262; clear ho hb hg hat) | ((with_reducible refine gate_builtin (b := .append) (xs := #[.tmp 9, .tmp 10]) rfl ?_); at_builtin; refine Kd.R_append_rows k44 (w0 := w) w.heap.size rfl (.tmp 9) (.tmp 10) 24 44 (.agg #[(.int .i64 0), (.int .i64 0)]) 16 rfl Tryd.underlying24 info44 rfl (by decide) (by omega) v264 y263 l1 _ _ _ (fun _ => True) (fun _ => False) rfl rfl ?aO ?aR (fun _ _ h => h) (fun _ h => h.elim) ?aF ?aB ?aS ?aL ?_; (case aR => exact (qW25 HR1.out)); (case aB => exact (qW0)); (case aF => exact (fun _ _ => trivial)); (case aO => exact (qW2 HO265.out)); (case aS => exact (qW75)); (case aL => have := LMc4.out; omega); intro v267 w16 ho hb hg hat; rw [← Ny266.out] at ho; replace HB := Aside0.mk (hb); have HO268 := Aside0.mk (ho); clear HO265; clear ho hb hg hat; obtain ⟨Ao17, co17, eo17⟩ := Kd.R_slice HO268.out; subst eo17) | ((with_reducible refine gate_callee (f := 23) rfl ?_); refine goesL_ (some 13) rfl rfl Tryd.func23 (by kernel_rfl) rfl #[.slice Ao17 y266.length co17] rfl (qW1) ?_; (with_reducible refine (spec_l14Good.calls k _ _ y266 false _ ?side1 ?side2 A5.out).mono ?_); (case side1 => exact (qW6 HO268.out)); (case side2 => exact (qW41 HO268.out)); rintro e w18 ⟨rfl, hb⟩; refine ⟨_, rfl, ?_⟩; replace HO268 := Aside0.mk (Kd.R_below (qW2 HO268.out) hb); replace HB := Aside0.mk (below_step (qW0) hb); clear hb) | ((with_reducible refine gate_dst (N := 15) rfl ?_); refine Kd.R_lit k44 _ 44 ?hg (N := 15) ?hd (xs := ([] : List (S44))) (inner := []) (ok := fun _ => True) (okp := fun _ => True) ?hr ?hp (fun _ hk => hk) trivial (Below.refl _ _) (Nat.le_refl _) (by simp) ?_; (case hd => rfl); (case hg => rfl); (case hr => exact (qW22)); (case hp => exact (Reps.none _ _)); intro v271 w19 ho20 hb hg_ hnew_; clear hg_ hnew_; (first | rw [← Ny270.out] at ho20 | (simp only [Int.reduceToNat] at ho20; rw [← Ny270.out] at ho20)); have HO272 := Aside0.mk (Kd.R_lower (Kd.R_new' ho20 (Kd.R_lt (qW2 HO268.out))) (below_size (qW0))); replace HO268 := Aside0.mk (Kd.R_elder' (qW2 HO268.out) (Kd.R_base ho20) hb); replace HB := Aside0.mk (below_step (qW0) hb); clear hb ho20))
    go_ret2
    exact ⟨_, (qW9), (qW43 HO272.out), (qW0)⟩
  ·rw [if_neg c4] at H
   exact absurd H (by simp)
 ·rw [if_neg c3] at H
  exact absurd H (by simp)

end Go.Proofs.YtmbpdegkkdcjnaaDoor.MW
