-- Written by a program of this session (wip/drv.py, wip/tight2.py). -- tight2
import Derived.Test.YtffdglecmjbolaaMPx0
namespace Go.Proofs.Ytffdglecmjbolaa.MP
open Go.RowKit Go.Proofs.YtffdglecmjbolaaW.PrintWords Go.Proofs.YtffdglecmjbolaaW.PrintLast Go.Proofs.YtffdglecmjbolaaW.PrintMore
set_option maxHeartbeats 8000000
set_option maxRecDepth 100000
theorem qP3_c0 {p : Prop} (h : p := by
  simp only [Act.put, List.setIfInBounds_toArray, List.set_cons_zero, List.set_cons_succ, i64_w, i32_w]
  rfl) : p := h
theorem qP3_c1 {p : Prop} (h : p := by
  intro w'
  go_simp
  with_reducible rfl) : p := h
theorem qP3_c2 {p : Prop} (h : p := by
  show Act.put _ (some 13) _ = _
  simp only [Act.put, List.setIfInBounds_toArray, List.set_cons_zero, List.set_cons_succ, i64_w, i32_w]
  rfl) : p := h
theorem qP3_c3 {p : Prop} (h : p := by
  rintro w' ⟨s0, s1, s2, s3, s4, s5, s6, s7, s8, s9⟩
  go_simp
  with_reducible rfl) : p := h
attribute [local go_sem] max2_int min2_int max_two min_two max_three min_three max_four min_four   -- for this text's walks alone
set_option linter.unusedVariables false
set_option linter.unusedSimpArgs false

/-! ### impl_within: function 52 -/
def impl_within.f (a0 : Int) (a1 : Int) (a2 : Int) : Option (Bool) := if a0 ≥ a1 then (some (decide (a0 ≤ a2))) else (some false)
theorem impl_within.calls (a0 : Int) (a1 : Int) (a2 : Int) (r : Bool) (w : World) (h : impl_within.f a0 a1 a2 = some r) :
  Calls Try.prog 52 #[.int .i64 a0, .int .i64 a1, .int .i64 a2] w fun e w' => e = .returned (.bool r) ∧ Drawn0 w w' := by
 have H : (if a0 ≥ a1 then (some (decide (a0 ≤ a2))) else (some false)) = some r := h; clear h
 by_cases c4 : a0 ≥ a1
 ·rw [if_pos c4] at H; have c4b0 : decide (a1 ≤ a0) = true := decide_eq_true c4; clear c4; obtain rfl := Option.some.inj H
  go_enter Try.func52, Try.ntmps52
  go_wp2
  go_ret
  exact ⟨(qP14), (qP26)⟩
 ·rw [if_neg c4] at H; have c4b0 : decide (a1 ≤ a0) = false := decide_eq_false c4; clear c4; obtain rfl := Option.some.inj H
  go_enter Try.func52, Try.ntmps52
  go_wp2
  go_ret
  exact ⟨(qP14), (qP26)⟩

/-! ### impl_isStation: function 43 -/
def impl_isStation.f (a0 : Int) : Option (Bool) := (impl_within.f a0 0 7).bind fun t255 => (some t255)
theorem impl_isStation.calls (a0 : Int) (r : Bool) (w : World) (h : impl_isStation.f a0 = some r) :
  Calls Try.prog 43 #[.int .i64 a0] w fun e w' => e = .returned (.bool r) ∧ Drawn0 w w' := by
 have H : ((impl_within.f a0 0 7).bind fun t255 => (some t255)) = some r := h; clear h; replace H := Option.bind_eq_some_iff.mp H; obtain ⟨t255, A20, H⟩ := H; replace H : (some t255) = some r := H; have A2 := Aside0.mk A20; clear A20; obtain rfl := Option.some.inj H
 go_enter Try.func43, Try.ntmps43
 go_wp2_with (first | ((with_reducible refine gate_callee (f := 52) rfl ?_); refine goesL_ (some 4) rfl rfl Try.func52 (by kernel_rfl) rfl #[.int .i64 a0, .int .i64 0, .int .i64 7] rfl (qP2) ?_; (with_reducible refine (impl_within.calls a0 0 7 t255 _ A2.out).mono ?_); rintro e w' ⟨rfl, ⟨nd, rfl⟩⟩; refine ⟨_, rfl, ?_⟩))
 go_ret
 exact ⟨(qP14), (qP26)⟩

/-! ### impl_isPassage: function 33 -/
def impl_isPassage.f (a0_0 : Int) (a0_1 : Int) (a0_2 : Int) (a0_3 : Int) (a0_4 : Int) : Option (Bool) := (impl_isStation.f a0_0).bind fun t257 => (if t257 = true then ((impl_within.f a0_1 0 200).bind fun t258 => (if t258 = true then ((impl_within.f a0_2 0 200).bind fun t259 => (if t259 = true then ((impl_within.f a0_3 0 200).bind fun t260 => (if t260 = true then ((impl_within.f a0_4 0 200).bind fun t261 => (some t261)) else (some false))) else (some false))) else (some false))) else (some false))
theorem impl_isPassage.calls (a0_0 : Int) (a0_1 : Int) (a0_2 : Int) (a0_3 : Int) (a0_4 : Int) (r : Bool) (w : World) (h : impl_isPassage.f a0_0 a0_1 a0_2 a0_3 a0_4 = some r) :
  Calls Try.prog 33 #[.agg #[.int .i64 a0_0, .int .i64 a0_1, .int .i64 a0_2, .int .i64 a0_3, .int .i64 a0_4]] w fun e w' => e = .returned (.bool r) ∧ Below w.heap.size w w' := by
 have hu60 := Try.underlying60; have HB := Aside0.mk (Below.refl w.heap.size w); have H : ((impl_isStation.f a0_0).bind fun t257 => (if t257 = true then ((impl_within.f a0_1 0 200).bind fun t258 => (if t258 = true then ((impl_within.f a0_2 0 200).bind fun t259 => (if t259 = true then ((impl_within.f a0_3 0 200).bind fun t260 => (if t260 = true then ((impl_within.f a0_4 0 200).bind fun t261 => (some t261)) else (some false))) else (some false))) else (some false))) else (some false))) = some r := h; clear h; replace H := bindA H; obtain ⟨t257, A2, H⟩ := H; (try dsimp only at H)
 by_cases c3 : t257 = true
 ·subst c3; rw [if_pos rfl] at H; replace H := bindA H; obtain ⟨t258, A4, H⟩ := H; (try dsimp only at H)
  by_cases c5 : t258 = true
  ·subst c5; rw [if_pos rfl] at H; replace H := bindA H; obtain ⟨t259, A6, H⟩ := H; (try dsimp only at H)
   by_cases c7 : t259 = true
   ·subst c7; rw [if_pos rfl] at H; replace H := bindA H; obtain ⟨t260, A8, H⟩ := H; (try dsimp only at H)
    by_cases c9 : t260 = true
    ·subst c9; rw [if_pos rfl] at H; replace H := Option.bind_eq_some_iff.mp H; obtain ⟨t261, A100, H⟩ := H; replace H : (some t261) = some r := H; have A10 := Aside0.mk A100; clear A100; obtain rfl := Option.some.inj H
     go_enter Try.func33, Try.ntmps33
     go_wp2_with (first | ((with_reducible refine gate_dst (N := 1) rfl ?_); refine box_event ?hg (N := 1) ?hd (cs := #[.int .i64 a0_0, .int .i64 a0_1, .int .i64 a0_2, .int .i64 a0_3, .int .i64 a0_4]) (t := 60) ?hr ?_; (case hd => rfl); (case hg => rfl); (case hr => exact (qP23)); intro gb256 hg w11 hbox hb; have BK256 := Aside0.mk (hbox); have GW256 := Aside0.mk (qP68); have GE256 := Aside0.mk (qP68); replace HB := Aside0.mk (qP57); clear hb hbox hg; have hcz12_0 : w11.cell? ⟨gb256, 0, none⟩ = some (.int .i64 a0_0) := (blk_cell BK256.out 0).trans rfl; have hcz12_1 : w11.cell? ⟨gb256, 1, none⟩ = some (.int .i64 a0_1) := (blk_cell BK256.out 1).trans rfl; have hcz12_2 : w11.cell? ⟨gb256, 2, none⟩ = some (.int .i64 a0_2) := (blk_cell BK256.out 2).trans rfl; have hcz12_3 : w11.cell? ⟨gb256, 3, none⟩ = some (.int .i64 a0_3) := (blk_cell BK256.out 3).trans rfl; have hcz12_4 : w11.cell? ⟨gb256, 4, none⟩ = some (.int .i64 a0_4) := (blk_cell BK256.out 4).trans rfl; have hfz12_0 := blk_frozen BK256.out 0; have hfz12_1 := blk_frozen BK256.out 1; have hfz12_2 := blk_frozen BK256.out 2; have hfz12_3 := blk_frozen BK256.out 3; have hfz12_4 := blk_frozen BK256.out 4) | ((with_reducible refine gate_callee (f := 43) rfl ?_); refine goesL_ (some 5) rfl rfl Try.func43 (by kernel_rfl) rfl #[.int .i64 a0_0] rfl (qP2) ?_; (with_reducible refine (impl_isStation.calls a0_0 true _ A2.out).mono ?_); rintro e w' ⟨rfl, ⟨nd, rfl⟩⟩; refine ⟨_, rfl, ?_⟩) | (go_at_call 52; (with_reducible refine (impl_within.calls a0_1 0 200 true _ A4.out).mono ?_); rintro e w' ⟨rfl, ⟨nd, rfl⟩⟩) | (go_at_call 52; (with_reducible refine (impl_within.calls a0_2 0 200 true _ A6.out).mono ?_); rintro e w' ⟨rfl, ⟨nd, rfl⟩⟩) | (go_at_call 52; (with_reducible refine (impl_within.calls a0_3 0 200 true _ A8.out).mono ?_); rintro e w' ⟨rfl, ⟨nd, rfl⟩⟩) | (go_at_call 52; (with_reducible refine (impl_within.calls a0_4 0 200 t261 _ A10.out).mono ?_); rintro e w' ⟨rfl, ⟨nd, rfl⟩⟩))
     go_ret
     exact ⟨(qP8), (qP5 GE256.out)⟩
    ·replace c9 := Bool.eq_false_iff.mpr c9; subst c9; rw [if_neg (show ¬ (false = true) by decide)] at H; obtain rfl := Option.some.inj H
     go_enter Try.func33, Try.ntmps33
     go_wp2_with (first | ((with_reducible refine gate_dst (N := 1) rfl ?_); refine box_event ?hg (N := 1) ?hd (cs := #[.int .i64 a0_0, .int .i64 a0_1, .int .i64 a0_2, .int .i64 a0_3, .int .i64 a0_4]) (t := 60) ?hr ?_; (case hd => rfl); (case hg => rfl); (case hr => exact (qP23)); intro gb256 hg w13 hbox hb; have BK256 := Aside0.mk (hbox); have GW256 := Aside0.mk (qP68); have GE256 := Aside0.mk (qP68); replace HB := Aside0.mk (qP57); clear hb hbox hg; have hcz14_0 : w13.cell? ⟨gb256, 0, none⟩ = some (.int .i64 a0_0) := (blk_cell BK256.out 0).trans rfl; have hcz14_1 : w13.cell? ⟨gb256, 1, none⟩ = some (.int .i64 a0_1) := (blk_cell BK256.out 1).trans rfl; have hcz14_2 : w13.cell? ⟨gb256, 2, none⟩ = some (.int .i64 a0_2) := (blk_cell BK256.out 2).trans rfl; have hcz14_3 : w13.cell? ⟨gb256, 3, none⟩ = some (.int .i64 a0_3) := (blk_cell BK256.out 3).trans rfl; have hcz14_4 : w13.cell? ⟨gb256, 4, none⟩ = some (.int .i64 a0_4) := (blk_cell BK256.out 4).trans rfl; have hfz14_0 := blk_frozen BK256.out 0; have hfz14_1 := blk_frozen BK256.out 1; have hfz14_2 := blk_frozen BK256.out 2; have hfz14_3 := blk_frozen BK256.out 3; have hfz14_4 := blk_frozen BK256.out 4) | ((with_reducible refine gate_callee (f := 43) rfl ?_); refine goesL_ (some 5) rfl rfl Try.func43 (by kernel_rfl) rfl #[.int .i64 a0_0] rfl (qP2) ?_; (with_reducible refine (impl_isStation.calls a0_0 true _ A2.out).mono ?_); rintro e w' ⟨rfl, ⟨nd, rfl⟩⟩; refine ⟨_, rfl, ?_⟩) | (go_at_call 52; (with_reducible refine (impl_within.calls a0_1 0 200 true _ A4.out).mono ?_); rintro e w' ⟨rfl, ⟨nd, rfl⟩⟩) | (go_at_call 52; (with_reducible refine (impl_within.calls a0_2 0 200 true _ A6.out).mono ?_); rintro e w' ⟨rfl, ⟨nd, rfl⟩⟩) | (go_at_call 52; (with_reducible refine (impl_within.calls a0_3 0 200 false _ A8.out).mono ?_); rintro e w' ⟨rfl, ⟨nd, rfl⟩⟩))
     go_ret
     exact ⟨(qP8), (qP5 GE256.out)⟩
   ·replace c7 := Bool.eq_false_iff.mpr c7; subst c7; rw [if_neg (show ¬ (false = true) by decide)] at H; obtain rfl := Option.some.inj H
    go_enter Try.func33, Try.ntmps33
    go_wp2_with (first | ((with_reducible refine gate_dst (N := 1) rfl ?_); refine box_event ?hg (N := 1) ?hd (cs := #[.int .i64 a0_0, .int .i64 a0_1, .int .i64 a0_2, .int .i64 a0_3, .int .i64 a0_4]) (t := 60) ?hr ?_; (case hd => rfl); (case hg => rfl); (case hr => exact (qP23)); intro gb256 hg w15 hbox hb; have BK256 := Aside0.mk (hbox); have GW256 := Aside0.mk (qP68); have GE256 := Aside0.mk (qP68); replace HB := Aside0.mk (qP57); clear hb hbox hg; have hcz16_0 : w15.cell? ⟨gb256, 0, none⟩ = some (.int .i64 a0_0) := (blk_cell BK256.out 0).trans rfl; have hcz16_1 : w15.cell? ⟨gb256, 1, none⟩ = some (.int .i64 a0_1) := (blk_cell BK256.out 1).trans rfl; have hcz16_2 : w15.cell? ⟨gb256, 2, none⟩ = some (.int .i64 a0_2) := (blk_cell BK256.out 2).trans rfl; have hcz16_3 : w15.cell? ⟨gb256, 3, none⟩ = some (.int .i64 a0_3) := (blk_cell BK256.out 3).trans rfl; have hcz16_4 : w15.cell? ⟨gb256, 4, none⟩ = some (.int .i64 a0_4) := (blk_cell BK256.out 4).trans rfl; have hfz16_0 := blk_frozen BK256.out 0; have hfz16_1 := blk_frozen BK256.out 1; have hfz16_2 := blk_frozen BK256.out 2; have hfz16_3 := blk_frozen BK256.out 3; have hfz16_4 := blk_frozen BK256.out 4) | ((with_reducible refine gate_callee (f := 43) rfl ?_); refine goesL_ (some 5) rfl rfl Try.func43 (by kernel_rfl) rfl #[.int .i64 a0_0] rfl (qP2) ?_; (with_reducible refine (impl_isStation.calls a0_0 true _ A2.out).mono ?_); rintro e w' ⟨rfl, ⟨nd, rfl⟩⟩; refine ⟨_, rfl, ?_⟩) | (go_at_call 52; (with_reducible refine (impl_within.calls a0_1 0 200 true _ A4.out).mono ?_); rintro e w' ⟨rfl, ⟨nd, rfl⟩⟩) | (go_at_call 52; (with_reducible refine (impl_within.calls a0_2 0 200 false _ A6.out).mono ?_); rintro e w' ⟨rfl, ⟨nd, rfl⟩⟩))
    go_ret
    exact ⟨(qP8), (qP5 GE256.out)⟩
  ·replace c5 := Bool.eq_false_iff.mpr c5; subst c5; rw [if_neg (show ¬ (false = true) by decide)] at H; obtain rfl := Option.some.inj H
   go_enter Try.func33, Try.ntmps33
   go_wp2_with (first | ((with_reducible refine gate_dst (N := 1) rfl ?_); refine box_event ?hg (N := 1) ?hd (cs := #[.int .i64 a0_0, .int .i64 a0_1, .int .i64 a0_2, .int .i64 a0_3, .int .i64 a0_4]) (t := 60) ?hr ?_; (case hd => rfl); (case hg => rfl); (case hr => exact (qP23)); intro gb256 hg w17 hbox hb; have BK256 := Aside0.mk (hbox); have GW256 := Aside0.mk (qP68); have GE256 := Aside0.mk (qP68); replace HB := Aside0.mk (qP57); clear hb hbox hg; have hcz18_0 : w17.cell? ⟨gb256, 0, none⟩ = some (.int .i64 a0_0) := (blk_cell BK256.out 0).trans rfl; have hcz18_1 : w17.cell? ⟨gb256, 1, none⟩ = some (.int .i64 a0_1) := (blk_cell BK256.out 1).trans rfl; have hcz18_2 : w17.cell? ⟨gb256, 2, none⟩ = some (.int .i64 a0_2) := (blk_cell BK256.out 2).trans rfl; have hcz18_3 : w17.cell? ⟨gb256, 3, none⟩ = some (.int .i64 a0_3) := (blk_cell BK256.out 3).trans rfl; have hcz18_4 : w17.cell? ⟨gb256, 4, none⟩ = some (.int .i64 a0_4) := (blk_cell BK256.out 4).trans rfl; have hfz18_0 := blk_frozen BK256.out 0; have hfz18_1 := blk_frozen BK256.out 1; have hfz18_2 := blk_frozen BK256.out 2; have hfz18_3 := blk_frozen BK256.out 3; have hfz18_4 := blk_frozen BK256.out 4) | ((with_reducible refine gate_callee (f := 43) rfl ?_); refine goesL_ (some 5) rfl rfl Try.func43 (by kernel_rfl) rfl #[.int .i64 a0_0] rfl (qP2) ?_; (with_reducible refine (impl_isStation.calls a0_0 true _ A2.out).mono ?_); rintro e w' ⟨rfl, ⟨nd, rfl⟩⟩; refine ⟨_, rfl, ?_⟩) | (go_at_call 52; (with_reducible refine (impl_within.calls a0_1 0 200 false _ A4.out).mono ?_); rintro e w' ⟨rfl, ⟨nd, rfl⟩⟩))
   go_ret
   exact ⟨(qP8), (qP5 GE256.out)⟩
 ·replace c3 := Bool.eq_false_iff.mpr c3; subst c3; rw [if_neg (show ¬ (false = true) by decide)] at H; obtain rfl := Option.some.inj H
  go_enter Try.func33, Try.ntmps33
  go_wp2_with (first | ((with_reducible refine gate_dst (N := 1) rfl ?_); refine box_event ?hg (N := 1) ?hd (cs := #[.int .i64 a0_0, .int .i64 a0_1, .int .i64 a0_2, .int .i64 a0_3, .int .i64 a0_4]) (t := 60) ?hr ?_; (case hd => rfl); (case hg => rfl); (case hr => exact (qP23)); intro gb256 hg w19 hbox hb; have BK256 := Aside0.mk (hbox); have GW256 := Aside0.mk (qP68); have GE256 := Aside0.mk (qP68); replace HB := Aside0.mk (qP57); clear hb hbox hg; have hcz20_0 : w19.cell? ⟨gb256, 0, none⟩ = some (.int .i64 a0_0) := (blk_cell BK256.out 0).trans rfl; have hcz20_1 : w19.cell? ⟨gb256, 1, none⟩ = some (.int .i64 a0_1) := (blk_cell BK256.out 1).trans rfl; have hcz20_2 : w19.cell? ⟨gb256, 2, none⟩ = some (.int .i64 a0_2) := (blk_cell BK256.out 2).trans rfl; have hcz20_3 : w19.cell? ⟨gb256, 3, none⟩ = some (.int .i64 a0_3) := (blk_cell BK256.out 3).trans rfl; have hcz20_4 : w19.cell? ⟨gb256, 4, none⟩ = some (.int .i64 a0_4) := (blk_cell BK256.out 4).trans rfl; have hfz20_0 := blk_frozen BK256.out 0; have hfz20_1 := blk_frozen BK256.out 1; have hfz20_2 := blk_frozen BK256.out 2; have hfz20_3 := blk_frozen BK256.out 3; have hfz20_4 := blk_frozen BK256.out 4) | ((with_reducible refine gate_callee (f := 43) rfl ?_); refine goesL_ (some 5) rfl rfl Try.func43 (by kernel_rfl) rfl #[.int .i64 a0_0] rfl (qP2) ?_; (with_reducible refine (impl_isStation.calls a0_0 false _ A2.out).mono ?_); rintro e w' ⟨rfl, ⟨nd, rfl⟩⟩; refine ⟨_, rfl, ?_⟩))
  go_ret
  exact ⟨(qP8), (qP5 GE256.out)⟩

/-! ### impl_ArePassages: function 8 -/
def impl_ArePassages.l0 : Nat → List (S60) → List (S60) → Int → Int → Option (Bool)
 | 0, _, _, _, _ => none
 | k + 1, x0, x5, x6, x7 => if x7 < x6 then (if 0 ≤ x7 then (if x7 < (x5.length : Int) then ((impl_isPassage.f ((rd_T60 x5 x7).f0) ((rd_T60 x5 x7).f1) ((rd_T60 x5 x7).f2) ((rd_T60 x5 x7).f3) ((rd_T60 x5 x7).f4)).bind fun t264 => (if t264 = true then (if x7 > 0 then (if 0 ≤ (wrap64 (x7 - 1)) then (if (wrap64 (x7 - 1)) < (x0.length : Int) then (if ((rd_T60 x0 (wrap64 (x7 - 1))).f0) ≥ ((rd_T60 x5 x7).f0) then (some false) else (impl_ArePassages.l0 k x0 x5 x6 (wrap64 (x7 + 1)))) else (none)) else (none)) else (impl_ArePassages.l0 k x0 x5 x6 (wrap64 (x7 + 1)))) else (some false))) else (none)) else (none)) else (some true)
def impl_ArePassages.f (k : Nat) (l0 : List (S60)) : Option (Bool) := impl_ArePassages.l0 k l0 l0 (l0.length : Int) 0
theorem impl_ArePassages.mono_l : ∀ k, (∀ y0 y1 y2 y3, LeO (impl_ArePassages.l0 k y0 y1 y2 y3) (impl_ArePassages.l0 (k + 1) y0 y1 y2 y3))
 | 0 => fun _ _ _ _ r h => by simp [impl_ArePassages.l0] at h
 | k + 1 => by
  have ih0 := impl_ArePassages.mono_l k
  ·intro y0 y1 y2 y3
   unfold impl_ArePassages.l0
   exact qmono
theorem impl_ArePassages.mono : ∀ a0 k, LeO (impl_ArePassages.f k a0) (impl_ArePassages.f (k + 1) a0) := by
 intro a0 k; have ih0 := impl_ArePassages.mono_l k
 unfold impl_ArePassages.f
 exact qmono
def impl_ArePassages.T4 : Bool × List (List Nat × List Nat) := (true, [([], []), ([0], [0]), ([1], [1]), ([2, 1], [2]), ([3], [3]), ([4, 3], [3, 4]), ([5, 3, 3], [3, 5]), ([6], [6]), ([6], [6]), ([8, 6], [6, 8]), ([7, 9, 6], [6, 7, 9]), ([10, 6], [6, 10]), ([11, 6], [6, 11]), ([6], [6]), ([13, 6], [6, 13]), ([12, 14, 6], [6, 12, 14]), ([6, 15, 3], [3, 6, 15]), ([3, 16], [3, 16])])
def impl_ArePassages.B4 : List Nat := [0, 1, 3, 7, 15, 31, 63, 127, 127, 383, 1023, 2047, 4095, 127, 8319, 32767, 65535, 131071]
theorem impl_ArePassages.tab4 : rtab .any (opsOf Try.f8 4) = impl_ArePassages.T4 := by kernel_rfl
theorem impl_ArePassages.bits4 : waitsOk impl_ArePassages.T4.2 impl_ArePassages.B4 = true := by kernel_rfl
theorem impl_ArePassages.calls (k : Nat) (A0 : Option Addr) (c0 : Nat) (l0 : List (S60)) (r : Bool) (w : World) (hr0 : Kd.C k60 w A0 l0.length l0) (hc0 : l0.length ≤ c0) (h : impl_ArePassages.f k l0 = some r) :
  Calls Try.prog 8 #[.slice A0 l0.length c0] w fun e w' => e = .returned (.bool r) ∧ Below w.heap.size w w' := by
 have hu60 := Try.underlying60; have HR0 := Aside0.mk hr0; have HC0 := Aside0.mk hc0; clear hr0 hc0; have HB := Aside0.mk (Below.refl w.heap.size w); have H : (impl_ArePassages.l0 k l0 l0 (l0.length : Int) 0) = some r := h; clear h; have H' := Aside0.mk H; clear H
 go_enter Try.func8, Try.ntmps8
 go_wp2
 go_loopg [7] k (fun kq v7 w' => ∃ (x7_1 : Int), v7 = .int .i64 x7_1 ∧ Aside0 (impl_ArePassages.l0 kq l0 l0 (l0.length : Int) x7_1 = some r) ∧ Aside0 (kq ≤ k) ∧ Aside0 (Below w.heap.size w w'))
 case atStart => exact ⟨(0), (qP14), H', ⟨Nat.le_refl _⟩, ⟨(qP0)⟩⟩
 case round =>
  clear H'; obtain ⟨x7_1, rfl, HA, HK1, HB⟩ := hrel
  cases gk with
  | zero => exact absurd HA.out (by simp [impl_ArePassages.l0])
  | succ k1 =>
   have H := HA.out; clear HA; simp only [impl_ArePassages.l0] at H
   by_cases c2 : x7_1 < (l0.length : Int)
   ·rw [if_pos c2] at H; have c2b0 : decide (x7_1 < (l0.length : Int)) = true := decide_eq_true c2; clear c2
    by_cases c3 : 0 ≤ x7_1
    ·rw [if_pos c3] at H; have c3b0 : decide (0 ≤ x7_1) = true := decide_eq_true c3; clear c3
     by_cases c4 : x7_1 < (l0.length : Int)
     ·rw [if_pos c4] at H; have c4b0 : decide (x7_1 < (l0.length : Int)) = true := decide_eq_true c4; clear c4; replace H := bindA H; obtain ⟨t264, A5, H⟩ := H; (try dsimp only at H)
      by_cases c6 : t264 = true
      ·subst c6; rw [if_pos rfl] at H
       by_cases c7 : x7_1 > 0
       ·rw [if_pos c7] at H; have c7b0 : decide (0 < x7_1) = true := decide_eq_true c7; clear c7; obtain ⟨ji8, hji8⟩ : ∃ j_ : Int, (wrap64 (x7_1 - 1)) = j_ := ⟨_, rfl⟩
        replace H : (if 0 ≤ (ji8) then (if (ji8) < (l0.length : Int) then (if ((rd_T60 l0 (ji8)).f0) ≥ ((rd_T60 l0 x7_1).f0) then (some false) else (impl_ArePassages.l0 k1 l0 l0 (l0.length : Int) (wrap64 (x7_1 + 1)))) else (none)) else (none)) = some r := by first | (rw [hji8] at H; exact H) | (simp only [hji8] at H ⊢; exact H)
        (try rw [hji8] at A5); have hji8w : (IntKind.i64.wrap (x7_1 - 1)) = ji8 := (i64_w _).trans hji8
        by_cases c9 : 0 ≤ (ji8)
        ·rw [if_pos c9] at H; have c9b0 : decide (0 ≤ (ji8)) = true := decide_eq_true c9; clear c9
         by_cases c10 : (ji8) < (l0.length : Int)
         ·rw [if_pos c10] at H; have c10b0 : decide ((ji8) < (l0.length : Int)) = true := decide_eq_true c10; clear c10
          by_cases c11 : ((rd_T60 l0 (ji8)).f0) ≥ ((rd_T60 l0 x7_1).f0)
          ·rw [if_pos c11] at H; have c11b0 : decide (((rd_T60 l0 x7_1).f0) ≤ ((rd_T60 l0 (ji8)).f0)) = true := decide_eq_true c11; clear c11; obtain rfl := Option.some.inj H; have p262 : 0 ≤ (x7_1 : Int) := of_decide_eq_true (qP12); have q262 : x7_1 < (l0.length : Int) := of_decide_eq_true (qP12); obtain ⟨ad262, e262, hx262_0, hx262_1, hx262_2, hx262_3, hx262_4⟩ := at_T60 HR0.out x7_1 p262 q262; cases e262; replace hx262_0 := (HB.out.cell (World.block_lt_of_cell? w _ hx262_0)).trans hx262_0; replace hx262_1 := (HB.out.cell (World.block_lt_of_cell? w _ hx262_1)).trans hx262_1; replace hx262_2 := (HB.out.cell (World.block_lt_of_cell? w _ hx262_2)).trans hx262_2; replace hx262_3 := (HB.out.cell (World.block_lt_of_cell? w _ hx262_3)).trans hx262_3; replace hx262_4 := (HB.out.cell (World.block_lt_of_cell? w _ hx262_4)).trans hx262_4; replace p262 := eq_true p262; replace q262 := eq_true q262
           try go_wp2_with (first | ((with_reducible refine gate_dst (N := 4) rfl ?_); refine box_event ?hg (N := 4) ?hd (cs := #[.int .i64 0, .int .i64 0, .int .i64 0, .int .i64 0, .int .i64 0]) (t := 60) ?hr ?_; (case hd => rfl); (case hg => rfl); (case hr => exact (qP23)); intro gb263 hg w12 hbox hb; have BK263 := Aside0.mk (hbox); have GW263 := Aside0.mk (qP70); have GE263 := Aside0.mk (qP70); replace HB := Aside0.mk (qP57); clear hb hbox hg; have hcz13_0 : w12.cell? ⟨gb263, 0, none⟩ = some (.int .i64 0) := (blk_cell BK263.out 0).trans rfl; have hcz13_1 : w12.cell? ⟨gb263, 1, none⟩ = some (.int .i64 0) := (blk_cell BK263.out 1).trans rfl; have hcz13_2 : w12.cell? ⟨gb263, 2, none⟩ = some (.int .i64 0) := (blk_cell BK263.out 2).trans rfl; have hcz13_3 : w12.cell? ⟨gb263, 3, none⟩ = some (.int .i64 0) := (blk_cell BK263.out 3).trans rfl; have hcz13_4 : w12.cell? ⟨gb263, 4, none⟩ = some (.int .i64 0) := (blk_cell BK263.out 4).trans rfl; have hfz13_0 := blk_frozen BK263.out 0; have hfz13_1 := blk_frozen BK263.out 1; have hfz13_2 := blk_frozen BK263.out 2; have hfz13_3 := blk_frozen BK263.out 3; have hfz13_4 := blk_frozen BK263.out 4))
           have n0_ : Aside0 ((((((w12.setCell ⟨gb263, 0, none⟩ (.int .i64 ((rd_T60 l0 x7_1).f0))).setCell ⟨gb263, 1, none⟩ (.int .i64 ((rd_T60 l0 x7_1).f1))).setCell ⟨gb263, 2, none⟩ (.int .i64 ((rd_T60 l0 x7_1).f2))).setCell ⟨gb263, 3, none⟩ (.int .i64 ((rd_T60 l0 x7_1).f3))).setCell ⟨gb263, 4, none⟩ (.int .i64 ((rd_T60 l0 x7_1).f4))).heap[gb263]? = some (.cells #[.int .i64 ((rd_T60 l0 x7_1).f0), .int .i64 ((rd_T60 l0 x7_1).f1), .int .i64 ((rd_T60 l0 x7_1).f2), .int .i64 ((rd_T60 l0 x7_1).f3), .int .i64 ((rd_T60 l0 x7_1).f4)] 60 (0, 0))) := ⟨(qP19)⟩; have n1_ : Aside0 (Below w.heap.size w (((((w12.setCell ⟨gb263, 0, none⟩ (.int .i64 ((rd_T60 l0 x7_1).f0))).setCell ⟨gb263, 1, none⟩ (.int .i64 ((rd_T60 l0 x7_1).f1))).setCell ⟨gb263, 2, none⟩ (.int .i64 ((rd_T60 l0 x7_1).f2))).setCell ⟨gb263, 3, none⟩ (.int .i64 ((rd_T60 l0 x7_1).f3))).setCell ⟨gb263, 4, none⟩ (.int .i64 ((rd_T60 l0 x7_1).f4)))) := ⟨(qP5 GE263.out)⟩
           (try clear BK263)
           (try clear HB)
           generalize (((((w12.setCell ⟨gb263, 0, none⟩ (.int .i64 ((rd_T60 l0 x7_1).f0))).setCell ⟨gb263, 1, none⟩ (.int .i64 ((rd_T60 l0 x7_1).f1))).setCell ⟨gb263, 2, none⟩ (.int .i64 ((rd_T60 l0 x7_1).f2))).setCell ⟨gb263, 3, none⟩ (.int .i64 ((rd_T60 l0 x7_1).f3))).setCell ⟨gb263, 4, none⟩ (.int .i64 ((rd_T60 l0 x7_1).f4))) = w14 at n0_ n1_ ⊢
           have BK263 := n0_; have HB := n1_; clear n0_ n1_; replace BK263 := Aside0.mk (blk_drew BK263.out); replace HB := Aside0.mk (below_drew1 HB.out); have p265 : 0 ≤ ((ji8) : Int) := of_decide_eq_true (qP12); have q265 : (ji8) < (l0.length : Int) := of_decide_eq_true (qP12); obtain ⟨ad265, e265, hx265_0, hx265_1, hx265_2, hx265_3, hx265_4⟩ := at_T60 HR0.out (ji8) p265 q265; have hw265_4 := hx265_4; have hw265_3 := hx265_3; have hw265_2 := hx265_2; have hw265_1 := hx265_1; have hw265_0 := hx265_0; obtain rfl : ad262 = ad265 := (by injection e265); replace hx265_0 := (HB.out.cell (World.block_lt_of_cell? w _ hx265_0)).trans hx265_0; replace hx265_1 := (HB.out.cell (World.block_lt_of_cell? w _ hx265_1)).trans hx265_1; replace hx265_2 := (HB.out.cell (World.block_lt_of_cell? w _ hx265_2)).trans hx265_2; replace hx265_3 := (HB.out.cell (World.block_lt_of_cell? w _ hx265_3)).trans hx265_3; replace hx265_4 := (HB.out.cell (World.block_lt_of_cell? w _ hx265_4)).trans hx265_4; replace p265 := eq_true p265; replace q265 := eq_true q265
           refine start_ (n := 18) (S := fun w' => w'.cell? ⟨gb263, 0, none⟩ = some (.int .i64 ((rd_T60 l0 x7_1).f0)) ∧ w'.cell? ⟨gb263, 1, none⟩ = some (.int .i64 ((rd_T60 l0 x7_1).f1)) ∧ w'.cell? ⟨gb263, 2, none⟩ = some (.int .i64 ((rd_T60 l0 x7_1).f2)) ∧ w'.cell? ⟨gb263, 3, none⟩ = some (.int .i64 ((rd_T60 l0 x7_1).f3)) ∧ w'.cell? ⟨gb263, 4, none⟩ = some (.int .i64 ((rd_T60 l0 x7_1).f4)) ∧ w'.cell? (ad262.add (((ji8)).toNat * 5)) = some (.int .i64 ((rd_T60 l0 (ji8)).f0)) ∧ w'.cell? ⟨(ad262.add (((ji8)).toNat * 5)).block, (ad262.add (((ji8)).toNat * 5)).off + 1, none⟩ = some (.int .i64 ((rd_T60 l0 (ji8)).f1)) ∧ w'.cell? ⟨(ad262.add (((ji8)).toNat * 5)).block, (ad262.add (((ji8)).toNat * 5)).off + 2, none⟩ = some (.int .i64 ((rd_T60 l0 (ji8)).f2)) ∧ w'.cell? ⟨(ad262.add (((ji8)).toNat * 5)).block, (ad262.add (((ji8)).toNat * 5)).off + 3, none⟩ = some (.int .i64 ((rd_T60 l0 (ji8)).f3)) ∧ w'.cell? ⟨(ad262.add (((ji8)).toNat * 5)).block, (ad262.add (((ji8)).toNat * 5)).off + 4, none⟩ = some (.int .i64 ((rd_T60 l0 (ji8)).f4))) (ds := []) qPb0 (by kernel_rfl) rfl rfl ⟨(blk_cell BK263.out 0).trans rfl, (blk_cell BK263.out 1).trans rfl, (blk_cell BK263.out 2).trans rfl, (blk_cell BK263.out 3).trans rfl, (blk_cell BK263.out 4).trans rfl, ((HB.out.cell (World.block_lt_of_cell? w _ hw265_0)).trans hw265_0), ((HB.out.cell (World.block_lt_of_cell? w _ hw265_1)).trans hw265_1), ((HB.out.cell (World.block_lt_of_cell? w _ hw265_2)).trans hw265_2), ((HB.out.cell (World.block_lt_of_cell? w _ hw265_3)).trans hw265_3), ((HB.out.cell (World.block_lt_of_cell? w _ hw265_4)).trans hw265_4)⟩ (fun hHeld => ?_); refine with_tabW impl_ArePassages.tab4 impl_ArePassages.bits4 (fun HT_ HW_ => ?_)
           generalize w14.drew = w15 at BK263 HB hx265_0 hx265_1 hx265_2 hx265_3 hx265_4 hHeld ⊢
           refine take_ (i := 0) (N := some 12) (v := ?_) (a' := ?_) qPb1 rfl rfl (take_ofW HT_.out HW_.out (by kernel_rfl)) (fun _ _ _ h => h) (Or.inl ⟨by rfl, ?_⟩) hHeld ?_ ?_
           rotate_left; exact qP3_c3; rotate_left; exact qP3_c0
           refine one_ (i := 1) (N := some 13) qPb2 rfl rfl (qP35) (by decide) (fun K hK => ?_)
           refine goes_ Try.func33 (by kernel_rfl) rfl #[.agg #[.int .i64 ((rd_T60 l0 x7_1).f0), .int .i64 ((rd_T60 l0 x7_1).f1), .int .i64 ((rd_T60 l0 x7_1).f2), .int .i64 ((rd_T60 l0 x7_1).f3), .int .i64 ((rd_T60 l0 x7_1).f4)]] (by rfl) rfl rfl (qP2) ?_
           with_reducible refine (impl_isPassage.calls ((rd_T60 l0 x7_1).f0) ((rd_T60 l0 x7_1).f1) ((rd_T60 l0 x7_1).f2) ((rd_T60 l0 x7_1).f3) ((rd_T60 l0 x7_1).f4) true _ A5.out).mono ?_
           rintro e w16 ⟨rfl, hb⟩
           refine ⟨_, rfl, ?_⟩
           replace BK263 := Aside0.mk (blk_below (g := gb263) (o := .cells #[.int .i64 ((rd_T60 l0 x7_1).f0), .int .i64 ((rd_T60 l0 x7_1).f1), .int .i64 ((rd_T60 l0 x7_1).f2), .int .i64 ((rd_T60 l0 x7_1).f3), .int .i64 ((rd_T60 l0 x7_1).f4)] 60 (0, 0)) (qP9 BK263.out) hb); replace HB := Aside0.mk (below_step (qP5 GE263.out) hb)
           (try clear hb)
           (try clear hb2)
           (try clear hk)
           (try clear hi)
           refine hK.out _ _ ⟨(blk_cell BK263.out 0).trans rfl, (blk_cell BK263.out 1).trans rfl, (blk_cell BK263.out 2).trans rfl, (blk_cell BK263.out 3).trans rfl, (blk_cell BK263.out 4).trans rfl, ((HB.out.cell (World.block_lt_of_cell? w _ hw265_0)).trans hw265_0), ((HB.out.cell (World.block_lt_of_cell? w _ hw265_1)).trans hw265_1), ((HB.out.cell (World.block_lt_of_cell? w _ hw265_2)).trans hw265_2), ((HB.out.cell (World.block_lt_of_cell? w _ hw265_3)).trans hw265_3), ((HB.out.cell (World.block_lt_of_cell? w _ hw265_4)).trans hw265_4)⟩ (fun hHeld => ?_)
           clear hK K
           refine norm_ (a' := ?_) ?_ ?_
           rotate_left
           ·exact qP3_c2
           refine pure_ (i := 2) (N := some 14) (v := ?_) (a' := ?_) qPb3 rfl rfl (qP11) (fun _ _ _ h => h) (Or.inl ⟨by rfl, ?_⟩) ?_ ?_
           rotate_left; exact qP3_c1; rotate_left; exact qP3_c0
           refine pure_ (i := 3) (N := some 15) (v := ?_) (a' := ?_) qPb4 rfl rfl (qP11) (fun _ _ _ h => h) (Or.inl ⟨by rfl, ?_⟩) ?_ ?_
           rotate_left; exact qP3_c1; rotate_left; exact qP3_c0
           refine pure_ (i := 4) (N := some 16) (v := ?_) (a' := ?_) qPb5 rfl rfl (qP11) (fun _ _ _ h => h) (Or.inl ⟨by rfl, ?_⟩) ?_ ?_
           rotate_left; exact qP3_c1; rotate_left; exact qP3_c0
           refine pure_ (i := 5) (N := some 17) (v := ?_) (a' := ?_) qPb6 rfl rfl (qP11) (fun _ _ _ h => h) (Or.inl ⟨by rfl, ?_⟩) ?_ ?_
           rotate_left; exact qP3_c1; rotate_left; exact qP3_c0
           refine pure_ (i := 6) (N := some 18) (v := ?_) (a' := ?_) qPb7 rfl rfl (qP11) (fun _ _ _ h => h) (Or.inl ⟨by rfl, ?_⟩) ?_ ?_
           rotate_left; exact qP3_c1; rotate_left; exact qP3_c0
           refine pure_ (i := 7) (N := some 19) (v := ?_) (a' := ?_) qPb8 rfl rfl (qP11) (fun _ _ _ h => h) (Or.inl ⟨by rfl, ?_⟩) ?_ ?_
           rotate_left; exact qP3_c1; rotate_left; exact qP3_c0
           refine pure_ (i := 8) (N := some 20) (v := ?_) (a' := ?_) qPb9 rfl rfl (qP11) (fun _ _ _ h => h) (Or.inl ⟨by rfl, ?_⟩) ?_ ?_
           rotate_left; exact qP3_c1; rotate_left; exact qP3_c0
           refine pure_ (i := 9) (N := some 21) (v := ?_) (a' := ?_) qPb10 rfl rfl (qP11) (fun _ _ _ h => h) (Or.inl ⟨by rfl, ?_⟩) ?_ ?_
           rotate_left; exact qP3_c1; rotate_left; exact qP3_c0
           refine pure_ (i := 10) (N := some 22) (v := ?_) (a' := ?_) qPb11 rfl rfl (qP11) (fun _ _ _ h => h) (Or.inl ⟨by rfl, ?_⟩) ?_ ?_
           rotate_left; exact qP3_c1; rotate_left; exact qP3_c0
           refine pure_ (i := 11) (N := some 23) (v := ?_) (a' := ?_) qPb12 rfl rfl (qP11) (fun _ _ _ h => h) (Or.inl ⟨by rfl, ?_⟩) ?_ ?_
           rotate_left; exact qP3_c1; rotate_left; exact qP3_c0
           refine pure_ (i := 13) (N := some 25) (v := ?_) (a' := ?_) qPb13 rfl rfl (qP11) (fun _ _ _ h => h) (Or.inl ⟨by rfl, ?_⟩) ?_ ?_
           rotate_left; exact qP3_c1; rotate_left; exact qP3_c0
           refine take_ (i := 12) (N := some 24) (v := ?_) (a' := ?_) qPb14 rfl rfl (take_ofW HT_.out HW_.out (by kernel_rfl)) (fun _ _ _ h => h) (Or.inl ⟨by rfl, ?_⟩) hHeld ?_ ?_
           rotate_left; exact qP3_c3; rotate_left; exact qP3_c0
           refine take_ (i := 14) (N := some 26) (v := ?_) (a' := ?_) qPb15 rfl rfl (take_ofW HT_.out HW_.out (by kernel_rfl)) (fun _ _ _ h => h) (Or.inl ⟨by rfl, ?_⟩) hHeld ?_ ?_
           rotate_left; exact qP3_c3; rotate_left; exact qP3_c0
           refine pure_ (i := 15) (N := some 27) (v := ?_) (a' := ?_) qPb16 rfl rfl (qP11) (fun _ _ _ h => h) (Or.inl ⟨by rfl, ?_⟩) ?_ ?_
           rotate_left; exact qP3_c1; rotate_left; exact qP3_c0
           refine pure_ (i := 16) (N := some 28) (v := ?_) (a' := ?_) qPb17 rfl rfl (qP11) (fun _ _ _ h => h) (Or.inl ⟨by rfl, ?_⟩) ?_ ?_
           rotate_left; exact qP3_c1; rotate_left; exact qP3_c0
           refine pure_ (i := 17) (N := some 29) (v := ?_) (a' := ?_) qPb18 rfl rfl (qP11) (fun _ _ _ h => h) (Or.inl ⟨by rfl, ?_⟩) ?_ ?_
           rotate_left; exact qP3_c1; rotate_left; exact qP3_c0
           refine done_ (qP43) ?_
           try go_wp2
           go_ret
           exact ⟨(by first | rfl | (simp [errW_none, errW_some] <;> rfl) | (simp only [← hji8]; first | rfl | (simp [errW_none, errW_some] <;> rfl)) | (simp [*, errW_none, errW_some] <;> rfl)), (qP5 GE263.out)⟩
          ·rw [if_neg c11] at H; have c11b0 : decide (((rd_T60 l0 x7_1).f0) ≤ ((rd_T60 l0 (ji8)).f0)) = false := decide_eq_false c11; clear c11; have H' := Aside0.mk H; clear H; have p262 : 0 ≤ (x7_1 : Int) := of_decide_eq_true (qP12); have q262 : x7_1 < (l0.length : Int) := of_decide_eq_true (qP12); obtain ⟨ad262, e262, hx262_0, hx262_1, hx262_2, hx262_3, hx262_4⟩ := at_T60 HR0.out x7_1 p262 q262; cases e262; replace hx262_0 := (HB.out.cell (World.block_lt_of_cell? w _ hx262_0)).trans hx262_0; replace hx262_1 := (HB.out.cell (World.block_lt_of_cell? w _ hx262_1)).trans hx262_1; replace hx262_2 := (HB.out.cell (World.block_lt_of_cell? w _ hx262_2)).trans hx262_2; replace hx262_3 := (HB.out.cell (World.block_lt_of_cell? w _ hx262_3)).trans hx262_3; replace hx262_4 := (HB.out.cell (World.block_lt_of_cell? w _ hx262_4)).trans hx262_4; replace p262 := eq_true p262; replace q262 := eq_true q262
           try go_wp2_with (first | ((with_reducible refine gate_dst (N := 4) rfl ?_); refine box_event ?hg (N := 4) ?hd (cs := #[.int .i64 0, .int .i64 0, .int .i64 0, .int .i64 0, .int .i64 0]) (t := 60) ?hr ?_; (case hd => rfl); (case hg => rfl); (case hr => exact (qP23)); intro gb263 hg w17 hbox hb; have BK263 := Aside0.mk (hbox); have GW263 := Aside0.mk (qP70); have GE263 := Aside0.mk (qP70); replace HB := Aside0.mk (qP57); clear hb hbox hg; have hcz18_0 : w17.cell? ⟨gb263, 0, none⟩ = some (.int .i64 0) := (blk_cell BK263.out 0).trans rfl; have hcz18_1 : w17.cell? ⟨gb263, 1, none⟩ = some (.int .i64 0) := (blk_cell BK263.out 1).trans rfl; have hcz18_2 : w17.cell? ⟨gb263, 2, none⟩ = some (.int .i64 0) := (blk_cell BK263.out 2).trans rfl; have hcz18_3 : w17.cell? ⟨gb263, 3, none⟩ = some (.int .i64 0) := (blk_cell BK263.out 3).trans rfl; have hcz18_4 : w17.cell? ⟨gb263, 4, none⟩ = some (.int .i64 0) := (blk_cell BK263.out 4).trans rfl; have hfz18_0 := blk_frozen BK263.out 0; have hfz18_1 := blk_frozen BK263.out 1; have hfz18_2 := blk_frozen BK263.out 2; have hfz18_3 := blk_frozen BK263.out 3; have hfz18_4 := blk_frozen BK263.out 4))
           have n0_ : Aside0 ((((((w17.setCell ⟨gb263, 0, none⟩ (.int .i64 ((rd_T60 l0 x7_1).f0))).setCell ⟨gb263, 1, none⟩ (.int .i64 ((rd_T60 l0 x7_1).f1))).setCell ⟨gb263, 2, none⟩ (.int .i64 ((rd_T60 l0 x7_1).f2))).setCell ⟨gb263, 3, none⟩ (.int .i64 ((rd_T60 l0 x7_1).f3))).setCell ⟨gb263, 4, none⟩ (.int .i64 ((rd_T60 l0 x7_1).f4))).heap[gb263]? = some (.cells #[.int .i64 ((rd_T60 l0 x7_1).f0), .int .i64 ((rd_T60 l0 x7_1).f1), .int .i64 ((rd_T60 l0 x7_1).f2), .int .i64 ((rd_T60 l0 x7_1).f3), .int .i64 ((rd_T60 l0 x7_1).f4)] 60 (0, 0))) := ⟨(qP19)⟩; have n1_ : Aside0 (Below w.heap.size w (((((w17.setCell ⟨gb263, 0, none⟩ (.int .i64 ((rd_T60 l0 x7_1).f0))).setCell ⟨gb263, 1, none⟩ (.int .i64 ((rd_T60 l0 x7_1).f1))).setCell ⟨gb263, 2, none⟩ (.int .i64 ((rd_T60 l0 x7_1).f2))).setCell ⟨gb263, 3, none⟩ (.int .i64 ((rd_T60 l0 x7_1).f3))).setCell ⟨gb263, 4, none⟩ (.int .i64 ((rd_T60 l0 x7_1).f4)))) := ⟨(qP5 GE263.out)⟩
           (try clear BK263)
           (try clear HB)
           generalize (((((w17.setCell ⟨gb263, 0, none⟩ (.int .i64 ((rd_T60 l0 x7_1).f0))).setCell ⟨gb263, 1, none⟩ (.int .i64 ((rd_T60 l0 x7_1).f1))).setCell ⟨gb263, 2, none⟩ (.int .i64 ((rd_T60 l0 x7_1).f2))).setCell ⟨gb263, 3, none⟩ (.int .i64 ((rd_T60 l0 x7_1).f3))).setCell ⟨gb263, 4, none⟩ (.int .i64 ((rd_T60 l0 x7_1).f4))) = w19 at n0_ n1_ ⊢
           have BK263 := n0_; have HB := n1_; clear n0_ n1_; replace BK263 := Aside0.mk (blk_drew BK263.out); replace HB := Aside0.mk (below_drew1 HB.out); have p265 : 0 ≤ ((ji8) : Int) := of_decide_eq_true (qP12); have q265 : (ji8) < (l0.length : Int) := of_decide_eq_true (qP12); obtain ⟨ad265, e265, hx265_0, hx265_1, hx265_2, hx265_3, hx265_4⟩ := at_T60 HR0.out (ji8) p265 q265; have hw265_4 := hx265_4; have hw265_3 := hx265_3; have hw265_2 := hx265_2; have hw265_1 := hx265_1; have hw265_0 := hx265_0; obtain rfl : ad262 = ad265 := (by injection e265); replace hx265_0 := (HB.out.cell (World.block_lt_of_cell? w _ hx265_0)).trans hx265_0; replace hx265_1 := (HB.out.cell (World.block_lt_of_cell? w _ hx265_1)).trans hx265_1; replace hx265_2 := (HB.out.cell (World.block_lt_of_cell? w _ hx265_2)).trans hx265_2; replace hx265_3 := (HB.out.cell (World.block_lt_of_cell? w _ hx265_3)).trans hx265_3; replace hx265_4 := (HB.out.cell (World.block_lt_of_cell? w _ hx265_4)).trans hx265_4; replace p265 := eq_true p265; replace q265 := eq_true q265
           refine start_ (n := 18) (S := fun w' => w'.cell? ⟨gb263, 0, none⟩ = some (.int .i64 ((rd_T60 l0 x7_1).f0)) ∧ w'.cell? ⟨gb263, 1, none⟩ = some (.int .i64 ((rd_T60 l0 x7_1).f1)) ∧ w'.cell? ⟨gb263, 2, none⟩ = some (.int .i64 ((rd_T60 l0 x7_1).f2)) ∧ w'.cell? ⟨gb263, 3, none⟩ = some (.int .i64 ((rd_T60 l0 x7_1).f3)) ∧ w'.cell? ⟨gb263, 4, none⟩ = some (.int .i64 ((rd_T60 l0 x7_1).f4)) ∧ w'.cell? (ad262.add (((ji8)).toNat * 5)) = some (.int .i64 ((rd_T60 l0 (ji8)).f0)) ∧ w'.cell? ⟨(ad262.add (((ji8)).toNat * 5)).block, (ad262.add (((ji8)).toNat * 5)).off + 1, none⟩ = some (.int .i64 ((rd_T60 l0 (ji8)).f1)) ∧ w'.cell? ⟨(ad262.add (((ji8)).toNat * 5)).block, (ad262.add (((ji8)).toNat * 5)).off + 2, none⟩ = some (.int .i64 ((rd_T60 l0 (ji8)).f2)) ∧ w'.cell? ⟨(ad262.add (((ji8)).toNat * 5)).block, (ad262.add (((ji8)).toNat * 5)).off + 3, none⟩ = some (.int .i64 ((rd_T60 l0 (ji8)).f3)) ∧ w'.cell? ⟨(ad262.add (((ji8)).toNat * 5)).block, (ad262.add (((ji8)).toNat * 5)).off + 4, none⟩ = some (.int .i64 ((rd_T60 l0 (ji8)).f4))) (ds := []) qPb0 (by kernel_rfl) rfl rfl ⟨(blk_cell BK263.out 0).trans rfl, (blk_cell BK263.out 1).trans rfl, (blk_cell BK263.out 2).trans rfl, (blk_cell BK263.out 3).trans rfl, (blk_cell BK263.out 4).trans rfl, ((HB.out.cell (World.block_lt_of_cell? w _ hw265_0)).trans hw265_0), ((HB.out.cell (World.block_lt_of_cell? w _ hw265_1)).trans hw265_1), ((HB.out.cell (World.block_lt_of_cell? w _ hw265_2)).trans hw265_2), ((HB.out.cell (World.block_lt_of_cell? w _ hw265_3)).trans hw265_3), ((HB.out.cell (World.block_lt_of_cell? w _ hw265_4)).trans hw265_4)⟩ (fun hHeld => ?_); refine with_tabW impl_ArePassages.tab4 impl_ArePassages.bits4 (fun HT_ HW_ => ?_)
           generalize w19.drew = w20 at BK263 HB hx265_0 hx265_1 hx265_2 hx265_3 hx265_4 hHeld ⊢
           refine take_ (i := 0) (N := some 12) (v := ?_) (a' := ?_) qPb1 rfl rfl (take_ofW HT_.out HW_.out (by kernel_rfl)) (fun _ _ _ h => h) (Or.inl ⟨by rfl, ?_⟩) hHeld ?_ ?_
           rotate_left; exact qP3_c3; rotate_left; exact qP3_c0
           refine one_ (i := 1) (N := some 13) qPb2 rfl rfl (qP35) (by decide) (fun K hK => ?_)
           refine goes_ Try.func33 (by kernel_rfl) rfl #[.agg #[.int .i64 ((rd_T60 l0 x7_1).f0), .int .i64 ((rd_T60 l0 x7_1).f1), .int .i64 ((rd_T60 l0 x7_1).f2), .int .i64 ((rd_T60 l0 x7_1).f3), .int .i64 ((rd_T60 l0 x7_1).f4)]] (by rfl) rfl rfl (qP2) ?_
           with_reducible refine (impl_isPassage.calls ((rd_T60 l0 x7_1).f0) ((rd_T60 l0 x7_1).f1) ((rd_T60 l0 x7_1).f2) ((rd_T60 l0 x7_1).f3) ((rd_T60 l0 x7_1).f4) true _ A5.out).mono ?_
           rintro e w21 ⟨rfl, hb⟩
           refine ⟨_, rfl, ?_⟩
           replace BK263 := Aside0.mk (blk_below (g := gb263) (o := .cells #[.int .i64 ((rd_T60 l0 x7_1).f0), .int .i64 ((rd_T60 l0 x7_1).f1), .int .i64 ((rd_T60 l0 x7_1).f2), .int .i64 ((rd_T60 l0 x7_1).f3), .int .i64 ((rd_T60 l0 x7_1).f4)] 60 (0, 0)) (qP9 BK263.out) hb); replace HB := Aside0.mk (below_step (qP5 GE263.out) hb)
           (try clear hb)
           (try clear hb2)
           (try clear hk)
           (try clear hi)
           refine hK.out _ _ ⟨(blk_cell BK263.out 0).trans rfl, (blk_cell BK263.out 1).trans rfl, (blk_cell BK263.out 2).trans rfl, (blk_cell BK263.out 3).trans rfl, (blk_cell BK263.out 4).trans rfl, ((HB.out.cell (World.block_lt_of_cell? w _ hw265_0)).trans hw265_0), ((HB.out.cell (World.block_lt_of_cell? w _ hw265_1)).trans hw265_1), ((HB.out.cell (World.block_lt_of_cell? w _ hw265_2)).trans hw265_2), ((HB.out.cell (World.block_lt_of_cell? w _ hw265_3)).trans hw265_3), ((HB.out.cell (World.block_lt_of_cell? w _ hw265_4)).trans hw265_4)⟩ (fun hHeld => ?_)
           clear hK K
           refine norm_ (a' := ?_) ?_ ?_
           rotate_left
           ·exact qP3_c2
           refine pure_ (i := 2) (N := some 14) (v := ?_) (a' := ?_) qPb3 rfl rfl (qP11) (fun _ _ _ h => h) (Or.inl ⟨by rfl, ?_⟩) ?_ ?_
           rotate_left; exact qP3_c1; rotate_left; exact qP3_c0
           refine pure_ (i := 3) (N := some 15) (v := ?_) (a' := ?_) qPb4 rfl rfl (qP11) (fun _ _ _ h => h) (Or.inl ⟨by rfl, ?_⟩) ?_ ?_
           rotate_left; exact qP3_c1; rotate_left; exact qP3_c0
           refine pure_ (i := 4) (N := some 16) (v := ?_) (a' := ?_) qPb5 rfl rfl (qP11) (fun _ _ _ h => h) (Or.inl ⟨by rfl, ?_⟩) ?_ ?_
           rotate_left; exact qP3_c1; rotate_left; exact qP3_c0
           refine pure_ (i := 5) (N := some 17) (v := ?_) (a' := ?_) qPb6 rfl rfl (qP11) (fun _ _ _ h => h) (Or.inl ⟨by rfl, ?_⟩) ?_ ?_
           rotate_left; exact qP3_c1; rotate_left; exact qP3_c0
           refine pure_ (i := 6) (N := some 18) (v := ?_) (a' := ?_) qPb7 rfl rfl (qP11) (fun _ _ _ h => h) (Or.inl ⟨by rfl, ?_⟩) ?_ ?_
           rotate_left; exact qP3_c1; rotate_left; exact qP3_c0
           refine pure_ (i := 7) (N := some 19) (v := ?_) (a' := ?_) qPb8 rfl rfl (qP11) (fun _ _ _ h => h) (Or.inl ⟨by rfl, ?_⟩) ?_ ?_
           rotate_left; exact qP3_c1; rotate_left; exact qP3_c0
           refine pure_ (i := 8) (N := some 20) (v := ?_) (a' := ?_) qPb9 rfl rfl (qP11) (fun _ _ _ h => h) (Or.inl ⟨by rfl, ?_⟩) ?_ ?_
           rotate_left; exact qP3_c1; rotate_left; exact qP3_c0
           refine pure_ (i := 9) (N := some 21) (v := ?_) (a' := ?_) qPb10 rfl rfl (qP11) (fun _ _ _ h => h) (Or.inl ⟨by rfl, ?_⟩) ?_ ?_
           rotate_left; exact qP3_c1; rotate_left; exact qP3_c0
           refine pure_ (i := 10) (N := some 22) (v := ?_) (a' := ?_) qPb11 rfl rfl (qP11) (fun _ _ _ h => h) (Or.inl ⟨by rfl, ?_⟩) ?_ ?_
           rotate_left; exact qP3_c1; rotate_left; exact qP3_c0
           refine pure_ (i := 11) (N := some 23) (v := ?_) (a' := ?_) qPb12 rfl rfl (qP11) (fun _ _ _ h => h) (Or.inl ⟨by rfl, ?_⟩) ?_ ?_
           rotate_left; exact qP3_c1; rotate_left; exact qP3_c0
           refine pure_ (i := 13) (N := some 25) (v := ?_) (a' := ?_) qPb13 rfl rfl (qP11) (fun _ _ _ h => h) (Or.inl ⟨by rfl, ?_⟩) ?_ ?_
           rotate_left; exact qP3_c1; rotate_left; exact qP3_c0
           refine take_ (i := 12) (N := some 24) (v := ?_) (a' := ?_) qPb14 rfl rfl (take_ofW HT_.out HW_.out (by kernel_rfl)) (fun _ _ _ h => h) (Or.inl ⟨by rfl, ?_⟩) hHeld ?_ ?_
           rotate_left; exact qP3_c3; rotate_left; exact qP3_c0
           refine take_ (i := 14) (N := some 26) (v := ?_) (a' := ?_) qPb15 rfl rfl (take_ofW HT_.out HW_.out (by kernel_rfl)) (fun _ _ _ h => h) (Or.inl ⟨by rfl, ?_⟩) hHeld ?_ ?_
           rotate_left; exact qP3_c3; rotate_left; exact qP3_c0
           refine pure_ (i := 15) (N := some 27) (v := ?_) (a' := ?_) qPb16 rfl rfl (qP11) (fun _ _ _ h => h) (Or.inl ⟨by rfl, ?_⟩) ?_ ?_
           rotate_left; exact qP3_c1; rotate_left; exact qP3_c0
           refine pure_ (i := 16) (N := some 28) (v := ?_) (a' := ?_) qPb17 rfl rfl (qP11) (fun _ _ _ h => h) (Or.inl ⟨by rfl, ?_⟩) ?_ ?_
           rotate_left; exact qP3_c1; rotate_left; exact qP3_c0
           refine pure_ (i := 17) (N := some 29) (v := ?_) (a' := ?_) qPb18 rfl rfl (qP11) (fun _ _ _ h => h) (Or.inl ⟨by rfl, ?_⟩) ?_ ?_
           rotate_left; exact qP3_c1; rotate_left; exact qP3_c0
           refine done_ (qP43) ?_
           try go_wp2
           go_roundg k1
           case measure => have := HK1.out; omega
           case rel => exact ⟨(wrap64 (x7_1 + 1)), (qP14), H', ⟨by have := HK1.out; omega⟩, ⟨(qP5 GE263.out)⟩⟩
         ·rw [if_neg c10] at H
          exact absurd H (by simp)
        ·rw [if_neg c9] at H
         exact absurd H (by simp)
       ·rw [if_neg c7] at H; have c7b0 : decide (0 < x7_1) = false := decide_eq_false c7; clear c7; have H' := Aside0.mk H; clear H; have p262 : 0 ≤ (x7_1 : Int) := of_decide_eq_true (qP12); have q262 : x7_1 < (l0.length : Int) := of_decide_eq_true (qP12); obtain ⟨ad262, e262, hx262_0, hx262_1, hx262_2, hx262_3, hx262_4⟩ := at_T60 HR0.out x7_1 p262 q262; cases e262; replace hx262_0 := (HB.out.cell (World.block_lt_of_cell? w _ hx262_0)).trans hx262_0; replace hx262_1 := (HB.out.cell (World.block_lt_of_cell? w _ hx262_1)).trans hx262_1; replace hx262_2 := (HB.out.cell (World.block_lt_of_cell? w _ hx262_2)).trans hx262_2; replace hx262_3 := (HB.out.cell (World.block_lt_of_cell? w _ hx262_3)).trans hx262_3; replace hx262_4 := (HB.out.cell (World.block_lt_of_cell? w _ hx262_4)).trans hx262_4; replace p262 := eq_true p262; replace q262 := eq_true q262
        try go_wp2_with (first | ((with_reducible refine gate_dst (N := 4) rfl ?_); refine box_event ?hg (N := 4) ?hd (cs := #[.int .i64 0, .int .i64 0, .int .i64 0, .int .i64 0, .int .i64 0]) (t := 60) ?hr ?_; (case hd => rfl); (case hg => rfl); (case hr => exact (qP23)); intro gb263 hg w22 hbox hb; have BK263 := Aside0.mk (hbox); have GW263 := Aside0.mk (qP70); have GE263 := Aside0.mk (qP70); replace HB := Aside0.mk (qP57); clear hb hbox hg; have hcz23_0 : w22.cell? ⟨gb263, 0, none⟩ = some (.int .i64 0) := (blk_cell BK263.out 0).trans rfl; have hcz23_1 : w22.cell? ⟨gb263, 1, none⟩ = some (.int .i64 0) := (blk_cell BK263.out 1).trans rfl; have hcz23_2 : w22.cell? ⟨gb263, 2, none⟩ = some (.int .i64 0) := (blk_cell BK263.out 2).trans rfl; have hcz23_3 : w22.cell? ⟨gb263, 3, none⟩ = some (.int .i64 0) := (blk_cell BK263.out 3).trans rfl; have hcz23_4 : w22.cell? ⟨gb263, 4, none⟩ = some (.int .i64 0) := (blk_cell BK263.out 4).trans rfl; have hfz23_0 := blk_frozen BK263.out 0; have hfz23_1 := blk_frozen BK263.out 1; have hfz23_2 := blk_frozen BK263.out 2; have hfz23_3 := blk_frozen BK263.out 3; have hfz23_4 := blk_frozen BK263.out 4))
        have n0_ : Aside0 ((((((w22.setCell ⟨gb263, 0, none⟩ (.int .i64 ((rd_T60 l0 x7_1).f0))).setCell ⟨gb263, 1, none⟩ (.int .i64 ((rd_T60 l0 x7_1).f1))).setCell ⟨gb263, 2, none⟩ (.int .i64 ((rd_T60 l0 x7_1).f2))).setCell ⟨gb263, 3, none⟩ (.int .i64 ((rd_T60 l0 x7_1).f3))).setCell ⟨gb263, 4, none⟩ (.int .i64 ((rd_T60 l0 x7_1).f4))).heap[gb263]? = some (.cells #[.int .i64 ((rd_T60 l0 x7_1).f0), .int .i64 ((rd_T60 l0 x7_1).f1), .int .i64 ((rd_T60 l0 x7_1).f2), .int .i64 ((rd_T60 l0 x7_1).f3), .int .i64 ((rd_T60 l0 x7_1).f4)] 60 (0, 0))) := ⟨(qP19)⟩; have n1_ : Aside0 (Below w.heap.size w (((((w22.setCell ⟨gb263, 0, none⟩ (.int .i64 ((rd_T60 l0 x7_1).f0))).setCell ⟨gb263, 1, none⟩ (.int .i64 ((rd_T60 l0 x7_1).f1))).setCell ⟨gb263, 2, none⟩ (.int .i64 ((rd_T60 l0 x7_1).f2))).setCell ⟨gb263, 3, none⟩ (.int .i64 ((rd_T60 l0 x7_1).f3))).setCell ⟨gb263, 4, none⟩ (.int .i64 ((rd_T60 l0 x7_1).f4)))) := ⟨(qP5 GE263.out)⟩
        (try clear BK263)
        (try clear HB)
        generalize (((((w22.setCell ⟨gb263, 0, none⟩ (.int .i64 ((rd_T60 l0 x7_1).f0))).setCell ⟨gb263, 1, none⟩ (.int .i64 ((rd_T60 l0 x7_1).f1))).setCell ⟨gb263, 2, none⟩ (.int .i64 ((rd_T60 l0 x7_1).f2))).setCell ⟨gb263, 3, none⟩ (.int .i64 ((rd_T60 l0 x7_1).f3))).setCell ⟨gb263, 4, none⟩ (.int .i64 ((rd_T60 l0 x7_1).f4))) = w24 at n0_ n1_ ⊢
        have BK263 := n0_; have HB := n1_; clear n0_ n1_; replace BK263 := Aside0.mk (blk_drew BK263.out); replace HB := Aside0.mk (below_drew1 HB.out)
        refine start_ (n := 18) (S := fun w' => w'.cell? ⟨gb263, 0, none⟩ = some (.int .i64 ((rd_T60 l0 x7_1).f0)) ∧ w'.cell? ⟨gb263, 1, none⟩ = some (.int .i64 ((rd_T60 l0 x7_1).f1)) ∧ w'.cell? ⟨gb263, 2, none⟩ = some (.int .i64 ((rd_T60 l0 x7_1).f2)) ∧ w'.cell? ⟨gb263, 3, none⟩ = some (.int .i64 ((rd_T60 l0 x7_1).f3)) ∧ w'.cell? ⟨gb263, 4, none⟩ = some (.int .i64 ((rd_T60 l0 x7_1).f4))) (ds := []) qPb0 (by kernel_rfl) rfl rfl ⟨(blk_cell BK263.out 0).trans rfl, (blk_cell BK263.out 1).trans rfl, (blk_cell BK263.out 2).trans rfl, (blk_cell BK263.out 3).trans rfl, (blk_cell BK263.out 4).trans rfl⟩ (fun hHeld => ?_); refine with_tabW impl_ArePassages.tab4 impl_ArePassages.bits4 (fun HT_ HW_ => ?_)
        generalize w24.drew = w25 at BK263 HB hHeld ⊢
        refine take_ (i := 0) (N := some 12) (v := ?_) (a' := ?_) qPb1 rfl rfl (take_ofW HT_.out HW_.out (by kernel_rfl)) (fun _ _ _ h => h) (Or.inl ⟨by rfl, ?_⟩) hHeld ?_ ?_
        rotate_left
        ·rintro w' ⟨s0, s1, s2, s3, s4⟩
         go_simp
         with_reducible rfl
        rotate_left
        ·exact qP3_c0
        refine one_ (i := 1) (N := some 13) qPb2 rfl rfl (qP35) (by decide) (fun K hK => ?_)
        refine goes_ Try.func33 (by kernel_rfl) rfl #[.agg #[.int .i64 ((rd_T60 l0 x7_1).f0), .int .i64 ((rd_T60 l0 x7_1).f1), .int .i64 ((rd_T60 l0 x7_1).f2), .int .i64 ((rd_T60 l0 x7_1).f3), .int .i64 ((rd_T60 l0 x7_1).f4)]] (by rfl) rfl rfl (qP2) ?_
        with_reducible refine (impl_isPassage.calls ((rd_T60 l0 x7_1).f0) ((rd_T60 l0 x7_1).f1) ((rd_T60 l0 x7_1).f2) ((rd_T60 l0 x7_1).f3) ((rd_T60 l0 x7_1).f4) true _ A5.out).mono ?_
        rintro e w26 ⟨rfl, hb⟩
        refine ⟨_, rfl, ?_⟩
        replace BK263 := Aside0.mk (blk_below (g := gb263) (o := .cells #[.int .i64 ((rd_T60 l0 x7_1).f0), .int .i64 ((rd_T60 l0 x7_1).f1), .int .i64 ((rd_T60 l0 x7_1).f2), .int .i64 ((rd_T60 l0 x7_1).f3), .int .i64 ((rd_T60 l0 x7_1).f4)] 60 (0, 0)) (qP9 BK263.out) hb); replace HB := Aside0.mk (below_step (qP5 GE263.out) hb)
        (try clear hb)
        (try clear hb2)
        (try clear hk)
        (try clear hi)
        refine hK.out _ _ ⟨(blk_cell BK263.out 0).trans rfl, (blk_cell BK263.out 1).trans rfl, (blk_cell BK263.out 2).trans rfl, (blk_cell BK263.out 3).trans rfl, (blk_cell BK263.out 4).trans rfl⟩ (fun hHeld => ?_)
        clear hK K
        refine norm_ (a' := ?_) ?_ ?_
        rotate_left
        ·exact qP3_c2
        refine pure_ (i := 2) (N := some 14) (v := ?_) (a' := ?_) qPb3 rfl rfl (qP11) (fun _ _ _ h => h) (Or.inl ⟨by rfl, ?_⟩) ?_ ?_
        rotate_left; exact qP3_c1; rotate_left; exact qP3_c0
        refine pure_ (i := 3) (N := some 15) (v := ?_) (a' := ?_) qPb4 rfl rfl (qP11) (fun _ _ _ h => h) (Or.inl ⟨by rfl, ?_⟩) ?_ ?_
        rotate_left; exact qP3_c1; rotate_left; exact qP3_c0
        refine pure_ (i := 4) (N := some 16) (v := ?_) (a' := ?_) qPb5 rfl rfl (qP11) (fun _ _ _ h => h) (Or.inl ⟨by rfl, ?_⟩) ?_ ?_
        rotate_left; exact qP3_c1; rotate_left; exact qP3_c0
        refine pure_ (i := 5) (N := some 17) (v := ?_) (a' := ?_) qPb6 rfl rfl (qP11) (fun _ _ _ h => h) (Or.inl ⟨by rfl, ?_⟩) ?_ ?_
        rotate_left; exact qP3_c1; rotate_left; exact qP3_c0
        refine pure_ (i := 6) (N := some 18) (v := ?_) (a' := ?_) qPb7 rfl rfl (qP11) (fun _ _ _ h => h) (Or.inl ⟨by rfl, ?_⟩) ?_ ?_
        rotate_left; exact qP3_c1; rotate_left; exact qP3_c0
        refine pure_ (i := 7) (N := some 19) (v := undef) (a' := ?_) qPb8 rfl rfl (qP11) (fun _ _ _ h => h) (Or.inr ⟨by rfl, rfl⟩) ?_ ?_
        rotate_left
        ·exact qP3_c0
        refine pure_ (i := 8) (N := some 20) (v := undef) (a' := ?_) qPb9 rfl rfl (qP11) (fun _ _ _ h => h) (Or.inr ⟨by rfl, rfl⟩) ?_ ?_
        rotate_left
        ·exact qP3_c0
        refine pure_ (i := 9) (N := some 21) (v := undef) (a' := ?_) qPb10 rfl rfl (qP11) (fun _ _ _ h => h) (Or.inr ⟨by rfl, rfl⟩) ?_ ?_
        rotate_left
        ·exact qP3_c0
        refine pure_ (i := 10) (N := some 22) (v := undef) (a' := ?_) qPb11 rfl rfl (qP11) (fun _ _ _ h => h) (Or.inr ⟨by rfl, rfl⟩) ?_ ?_
        rotate_left
        ·exact qP3_c0
        refine pure_ (i := 11) (N := some 23) (v := undef) (a' := ?_) qPb12 rfl rfl (qP11) (fun _ _ _ h => h) (Or.inr ⟨by rfl, rfl⟩) ?_ ?_
        rotate_left
        ·exact qP3_c0
        refine pure_ (i := 12) (N := some 24) (v := undef) (a' := ?_) qPb19 rfl rfl (qP11) (fun _ _ _ h => h) (Or.inr ⟨by rfl, rfl⟩) ?_ ?_
        rotate_left
        ·exact qP3_c0
        refine pure_ (i := 13) (N := some 25) (v := undef) (a' := ?_) qPb14 rfl rfl (qP11) (fun _ _ _ h => h) (Or.inr ⟨by rfl, rfl⟩) ?_ ?_
        rotate_left
        ·exact qP3_c0
        refine pure_ (i := 14) (N := some 26) (v := undef) (a' := ?_) qPb15 rfl rfl (qP11) (fun _ _ _ h => h) (Or.inr ⟨by rfl, rfl⟩) ?_ ?_
        rotate_left
        ·exact qP3_c0
        refine pure_ (i := 15) (N := some 27) (v := undef) (a' := ?_) qPb16 rfl rfl (qP11) (fun _ _ _ h => h) (Or.inr ⟨by rfl, rfl⟩) ?_ ?_
        rotate_left
        ·exact qP3_c0
        refine pure_ (i := 16) (N := some 28) (v := ?_) (a' := ?_) qPb17 rfl rfl (qP11) (fun _ _ _ h => h) (Or.inl ⟨by rfl, ?_⟩) ?_ ?_
        rotate_left; exact qP3_c1; rotate_left; exact qP3_c0
        refine pure_ (i := 17) (N := some 29) (v := ?_) (a' := ?_) qPb18 rfl rfl (qP11) (fun _ _ _ h => h) (Or.inl ⟨by rfl, ?_⟩) ?_ ?_
        rotate_left; exact qP3_c1; rotate_left; exact qP3_c0
        refine done_ (qP43) ?_
        try go_wp2
        go_roundg k1
        case measure => have := HK1.out; omega
        case rel => exact ⟨(wrap64 (x7_1 + 1)), (qP14), H', ⟨by have := HK1.out; omega⟩, ⟨(qP5 GE263.out)⟩⟩
      ·replace c6 := Bool.eq_false_iff.mpr c6; subst c6; rw [if_neg (show ¬ (false = true) by decide)] at H; obtain rfl := Option.some.inj H; have p262 : 0 ≤ (x7_1 : Int) := of_decide_eq_true (qP12); have q262 : x7_1 < (l0.length : Int) := of_decide_eq_true (qP12); obtain ⟨ad262, e262, hx262_0, hx262_1, hx262_2, hx262_3, hx262_4⟩ := at_T60 HR0.out x7_1 p262 q262; cases e262; replace hx262_0 := (HB.out.cell (World.block_lt_of_cell? w _ hx262_0)).trans hx262_0; replace hx262_1 := (HB.out.cell (World.block_lt_of_cell? w _ hx262_1)).trans hx262_1; replace hx262_2 := (HB.out.cell (World.block_lt_of_cell? w _ hx262_2)).trans hx262_2; replace hx262_3 := (HB.out.cell (World.block_lt_of_cell? w _ hx262_3)).trans hx262_3; replace hx262_4 := (HB.out.cell (World.block_lt_of_cell? w _ hx262_4)).trans hx262_4; replace p262 := eq_true p262; replace q262 := eq_true q262
       try go_wp2_with (first | ((with_reducible refine gate_dst (N := 4) rfl ?_); refine box_event ?hg (N := 4) ?hd (cs := #[.int .i64 0, .int .i64 0, .int .i64 0, .int .i64 0, .int .i64 0]) (t := 60) ?hr ?_; (case hd => rfl); (case hg => rfl); (case hr => exact (qP23)); intro gb263 hg w27 hbox hb; have BK263 := Aside0.mk (hbox); have GW263 := Aside0.mk (qP70); have GE263 := Aside0.mk (qP70); replace HB := Aside0.mk (qP57); clear hb hbox hg; have hcz28_0 : w27.cell? ⟨gb263, 0, none⟩ = some (.int .i64 0) := (blk_cell BK263.out 0).trans rfl; have hcz28_1 : w27.cell? ⟨gb263, 1, none⟩ = some (.int .i64 0) := (blk_cell BK263.out 1).trans rfl; have hcz28_2 : w27.cell? ⟨gb263, 2, none⟩ = some (.int .i64 0) := (blk_cell BK263.out 2).trans rfl; have hcz28_3 : w27.cell? ⟨gb263, 3, none⟩ = some (.int .i64 0) := (blk_cell BK263.out 3).trans rfl; have hcz28_4 : w27.cell? ⟨gb263, 4, none⟩ = some (.int .i64 0) := (blk_cell BK263.out 4).trans rfl; have hfz28_0 := blk_frozen BK263.out 0; have hfz28_1 := blk_frozen BK263.out 1; have hfz28_2 := blk_frozen BK263.out 2; have hfz28_3 := blk_frozen BK263.out 3; have hfz28_4 := blk_frozen BK263.out 4))
       have n0_ : Aside0 ((((((w27.setCell ⟨gb263, 0, none⟩ (.int .i64 ((rd_T60 l0 x7_1).f0))).setCell ⟨gb263, 1, none⟩ (.int .i64 ((rd_T60 l0 x7_1).f1))).setCell ⟨gb263, 2, none⟩ (.int .i64 ((rd_T60 l0 x7_1).f2))).setCell ⟨gb263, 3, none⟩ (.int .i64 ((rd_T60 l0 x7_1).f3))).setCell ⟨gb263, 4, none⟩ (.int .i64 ((rd_T60 l0 x7_1).f4))).heap[gb263]? = some (.cells #[.int .i64 ((rd_T60 l0 x7_1).f0), .int .i64 ((rd_T60 l0 x7_1).f1), .int .i64 ((rd_T60 l0 x7_1).f2), .int .i64 ((rd_T60 l0 x7_1).f3), .int .i64 ((rd_T60 l0 x7_1).f4)] 60 (0, 0))) := ⟨(qP19)⟩; have n1_ : Aside0 (Below w.heap.size w (((((w27.setCell ⟨gb263, 0, none⟩ (.int .i64 ((rd_T60 l0 x7_1).f0))).setCell ⟨gb263, 1, none⟩ (.int .i64 ((rd_T60 l0 x7_1).f1))).setCell ⟨gb263, 2, none⟩ (.int .i64 ((rd_T60 l0 x7_1).f2))).setCell ⟨gb263, 3, none⟩ (.int .i64 ((rd_T60 l0 x7_1).f3))).setCell ⟨gb263, 4, none⟩ (.int .i64 ((rd_T60 l0 x7_1).f4)))) := ⟨(qP5 GE263.out)⟩
       (try clear BK263)
       (try clear HB)
       generalize (((((w27.setCell ⟨gb263, 0, none⟩ (.int .i64 ((rd_T60 l0 x7_1).f0))).setCell ⟨gb263, 1, none⟩ (.int .i64 ((rd_T60 l0 x7_1).f1))).setCell ⟨gb263, 2, none⟩ (.int .i64 ((rd_T60 l0 x7_1).f2))).setCell ⟨gb263, 3, none⟩ (.int .i64 ((rd_T60 l0 x7_1).f3))).setCell ⟨gb263, 4, none⟩ (.int .i64 ((rd_T60 l0 x7_1).f4))) = w29 at n0_ n1_ ⊢
       have BK263 := n0_; have HB := n1_; clear n0_ n1_; replace BK263 := Aside0.mk (blk_drew BK263.out); replace HB := Aside0.mk (below_drew1 HB.out)
       refine start_ (n := 18) (S := fun w' => w'.cell? ⟨gb263, 0, none⟩ = some (.int .i64 ((rd_T60 l0 x7_1).f0)) ∧ w'.cell? ⟨gb263, 1, none⟩ = some (.int .i64 ((rd_T60 l0 x7_1).f1)) ∧ w'.cell? ⟨gb263, 2, none⟩ = some (.int .i64 ((rd_T60 l0 x7_1).f2)) ∧ w'.cell? ⟨gb263, 3, none⟩ = some (.int .i64 ((rd_T60 l0 x7_1).f3)) ∧ w'.cell? ⟨gb263, 4, none⟩ = some (.int .i64 ((rd_T60 l0 x7_1).f4))) (ds := []) qPb0 (by kernel_rfl) rfl rfl ⟨(blk_cell BK263.out 0).trans rfl, (blk_cell BK263.out 1).trans rfl, (blk_cell BK263.out 2).trans rfl, (blk_cell BK263.out 3).trans rfl, (blk_cell BK263.out 4).trans rfl⟩ (fun hHeld => ?_); refine with_tabW impl_ArePassages.tab4 impl_ArePassages.bits4 (fun HT_ HW_ => ?_)
       generalize w29.drew = w30 at BK263 HB hHeld ⊢
       refine take_ (i := 0) (N := some 12) (v := ?_) (a' := ?_) qPb1 rfl rfl (take_ofW HT_.out HW_.out (by kernel_rfl)) (fun _ _ _ h => h) (Or.inl ⟨by rfl, ?_⟩) hHeld ?_ ?_
       rotate_left
       ·rintro w' ⟨s0, s1, s2, s3, s4⟩
        go_simp
        with_reducible rfl
       rotate_left
       ·exact qP3_c0
       refine one_ (i := 1) (N := some 13) qPb2 rfl rfl (qP35) (by decide) (fun K hK => ?_)
       refine goes_ Try.func33 (by kernel_rfl) rfl #[.agg #[.int .i64 ((rd_T60 l0 x7_1).f0), .int .i64 ((rd_T60 l0 x7_1).f1), .int .i64 ((rd_T60 l0 x7_1).f2), .int .i64 ((rd_T60 l0 x7_1).f3), .int .i64 ((rd_T60 l0 x7_1).f4)]] (by rfl) rfl rfl (qP2) ?_
       with_reducible refine (impl_isPassage.calls ((rd_T60 l0 x7_1).f0) ((rd_T60 l0 x7_1).f1) ((rd_T60 l0 x7_1).f2) ((rd_T60 l0 x7_1).f3) ((rd_T60 l0 x7_1).f4) false _ A5.out).mono ?_
       rintro e w31 ⟨rfl, hb⟩
       refine ⟨_, rfl, ?_⟩
       replace BK263 := Aside0.mk (blk_below (g := gb263) (o := .cells #[.int .i64 ((rd_T60 l0 x7_1).f0), .int .i64 ((rd_T60 l0 x7_1).f1), .int .i64 ((rd_T60 l0 x7_1).f2), .int .i64 ((rd_T60 l0 x7_1).f3), .int .i64 ((rd_T60 l0 x7_1).f4)] 60 (0, 0)) (qP9 BK263.out) hb); replace HB := Aside0.mk (below_step (qP5 GE263.out) hb)
       (try clear hb)
       (try clear hb2)
       (try clear hk)
       (try clear hi)
       refine hK.out _ _ ⟨(blk_cell BK263.out 0).trans rfl, (blk_cell BK263.out 1).trans rfl, (blk_cell BK263.out 2).trans rfl, (blk_cell BK263.out 3).trans rfl, (blk_cell BK263.out 4).trans rfl⟩ (fun hHeld => ?_)
       clear hK K
       refine norm_ (a' := ?_) ?_ ?_
       rotate_left
       ·exact qP3_c2
       refine pure_ (i := 2) (N := some 14) (v := ?_) (a' := ?_) qPb3 rfl rfl (qP11) (fun _ _ _ h => h) (Or.inl ⟨by rfl, ?_⟩) ?_ ?_
       rotate_left; exact qP3_c1; rotate_left; exact qP3_c0
       refine pure_ (i := 3) (N := some 15) (v := ?_) (a' := ?_) qPb4 rfl rfl (qP11) (fun _ _ _ h => h) (Or.inl ⟨by rfl, ?_⟩) ?_ ?_
       rotate_left; exact qP3_c1; rotate_left; exact qP3_c0
       refine pure_ (i := 4) (N := some 16) (v := undef) (a' := ?_) qPb5 rfl rfl (qP11) (fun _ _ _ h => h) (Or.inr ⟨by rfl, rfl⟩) ?_ ?_
       rotate_left
       ·exact qP3_c0
       refine pure_ (i := 5) (N := some 17) (v := undef) (a' := ?_) qPb6 rfl rfl (qP11) (fun _ _ _ h => h) (Or.inr ⟨by rfl, rfl⟩) ?_ ?_
       rotate_left
       ·exact qP3_c0
       refine pure_ (i := 6) (N := some 18) (v := undef) (a' := ?_) qPb7 rfl rfl (qP11) (fun _ _ _ h => h) (Or.inr ⟨by rfl, rfl⟩) ?_ ?_
       rotate_left
       ·exact qP3_c0
       refine pure_ (i := 7) (N := some 19) (v := undef) (a' := ?_) qPb8 rfl rfl (qP11) (fun _ _ _ h => h) (Or.inr ⟨by rfl, rfl⟩) ?_ ?_
       rotate_left
       ·exact qP3_c0
       refine pure_ (i := 8) (N := some 20) (v := undef) (a' := ?_) qPb9 rfl rfl (qP11) (fun _ _ _ h => h) (Or.inr ⟨by rfl, rfl⟩) ?_ ?_
       rotate_left
       ·exact qP3_c0
       refine pure_ (i := 9) (N := some 21) (v := undef) (a' := ?_) qPb10 rfl rfl (qP11) (fun _ _ _ h => h) (Or.inr ⟨by rfl, rfl⟩) ?_ ?_
       rotate_left
       ·exact qP3_c0
       refine pure_ (i := 10) (N := some 22) (v := undef) (a' := ?_) qPb11 rfl rfl (qP11) (fun _ _ _ h => h) (Or.inr ⟨by rfl, rfl⟩) ?_ ?_
       rotate_left
       ·exact qP3_c0
       refine pure_ (i := 11) (N := some 23) (v := undef) (a' := ?_) qPb12 rfl rfl (qP11) (fun _ _ _ h => h) (Or.inr ⟨by rfl, rfl⟩) ?_ ?_
       rotate_left
       ·exact qP3_c0
       refine pure_ (i := 12) (N := some 24) (v := undef) (a' := ?_) qPb19 rfl rfl (qP11) (fun _ _ _ h => h) (Or.inr ⟨by rfl, rfl⟩) ?_ ?_
       rotate_left
       ·exact qP3_c0
       refine pure_ (i := 13) (N := some 25) (v := undef) (a' := ?_) qPb14 rfl rfl (qP11) (fun _ _ _ h => h) (Or.inr ⟨by rfl, rfl⟩) ?_ ?_
       rotate_left
       ·exact qP3_c0
       refine pure_ (i := 14) (N := some 26) (v := undef) (a' := ?_) qPb15 rfl rfl (qP11) (fun _ _ _ h => h) (Or.inr ⟨by rfl, rfl⟩) ?_ ?_
       rotate_left
       ·exact qP3_c0
       refine pure_ (i := 15) (N := some 27) (v := undef) (a' := ?_) qPb16 rfl rfl (qP11) (fun _ _ _ h => h) (Or.inr ⟨by rfl, rfl⟩) ?_ ?_
       rotate_left
       ·exact qP3_c0
       refine pure_ (i := 16) (N := some 28) (v := undef) (a' := ?_) qPb17 rfl rfl (qP11) (fun _ _ _ h => h) (Or.inr ⟨by rfl, rfl⟩) ?_ ?_
       rotate_left
       ·exact qP3_c0
       refine pure_ (i := 17) (N := some 29) (v := ?_) (a' := ?_) qPb18 rfl rfl (qP11) (fun _ _ _ h => h) (Or.inl ⟨by rfl, ?_⟩) ?_ ?_
       rotate_left; exact qP3_c1; rotate_left; exact qP3_c0
       refine done_ (qP43) ?_
       try go_wp2
       go_ret
       exact ⟨(qP8), (qP5 GE263.out)⟩
     ·rw [if_neg c4] at H
      exact absurd H (by simp)
    ·rw [if_neg c3] at H
     exact absurd H (by simp)
   ·rw [if_neg c2] at H; have c2b0 : decide (x7_1 < (l0.length : Int)) = false := decide_eq_false c2; clear c2; obtain rfl := Option.some.inj H
    go_wp2
    go_ret
    exact ⟨(qP8), (qP0)⟩

/-! ### impl_isBearing: function 56 -/
def impl_isBearing.f (a0 : Int) : Option (Bool) := (impl_within.f a0 0 359).bind fun t266 => (some t266)
theorem impl_isBearing.calls (a0 : Int) (r : Bool) (w : World) (h : impl_isBearing.f a0 = some r) :
  Calls Try.prog 56 #[.int .i64 a0] w fun e w' => e = .returned (.bool r) ∧ Drawn0 w w' := by
 have H : ((impl_within.f a0 0 359).bind fun t266 => (some t266)) = some r := h; clear h; replace H := Option.bind_eq_some_iff.mp H; obtain ⟨t266, A20, H⟩ := H; replace H : (some t266) = some r := H; have A2 := Aside0.mk A20; clear A20; obtain rfl := Option.some.inj H
 go_enter Try.func56, Try.ntmps56
 go_wp2_with (first | ((with_reducible refine gate_callee (f := 52) rfl ?_); refine goesL_ (some 4) rfl rfl Try.func52 (by kernel_rfl) rfl #[.int .i64 a0, .int .i64 0, .int .i64 359] rfl (qP2) ?_; (with_reducible refine (impl_within.calls a0 0 359 t266 _ A2.out).mono ?_); rintro e w' ⟨rfl, ⟨nd, rfl⟩⟩; refine ⟨_, rfl, ?_⟩))
 go_ret
 exact ⟨(qP14), (qP26)⟩

/-! ### impl_IsLeg: function 47 -/
def impl_IsLeg.f (a0_0 : Int) (a0_1 : Int) (a0_2 : Int) (a0_3 : Int) (a0_4 : Int) : Option (Bool) := (impl_isStation.f a0_0).bind fun t268 => (if t268 = true then ((impl_isStation.f a0_1).bind fun t269 => (if t269 = true then (if a0_0 = a0_1 then (some false) else ((impl_within.f a0_2 1 500).bind fun t270 => (if t270 = true then ((impl_isBearing.f a0_3).bind fun t271 => (if t271 = true then ((impl_within.f a0_4 (-90) 90).bind fun t272 => (some t272)) else (some false))) else (some false)))) else (some false))) else (some false))
theorem impl_IsLeg.calls (a0_0 : Int) (a0_1 : Int) (a0_2 : Int) (a0_3 : Int) (a0_4 : Int) (r : Bool) (w : World) (h : impl_IsLeg.f a0_0 a0_1 a0_2 a0_3 a0_4 = some r) :
  Calls Try.prog 47 #[.agg #[.int .i64 a0_0, .int .i64 a0_1, .int .i64 a0_2, .int .i64 a0_3, .int .i64 a0_4]] w fun e w' => e = .returned (.bool r) ∧ Below w.heap.size w w' := by
 have hu55 := Try.underlying55; have HB := Aside0.mk (Below.refl w.heap.size w); have H : ((impl_isStation.f a0_0).bind fun t268 => (if t268 = true then ((impl_isStation.f a0_1).bind fun t269 => (if t269 = true then (if a0_0 = a0_1 then (some false) else ((impl_within.f a0_2 1 500).bind fun t270 => (if t270 = true then ((impl_isBearing.f a0_3).bind fun t271 => (if t271 = true then ((impl_within.f a0_4 (-90) 90).bind fun t272 => (some t272)) else (some false))) else (some false)))) else (some false))) else (some false))) = some r := h; clear h; replace H := bindA H; obtain ⟨t268, A2, H⟩ := H; (try dsimp only at H)
 by_cases c3 : t268 = true
 ·subst c3; rw [if_pos rfl] at H; replace H := bindA H; obtain ⟨t269, A4, H⟩ := H; (try dsimp only at H)
  by_cases c5 : t269 = true
  ·subst c5; rw [if_pos rfl] at H
   by_cases c6 : a0_0 = a0_1
   ·rw [if_pos c6] at H; have c6b0 : (a0_0 == a0_1) = true := beq_iff_eq.mpr c6; have c6b1 : (a0_0 != a0_1) = false := bne_eq_false_iff_eq.mpr c6; clear c6; obtain rfl := Option.some.inj H
    go_enter Try.func47, Try.ntmps47
    go_wp2_with (first | ((with_reducible refine gate_dst (N := 1) rfl ?_); refine box_event ?hg (N := 1) ?hd (cs := #[.int .i64 a0_0, .int .i64 a0_1, .int .i64 a0_2, .int .i64 a0_3, .int .i64 a0_4]) (t := 55) ?hr ?_; (case hd => rfl); (case hg => rfl); (case hr => exact (qP23)); intro gb267 hg w7 hbox hb; have BK267 := Aside0.mk (hbox); have GW267 := Aside0.mk (qP64); have GE267 := Aside0.mk (qP64); replace HB := Aside0.mk (qP57); clear hb hbox hg; have hcz8_0 : w7.cell? ⟨gb267, 0, none⟩ = some (.int .i64 a0_0) := (blk_cell BK267.out 0).trans rfl; have hcz8_1 : w7.cell? ⟨gb267, 1, none⟩ = some (.int .i64 a0_1) := (blk_cell BK267.out 1).trans rfl; have hcz8_2 : w7.cell? ⟨gb267, 2, none⟩ = some (.int .i64 a0_2) := (blk_cell BK267.out 2).trans rfl; have hcz8_3 : w7.cell? ⟨gb267, 3, none⟩ = some (.int .i64 a0_3) := (blk_cell BK267.out 3).trans rfl; have hcz8_4 : w7.cell? ⟨gb267, 4, none⟩ = some (.int .i64 a0_4) := (blk_cell BK267.out 4).trans rfl; have hfz8_0 := blk_frozen BK267.out 0; have hfz8_1 := blk_frozen BK267.out 1; have hfz8_2 := blk_frozen BK267.out 2; have hfz8_3 := blk_frozen BK267.out 3; have hfz8_4 := blk_frozen BK267.out 4) | ((with_reducible refine gate_callee (f := 43) rfl ?_); refine goesL_ (some 5) rfl rfl Try.func43 (by kernel_rfl) rfl #[.int .i64 a0_0] rfl (qP2) ?_; (with_reducible refine (impl_isStation.calls a0_0 true _ A2.out).mono ?_); rintro e w' ⟨rfl, ⟨nd, rfl⟩⟩; refine ⟨_, rfl, ?_⟩) | (go_at_call 43; (with_reducible refine (impl_isStation.calls a0_1 true _ A4.out).mono ?_); rintro e w' ⟨rfl, ⟨nd, rfl⟩⟩))
    go_ret
    exact ⟨(qP8), (qP5 GE267.out)⟩
   ·rw [if_neg c6] at H; have c6b0 : (a0_0 == a0_1) = false := beq_eq_false_iff_ne.mpr c6; have c6b1 : (a0_0 != a0_1) = true := bne_iff_ne.mpr c6; replace H := bindA H; obtain ⟨t270, A9, H⟩ := H; (try dsimp only at H)
    by_cases c10 : t270 = true
    ·subst c10; rw [if_pos rfl] at H; replace H := bindA H; obtain ⟨t271, A11, H⟩ := H; (try dsimp only at H)
     by_cases c12 : t271 = true
     ·subst c12; rw [if_pos rfl] at H; replace H := Option.bind_eq_some_iff.mp H; obtain ⟨t272, A130, H⟩ := H; replace H : (some t272) = some r := H; have A13 := Aside0.mk A130; clear A130; obtain rfl := Option.some.inj H
      go_enter Try.func47, Try.ntmps47
      go_wp2_with (first | ((with_reducible refine gate_dst (N := 1) rfl ?_); refine box_event ?hg (N := 1) ?hd (cs := #[.int .i64 a0_0, .int .i64 a0_1, .int .i64 a0_2, .int .i64 a0_3, .int .i64 a0_4]) (t := 55) ?hr ?_; (case hd => rfl); (case hg => rfl); (case hr => exact (qP23)); intro gb267 hg w14 hbox hb; have BK267 := Aside0.mk (hbox); have GW267 := Aside0.mk (qP64); have GE267 := Aside0.mk (qP64); replace HB := Aside0.mk (qP57); clear hb hbox hg; have hcz15_0 : w14.cell? ⟨gb267, 0, none⟩ = some (.int .i64 a0_0) := (blk_cell BK267.out 0).trans rfl; have hcz15_1 : w14.cell? ⟨gb267, 1, none⟩ = some (.int .i64 a0_1) := (blk_cell BK267.out 1).trans rfl; have hcz15_2 : w14.cell? ⟨gb267, 2, none⟩ = some (.int .i64 a0_2) := (blk_cell BK267.out 2).trans rfl; have hcz15_3 : w14.cell? ⟨gb267, 3, none⟩ = some (.int .i64 a0_3) := (blk_cell BK267.out 3).trans rfl; have hcz15_4 : w14.cell? ⟨gb267, 4, none⟩ = some (.int .i64 a0_4) := (blk_cell BK267.out 4).trans rfl; have hfz15_0 := blk_frozen BK267.out 0; have hfz15_1 := blk_frozen BK267.out 1; have hfz15_2 := blk_frozen BK267.out 2; have hfz15_3 := blk_frozen BK267.out 3; have hfz15_4 := blk_frozen BK267.out 4) | ((with_reducible refine gate_callee (f := 43) rfl ?_); refine goesL_ (some 5) rfl rfl Try.func43 (by kernel_rfl) rfl #[.int .i64 a0_0] rfl (qP2) ?_; (with_reducible refine (impl_isStation.calls a0_0 true _ A2.out).mono ?_); rintro e w' ⟨rfl, ⟨nd, rfl⟩⟩; refine ⟨_, rfl, ?_⟩) | (go_at_call 43; (with_reducible refine (impl_isStation.calls a0_1 true _ A4.out).mono ?_); rintro e w' ⟨rfl, ⟨nd, rfl⟩⟩) | (go_at_call 52; (with_reducible refine (impl_within.calls a0_2 1 500 true _ A9.out).mono ?_); rintro e w' ⟨rfl, ⟨nd, rfl⟩⟩) | (go_at_call 56; (with_reducible refine (impl_isBearing.calls a0_3 true _ A11.out).mono ?_); rintro e w' ⟨rfl, ⟨nd, rfl⟩⟩) | (go_at_call 52; (with_reducible refine (impl_within.calls a0_4 (-90) 90 t272 _ A13.out).mono ?_); rintro e w' ⟨rfl, ⟨nd, rfl⟩⟩))
      go_ret
      exact ⟨(qP8), (qP5 GE267.out)⟩
     ·replace c12 := Bool.eq_false_iff.mpr c12; subst c12; rw [if_neg (show ¬ (false = true) by decide)] at H; obtain rfl := Option.some.inj H
      go_enter Try.func47, Try.ntmps47
      go_wp2_with (first | ((with_reducible refine gate_dst (N := 1) rfl ?_); refine box_event ?hg (N := 1) ?hd (cs := #[.int .i64 a0_0, .int .i64 a0_1, .int .i64 a0_2, .int .i64 a0_3, .int .i64 a0_4]) (t := 55) ?hr ?_; (case hd => rfl); (case hg => rfl); (case hr => exact (qP23)); intro gb267 hg w16 hbox hb; have BK267 := Aside0.mk (hbox); have GW267 := Aside0.mk (qP64); have GE267 := Aside0.mk (qP64); replace HB := Aside0.mk (qP57); clear hb hbox hg; have hcz17_0 : w16.cell? ⟨gb267, 0, none⟩ = some (.int .i64 a0_0) := (blk_cell BK267.out 0).trans rfl; have hcz17_1 : w16.cell? ⟨gb267, 1, none⟩ = some (.int .i64 a0_1) := (blk_cell BK267.out 1).trans rfl; have hcz17_2 : w16.cell? ⟨gb267, 2, none⟩ = some (.int .i64 a0_2) := (blk_cell BK267.out 2).trans rfl; have hcz17_3 : w16.cell? ⟨gb267, 3, none⟩ = some (.int .i64 a0_3) := (blk_cell BK267.out 3).trans rfl; have hcz17_4 : w16.cell? ⟨gb267, 4, none⟩ = some (.int .i64 a0_4) := (blk_cell BK267.out 4).trans rfl; have hfz17_0 := blk_frozen BK267.out 0; have hfz17_1 := blk_frozen BK267.out 1; have hfz17_2 := blk_frozen BK267.out 2; have hfz17_3 := blk_frozen BK267.out 3; have hfz17_4 := blk_frozen BK267.out 4) | ((with_reducible refine gate_callee (f := 43) rfl ?_); refine goesL_ (some 5) rfl rfl Try.func43 (by kernel_rfl) rfl #[.int .i64 a0_0] rfl (qP2) ?_; (with_reducible refine (impl_isStation.calls a0_0 true _ A2.out).mono ?_); rintro e w' ⟨rfl, ⟨nd, rfl⟩⟩; refine ⟨_, rfl, ?_⟩) | (go_at_call 43; (with_reducible refine (impl_isStation.calls a0_1 true _ A4.out).mono ?_); rintro e w' ⟨rfl, ⟨nd, rfl⟩⟩) | (go_at_call 52; (with_reducible refine (impl_within.calls a0_2 1 500 true _ A9.out).mono ?_); rintro e w' ⟨rfl, ⟨nd, rfl⟩⟩) | (go_at_call 56; (with_reducible refine (impl_isBearing.calls a0_3 false _ A11.out).mono ?_); rintro e w' ⟨rfl, ⟨nd, rfl⟩⟩))
      go_ret
      exact ⟨(qP8), (qP5 GE267.out)⟩
    ·replace c10 := Bool.eq_false_iff.mpr c10; subst c10; rw [if_neg (show ¬ (false = true) by decide)] at H; obtain rfl := Option.some.inj H
     go_enter Try.func47, Try.ntmps47
     go_wp2_with (first | ((with_reducible refine gate_dst (N := 1) rfl ?_); refine box_event ?hg (N := 1) ?hd (cs := #[.int .i64 a0_0, .int .i64 a0_1, .int .i64 a0_2, .int .i64 a0_3, .int .i64 a0_4]) (t := 55) ?hr ?_; (case hd => rfl); (case hg => rfl); (case hr => exact (qP23)); intro gb267 hg w18 hbox hb; have BK267 := Aside0.mk (hbox); have GW267 := Aside0.mk (qP64); have GE267 := Aside0.mk (qP64); replace HB := Aside0.mk (qP57); clear hb hbox hg; have hcz19_0 : w18.cell? ⟨gb267, 0, none⟩ = some (.int .i64 a0_0) := (blk_cell BK267.out 0).trans rfl; have hcz19_1 : w18.cell? ⟨gb267, 1, none⟩ = some (.int .i64 a0_1) := (blk_cell BK267.out 1).trans rfl; have hcz19_2 : w18.cell? ⟨gb267, 2, none⟩ = some (.int .i64 a0_2) := (blk_cell BK267.out 2).trans rfl; have hcz19_3 : w18.cell? ⟨gb267, 3, none⟩ = some (.int .i64 a0_3) := (blk_cell BK267.out 3).trans rfl; have hcz19_4 : w18.cell? ⟨gb267, 4, none⟩ = some (.int .i64 a0_4) := (blk_cell BK267.out 4).trans rfl; have hfz19_0 := blk_frozen BK267.out 0; have hfz19_1 := blk_frozen BK267.out 1; have hfz19_2 := blk_frozen BK267.out 2; have hfz19_3 := blk_frozen BK267.out 3; have hfz19_4 := blk_frozen BK267.out 4) | ((with_reducible refine gate_callee (f := 43) rfl ?_); refine goesL_ (some 5) rfl rfl Try.func43 (by kernel_rfl) rfl #[.int .i64 a0_0] rfl (qP2) ?_; (with_reducible refine (impl_isStation.calls a0_0 true _ A2.out).mono ?_); rintro e w' ⟨rfl, ⟨nd, rfl⟩⟩; refine ⟨_, rfl, ?_⟩) | (go_at_call 43; (with_reducible refine (impl_isStation.calls a0_1 true _ A4.out).mono ?_); rintro e w' ⟨rfl, ⟨nd, rfl⟩⟩) | (go_at_call 52; (with_reducible refine (impl_within.calls a0_2 1 500 false _ A9.out).mono ?_); rintro e w' ⟨rfl, ⟨nd, rfl⟩⟩))
     go_ret
     exact ⟨(qP8), (qP5 GE267.out)⟩
  ·replace c5 := Bool.eq_false_iff.mpr c5; subst c5; rw [if_neg (show ¬ (false = true) by decide)] at H; obtain rfl := Option.some.inj H
   go_enter Try.func47, Try.ntmps47
   go_wp2_with (first | ((with_reducible refine gate_dst (N := 1) rfl ?_); refine box_event ?hg (N := 1) ?hd (cs := #[.int .i64 a0_0, .int .i64 a0_1, .int .i64 a0_2, .int .i64 a0_3, .int .i64 a0_4]) (t := 55) ?hr ?_; (case hd => rfl); (case hg => rfl); (case hr => exact (qP23)); intro gb267 hg w20 hbox hb; have BK267 := Aside0.mk (hbox); have GW267 := Aside0.mk (qP64); have GE267 := Aside0.mk (qP64); replace HB := Aside0.mk (qP57); clear hb hbox hg; have hcz21_0 : w20.cell? ⟨gb267, 0, none⟩ = some (.int .i64 a0_0) := (blk_cell BK267.out 0).trans rfl; have hcz21_1 : w20.cell? ⟨gb267, 1, none⟩ = some (.int .i64 a0_1) := (blk_cell BK267.out 1).trans rfl; have hcz21_2 : w20.cell? ⟨gb267, 2, none⟩ = some (.int .i64 a0_2) := (blk_cell BK267.out 2).trans rfl; have hcz21_3 : w20.cell? ⟨gb267, 3, none⟩ = some (.int .i64 a0_3) := (blk_cell BK267.out 3).trans rfl; have hcz21_4 : w20.cell? ⟨gb267, 4, none⟩ = some (.int .i64 a0_4) := (blk_cell BK267.out 4).trans rfl; have hfz21_0 := blk_frozen BK267.out 0; have hfz21_1 := blk_frozen BK267.out 1; have hfz21_2 := blk_frozen BK267.out 2; have hfz21_3 := blk_frozen BK267.out 3; have hfz21_4 := blk_frozen BK267.out 4) | ((with_reducible refine gate_callee (f := 43) rfl ?_); refine goesL_ (some 5) rfl rfl Try.func43 (by kernel_rfl) rfl #[.int .i64 a0_0] rfl (qP2) ?_; (with_reducible refine (impl_isStation.calls a0_0 true _ A2.out).mono ?_); rintro e w' ⟨rfl, ⟨nd, rfl⟩⟩; refine ⟨_, rfl, ?_⟩) | (go_at_call 43; (with_reducible refine (impl_isStation.calls a0_1 false _ A4.out).mono ?_); rintro e w' ⟨rfl, ⟨nd, rfl⟩⟩))
   go_ret
   exact ⟨(qP8), (qP5 GE267.out)⟩
 ·replace c3 := Bool.eq_false_iff.mpr c3; subst c3; rw [if_neg (show ¬ (false = true) by decide)] at H; obtain rfl := Option.some.inj H
  go_enter Try.func47, Try.ntmps47
  go_wp2_with (first | ((with_reducible refine gate_dst (N := 1) rfl ?_); refine box_event ?hg (N := 1) ?hd (cs := #[.int .i64 a0_0, .int .i64 a0_1, .int .i64 a0_2, .int .i64 a0_3, .int .i64 a0_4]) (t := 55) ?hr ?_; (case hd => rfl); (case hg => rfl); (case hr => exact (qP23)); intro gb267 hg w22 hbox hb; have BK267 := Aside0.mk (hbox); have GW267 := Aside0.mk (qP64); have GE267 := Aside0.mk (qP64); replace HB := Aside0.mk (qP57); clear hb hbox hg; have hcz23_0 : w22.cell? ⟨gb267, 0, none⟩ = some (.int .i64 a0_0) := (blk_cell BK267.out 0).trans rfl; have hcz23_1 : w22.cell? ⟨gb267, 1, none⟩ = some (.int .i64 a0_1) := (blk_cell BK267.out 1).trans rfl; have hcz23_2 : w22.cell? ⟨gb267, 2, none⟩ = some (.int .i64 a0_2) := (blk_cell BK267.out 2).trans rfl; have hcz23_3 : w22.cell? ⟨gb267, 3, none⟩ = some (.int .i64 a0_3) := (blk_cell BK267.out 3).trans rfl; have hcz23_4 : w22.cell? ⟨gb267, 4, none⟩ = some (.int .i64 a0_4) := (blk_cell BK267.out 4).trans rfl; have hfz23_0 := blk_frozen BK267.out 0; have hfz23_1 := blk_frozen BK267.out 1; have hfz23_2 := blk_frozen BK267.out 2; have hfz23_3 := blk_frozen BK267.out 3; have hfz23_4 := blk_frozen BK267.out 4) | ((with_reducible refine gate_callee (f := 43) rfl ?_); refine goesL_ (some 5) rfl rfl Try.func43 (by kernel_rfl) rfl #[.int .i64 a0_0] rfl (qP2) ?_; (with_reducible refine (impl_isStation.calls a0_0 false _ A2.out).mono ?_); rintro e w' ⟨rfl, ⟨nd, rfl⟩⟩; refine ⟨_, rfl, ?_⟩))
  go_ret
  exact ⟨(qP8), (qP5 GE267.out)⟩

/-! ### impl_areLegs: function 26 -/
def impl_areLegs.l0 : Nat → List (S55) → List (S55) → Int → Int → Option (Bool)
 | 0, _, _, _, _ => none
 | k + 1, x0, x5, x6, x7 => if x7 < x6 then (if 0 ≤ x7 then (if x7 < (x5.length : Int) then ((impl_IsLeg.f ((rd_T55 x5 x7).f0) ((rd_T55 x5 x7).f1) ((rd_T55 x5 x7).f2) ((rd_T55 x5 x7).f3) ((rd_T55 x5 x7).f4)).bind fun t275 => (if t275 = true then (impl_areLegs.l0 k x0 x5 x6 (wrap64 (x7 + 1))) else (some false))) else (none)) else (none)) else (some (decide ((x0.length : Int) ≤ 12)))
def impl_areLegs.f (k : Nat) (l0 : List (S55)) : Option (Bool) := impl_areLegs.l0 k l0 l0 (l0.length : Int) 0
theorem impl_areLegs.mono_l : ∀ k, (∀ y0 y1 y2 y3, LeO (impl_areLegs.l0 k y0 y1 y2 y3) (impl_areLegs.l0 (k + 1) y0 y1 y2 y3))
 | 0 => fun _ _ _ _ r h => by simp [impl_areLegs.l0] at h
 | k + 1 => by
  have ih0 := impl_areLegs.mono_l k
  ·intro y0 y1 y2 y3
   unfold impl_areLegs.l0
   exact qmono
theorem impl_areLegs.mono : ∀ a0 k, LeO (impl_areLegs.f k a0) (impl_areLegs.f (k + 1) a0) := by
 intro a0 k; have ih0 := impl_areLegs.mono_l k
 unfold impl_areLegs.f
 exact qmono
theorem impl_areLegs.calls (k : Nat) (A0 : Option Addr) (c0 : Nat) (l0 : List (S55)) (r : Bool) (w : World) (hr0 : Kd.C k55 w A0 l0.length l0) (hc0 : l0.length ≤ c0) (h : impl_areLegs.f k l0 = some r) :
  Calls Try.prog 26 #[.slice A0 l0.length c0] w fun e w' => e = .returned (.bool r) ∧ Below w.heap.size w w' := by
 have hu55 := Try.underlying55; have HR0 := Aside0.mk hr0; have HC0 := Aside0.mk hc0; clear hr0 hc0; have HB := Aside0.mk (Below.refl w.heap.size w); have H : (impl_areLegs.l0 k l0 l0 (l0.length : Int) 0) = some r := h; clear h; have H' := Aside0.mk H; clear H
 go_enter Try.func26, Try.ntmps26
 go_wp2
 go_loopg [7] k (fun kq v7 w' => ∃ (x7_1 : Int), v7 = .int .i64 x7_1 ∧ Aside0 (impl_areLegs.l0 kq l0 l0 (l0.length : Int) x7_1 = some r) ∧ Aside0 (kq ≤ k) ∧ Aside0 (Below w.heap.size w w'))
 case atStart => exact ⟨(0), (qP14), H', ⟨Nat.le_refl _⟩, ⟨(qP0)⟩⟩
 case round =>
  clear H'; obtain ⟨x7_1, rfl, HA, HK1, HB⟩ := hrel
  cases gk with
  | zero => exact absurd HA.out (by simp [impl_areLegs.l0])
  | succ k1 =>
   have H := HA.out; clear HA; simp only [impl_areLegs.l0] at H
   by_cases c2 : x7_1 < (l0.length : Int)
   ·rw [if_pos c2] at H; have c2b0 : decide (x7_1 < (l0.length : Int)) = true := decide_eq_true c2; clear c2
    by_cases c3 : 0 ≤ x7_1
    ·rw [if_pos c3] at H; have c3b0 : decide (0 ≤ x7_1) = true := decide_eq_true c3; clear c3
     by_cases c4 : x7_1 < (l0.length : Int)
     ·rw [if_pos c4] at H; have c4b0 : decide (x7_1 < (l0.length : Int)) = true := decide_eq_true c4; clear c4; replace H := bindA H; obtain ⟨t275, A5, H⟩ := H; (try dsimp only at H)
      by_cases c6 : t275 = true
      ·subst c6; rw [if_pos rfl] at H; have H' := Aside0.mk H; clear H; have p273 : 0 ≤ (x7_1 : Int) := of_decide_eq_true (qP12); have q273 : x7_1 < (l0.length : Int) := of_decide_eq_true (qP12); obtain ⟨ad273, e273, hx273_0, hx273_1, hx273_2, hx273_3, hx273_4⟩ := at_T55 HR0.out x7_1 p273 q273; cases e273; replace hx273_0 := (HB.out.cell (World.block_lt_of_cell? w _ hx273_0)).trans hx273_0; replace hx273_1 := (HB.out.cell (World.block_lt_of_cell? w _ hx273_1)).trans hx273_1; replace hx273_2 := (HB.out.cell (World.block_lt_of_cell? w _ hx273_2)).trans hx273_2; replace hx273_3 := (HB.out.cell (World.block_lt_of_cell? w _ hx273_3)).trans hx273_3; replace hx273_4 := (HB.out.cell (World.block_lt_of_cell? w _ hx273_4)).trans hx273_4; replace p273 := eq_true p273; replace q273 := eq_true q273
       go_wp2_with (first | ((with_reducible refine gate_dst (N := 4) rfl ?_); refine box_event ?hg (N := 4) ?hd (cs := #[.int .i64 0, .int .i64 0, .int .i64 0, .int .i64 0, .int .i64 0]) (t := 55) ?hr ?_; (case hd => rfl); (case hg => rfl); (case hr => exact (qP23)); intro gb274 hg w7 hbox hb; have BK274 := Aside0.mk (hbox); have GW274 := Aside0.mk (qP79); have GE274 := Aside0.mk (qP79); replace HB := Aside0.mk (qP57); clear hb hbox hg; have hcz8_0 : w7.cell? ⟨gb274, 0, none⟩ = some (.int .i64 0) := (blk_cell BK274.out 0).trans rfl; have hcz8_1 : w7.cell? ⟨gb274, 1, none⟩ = some (.int .i64 0) := (blk_cell BK274.out 1).trans rfl; have hcz8_2 : w7.cell? ⟨gb274, 2, none⟩ = some (.int .i64 0) := (blk_cell BK274.out 2).trans rfl; have hcz8_3 : w7.cell? ⟨gb274, 3, none⟩ = some (.int .i64 0) := (blk_cell BK274.out 3).trans rfl; have hcz8_4 : w7.cell? ⟨gb274, 4, none⟩ = some (.int .i64 0) := (blk_cell BK274.out 4).trans rfl; have hfz8_0 := blk_frozen BK274.out 0; have hfz8_1 := blk_frozen BK274.out 1; have hfz8_2 := blk_frozen BK274.out 2; have hfz8_3 := blk_frozen BK274.out 3; have hfz8_4 := blk_frozen BK274.out 4) | ((with_reducible refine gate_callee (f := 47) rfl ?_); refine goesL_ (some 12) rfl rfl Try.func47 (by kernel_rfl) rfl #[.agg #[.int .i64 ((rd_T55 l0 x7_1).f0), .int .i64 ((rd_T55 l0 x7_1).f1), .int .i64 ((rd_T55 l0 x7_1).f2), .int .i64 ((rd_T55 l0 x7_1).f3), .int .i64 ((rd_T55 l0 x7_1).f4)]] rfl (qP2) ?_; (with_reducible refine (impl_IsLeg.calls ((rd_T55 l0 x7_1).f0) ((rd_T55 l0 x7_1).f1) ((rd_T55 l0 x7_1).f2) ((rd_T55 l0 x7_1).f3) ((rd_T55 l0 x7_1).f4) true _ A5.out).mono ?_); rintro e w9 ⟨rfl, hb⟩; refine ⟨_, rfl, ?_⟩; replace BK274 := Aside0.mk (blk_below (g := gb274) (o := .cells #[.int .i64 ((rd_T55 l0 x7_1).f0), .int .i64 ((rd_T55 l0 x7_1).f1), .int .i64 ((rd_T55 l0 x7_1).f2), .int .i64 ((rd_T55 l0 x7_1).f3), .int .i64 ((rd_T55 l0 x7_1).f4)] 55 (0, 0)) (qP33) hb); replace HB := Aside0.mk (below_step (qP5 GE274.out) hb); clear hb))
       go_roundg k1
       case measure => have := HK1.out; omega
       case rel => exact ⟨(wrap64 (x7_1 + 1)), (qP14), H', ⟨by have := HK1.out; omega⟩, ⟨(qP5 GE274.out)⟩⟩
      ·replace c6 := Bool.eq_false_iff.mpr c6; subst c6; rw [if_neg (show ¬ (false = true) by decide)] at H; obtain rfl := Option.some.inj H; have p273 : 0 ≤ (x7_1 : Int) := of_decide_eq_true (qP12); have q273 : x7_1 < (l0.length : Int) := of_decide_eq_true (qP12); obtain ⟨ad273, e273, hx273_0, hx273_1, hx273_2, hx273_3, hx273_4⟩ := at_T55 HR0.out x7_1 p273 q273; cases e273; replace hx273_0 := (HB.out.cell (World.block_lt_of_cell? w _ hx273_0)).trans hx273_0; replace hx273_1 := (HB.out.cell (World.block_lt_of_cell? w _ hx273_1)).trans hx273_1; replace hx273_2 := (HB.out.cell (World.block_lt_of_cell? w _ hx273_2)).trans hx273_2; replace hx273_3 := (HB.out.cell (World.block_lt_of_cell? w _ hx273_3)).trans hx273_3; replace hx273_4 := (HB.out.cell (World.block_lt_of_cell? w _ hx273_4)).trans hx273_4; replace p273 := eq_true p273; replace q273 := eq_true q273
       go_wp2_with (first | ((with_reducible refine gate_dst (N := 4) rfl ?_); refine box_event ?hg (N := 4) ?hd (cs := #[.int .i64 0, .int .i64 0, .int .i64 0, .int .i64 0, .int .i64 0]) (t := 55) ?hr ?_; (case hd => rfl); (case hg => rfl); (case hr => exact (qP23)); intro gb274 hg w10 hbox hb; have BK274 := Aside0.mk (hbox); have GW274 := Aside0.mk (qP79); have GE274 := Aside0.mk (qP79); replace HB := Aside0.mk (qP57); clear hb hbox hg; have hcz11_0 : w10.cell? ⟨gb274, 0, none⟩ = some (.int .i64 0) := (blk_cell BK274.out 0).trans rfl; have hcz11_1 : w10.cell? ⟨gb274, 1, none⟩ = some (.int .i64 0) := (blk_cell BK274.out 1).trans rfl; have hcz11_2 : w10.cell? ⟨gb274, 2, none⟩ = some (.int .i64 0) := (blk_cell BK274.out 2).trans rfl; have hcz11_3 : w10.cell? ⟨gb274, 3, none⟩ = some (.int .i64 0) := (blk_cell BK274.out 3).trans rfl; have hcz11_4 : w10.cell? ⟨gb274, 4, none⟩ = some (.int .i64 0) := (blk_cell BK274.out 4).trans rfl; have hfz11_0 := blk_frozen BK274.out 0; have hfz11_1 := blk_frozen BK274.out 1; have hfz11_2 := blk_frozen BK274.out 2; have hfz11_3 := blk_frozen BK274.out 3; have hfz11_4 := blk_frozen BK274.out 4) | ((with_reducible refine gate_callee (f := 47) rfl ?_); refine goesL_ (some 12) rfl rfl Try.func47 (by kernel_rfl) rfl #[.agg #[.int .i64 ((rd_T55 l0 x7_1).f0), .int .i64 ((rd_T55 l0 x7_1).f1), .int .i64 ((rd_T55 l0 x7_1).f2), .int .i64 ((rd_T55 l0 x7_1).f3), .int .i64 ((rd_T55 l0 x7_1).f4)]] rfl (qP2) ?_; (with_reducible refine (impl_IsLeg.calls ((rd_T55 l0 x7_1).f0) ((rd_T55 l0 x7_1).f1) ((rd_T55 l0 x7_1).f2) ((rd_T55 l0 x7_1).f3) ((rd_T55 l0 x7_1).f4) false _ A5.out).mono ?_); rintro e w12 ⟨rfl, hb⟩; refine ⟨_, rfl, ?_⟩; replace BK274 := Aside0.mk (blk_below (g := gb274) (o := .cells #[.int .i64 ((rd_T55 l0 x7_1).f0), .int .i64 ((rd_T55 l0 x7_1).f1), .int .i64 ((rd_T55 l0 x7_1).f2), .int .i64 ((rd_T55 l0 x7_1).f3), .int .i64 ((rd_T55 l0 x7_1).f4)] 55 (0, 0)) (qP33) hb); replace HB := Aside0.mk (below_step (qP5 GE274.out) hb); clear hb))
       go_ret
       exact ⟨(qP8), (qP5 GE274.out)⟩
     ·rw [if_neg c4] at H
      exact absurd H (by simp)
    ·rw [if_neg c3] at H
     exact absurd H (by simp)
   ·rw [if_neg c2] at H; have c2b0 : decide (x7_1 < (l0.length : Int)) = false := decide_eq_false c2; clear c2; obtain rfl := Option.some.inj H
    go_wp2
    go_ret
    exact ⟨(qP8), (qP0)⟩

-- NOT PRINTED: function 53 (impl_Passage)

-- NOT PRINTED: function 54 (impl_passageAt_1)

/-! ### impl_passageAt: function 34 (by hand: wip/inj) -/
def idxF {α : Type} (p : α → Bool) : List α → Int → Int
 | [], _ => -1
 | x :: l, i => if p x then i else idxF p l (i + 1)
theorem idxF_step {α : Type} (p : α → Bool) (l : List α) (d : α) (x : Int) (h0 : 0 ≤ x) (h1 : x < l.length) (hm : l.length ≤ 9223372036854775807) :
  idxF p (l.drop x.toNat) x = if p (l.getD x.toNat d) then x else idxF p (l.drop (wrap64 (x + 1)).toNat) (wrap64 (x + 1)) := by
 have hw : wrap64 (x + 1) = x + 1 := by unfold wrap64; omega
 have hl : x.toNat < l.length := by omega
 rw [hw, List.drop_eq_getElem_cons hl, show (x + 1).toNat = x.toNat + 1 by omega]; simp only [idxF, List.getD_eq_getElem?_getD, List.getElem?_eq_getElem hl, Option.getD_some]
theorem idxF_end {α : Type} (p : α → Bool) (l : List α) (x : Int) (h1 : ¬ x < l.length) : idxF p (l.drop x.toNat) x = -1 := by
 rw [List.drop_eq_nil_of_le (by omega)]
 rfl
theorem idxF_ge {α : Type} (p : α → Bool) : ∀ (l : List α) (i : Int), 0 ≤ i → decide (0 ≤ idxF p l i) = l.any p
 | [], _, _ => by simp [idxF]
 | x :: l, i, hi => by
  by_cases h : p x = true
  ·simp [idxF, h, hi]
  ·simp only [Bool.not_eq_true] at h
   simp [idxF, h, idxF_ge p l (i + 1) (by omega)]
theorem idxF_range {α : Type} (p : α → Bool) : ∀ (l : List α) (i : Int), idxF p l i = -1 ∨ (i ≤ idxF p l i ∧ idxF p l i < i + l.length)
 | [], _ => .inl rfl
 | x :: l, i => by
  by_cases h : p x = true
  ·right
   simp [idxF, h]
   omega
  ·simp only [Bool.not_eq_true] at h; simp only [idxF, h]
   rcases idxF_range p l (i + 1) with h | h
   ·left
    simpa using h
   ·right
    simp only [List.length_cons]
    simp
    omega
theorem impl_passageAt_idx.calls (caps : Array Value) (p : S60 → Bool) (A0 : Option Addr) (c0 : Nat) (l0 : List (S60)) (w : World) (hr0 : Kd.C k60 w A0 l0.length l0) (hc0 : l0.length ≤ c0)
  (hp : ∀ x W, Below w.heap.size w W → Calls Try.prog 54 (#[.agg #[.int .i64 (x).f0, .int .i64 (x).f1, .int .i64 (x).f2, .int .i64 (x).f3, .int .i64 (x).f4]] ++ caps) W fun e W' => e = .returned (.bool (p x)) ∧ Below W.heap.size W W') :
  Calls Try.prog 53 #[.slice A0 l0.length c0, .func (.func 54) #[] caps] w fun e w' => e = .returned (.int .i64 (idxF p l0 0)) ∧ Below w.heap.size w w' := by
 have HR0 := Aside0.mk hr0; have HC0 := Aside0.mk hc0; have HP := Aside0.mk hp; have HM := Aside0.mk hr0.2.1; clear hr0 hc0 hp
 go_enter Try.func53, Try.ntmps53
 go_wp2
 go_loopg [8] l0.length (fun kq v8 w' => ∃ x : Int, v8 = .int .i64 x ∧ Aside0 (0 ≤ x ∧ kq + x.toNat = l0.length ∧ idxF p l0 0 = idxF p (l0.drop x.toNat) x) ∧ Aside0 (Below w.heap.size w w'))
 case atStart => exact ⟨0, rfl, ⟨by simp⟩, ⟨Below.refl _ _⟩⟩
 case round =>
  obtain ⟨x, rfl, HA, HB⟩ := hrel
  by_cases hlt : x < (l0.length : Int)
  ·have c0 : decide (x < (l0.length : Int)) = true := decide_eq_true hlt; have c1 : decide (0 ≤ x) = true := decide_eq_true HA.out.1; obtain ⟨ad, e, hx0, hx1, hx2, hx3, hx4⟩ := at_T60 (Kd.C_below HR0.out HB.out) x HA.out.1 hlt; cases e; have HLT := Aside0.mk hlt; have p1 := eq_true HA.out.1; have q1 := eq_true hlt; clear hlt; obtain ⟨k1, rfl⟩ : ∃ k1, gk = k1 + 1 := ⟨gk - 1, by have := HA.out; have := HLT.out; omega⟩; have HS := Aside0.mk (by exact HA.out.2.2.trans (idxF_step p l0 z60 x HA.out.1 HLT.out HM.out))
   cases hq : p (rd_T60 l0 x) with
   | true =>
    have HQ := Aside0.mk hq
    go_wp2_with (go_at_call 54; refine (HP.out _ _ HB.out).mono ?_; rintro e w1 ⟨rfl, hb⟩)
    go_ret
    exact ⟨by rw [HS.out, show p (l0.getD x.toNat z60) = true from HQ.out]; rfl, Below.trans HB.out (hb.mono HB.out.size)⟩
   | false =>
    have HQ := Aside0.mk hq
    go_wp2_with (go_at_call 54; refine (HP.out _ _ HB.out).mono ?_; rintro e w1 ⟨rfl, hb⟩)
    go_roundg k1
    case measure => omega
    case rel => exact ⟨wrap64 (x + 1), rfl, ⟨by have := HA.out; have := HLT.out; have := HM.out; unfold wrap64; omega, by have := HA.out; have := HLT.out; have := HM.out; unfold wrap64; omega, by rw [HS.out, show p (l0.getD x.toNat z60) = false from HQ.out]; rfl⟩, ⟨Below.trans HB.out (hb.mono HB.out.size)⟩⟩
  ·have c0 : decide (x < (l0.length : Int)) = false := decide_eq_false hlt; have HS := Aside0.mk (by exact HA.out.2.2.trans (idxF_end p l0 x hlt)); clear hlt
   go_wp2
   go_ret
   exact ⟨by rw [HS.out]; rfl, HB.out⟩
theorem impl_passageAt_1.calls (x : S60) (g : Nat) (a1 : Int) (W : World) (hc : W.heap[g]? = some (.cells #[.int .i64 a1] 3 (0, 0))) :
  Calls Try.prog 54 #[.agg #[.int .i64 x.f0, .int .i64 x.f1, .int .i64 x.f2, .int .i64 x.f3, .int .i64 x.f4], .pointer (some ⟨g, 0, none⟩)] W fun e W' => e = .returned (.bool (x.f0 == a1)) ∧ Below W.heap.size W W' := by
 have huP := Try.underlying60; have hc0 : (W.alloc (.cells #[.int .i64 x.f0, .int .i64 x.f1, .int .i64 x.f2, .int .i64 x.f3, .int .i64 x.f4] 60 (0, 0))).cell? ⟨g, 0, none⟩ = some (.int .i64 a1) := (blk_cell (blk_alloc hc _) 0).trans rfl
 go_enter Try.func54, Try.ntmps54
 go_wp2
 go_ret
 exact ⟨rfl, below_alloc (Below.refl _ _) _⟩
def impl_passageAt.at (l0 : List S60) (a1 : Int) : Int := idxF (fun x : S60 => x.f0 == a1) l0 0
def impl_passageAt.f (l0 : List S60) (a1 : Int) : Option (Int × Int × Int × Int × Int × Bool) := if impl_passageAt.at l0 a1 < 0 then some (0, 0, 0, 0, 0, false) else some ((rd_T60 l0 (impl_passageAt.at l0 a1)).f0, (rd_T60 l0 (impl_passageAt.at l0 a1)).f1, (rd_T60 l0 (impl_passageAt.at l0 a1)).f2, (rd_T60 l0 (impl_passageAt.at l0 a1)).f3, (rd_T60 l0 (impl_passageAt.at l0 a1)).f4, true)
theorem impl_passageAt.calls (A0 : Option Addr) (c0 : Nat) (l0 : List S60) (a1 : Int) (r1 r2 r3 r4 r5 : Int) (r6 : Bool) (w : World) (hr0 : Kd.C k60 w A0 l0.length l0) (hc0 : l0.length ≤ c0) (h : impl_passageAt.f l0 a1 = some (r1, r2, r3, r4, r5, r6)) :
  Calls Try.prog 34 #[.slice A0 l0.length c0, .int .i64 a1] w fun e w' => e = .returned (.tuple #[.agg #[.int .i64 r1, .int .i64 r2, .int .i64 r3, .int .i64 r4, .int .i64 r5], .bool r6]) ∧ Below w.heap.size w w' := by
 have huP := Try.underlying60; have HR0 := Aside0.mk hr0; have HC0 := Aside0.mk hc0; have HM0 := Aside0.mk hr0.2.1; have HF := Aside0.mk h; clear hr0 hc0 h; obtain ⟨i, hi⟩ : ∃ i, i = impl_passageAt.at l0 a1 := ⟨_, rfl⟩; have HI := Aside0.mk hi; have HRG : Aside0 (i = -1 ∨ (0 ≤ i ∧ i < 0 + (l0.length : Int))) := ⟨by rw [hi]; exact idxF_range _ _ _⟩; clear hi
 have HCALL : Aside0 (∀ (g : Nat) (W : World), W.heap[g]? = some (.cells #[.int .i64 a1] 3 (0, 0)) → Below w.heap.size w W → Calls Try.prog 53 #[.slice A0 l0.length c0, .func (.func 54) #[] #[.pointer (some ⟨g, 0, none⟩)]] W fun e w' => e = .returned (.int .i64 i) ∧ Below W.heap.size W w') := ⟨fun g W hg hb => by
  have := impl_passageAt_idx.calls #[.pointer (some ⟨g, 0, none⟩)] (fun x : S60 => x.f0 == a1) A0 c0 l0 W (Kd.C_below HR0.out hb) HC0.out (fun x W' hb' => impl_passageAt_1.calls x g a1 W' (blk_below hg hb')); rw [HI.out]
  exact this⟩
 by_cases hneg : i < 0
 ·have d0 : decide (i < 0) = true := decide_eq_true hneg; have HN := Aside0.mk hneg; have hf := HF.out
  unfold impl_passageAt.f at hf
  rw [← HI.out, if_pos hneg] at hf; simp only [Option.some.injEq, Prod.mk.injEq] at hf; obtain ⟨rfl, rfl, rfl, rfl, rfl, rfl⟩ := hf; clear hneg
  go_enter Try.func34, Try.ntmps34
  go_wp2_with (go_at_call 53; refine (HCALL.out _ _ ?hg ?hb).mono ?_; (case hg => exact (by first | exact blk_alloc (blk_new _ _) _ | exact blk_new _ _)); (case hb => exact (by exact below_alloc (below_alloc (Below.refl _ _) _) _)); rintro e w1 ⟨rfl, hb⟩; have HK := Aside0.mk (qP50); have HB1 := Aside0.mk (qP49); clear hb; have f0 : w1.cell? ⟨w.heap.size + 1, 0, none⟩ = some (.int .i64 0) := (blk_cell HK.out 0).trans rfl; have g0 : w1.frozen? ⟨w.heap.size + 1, 0, none⟩ = false := blk_frozen HK.out 0; have f1 : w1.cell? ⟨w.heap.size + 1, 1, none⟩ = some (.int .i64 0) := (blk_cell HK.out 1).trans rfl; have g1 : w1.frozen? ⟨w.heap.size + 1, 1, none⟩ = false := blk_frozen HK.out 1; have f2 : w1.cell? ⟨w.heap.size + 1, 2, none⟩ = some (.int .i64 0) := (blk_cell HK.out 2).trans rfl; have g2 : w1.frozen? ⟨w.heap.size + 1, 2, none⟩ = false := blk_frozen HK.out 2; have f3 : w1.cell? ⟨w.heap.size + 1, 3, none⟩ = some (.int .i64 0) := (blk_cell HK.out 3).trans rfl; have g3 : w1.frozen? ⟨w.heap.size + 1, 3, none⟩ = false := blk_frozen HK.out 3; have f4 : w1.cell? ⟨w.heap.size + 1, 4, none⟩ = some (.int .i64 0) := (blk_cell HK.out 4).trans rfl; have g4 : w1.frozen? ⟨w.heap.size + 1, 4, none⟩ = false := blk_frozen HK.out 4)
  refine bodyPost_ret (results_ct rfl _ _ (w.heap.size + 1) 60 #[.int .i64 (0), .int .i64 (0), .int .i64 (0), .int .i64 (0), .int .i64 (0)] (0, 0) _ rfl ((blk_set (blk_set (blk_set (blk_set (blk_set HK.out 0 (.int .i64 0)) 1 (.int .i64 0)) 2 (.int .i64 0)) 3 (.int .i64 0)) 4 (.int .i64 0)).trans rfl) huP rfl (by kernel_rfl)) rfl ?_
  exact ⟨rfl, (((((HB1.out.setCell (p := ⟨w.heap.size + 1, 0, none⟩) (Nat.le_succ _) _).setCell (p := ⟨w.heap.size + 1, 1, none⟩) (Nat.le_succ _) _).setCell (p := ⟨w.heap.size + 1, 2, none⟩) (Nat.le_succ _) _).setCell (p := ⟨w.heap.size + 1, 3, none⟩) (Nat.le_succ _) _).setCell (p := ⟨w.heap.size + 1, 4, none⟩) (Nat.le_succ _) _)⟩
 ·have d0 : decide (i < 0) = false := decide_eq_false hneg
  have hlt : i < (l0.length : Int) := by have := HRG.out; omega
  have hge : 0 ≤ i := by omega
  have HN := Aside0.mk hneg; have HLT := Aside0.mk hlt; have HGE := Aside0.mk hge; have hf := HF.out
  unfold impl_passageAt.f at hf
  rw [← HI.out, if_neg hneg] at hf; simp only [Option.some.injEq, Prod.mk.injEq] at hf; obtain ⟨rfl, rfl, rfl, rfl, rfl, rfl⟩ := hf; obtain ⟨ad, e, hx0, hx1, hx2, hx3, hx4⟩ := at_T60 HR0.out i hge hlt; cases e; have pi := eq_true hge; have qi := eq_true hlt; clear hneg hge hlt
  go_enter Try.func34, Try.ntmps34
  go_wp2_with (go_at_call 53; refine (HCALL.out _ _ ?hg ?hb).mono ?_; (case hg => exact (by first | exact blk_alloc (blk_new _ _) _ | exact blk_new _ _)); (case hb => exact (by exact below_alloc (below_alloc (Below.refl _ _) _) _)); rintro e w1 ⟨rfl, hb⟩; have HK := Aside0.mk (qP50); have HB1 := Aside0.mk (qP49); clear hb; have f0 : w1.cell? ⟨w.heap.size + 1, 0, none⟩ = some (.int .i64 0) := (blk_cell HK.out 0).trans rfl; have g0 : w1.frozen? ⟨w.heap.size + 1, 0, none⟩ = false := blk_frozen HK.out 0; have f1 : w1.cell? ⟨w.heap.size + 1, 1, none⟩ = some (.int .i64 0) := (blk_cell HK.out 1).trans rfl; have g1 : w1.frozen? ⟨w.heap.size + 1, 1, none⟩ = false := blk_frozen HK.out 1; have f2 : w1.cell? ⟨w.heap.size + 1, 2, none⟩ = some (.int .i64 0) := (blk_cell HK.out 2).trans rfl; have g2 : w1.frozen? ⟨w.heap.size + 1, 2, none⟩ = false := blk_frozen HK.out 2; have f3 : w1.cell? ⟨w.heap.size + 1, 3, none⟩ = some (.int .i64 0) := (blk_cell HK.out 3).trans rfl; have g3 : w1.frozen? ⟨w.heap.size + 1, 3, none⟩ = false := blk_frozen HK.out 3; have f4 : w1.cell? ⟨w.heap.size + 1, 4, none⟩ = some (.int .i64 0) := (blk_cell HK.out 4).trans rfl; have g4 : w1.frozen? ⟨w.heap.size + 1, 4, none⟩ = false := blk_frozen HK.out 4; have hy0 := (HB1.out.cell (World.block_lt_of_cell? w _ hx0)).trans hx0; have hy1 := (HB1.out.cell (World.block_lt_of_cell? w _ hx1)).trans hx1; have hy2 := (HB1.out.cell (World.block_lt_of_cell? w _ hx2)).trans hx2; have hy3 := (HB1.out.cell (World.block_lt_of_cell? w _ hx3)).trans hx3; have hy4 := (HB1.out.cell (World.block_lt_of_cell? w _ hx4)).trans hx4)
  refine bodyPost_ret (results_ct rfl _ _ (w.heap.size + 1) 60 #[.int .i64 ((rd_T60 l0 i).f0), .int .i64 ((rd_T60 l0 i).f1), .int .i64 ((rd_T60 l0 i).f2), .int .i64 ((rd_T60 l0 i).f3), .int .i64 ((rd_T60 l0 i).f4)] (0, 0) _ rfl ((blk_set (blk_set (blk_set (blk_set (blk_set HK.out 0 (.int .i64 (rd_T60 l0 i).f0)) 1 (.int .i64 (rd_T60 l0 i).f1)) 2 (.int .i64 (rd_T60 l0 i).f2)) 3 (.int .i64 (rd_T60 l0 i).f3)) 4 (.int .i64 (rd_T60 l0 i).f4)).trans rfl) huP rfl (by kernel_rfl)) rfl ?_
  exact ⟨rfl, (((((HB1.out.setCell (p := ⟨w.heap.size + 1, 0, none⟩) (Nat.le_succ _) _).setCell (p := ⟨w.heap.size + 1, 1, none⟩) (Nat.le_succ _) _).setCell (p := ⟨w.heap.size + 1, 2, none⟩) (Nat.le_succ _) _).setCell (p := ⟨w.heap.size + 1, 3, none⟩) (Nat.le_succ _) _).setCell (p := ⟨w.heap.size + 1, 4, none⟩) (Nat.le_succ _) _)⟩


/-! ### impl_Passage_area: function 41 -/
def impl_Passage_area.f (a0_0 : Int) (a0_1 : Int) (a0_2 : Int) (a0_3 : Int) (a0_4 : Int) : Option (Int) := some (wrap64 ((wrap64 (a0_1 + a0_2)) * (wrap64 (a0_3 + a0_4))))
theorem impl_Passage_area.calls (a0_0 : Int) (a0_1 : Int) (a0_2 : Int) (a0_3 : Int) (a0_4 : Int) (r : Int) (w : World) (h : impl_Passage_area.f a0_0 a0_1 a0_2 a0_3 a0_4 = some r) :
  Calls Try.prog 41 #[.agg #[.int .i64 a0_0, .int .i64 a0_1, .int .i64 a0_2, .int .i64 a0_3, .int .i64 a0_4]] w fun e w' => e = .returned (.int .i64 r) ∧ Below w.heap.size w w' := by
 have hu60 := Try.underlying60; have HB := Aside0.mk (Below.refl w.heap.size w); have H : (some (wrap64 ((wrap64 (a0_1 + a0_2)) * (wrap64 (a0_3 + a0_4))))) = some r := h; clear h; obtain rfl := Option.some.inj H
 go_enter Try.func41, Try.ntmps41
 go_wp2_with (first | ((with_reducible refine gate_dst (N := 1) rfl ?_); refine box_event ?hg (N := 1) ?hd (cs := #[.int .i64 a0_0, .int .i64 a0_1, .int .i64 a0_2, .int .i64 a0_3, .int .i64 a0_4]) (t := 60) ?hr ?_; (case hd => rfl); (case hg => rfl); (case hr => exact (qP23)); intro gb277 hg w2 hbox hb; have BK277 := Aside0.mk (hbox); have GW277 := Aside0.mk (by exact (by rw [hg]; exact (below_size (qP0)) : w.heap.size ≤ gb277)); have GE277 := Aside0.mk (by exact (by rw [hg]; exact (below_size (qP0)) : w.heap.size ≤ gb277)); replace HB := Aside0.mk (qP57); clear hb hbox hg; have hcz3_0 : w2.cell? ⟨gb277, 0, none⟩ = some (.int .i64 a0_0) := (blk_cell BK277.out 0).trans rfl; have hcz3_1 : w2.cell? ⟨gb277, 1, none⟩ = some (.int .i64 a0_1) := (blk_cell BK277.out 1).trans rfl; have hcz3_2 : w2.cell? ⟨gb277, 2, none⟩ = some (.int .i64 a0_2) := (blk_cell BK277.out 2).trans rfl; have hcz3_3 : w2.cell? ⟨gb277, 3, none⟩ = some (.int .i64 a0_3) := (blk_cell BK277.out 3).trans rfl; have hcz3_4 : w2.cell? ⟨gb277, 4, none⟩ = some (.int .i64 a0_4) := (blk_cell BK277.out 4).trans rfl; have hfz3_0 := blk_frozen BK277.out 0; have hfz3_1 := blk_frozen BK277.out 1; have hfz3_2 := blk_frozen BK277.out 2; have hfz3_3 := blk_frozen BK277.out 3; have hfz3_4 := blk_frozen BK277.out 4))
 go_ret
 exact ⟨(qP8), (qP5 GE277.out)⟩

/-! ### impl_areaAt: function 27 -/
def impl_areaAt.f (l0 : List (S60)) (a1 : Int) : Option (Int) := (impl_passageAt.f l0 a1).bind fun bt278 => ((impl_Passage_area.f bt278.1 bt278.2.1 bt278.2.2.1 bt278.2.2.2.1 bt278.2.2.2.2.1).bind fun t285 => (some t285))
theorem impl_areaAt.calls (A0 : Option Addr) (c0 : Nat) (l0 : List (S60)) (a1 : Int) (r : Int) (w : World) (hr0 : Kd.C k60 w A0 l0.length l0) (hc0 : l0.length ≤ c0) (h : impl_areaAt.f l0 a1 = some r) :
  Calls Try.prog 27 #[.slice A0 l0.length c0, .int .i64 a1] w fun e w' => e = .returned (.int .i64 r) ∧ Below w.heap.size w w' := by
 have hu60 := Try.underlying60; have HR0 := Aside0.mk hr0; have HC0 := Aside0.mk hc0; clear hr0 hc0; have HB := Aside0.mk (Below.refl w.heap.size w); have H : ((impl_passageAt.f l0 a1).bind fun bt278 => ((impl_Passage_area.f bt278.1 bt278.2.1 bt278.2.2.1 bt278.2.2.2.1 bt278.2.2.2.2.1).bind fun t285 => (some t285))) = some r := h; clear h; replace H := bindA H; obtain ⟨⟨t278, t279, t280, t281, t282, t283⟩, A3, H⟩ := H; (try dsimp only at H); replace H := Option.bind_eq_some_iff.mp H; obtain ⟨t285, A40, H⟩ := H; replace H : (some t285) = some r := H; have A4 := Aside0.mk A40; clear A40; obtain rfl := Option.some.inj H
 go_enter Try.func27, Try.ntmps27
 go_wp2_with (first | ((with_reducible refine gate_callee (f := 34) rfl ?_); refine goesL_ (some 10) rfl rfl Try.func34 (by kernel_rfl) rfl #[.slice A0 l0.length c0, .int .i64 a1] rfl (qP2) ?_; (with_reducible refine (impl_passageAt.calls _ _ l0 a1 t278 t279 t280 t281 t282 t283 _ ?s1 ?s2 A3.out).mono ?_); (case s1 => exact (qP28 HR0.out)); (case s2 => exact HC0.out); rintro e w5 ⟨rfl, hb⟩; refine ⟨_, rfl, ?_⟩; replace HB := Aside0.mk (qP57); clear hb) | ((with_reducible refine gate_dst (N := 5) rfl ?_); refine box_event ?hg (N := 5) ?hd (cs := #[.int .i64 0, .int .i64 0, .int .i64 0, .int .i64 0, .int .i64 0]) (t := 60) ?hr ?_; (case hd => rfl); (case hg => rfl); (case hr => exact (qP23)); intro gb284 hg w6 hbox hb; have BK284 := Aside0.mk (hbox); have GW284 := Aside0.mk (by exact (by rw [hg]; exact (below_size (qP0)) : w.heap.size ≤ gb284)); have GE284 := Aside0.mk (by exact (by rw [hg]; exact (below_size (qP0)) : w.heap.size ≤ gb284)); replace HB := Aside0.mk (qP57); clear hb hbox hg; have hcz7_0 : w6.cell? ⟨gb284, 0, none⟩ = some (.int .i64 0) := (blk_cell BK284.out 0).trans rfl; have hcz7_1 : w6.cell? ⟨gb284, 1, none⟩ = some (.int .i64 0) := (blk_cell BK284.out 1).trans rfl; have hcz7_2 : w6.cell? ⟨gb284, 2, none⟩ = some (.int .i64 0) := (blk_cell BK284.out 2).trans rfl; have hcz7_3 : w6.cell? ⟨gb284, 3, none⟩ = some (.int .i64 0) := (blk_cell BK284.out 3).trans rfl; have hcz7_4 : w6.cell? ⟨gb284, 4, none⟩ = some (.int .i64 0) := (blk_cell BK284.out 4).trans rfl; have hfz7_0 := blk_frozen BK284.out 0; have hfz7_1 := blk_frozen BK284.out 1; have hfz7_2 := blk_frozen BK284.out 2; have hfz7_3 := blk_frozen BK284.out 3; have hfz7_4 := blk_frozen BK284.out 4) | ((with_reducible refine gate_callee (f := 41) rfl ?_); refine goesL_ (some 14) rfl rfl Try.func41 (by kernel_rfl) rfl #[.agg #[.int .i64 t278, .int .i64 t279, .int .i64 t280, .int .i64 t281, .int .i64 t282]] rfl (qP2) ?_; (with_reducible refine (impl_Passage_area.calls t278 t279 t280 t281 t282 t285 _ A4.out).mono ?_); rintro e w8 ⟨rfl, hb⟩; refine ⟨_, rfl, ?_⟩; replace BK284 := Aside0.mk (blk_below (g := gb284) (o := .cells #[.int .i64 t278, .int .i64 t279, .int .i64 t280, .int .i64 t281, .int .i64 t282] 60 (0, 0)) (by (with_reducible repeat (first | refine blk_drewN ?_ _ | refine blk_drew ?_ | refine blk_alloc ?_ _)); refine blk_put (cs := #[.int .i64 t278, .int .i64 t279, .int .i64 t280, .int .i64 t281, .int .i64 0]) ?_ 4 _ rfl; (with_reducible repeat (first | refine blk_drewN ?_ _ | refine blk_drew ?_ | refine blk_alloc ?_ _)); refine blk_put (cs := #[.int .i64 t278, .int .i64 t279, .int .i64 t280, .int .i64 0, .int .i64 0]) ?_ 3 _ rfl; (with_reducible repeat (first | refine blk_drewN ?_ _ | refine blk_drew ?_ | refine blk_alloc ?_ _)); refine blk_put (cs := #[.int .i64 t278, .int .i64 t279, .int .i64 0, .int .i64 0, .int .i64 0]) ?_ 2 _ rfl; (with_reducible repeat (first | refine blk_drewN ?_ _ | refine blk_drew ?_ | refine blk_alloc ?_ _)); refine blk_put (cs := #[.int .i64 t278, .int .i64 0, .int .i64 0, .int .i64 0, .int .i64 0]) ?_ 1 _ rfl; (with_reducible repeat (first | refine blk_drewN ?_ _ | refine blk_drew ?_ | refine blk_alloc ?_ _)); refine blk_put (cs := #[.int .i64 0, .int .i64 0, .int .i64 0, .int .i64 0, .int .i64 0]) ?_ 0 _ rfl; (with_reducible repeat (first | refine blk_drewN ?_ _ | refine blk_drew ?_ | refine blk_alloc ?_ _)); exact BK284.out) hb); replace HB := Aside0.mk (below_step (qP5 GE284.out) hb); clear hb))
 go_ret
 exact ⟨(qP8), (qP5 GE284.out)⟩

/-! ### impl_absolute: function 57 -/
def impl_absolute.f (a0 : Int) : Option (Int) := some (mx a0 (wrap64 (-a0)))
theorem impl_absolute.calls (a0 : Int) (r : Int) (w : World) (h : impl_absolute.f a0 = some r) :
  Calls Try.prog 57 #[.int .i64 a0] w fun e w' => e = .returned (.int .i64 r) ∧ Below w.heap.size w w' := by
 have HB := Aside0.mk (Below.refl w.heap.size w); have H : (some (mx a0 (wrap64 (-a0)))) = some r := h; clear h; obtain ⟨ji2, hji2⟩ : ∃ j_ : Int, (mx a0 (wrap64 (-a0))) = j_ := ⟨_, rfl⟩
 replace H : (some ji2) = some r := by first | (rw [hji2] at H; exact H) | (simp only [hji2] at H ⊢; exact H)
 have hji2_ : (if a0 < (wrap64 (-a0)) then (wrap64 (-a0)) else a0) = ji2 := hji2; obtain rfl := Option.some.inj H
 go_enter Try.func57, Try.ntmps57
 go_wp2
 go_ret
 exact ⟨(by first | rfl | (simp [errW_none, errW_some] <;> rfl) | (simp only [← hji2]; first | rfl | (simp [errW_none, errW_some] <;> rfl)) | (simp [*, errW_none, errW_some] <;> rfl)), (qP0)⟩

end Go.Proofs.Ytffdglecmjbolaa.MP
