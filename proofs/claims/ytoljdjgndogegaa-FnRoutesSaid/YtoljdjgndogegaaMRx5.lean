-- Written by a program of this session (wip/drv.py, wip/tight2.py). -- tight2
import Derived.Test.YtoljdjgndogegaaMRx0
namespace Go.Proofs.Ytoljdjgndogegaa.MR
open Go.RowKit Go.Proofs.YtoljdjgndogegaaW.PrintWords Go.Proofs.YtoljdjgndogegaaW.PrintLast
set_option maxHeartbeats 8000000
set_option maxRecDepth 100000
attribute [local go_sem] max2_int min2_int max_two min_two   -- for this text's walks alone
set_option linter.unusedVariables false
set_option linter.unusedSimpArgs false

/-! ### impl_within: function 34 -/
def impl_within.f (a0 : Int) (a1 : Int) (a2 : Int) : Option (Bool) := if a0 ≥ a1 then (some (decide (a0 ≤ a2))) else (some false)
theorem impl_within.calls (a0 : Int) (a1 : Int) (a2 : Int) (r : Bool) (w : World) (h : impl_within.f a0 a1 a2 = some r) :
  Calls Try.prog 34 #[.int .i64 a0, .int .i64 a1, .int .i64 a2] w fun e w' => e = .returned (.bool r) ∧ Drawn0 w w' := by
 have H : (if a0 ≥ a1 then (some (decide (a0 ≤ a2))) else (some false)) = some r := h; clear h
 by_cases c4 : a0 ≥ a1
 ·rw [if_pos c4] at H; have c4b0 : decide (a1 ≤ a0) = true := decide_eq_true c4; clear c4; obtain rfl := Option.some.inj H
  go_enter Try.func34, Try.ntmps34
  go_wp2
  go_ret
  exact ⟨(qR12), (qR26)⟩
 ·rw [if_neg c4] at H; have c4b0 : decide (a1 ≤ a0) = false := decide_eq_false c4; clear c4; obtain rfl := Option.some.inj H
  go_enter Try.func34, Try.ntmps34
  go_wp2
  go_ret
  exact ⟨(qR12), (qR26)⟩

/-! ### impl_isStation: function 66 -/
def impl_isStation.f (a0 : Int) : Option (Bool) := (impl_within.f a0 0 7).bind fun t408 => (some t408)
theorem impl_isStation.calls (a0 : Int) (r : Bool) (w : World) (h : impl_isStation.f a0 = some r) :
  Calls Try.prog 66 #[.int .i64 a0] w fun e w' => e = .returned (.bool r) ∧ Drawn0 w w' := by
 have H : ((impl_within.f a0 0 7).bind fun t408 => (some t408)) = some r := h; clear h; replace H := Option.bind_eq_some_iff.mp H; obtain ⟨t408, A20, H⟩ := H; replace H : (some t408) = some r := H; have A2 := Aside0.mk A20; clear A20; obtain rfl := Option.some.inj H
 go_enter Try.func66, Try.ntmps66
 go_wp2_with (first | ((with_reducible refine gate_callee (f := 34) rfl ?_); refine goesL_ (some 4) rfl rfl Try.func34 (by kernel_rfl) rfl #[.int .i64 a0, .int .i64 0, .int .i64 7] rfl (qR2) ?_; (with_reducible refine (impl_within.calls a0 0 7 t408 _ A2.out).mono ?_); rintro e w' ⟨rfl, ⟨nd, rfl⟩⟩; refine ⟨_, rfl, ?_⟩))
 go_ret
 exact ⟨(qR12), (qR26)⟩

/-! ### impl_isBearing: function 90 -/
def impl_isBearing.f (a0 : Int) : Option (Bool) := (impl_within.f a0 0 359).bind fun t409 => (some t409)
theorem impl_isBearing.calls (a0 : Int) (r : Bool) (w : World) (h : impl_isBearing.f a0 = some r) :
  Calls Try.prog 90 #[.int .i64 a0] w fun e w' => e = .returned (.bool r) ∧ Drawn0 w w' := by
 have H : ((impl_within.f a0 0 359).bind fun t409 => (some t409)) = some r := h; clear h; replace H := Option.bind_eq_some_iff.mp H; obtain ⟨t409, A20, H⟩ := H; replace H : (some t409) = some r := H; have A2 := Aside0.mk A20; clear A20; obtain rfl := Option.some.inj H
 go_enter Try.func90, Try.ntmps90
 go_wp2_with (first | ((with_reducible refine gate_callee (f := 34) rfl ?_); refine goesL_ (some 4) rfl rfl Try.func34 (by kernel_rfl) rfl #[.int .i64 a0, .int .i64 0, .int .i64 359] rfl (qR2) ?_; (with_reducible refine (impl_within.calls a0 0 359 t409 _ A2.out).mono ?_); rintro e w' ⟨rfl, ⟨nd, rfl⟩⟩; refine ⟨_, rfl, ?_⟩))
 go_ret
 exact ⟨(qR12), (qR26)⟩

/-! ### impl_IsLeg: function 73 -/
def impl_IsLeg.f (a0_0 : Int) (a0_1 : Int) (a0_2 : Int) (a0_3 : Int) (a0_4 : Int) : Option (Bool) := (impl_isStation.f a0_0).bind fun t411 => (if t411 = true then ((impl_isStation.f a0_1).bind fun t412 => (if t412 = true then (if a0_0 = a0_1 then (some false) else ((impl_within.f a0_2 1 500).bind fun t413 => (if t413 = true then ((impl_isBearing.f a0_3).bind fun t414 => (if t414 = true then ((impl_within.f a0_4 (-90) 90).bind fun t415 => (some t415)) else (some false))) else (some false)))) else (some false))) else (some false))
theorem impl_IsLeg.calls (a0_0 : Int) (a0_1 : Int) (a0_2 : Int) (a0_3 : Int) (a0_4 : Int) (r : Bool) (w : World) (h : impl_IsLeg.f a0_0 a0_1 a0_2 a0_3 a0_4 = some r) :
  Calls Try.prog 73 #[.agg #[.int .i64 a0_0, .int .i64 a0_1, .int .i64 a0_2, .int .i64 a0_3, .int .i64 a0_4]] w fun e w' => e = .returned (.bool r) ∧ Below w.heap.size w w' := by
 have hu58 := Try.underlying58; have HB := Aside0.mk (Below.refl w.heap.size w); have H : ((impl_isStation.f a0_0).bind fun t411 => (if t411 = true then ((impl_isStation.f a0_1).bind fun t412 => (if t412 = true then (if a0_0 = a0_1 then (some false) else ((impl_within.f a0_2 1 500).bind fun t413 => (if t413 = true then ((impl_isBearing.f a0_3).bind fun t414 => (if t414 = true then ((impl_within.f a0_4 (-90) 90).bind fun t415 => (some t415)) else (some false))) else (some false)))) else (some false))) else (some false))) = some r := h; clear h; replace H := bindA H; obtain ⟨t411, A2, H⟩ := H; (try dsimp only at H)
 by_cases c3 : t411 = true
 ·subst c3; rw [if_pos rfl] at H; replace H := bindA H; obtain ⟨t412, A4, H⟩ := H; (try dsimp only at H)
  by_cases c5 : t412 = true
  ·subst c5; rw [if_pos rfl] at H
   by_cases c6 : a0_0 = a0_1
   ·rw [if_pos c6] at H; have c6b0 : (a0_0 == a0_1) = true := beq_iff_eq.mpr c6; have c6b1 : (a0_0 != a0_1) = false := bne_eq_false_iff_eq.mpr c6; clear c6; obtain rfl := Option.some.inj H
    go_enter Try.func73, Try.ntmps73
    go_wp2_with (first | ((with_reducible refine gate_dst (N := 1) rfl ?_); refine box_event ?hg (N := 1) ?hd (cs := #[.int .i64 a0_0, .int .i64 a0_1, .int .i64 a0_2, .int .i64 a0_3, .int .i64 a0_4]) (t := 58) ?hr ?_; (case hd => rfl); (case hg => rfl); (case hr => exact (qR25)); intro gb410 hg w7 hbox hb; have BK410 := Aside0.mk (hbox); have GW410 := Aside0.mk (qR72); have GE410 := Aside0.mk (qR72); replace HB := Aside0.mk (qR62); clear hb hbox hg; have hcz8_0 : w7.cell? ⟨gb410, 0, none⟩ = some (.int .i64 a0_0) := (blk_cell BK410.out 0).trans rfl; have hcz8_1 : w7.cell? ⟨gb410, 1, none⟩ = some (.int .i64 a0_1) := (blk_cell BK410.out 1).trans rfl; have hcz8_2 : w7.cell? ⟨gb410, 2, none⟩ = some (.int .i64 a0_2) := (blk_cell BK410.out 2).trans rfl; have hcz8_3 : w7.cell? ⟨gb410, 3, none⟩ = some (.int .i64 a0_3) := (blk_cell BK410.out 3).trans rfl; have hcz8_4 : w7.cell? ⟨gb410, 4, none⟩ = some (.int .i64 a0_4) := (blk_cell BK410.out 4).trans rfl; have hfz8_0 := blk_frozen BK410.out 0; have hfz8_1 := blk_frozen BK410.out 1; have hfz8_2 := blk_frozen BK410.out 2; have hfz8_3 := blk_frozen BK410.out 3; have hfz8_4 := blk_frozen BK410.out 4) | ((with_reducible refine gate_callee (f := 66) rfl ?_); refine goesL_ (some 5) rfl rfl Try.func66 (by kernel_rfl) rfl #[.int .i64 a0_0] rfl (qR2) ?_; (with_reducible refine (impl_isStation.calls a0_0 true _ A2.out).mono ?_); rintro e w' ⟨rfl, ⟨nd, rfl⟩⟩; refine ⟨_, rfl, ?_⟩) | (go_at_call 66; (with_reducible refine (impl_isStation.calls a0_1 true _ A4.out).mono ?_); rintro e w' ⟨rfl, ⟨nd, rfl⟩⟩))
    go_ret
    exact ⟨(qR10), (qR21 GE410.out)⟩
   ·rw [if_neg c6] at H; have c6b0 : (a0_0 == a0_1) = false := beq_eq_false_iff_ne.mpr c6; have c6b1 : (a0_0 != a0_1) = true := bne_iff_ne.mpr c6; replace H := bindA H; obtain ⟨t413, A9, H⟩ := H; (try dsimp only at H)
    by_cases c10 : t413 = true
    ·subst c10; rw [if_pos rfl] at H; replace H := bindA H; obtain ⟨t414, A11, H⟩ := H; (try dsimp only at H)
     by_cases c12 : t414 = true
     ·subst c12; rw [if_pos rfl] at H; replace H := Option.bind_eq_some_iff.mp H; obtain ⟨t415, A130, H⟩ := H; replace H : (some t415) = some r := H; have A13 := Aside0.mk A130; clear A130; obtain rfl := Option.some.inj H
      go_enter Try.func73, Try.ntmps73
      go_wp2_with (first | ((with_reducible refine gate_dst (N := 1) rfl ?_); refine box_event ?hg (N := 1) ?hd (cs := #[.int .i64 a0_0, .int .i64 a0_1, .int .i64 a0_2, .int .i64 a0_3, .int .i64 a0_4]) (t := 58) ?hr ?_; (case hd => rfl); (case hg => rfl); (case hr => exact (qR25)); intro gb410 hg w14 hbox hb; have BK410 := Aside0.mk (hbox); have GW410 := Aside0.mk (qR72); have GE410 := Aside0.mk (qR72); replace HB := Aside0.mk (qR62); clear hb hbox hg; have hcz15_0 : w14.cell? ⟨gb410, 0, none⟩ = some (.int .i64 a0_0) := (blk_cell BK410.out 0).trans rfl; have hcz15_1 : w14.cell? ⟨gb410, 1, none⟩ = some (.int .i64 a0_1) := (blk_cell BK410.out 1).trans rfl; have hcz15_2 : w14.cell? ⟨gb410, 2, none⟩ = some (.int .i64 a0_2) := (blk_cell BK410.out 2).trans rfl; have hcz15_3 : w14.cell? ⟨gb410, 3, none⟩ = some (.int .i64 a0_3) := (blk_cell BK410.out 3).trans rfl; have hcz15_4 : w14.cell? ⟨gb410, 4, none⟩ = some (.int .i64 a0_4) := (blk_cell BK410.out 4).trans rfl; have hfz15_0 := blk_frozen BK410.out 0; have hfz15_1 := blk_frozen BK410.out 1; have hfz15_2 := blk_frozen BK410.out 2; have hfz15_3 := blk_frozen BK410.out 3; have hfz15_4 := blk_frozen BK410.out 4) | ((with_reducible refine gate_callee (f := 66) rfl ?_); refine goesL_ (some 5) rfl rfl Try.func66 (by kernel_rfl) rfl #[.int .i64 a0_0] rfl (qR2) ?_; (with_reducible refine (impl_isStation.calls a0_0 true _ A2.out).mono ?_); rintro e w' ⟨rfl, ⟨nd, rfl⟩⟩; refine ⟨_, rfl, ?_⟩) | (go_at_call 66; (with_reducible refine (impl_isStation.calls a0_1 true _ A4.out).mono ?_); rintro e w' ⟨rfl, ⟨nd, rfl⟩⟩) | (go_at_call 34; (with_reducible refine (impl_within.calls a0_2 1 500 true _ A9.out).mono ?_); rintro e w' ⟨rfl, ⟨nd, rfl⟩⟩) | (go_at_call 90; (with_reducible refine (impl_isBearing.calls a0_3 true _ A11.out).mono ?_); rintro e w' ⟨rfl, ⟨nd, rfl⟩⟩) | (go_at_call 34; (with_reducible refine (impl_within.calls a0_4 (-90) 90 t415 _ A13.out).mono ?_); rintro e w' ⟨rfl, ⟨nd, rfl⟩⟩))
      go_ret
      exact ⟨(qR10), (qR21 GE410.out)⟩
     ·replace c12 := Bool.eq_false_iff.mpr c12; subst c12; rw [if_neg (show ¬ (false = true) by decide)] at H; obtain rfl := Option.some.inj H
      go_enter Try.func73, Try.ntmps73
      go_wp2_with (first | ((with_reducible refine gate_dst (N := 1) rfl ?_); refine box_event ?hg (N := 1) ?hd (cs := #[.int .i64 a0_0, .int .i64 a0_1, .int .i64 a0_2, .int .i64 a0_3, .int .i64 a0_4]) (t := 58) ?hr ?_; (case hd => rfl); (case hg => rfl); (case hr => exact (qR25)); intro gb410 hg w16 hbox hb; have BK410 := Aside0.mk (hbox); have GW410 := Aside0.mk (qR72); have GE410 := Aside0.mk (qR72); replace HB := Aside0.mk (qR62); clear hb hbox hg; have hcz17_0 : w16.cell? ⟨gb410, 0, none⟩ = some (.int .i64 a0_0) := (blk_cell BK410.out 0).trans rfl; have hcz17_1 : w16.cell? ⟨gb410, 1, none⟩ = some (.int .i64 a0_1) := (blk_cell BK410.out 1).trans rfl; have hcz17_2 : w16.cell? ⟨gb410, 2, none⟩ = some (.int .i64 a0_2) := (blk_cell BK410.out 2).trans rfl; have hcz17_3 : w16.cell? ⟨gb410, 3, none⟩ = some (.int .i64 a0_3) := (blk_cell BK410.out 3).trans rfl; have hcz17_4 : w16.cell? ⟨gb410, 4, none⟩ = some (.int .i64 a0_4) := (blk_cell BK410.out 4).trans rfl; have hfz17_0 := blk_frozen BK410.out 0; have hfz17_1 := blk_frozen BK410.out 1; have hfz17_2 := blk_frozen BK410.out 2; have hfz17_3 := blk_frozen BK410.out 3; have hfz17_4 := blk_frozen BK410.out 4) | ((with_reducible refine gate_callee (f := 66) rfl ?_); refine goesL_ (some 5) rfl rfl Try.func66 (by kernel_rfl) rfl #[.int .i64 a0_0] rfl (qR2) ?_; (with_reducible refine (impl_isStation.calls a0_0 true _ A2.out).mono ?_); rintro e w' ⟨rfl, ⟨nd, rfl⟩⟩; refine ⟨_, rfl, ?_⟩) | (go_at_call 66; (with_reducible refine (impl_isStation.calls a0_1 true _ A4.out).mono ?_); rintro e w' ⟨rfl, ⟨nd, rfl⟩⟩) | (go_at_call 34; (with_reducible refine (impl_within.calls a0_2 1 500 true _ A9.out).mono ?_); rintro e w' ⟨rfl, ⟨nd, rfl⟩⟩) | (go_at_call 90; (with_reducible refine (impl_isBearing.calls a0_3 false _ A11.out).mono ?_); rintro e w' ⟨rfl, ⟨nd, rfl⟩⟩))
      go_ret
      exact ⟨(qR10), (qR21 GE410.out)⟩
    ·replace c10 := Bool.eq_false_iff.mpr c10; subst c10; rw [if_neg (show ¬ (false = true) by decide)] at H; obtain rfl := Option.some.inj H
     go_enter Try.func73, Try.ntmps73
     go_wp2_with (first | ((with_reducible refine gate_dst (N := 1) rfl ?_); refine box_event ?hg (N := 1) ?hd (cs := #[.int .i64 a0_0, .int .i64 a0_1, .int .i64 a0_2, .int .i64 a0_3, .int .i64 a0_4]) (t := 58) ?hr ?_; (case hd => rfl); (case hg => rfl); (case hr => exact (qR25)); intro gb410 hg w18 hbox hb; have BK410 := Aside0.mk (hbox); have GW410 := Aside0.mk (qR72); have GE410 := Aside0.mk (qR72); replace HB := Aside0.mk (qR62); clear hb hbox hg; have hcz19_0 : w18.cell? ⟨gb410, 0, none⟩ = some (.int .i64 a0_0) := (blk_cell BK410.out 0).trans rfl; have hcz19_1 : w18.cell? ⟨gb410, 1, none⟩ = some (.int .i64 a0_1) := (blk_cell BK410.out 1).trans rfl; have hcz19_2 : w18.cell? ⟨gb410, 2, none⟩ = some (.int .i64 a0_2) := (blk_cell BK410.out 2).trans rfl; have hcz19_3 : w18.cell? ⟨gb410, 3, none⟩ = some (.int .i64 a0_3) := (blk_cell BK410.out 3).trans rfl; have hcz19_4 : w18.cell? ⟨gb410, 4, none⟩ = some (.int .i64 a0_4) := (blk_cell BK410.out 4).trans rfl; have hfz19_0 := blk_frozen BK410.out 0; have hfz19_1 := blk_frozen BK410.out 1; have hfz19_2 := blk_frozen BK410.out 2; have hfz19_3 := blk_frozen BK410.out 3; have hfz19_4 := blk_frozen BK410.out 4) | ((with_reducible refine gate_callee (f := 66) rfl ?_); refine goesL_ (some 5) rfl rfl Try.func66 (by kernel_rfl) rfl #[.int .i64 a0_0] rfl (qR2) ?_; (with_reducible refine (impl_isStation.calls a0_0 true _ A2.out).mono ?_); rintro e w' ⟨rfl, ⟨nd, rfl⟩⟩; refine ⟨_, rfl, ?_⟩) | (go_at_call 66; (with_reducible refine (impl_isStation.calls a0_1 true _ A4.out).mono ?_); rintro e w' ⟨rfl, ⟨nd, rfl⟩⟩) | (go_at_call 34; (with_reducible refine (impl_within.calls a0_2 1 500 false _ A9.out).mono ?_); rintro e w' ⟨rfl, ⟨nd, rfl⟩⟩))
     go_ret
     exact ⟨(qR10), (qR21 GE410.out)⟩
  ·replace c5 := Bool.eq_false_iff.mpr c5; subst c5; rw [if_neg (show ¬ (false = true) by decide)] at H; obtain rfl := Option.some.inj H
   go_enter Try.func73, Try.ntmps73
   go_wp2_with (first | ((with_reducible refine gate_dst (N := 1) rfl ?_); refine box_event ?hg (N := 1) ?hd (cs := #[.int .i64 a0_0, .int .i64 a0_1, .int .i64 a0_2, .int .i64 a0_3, .int .i64 a0_4]) (t := 58) ?hr ?_; (case hd => rfl); (case hg => rfl); (case hr => exact (qR25)); intro gb410 hg w20 hbox hb; have BK410 := Aside0.mk (hbox); have GW410 := Aside0.mk (qR72); have GE410 := Aside0.mk (qR72); replace HB := Aside0.mk (qR62); clear hb hbox hg; have hcz21_0 : w20.cell? ⟨gb410, 0, none⟩ = some (.int .i64 a0_0) := (blk_cell BK410.out 0).trans rfl; have hcz21_1 : w20.cell? ⟨gb410, 1, none⟩ = some (.int .i64 a0_1) := (blk_cell BK410.out 1).trans rfl; have hcz21_2 : w20.cell? ⟨gb410, 2, none⟩ = some (.int .i64 a0_2) := (blk_cell BK410.out 2).trans rfl; have hcz21_3 : w20.cell? ⟨gb410, 3, none⟩ = some (.int .i64 a0_3) := (blk_cell BK410.out 3).trans rfl; have hcz21_4 : w20.cell? ⟨gb410, 4, none⟩ = some (.int .i64 a0_4) := (blk_cell BK410.out 4).trans rfl; have hfz21_0 := blk_frozen BK410.out 0; have hfz21_1 := blk_frozen BK410.out 1; have hfz21_2 := blk_frozen BK410.out 2; have hfz21_3 := blk_frozen BK410.out 3; have hfz21_4 := blk_frozen BK410.out 4) | ((with_reducible refine gate_callee (f := 66) rfl ?_); refine goesL_ (some 5) rfl rfl Try.func66 (by kernel_rfl) rfl #[.int .i64 a0_0] rfl (qR2) ?_; (with_reducible refine (impl_isStation.calls a0_0 true _ A2.out).mono ?_); rintro e w' ⟨rfl, ⟨nd, rfl⟩⟩; refine ⟨_, rfl, ?_⟩) | (go_at_call 66; (with_reducible refine (impl_isStation.calls a0_1 false _ A4.out).mono ?_); rintro e w' ⟨rfl, ⟨nd, rfl⟩⟩))
   go_ret
   exact ⟨(qR10), (qR21 GE410.out)⟩
 ·replace c3 := Bool.eq_false_iff.mpr c3; subst c3; rw [if_neg (show ¬ (false = true) by decide)] at H; obtain rfl := Option.some.inj H
  go_enter Try.func73, Try.ntmps73
  go_wp2_with (first | ((with_reducible refine gate_dst (N := 1) rfl ?_); refine box_event ?hg (N := 1) ?hd (cs := #[.int .i64 a0_0, .int .i64 a0_1, .int .i64 a0_2, .int .i64 a0_3, .int .i64 a0_4]) (t := 58) ?hr ?_; (case hd => rfl); (case hg => rfl); (case hr => exact (qR25)); intro gb410 hg w22 hbox hb; have BK410 := Aside0.mk (hbox); have GW410 := Aside0.mk (qR72); have GE410 := Aside0.mk (qR72); replace HB := Aside0.mk (qR62); clear hb hbox hg; have hcz23_0 : w22.cell? ⟨gb410, 0, none⟩ = some (.int .i64 a0_0) := (blk_cell BK410.out 0).trans rfl; have hcz23_1 : w22.cell? ⟨gb410, 1, none⟩ = some (.int .i64 a0_1) := (blk_cell BK410.out 1).trans rfl; have hcz23_2 : w22.cell? ⟨gb410, 2, none⟩ = some (.int .i64 a0_2) := (blk_cell BK410.out 2).trans rfl; have hcz23_3 : w22.cell? ⟨gb410, 3, none⟩ = some (.int .i64 a0_3) := (blk_cell BK410.out 3).trans rfl; have hcz23_4 : w22.cell? ⟨gb410, 4, none⟩ = some (.int .i64 a0_4) := (blk_cell BK410.out 4).trans rfl; have hfz23_0 := blk_frozen BK410.out 0; have hfz23_1 := blk_frozen BK410.out 1; have hfz23_2 := blk_frozen BK410.out 2; have hfz23_3 := blk_frozen BK410.out 3; have hfz23_4 := blk_frozen BK410.out 4) | ((with_reducible refine gate_callee (f := 66) rfl ?_); refine goesL_ (some 5) rfl rfl Try.func66 (by kernel_rfl) rfl #[.int .i64 a0_0] rfl (qR2) ?_; (with_reducible refine (impl_isStation.calls a0_0 false _ A2.out).mono ?_); rintro e w' ⟨rfl, ⟨nd, rfl⟩⟩; refine ⟨_, rfl, ?_⟩))
  go_ret
  exact ⟨(qR10), (qR21 GE410.out)⟩

/-! ### impl_areLegs: function 42 -/
def impl_areLegs.l0 : Nat → List (S58) → List (S58) → Int → Int → Option (Bool)
 | 0, _, _, _, _ => none
 | k + 1, x0, x5, x6, x7 => if x7 < x6 then (if 0 ≤ x7 then (if x7 < (x5.length : Int) then ((impl_IsLeg.f ((rd_T58 x5 x7).f0) ((rd_T58 x5 x7).f1) ((rd_T58 x5 x7).f2) ((rd_T58 x5 x7).f3) ((rd_T58 x5 x7).f4)).bind fun t418 => (if t418 = true then (impl_areLegs.l0 k x0 x5 x6 (wrap64 (x7 + 1))) else (some false))) else (none)) else (none)) else (some (decide ((x0.length : Int) ≤ 12)))
def impl_areLegs.f (k : Nat) (l0 : List (S58)) : Option (Bool) := impl_areLegs.l0 k l0 l0 (l0.length : Int) 0
theorem impl_areLegs.mono_l : ∀ k, (∀ y0 y1 y2 y3, LeO (impl_areLegs.l0 k y0 y1 y2 y3) (impl_areLegs.l0 (k + 1) y0 y1 y2 y3))
 | 0 => fun _ _ _ _ r h => by simp [impl_areLegs.l0] at h
 | k + 1 => by
  have ih0 := impl_areLegs.mono_l k
  ·intro y0 y1 y2 y3
   unfold impl_areLegs.l0
   exact qmono
theorem impl_areLegs.mono : ∀ a0 k, LeO (impl_areLegs.f k a0) (impl_areLegs.f (k + 1) a0) := by
 intro a0 k; have ih0 := impl_areLegs.mono_l k
 unfold impl_areLegs.f
 exact qmono
theorem impl_areLegs.calls (k : Nat) (A0 : Option Addr) (c0 : Nat) (l0 : List (S58)) (r : Bool) (w : World) (hr0 : Kd.C k58 w A0 l0.length l0) (hc0 : l0.length ≤ c0) (h : impl_areLegs.f k l0 = some r) :
  Calls Try.prog 42 #[.slice A0 l0.length c0] w fun e w' => e = .returned (.bool r) ∧ Below w.heap.size w w' := by
 have hu58 := Try.underlying58; have HR0 := Aside0.mk hr0; have HC0 := Aside0.mk hc0; clear hr0 hc0; have HB := Aside0.mk (Below.refl w.heap.size w); have H : (impl_areLegs.l0 k l0 l0 (l0.length : Int) 0) = some r := h; clear h; have H' := Aside0.mk H; clear H
 go_enter Try.func42, Try.ntmps42
 go_wp2
 go_loopg [7] k (fun kq v7 w' => ∃ (x7_1 : Int), v7 = .int .i64 x7_1 ∧ Aside0 (impl_areLegs.l0 kq l0 l0 (l0.length : Int) x7_1 = some r) ∧ Aside0 (kq ≤ k) ∧ Aside0 (Below w.heap.size w w'))
 case atStart => exact ⟨(0), (qR12), H', ⟨Nat.le_refl _⟩, ⟨(qR0)⟩⟩
 case round =>
  clear H'; obtain ⟨x7_1, rfl, HA, HK1, HB⟩ := hrel
  cases gk with
  | zero => exact absurd HA.out (by simp [impl_areLegs.l0])
  | succ k1 =>
   have H := HA.out; clear HA; simp only [impl_areLegs.l0] at H
   by_cases c2 : x7_1 < (l0.length : Int)
   ·rw [if_pos c2] at H; have c2b0 : decide (x7_1 < (l0.length : Int)) = true := decide_eq_true c2; clear c2
    by_cases c3 : 0 ≤ x7_1
    ·rw [if_pos c3] at H; have c3b0 : decide (0 ≤ x7_1) = true := decide_eq_true c3; clear c3
     by_cases c4 : x7_1 < (l0.length : Int)
     ·rw [if_pos c4] at H; have c4b0 : decide (x7_1 < (l0.length : Int)) = true := decide_eq_true c4; clear c4; replace H := bindA H; obtain ⟨t418, A5, H⟩ := H; (try dsimp only at H)
      by_cases c6 : t418 = true
      ·subst c6; rw [if_pos rfl] at H; have H' := Aside0.mk H; clear H; have p416 : 0 ≤ (x7_1 : Int) := of_decide_eq_true (qR8); have q416 : x7_1 < (l0.length : Int) := of_decide_eq_true (qR8); obtain ⟨ad416, e416, hx416_0, hx416_1, hx416_2, hx416_3, hx416_4⟩ := at_T58 HR0.out x7_1 p416 q416; cases e416; replace hx416_0 := (HB.out.cell (World.block_lt_of_cell? w _ hx416_0)).trans hx416_0; replace hx416_1 := (HB.out.cell (World.block_lt_of_cell? w _ hx416_1)).trans hx416_1; replace hx416_2 := (HB.out.cell (World.block_lt_of_cell? w _ hx416_2)).trans hx416_2; replace hx416_3 := (HB.out.cell (World.block_lt_of_cell? w _ hx416_3)).trans hx416_3; replace hx416_4 := (HB.out.cell (World.block_lt_of_cell? w _ hx416_4)).trans hx416_4; replace p416 := eq_true p416; replace q416 := eq_true q416
       go_wp2_with (first | ((with_reducible refine gate_dst (N := 4) rfl ?_); refine box_event ?hg (N := 4) ?hd (cs := #[.int .i64 0, .int .i64 0, .int .i64 0, .int .i64 0, .int .i64 0]) (t := 58) ?hr ?_; (case hd => rfl); (case hg => rfl); (case hr => exact (qR25)); intro gb417 hg w7 hbox hb; have BK417 := Aside0.mk (hbox); have GW417 := Aside0.mk (qR97); have GE417 := Aside0.mk (qR97); replace HB := Aside0.mk (qR62); clear hb hbox hg; have hcz8_0 : w7.cell? ⟨gb417, 0, none⟩ = some (.int .i64 0) := (blk_cell BK417.out 0).trans rfl; have hcz8_1 : w7.cell? ⟨gb417, 1, none⟩ = some (.int .i64 0) := (blk_cell BK417.out 1).trans rfl; have hcz8_2 : w7.cell? ⟨gb417, 2, none⟩ = some (.int .i64 0) := (blk_cell BK417.out 2).trans rfl; have hcz8_3 : w7.cell? ⟨gb417, 3, none⟩ = some (.int .i64 0) := (blk_cell BK417.out 3).trans rfl; have hcz8_4 : w7.cell? ⟨gb417, 4, none⟩ = some (.int .i64 0) := (blk_cell BK417.out 4).trans rfl; have hfz8_0 := blk_frozen BK417.out 0; have hfz8_1 := blk_frozen BK417.out 1; have hfz8_2 := blk_frozen BK417.out 2; have hfz8_3 := blk_frozen BK417.out 3; have hfz8_4 := blk_frozen BK417.out 4) | ((with_reducible refine gate_callee (f := 73) rfl ?_); refine goesL_ (some 12) rfl rfl Try.func73 (by kernel_rfl) rfl #[.agg #[.int .i64 ((rd_T58 l0 x7_1).f0), .int .i64 ((rd_T58 l0 x7_1).f1), .int .i64 ((rd_T58 l0 x7_1).f2), .int .i64 ((rd_T58 l0 x7_1).f3), .int .i64 ((rd_T58 l0 x7_1).f4)]] rfl (qR2) ?_; (with_reducible refine (impl_IsLeg.calls ((rd_T58 l0 x7_1).f0) ((rd_T58 l0 x7_1).f1) ((rd_T58 l0 x7_1).f2) ((rd_T58 l0 x7_1).f3) ((rd_T58 l0 x7_1).f4) true _ A5.out).mono ?_); rintro e w9 ⟨rfl, hb⟩; refine ⟨_, rfl, ?_⟩; replace BK417 := Aside0.mk (blk_below (g := gb417) (o := .cells #[.int .i64 ((rd_T58 l0 x7_1).f0), .int .i64 ((rd_T58 l0 x7_1).f1), .int .i64 ((rd_T58 l0 x7_1).f2), .int .i64 ((rd_T58 l0 x7_1).f3), .int .i64 ((rd_T58 l0 x7_1).f4)] 58 (0, 0)) (qR35) hb); replace HB := Aside0.mk (below_step (qR21 GE417.out) hb); clear hb))
       go_roundg k1
       case measure => have := HK1.out; omega
       case rel => exact ⟨(wrap64 (x7_1 + 1)), (qR12), H', ⟨by have := HK1.out; omega⟩, ⟨(qR21 GE417.out)⟩⟩
      ·replace c6 := Bool.eq_false_iff.mpr c6; subst c6; rw [if_neg (show ¬ (false = true) by decide)] at H; obtain rfl := Option.some.inj H; have p416 : 0 ≤ (x7_1 : Int) := of_decide_eq_true (qR8); have q416 : x7_1 < (l0.length : Int) := of_decide_eq_true (qR8); obtain ⟨ad416, e416, hx416_0, hx416_1, hx416_2, hx416_3, hx416_4⟩ := at_T58 HR0.out x7_1 p416 q416; cases e416; replace hx416_0 := (HB.out.cell (World.block_lt_of_cell? w _ hx416_0)).trans hx416_0; replace hx416_1 := (HB.out.cell (World.block_lt_of_cell? w _ hx416_1)).trans hx416_1; replace hx416_2 := (HB.out.cell (World.block_lt_of_cell? w _ hx416_2)).trans hx416_2; replace hx416_3 := (HB.out.cell (World.block_lt_of_cell? w _ hx416_3)).trans hx416_3; replace hx416_4 := (HB.out.cell (World.block_lt_of_cell? w _ hx416_4)).trans hx416_4; replace p416 := eq_true p416; replace q416 := eq_true q416
       go_wp2_with (first | ((with_reducible refine gate_dst (N := 4) rfl ?_); refine box_event ?hg (N := 4) ?hd (cs := #[.int .i64 0, .int .i64 0, .int .i64 0, .int .i64 0, .int .i64 0]) (t := 58) ?hr ?_; (case hd => rfl); (case hg => rfl); (case hr => exact (qR25)); intro gb417 hg w10 hbox hb; have BK417 := Aside0.mk (hbox); have GW417 := Aside0.mk (qR97); have GE417 := Aside0.mk (qR97); replace HB := Aside0.mk (qR62); clear hb hbox hg; have hcz11_0 : w10.cell? ⟨gb417, 0, none⟩ = some (.int .i64 0) := (blk_cell BK417.out 0).trans rfl; have hcz11_1 : w10.cell? ⟨gb417, 1, none⟩ = some (.int .i64 0) := (blk_cell BK417.out 1).trans rfl; have hcz11_2 : w10.cell? ⟨gb417, 2, none⟩ = some (.int .i64 0) := (blk_cell BK417.out 2).trans rfl; have hcz11_3 : w10.cell? ⟨gb417, 3, none⟩ = some (.int .i64 0) := (blk_cell BK417.out 3).trans rfl; have hcz11_4 : w10.cell? ⟨gb417, 4, none⟩ = some (.int .i64 0) := (blk_cell BK417.out 4).trans rfl; have hfz11_0 := blk_frozen BK417.out 0; have hfz11_1 := blk_frozen BK417.out 1; have hfz11_2 := blk_frozen BK417.out 2; have hfz11_3 := blk_frozen BK417.out 3; have hfz11_4 := blk_frozen BK417.out 4) | ((with_reducible refine gate_callee (f := 73) rfl ?_); refine goesL_ (some 12) rfl rfl Try.func73 (by kernel_rfl) rfl #[.agg #[.int .i64 ((rd_T58 l0 x7_1).f0), .int .i64 ((rd_T58 l0 x7_1).f1), .int .i64 ((rd_T58 l0 x7_1).f2), .int .i64 ((rd_T58 l0 x7_1).f3), .int .i64 ((rd_T58 l0 x7_1).f4)]] rfl (qR2) ?_; (with_reducible refine (impl_IsLeg.calls ((rd_T58 l0 x7_1).f0) ((rd_T58 l0 x7_1).f1) ((rd_T58 l0 x7_1).f2) ((rd_T58 l0 x7_1).f3) ((rd_T58 l0 x7_1).f4) false _ A5.out).mono ?_); rintro e w12 ⟨rfl, hb⟩; refine ⟨_, rfl, ?_⟩; replace BK417 := Aside0.mk (blk_below (g := gb417) (o := .cells #[.int .i64 ((rd_T58 l0 x7_1).f0), .int .i64 ((rd_T58 l0 x7_1).f1), .int .i64 ((rd_T58 l0 x7_1).f2), .int .i64 ((rd_T58 l0 x7_1).f3), .int .i64 ((rd_T58 l0 x7_1).f4)] 58 (0, 0)) (qR35) hb); replace HB := Aside0.mk (below_step (qR21 GE417.out) hb); clear hb))
       go_ret
       exact ⟨(qR10), (qR21 GE417.out)⟩
     ·rw [if_neg c4] at H
      exact absurd H (by simp)
    ·rw [if_neg c3] at H
     exact absurd H (by simp)
   ·rw [if_neg c2] at H; have c2b0 : decide (x7_1 < (l0.length : Int)) = false := decide_eq_false c2; clear c2; obtain rfl := Option.some.inj H
    go_wp2
    go_ret
    exact ⟨(qR10), (qR0)⟩

-- NOT PRINTED: function 74 (slices_IndexFunc_int_int)

-- NOT PRINTED: function 43 (slices_ContainsFunc_int_int)

/-! ### impl_AreWidths_1: function 44 -/
def impl_AreWidths_1.f (a0 : Int) : Option (Bool) := (impl_within.f a0 0 200).bind fun t419 => (some (!t419))
theorem impl_AreWidths_1.calls (a0 : Int) (r : Bool) (w : World) (h : impl_AreWidths_1.f a0 = some r) :
  Calls Try.prog 44 #[.int .i64 a0] w fun e w' => e = .returned (.bool r) ∧ Drawn0 w w' := by
 have H : ((impl_within.f a0 0 200).bind fun t419 => (some (!t419))) = some r := h; clear h; replace H := Option.bind_eq_some_iff.mp H; obtain ⟨t419, A20, H⟩ := H; replace H : (some (!t419)) = some r := H; have A2 := Aside0.mk A20; clear A20; obtain rfl := Option.some.inj H
 go_enter Try.func44, Try.ntmps44
 go_wp2_with (first | ((with_reducible refine gate_callee (f := 34) rfl ?_); refine goesL_ (some 4) rfl rfl Try.func34 (by kernel_rfl) rfl #[.int .i64 a0, .int .i64 0, .int .i64 200] rfl (qR2) ?_; (with_reducible refine (impl_within.calls a0 0 200 t419 _ A2.out).mono ?_); rintro e w' ⟨rfl, ⟨nd, rfl⟩⟩; refine ⟨_, rfl, ?_⟩))
 go_ret
 exact ⟨(qR12), (qR26)⟩

/-! ### impl_AreWidths: function 10 (by hand: wip/inj) -/
def idxF {α : Type} (p : α → Bool) : List α → Int → Int
 | [], _ => -1
 | x :: l, i => if p x then i else idxF p l (i + 1)
theorem idxF_step {α : Type} (p : α → Bool) (l : List α) (d : α) (x : Int) (h0 : 0 ≤ x) (h1 : x < l.length) (hm : l.length ≤ 9223372036854775807) :
  idxF p (l.drop x.toNat) x = if p (l.getD x.toNat d) then x else idxF p (l.drop (wrap64 (x + 1)).toNat) (wrap64 (x + 1)) := by
 have hw : wrap64 (x + 1) = x + 1 := by unfold wrap64; omega
 have hl : x.toNat < l.length := by omega
 rw [hw, List.drop_eq_getElem_cons hl, show (x + 1).toNat = x.toNat + 1 by omega]; simp only [idxF, List.getD_eq_getElem?_getD, List.getElem?_eq_getElem hl, Option.getD_some]
theorem idxF_end {α : Type} (p : α → Bool) (l : List α) (x : Int) (h1 : ¬ x < l.length) : idxF p (l.drop x.toNat) x = -1 := by
 rw [List.drop_eq_nil_of_le (by omega)]
 rfl
theorem idxF_ge {α : Type} (p : α → Bool) : ∀ (l : List α) (i : Int), 0 ≤ i → decide (0 ≤ idxF p l i) = l.any p
 | [], _, _ => by simp [idxF]
 | x :: l, i, hi => by
  by_cases h : p x = true
  ·simp [idxF, h, hi]
  ·simp only [Bool.not_eq_true] at h
   simp [idxF, h, idxF_ge p l (i + 1) (by omega)]
theorem impl_AreWidths_idx.calls (caps : Array Value) (p : Int → Bool) (A0 : Option Addr) (c0 : Nat) (l0 : List (Int)) (w : World) (hr0 : Kd.C (Kd.int .i64) w A0 l0.length l0) (hc0 : l0.length ≤ c0)
  (hp : ∀ x W, Below w.heap.size w W → Calls Try.prog 44 (#[.int .i64 x] ++ caps) W fun e W' => e = .returned (.bool (p x)) ∧ Below W.heap.size W W') :
  Calls Try.prog 74 #[.slice A0 l0.length c0, .func (.func 44) #[] caps] w fun e w' => e = .returned (.int .i64 (idxF p l0 0)) ∧ Below w.heap.size w w' := by
 have HR0 := Aside0.mk hr0; have HC0 := Aside0.mk hc0; have HP := Aside0.mk hp; have HM := Aside0.mk hr0.2.1; clear hr0 hc0 hp
 go_enter Try.func74, Try.ntmps74
 go_wp2
 go_loopg [8] l0.length (fun kq v8 w' => ∃ x : Int, v8 = .int .i64 x ∧ Aside0 (0 ≤ x ∧ kq + x.toNat = l0.length ∧ idxF p l0 0 = idxF p (l0.drop x.toNat) x) ∧ Aside0 (Below w.heap.size w w'))
 case atStart => exact ⟨0, rfl, ⟨by simp⟩, ⟨Below.refl _ _⟩⟩
 case round =>
  obtain ⟨x, rfl, HA, HB⟩ := hrel
  by_cases hlt : x < (l0.length : Int)
  ·have c0 : decide (x < (l0.length : Int)) = true := decide_eq_true hlt; have c1 : decide (0 ≤ x) = true := decide_eq_true HA.out.1; obtain ⟨ad, e, hx⟩ := Kd.at_int (Kd.C_below HR0.out HB.out) x HA.out.1 hlt; cases e; have HLT := Aside0.mk hlt; have p1 := eq_true HA.out.1; have q1 := eq_true hlt; clear hlt; obtain ⟨k1, rfl⟩ : ∃ k1, gk = k1 + 1 := ⟨gk - 1, by have := HA.out; have := HLT.out; omega⟩; have HS := Aside0.mk (by exact HA.out.2.2.trans (idxF_step p l0 0 x HA.out.1 HLT.out HM.out))
   cases hq : p (rd l0 x) with
   | true =>
    have HQ := Aside0.mk hq
    go_wp2_with (go_at_call 44; refine (HP.out _ _ HB.out).mono ?_; rintro e w1 ⟨rfl, hb⟩)
    go_ret
    exact ⟨by rw [HS.out, show p (l0.getD x.toNat 0) = true from HQ.out]; rfl, Below.trans HB.out (hb.mono HB.out.size)⟩
   | false =>
    have HQ := Aside0.mk hq
    go_wp2_with (go_at_call 44; refine (HP.out _ _ HB.out).mono ?_; rintro e w1 ⟨rfl, hb⟩)
    go_roundg k1
    case measure => omega
    case rel => exact ⟨wrap64 (x + 1), rfl, ⟨by have := HA.out; have := HLT.out; have := HM.out; unfold wrap64; omega, by have := HA.out; have := HLT.out; have := HM.out; unfold wrap64; omega, by rw [HS.out, show p (l0.getD x.toNat 0) = false from HQ.out]; rfl⟩, ⟨Below.trans HB.out (hb.mono HB.out.size)⟩⟩
  ·have c0 : decide (x < (l0.length : Int)) = false := decide_eq_false hlt; have HS := Aside0.mk (by exact HA.out.2.2.trans (idxF_end p l0 x hlt)); clear hlt
   go_wp2
   go_ret
   exact ⟨by rw [HS.out]; rfl, HB.out⟩
theorem impl_AreWidths_cont.calls (caps : Array Value) (p : Int → Bool) (A0 : Option Addr) (c0 : Nat) (l0 : List (Int)) (w : World) (hr0 : Kd.C (Kd.int .i64) w A0 l0.length l0) (hc0 : l0.length ≤ c0)
  (hp : ∀ x W, Below w.heap.size w W → Calls Try.prog 44 (#[.int .i64 x] ++ caps) W fun e W' => e = .returned (.bool (p x)) ∧ Below W.heap.size W W') :
  Calls Try.prog 43 #[.slice A0 l0.length c0, .func (.func 44) #[] caps] w fun e w' => e = .returned (.bool (l0.any p)) ∧ Below w.heap.size w w' := by
 have HI := Aside0.mk (by exact impl_AreWidths_idx.calls caps p A0 c0 l0 w hr0 hc0 hp); clear hr0 hc0 hp
 go_enter Try.func43, Try.ntmps43
 go_wp2_with (go_at_call 74; refine HI.out.mono ?_; rintro e w1 ⟨rfl, hb⟩)
 go_ret
 exact ⟨by rw [← idxF_ge p l0 0 (by omega)]; rfl, hb⟩
def impl_AreWidths.bad (x : Int) : Bool := !(decide (0 ≤ x ∧ x ≤ 200))
theorem impl_AreWidths.bad_eq (x : Int) : impl_AreWidths_1.f x = some (impl_AreWidths.bad x) := by
 unfold impl_AreWidths_1.f impl_within.f impl_AreWidths.bad
 by_cases h1 : 0 ≤ x <;> by_cases h2 : x ≤ 200 <;> simp [h1, h2]
def impl_AreWidths.f (k : Nat) (l0 : List (S58)) (l1 : List Int) : Option Bool := (impl_areLegs.f k l0).bind fun t => some (t && (decide (l1.length = l0.length) && !(l1.any impl_AreWidths.bad)))
theorem impl_AreWidths.mono : ∀ a0 a1 k, LeO (impl_AreWidths.f k a0 a1) (impl_AreWidths.f (k + 1) a0 a1) := by
 intro a0 a1 k
 unfold impl_AreWidths.f
 have m0 := @impl_areLegs.mono
 exact qmono
theorem impl_AreWidths.calls (k : Nat) (A0 : Option Addr) (c0 : Nat) (l0 : List (S58)) (A1 : Option Addr) (c1 : Nat) (l1 : List Int) (r : Bool) (w : World) (hr0 : Kd.C k58 w A0 l0.length l0) (hc0 : l0.length ≤ c0) (hr1 : Kd.C (Kd.int .i64) w A1 l1.length l1) (hc1 : l1.length ≤ c1) (h : impl_AreWidths.f k l0 l1 = some r) :
  Calls Try.prog 10 #[.slice A0 l0.length c0, .slice A1 l1.length c1] w fun e w' => e = .returned (.bool r) ∧ Below w.heap.size w w' := by
 obtain ⟨t, ht, hr⟩ := Option.bind_eq_some_iff.mp h; obtain rfl := Option.some.inj hr; clear h hr; have HL := Aside0.mk (by exact impl_areLegs.calls k A0 c0 l0 t w hr0 hc0 ht); have HC := Aside0.mk (by exact fun w1 (hb : Below w.heap.size w w1) => impl_AreWidths_cont.calls #[] impl_AreWidths.bad A1 c1 l1 w1 (Kd.C_below hr1 hb) hc1 (fun x W _ => (impl_AreWidths_1.calls x _ W (impl_AreWidths.bad_eq x)).mono fun e W' he => ⟨he.1, he.2.below⟩)); have HM0 := Aside0.mk hr0.2.1; have HM1 := Aside0.mk hr1.2.1; clear hr0 hc0 hr1 hc1 ht
 cases t with
 | false =>
  go_enter Try.func10, Try.ntmps10
  go_wp2_with (go_at_call 42; refine HL.out.mono ?_; rintro e w1 ⟨rfl, hb⟩)
  go_ret
  exact ⟨by simp only [Bool.false_and]; rfl, hb⟩
 | true =>
  by_cases hl : l1.length = l0.length
  ·have d0 : ((l1.length : Int) == (l0.length : Int)) = true := beq_iff_eq.2 (by omega); have d1 : (l1.length == l0.length) = true := beq_iff_eq.2 hl; have D2 := Aside0.mk hl; clear hl
   go_enter Try.func10, Try.ntmps10
   go_wp2_with (first | (go_at_call 42; refine HL.out.mono ?_; rintro e w1 ⟨rfl, hb⟩; have HB := Aside0.mk hb; clear hb) | (go_at_call 43; refine (HC.out _ HB.out).mono ?_; rintro e w2 ⟨rfl, hb2⟩))
   go_ret
   exact ⟨by simp only [D2.out, decide_true, Bool.true_and]; rfl, HB.out.trans (hb2.mono HB.out.size)⟩
  ·have d0 : ((l1.length : Int) == (l0.length : Int)) = false := beq_eq_false_iff_ne.2 (by omega); have d1 : (l1.length == l0.length) = false := beq_eq_false_iff_ne.2 hl; have D2 := Aside0.mk hl; clear hl
   go_enter Try.func10, Try.ntmps10
   go_wp2_with (go_at_call 42; refine HL.out.mono ?_; rintro e w1 ⟨rfl, hb⟩)
   go_ret
   exact ⟨by simp only [D2.out, decide_false, Bool.false_and, Bool.and_false]; rfl, hb⟩


/-! ### impl_areEnds: function 33 -/
def impl_areEnds.f (k : Nat) (l0 : List (S58)) (l1 : List Int) (a2 : Int) (a3 : Int) : Option (Bool) := (impl_AreWidths.f k l0 l1).bind fun t420 => (if t420 = true then ((impl_isStation.f a2).bind fun t421 => (if t421 = true then ((impl_isStation.f a3).bind fun t422 => (some t422)) else (some false))) else (some false))
theorem impl_areEnds.mono : ∀ a0 a1 a2 a3 k, LeO (impl_areEnds.f k a0 a1 a2 a3) (impl_areEnds.f (k + 1) a0 a1 a2 a3) := by
 intro a0 a1 a2 a3 k
 unfold impl_areEnds.f
 have m0 := @impl_AreWidths.mono
 exact qmono
theorem impl_areEnds.calls (k : Nat) (A0 : Option Addr) (c0 : Nat) (l0 : List (S58)) (A1 : Option Addr) (c1 : Nat) (l1 : List Int) (a2 : Int) (a3 : Int) (r : Bool) (w : World) (hr0 : Kd.C k58 w A0 l0.length l0) (hc0 : l0.length ≤ c0) (hr1 : Kd.C (Kd.int .i64) w A1 l1.length l1) (hc1 : l1.length ≤ c1) (h : impl_areEnds.f k l0 l1 a2 a3 = some r) :
  Calls Try.prog 33 #[.slice A0 l0.length c0, .slice A1 l1.length c1, .int .i64 a2, .int .i64 a3] w fun e w' => e = .returned (.bool r) ∧ Below w.heap.size w w' := by
 have HR0 := Aside0.mk hr0; have HC0 := Aside0.mk hc0; clear hr0 hc0; have HR1 := Aside0.mk hr1; have HC1 := Aside0.mk hc1; clear hr1 hc1; have HB := Aside0.mk (Below.refl w.heap.size w); have H : ((impl_AreWidths.f k l0 l1).bind fun t420 => (if t420 = true then ((impl_isStation.f a2).bind fun t421 => (if t421 = true then ((impl_isStation.f a3).bind fun t422 => (some t422)) else (some false))) else (some false))) = some r := h; clear h; replace H := bindA H; obtain ⟨t420, A5, H⟩ := H; (try dsimp only at H)
 by_cases c6 : t420 = true
 ·subst c6; rw [if_pos rfl] at H; replace H := bindA H; obtain ⟨t421, A7, H⟩ := H; (try dsimp only at H)
  by_cases c8 : t421 = true
  ·subst c8; rw [if_pos rfl] at H; replace H := Option.bind_eq_some_iff.mp H; obtain ⟨t422, A90, H⟩ := H; replace H : (some t422) = some r := H; have A9 := Aside0.mk A90; clear A90; obtain rfl := Option.some.inj H
   go_enter Try.func33, Try.ntmps33
   go_wp2_with (first | ((with_reducible refine gate_callee (f := 10) rfl ?_); refine goesL_ (some 11) rfl rfl Try.func10 (by kernel_rfl) rfl #[.slice A0 l0.length c0, .slice A1 l1.length c1] rfl (qR2) ?_; (with_reducible refine (impl_AreWidths.calls k _ _ l0 _ _ l1 true _ ?s1 ?s2 ?s3 ?s4 A5.out).mono ?_); (case s1 => exact (qR11 HR0.out)); (case s2 => exact HC0.out); (case s3 => exact (qR11 HR1.out)); (case s4 => exact HC1.out); rintro e w10 ⟨rfl, hb⟩; refine ⟨_, rfl, ?_⟩; replace HB := Aside0.mk (qR62); clear hb) | (go_at_call 66; (with_reducible refine (impl_isStation.calls a2 true _ A7.out).mono ?_); rintro e w' ⟨rfl, ⟨nd, rfl⟩⟩) | (go_at_call 66; (with_reducible refine (impl_isStation.calls a3 t422 _ A9.out).mono ?_); rintro e w' ⟨rfl, ⟨nd, rfl⟩⟩))
   go_ret
   exact ⟨(qR10), (qR0)⟩
  ·replace c8 := Bool.eq_false_iff.mpr c8; subst c8; rw [if_neg (show ¬ (false = true) by decide)] at H; obtain rfl := Option.some.inj H
   go_enter Try.func33, Try.ntmps33
   go_wp2_with (first | ((with_reducible refine gate_callee (f := 10) rfl ?_); refine goesL_ (some 11) rfl rfl Try.func10 (by kernel_rfl) rfl #[.slice A0 l0.length c0, .slice A1 l1.length c1] rfl (qR2) ?_; (with_reducible refine (impl_AreWidths.calls k _ _ l0 _ _ l1 true _ ?s1 ?s2 ?s3 ?s4 A5.out).mono ?_); (case s1 => exact (qR11 HR0.out)); (case s2 => exact HC0.out); (case s3 => exact (qR11 HR1.out)); (case s4 => exact HC1.out); rintro e w11 ⟨rfl, hb⟩; refine ⟨_, rfl, ?_⟩; replace HB := Aside0.mk (qR62); clear hb) | (go_at_call 66; (with_reducible refine (impl_isStation.calls a2 false _ A7.out).mono ?_); rintro e w' ⟨rfl, ⟨nd, rfl⟩⟩))
   go_ret
   exact ⟨(qR10), (qR0)⟩
 ·replace c6 := Bool.eq_false_iff.mpr c6; subst c6; rw [if_neg (show ¬ (false = true) by decide)] at H; obtain rfl := Option.some.inj H
  go_enter Try.func33, Try.ntmps33
  go_wp2_with (first | ((with_reducible refine gate_callee (f := 10) rfl ?_); refine goesL_ (some 11) rfl rfl Try.func10 (by kernel_rfl) rfl #[.slice A0 l0.length c0, .slice A1 l1.length c1] rfl (qR2) ?_; (with_reducible refine (impl_AreWidths.calls k _ _ l0 _ _ l1 false _ ?s1 ?s2 ?s3 ?s4 A5.out).mono ?_); (case s1 => exact (qR11 HR0.out)); (case s2 => exact HC0.out); (case s3 => exact (qR11 HR1.out)); (case s4 => exact HC1.out); rintro e w12 ⟨rfl, hb⟩; refine ⟨_, rfl, ?_⟩; replace HB := Aside0.mk (qR62); clear hb))
  go_ret
  exact ⟨(qR10), (qR0)⟩

/-! ### slices_Clone_int_int: function 36 (by hand: wip/inj) -/
def slices_Clone_int_int.f (l0 : List (Int)) : Option (List (Int)) := if l0.length * 8 ≤ 140737488355328 then some l0 else none
theorem slices_Clone_int_int.calls (A0 : Option Addr) (c0 : Nat) (l0 : List (Int)) (r : List (Int)) (w : World) (hr0 : Kd.C (Kd.int .i64) w A0 l0.length l0) (hc0 : l0.length ≤ c0) (h : slices_Clone_int_int.f l0 = some r) :
  Calls Try.prog 36 #[.slice A0 l0.length c0] w fun e w' => ∃ v0_ : Value, e = .returned v0_ ∧ Kd.R (Kd.int .i64) 3 w' w.heap.size (fun _ => True) v0_ r ∧ Below w.heap.size w w' := by
 unfold slices_Clone_int_int.f at h
 by_cases hl : l0.length * 8 ≤ 140737488355328
 case neg => rw [if_neg hl] at h; cases h
 rw [if_pos hl] at h; obtain rfl := Option.some.inj h; have HL := Aside0.mk hl; have HR0 := Aside0.mk hr0; have HC0 := Aside0.mk hc0; clear h hl; have HB := Aside0.mk (Below.refl w.heap.size w)
 have qeq : ∀ (w : World) (a : Option Addr) (n c n' c' : Nat), (binOp .eql 25 (.slice a n c) (.slice none n' c')).run Try.prog w = .ok (.bool a.isNone) w := fun w a n c n' c' => by
  have hh : ∀ d : Nat, (Op.equalIn (d + 1) 25 (.slice a n c) (.slice none n' c')).run Try.prog w = .ok a.isNone w := fun d => by
   cases a <;> simp [Op.equalIn, run_underlying Try.underlying25]
  simp only [binOp]
  simp [Op.equal, Op.maxDepth, hh 9999]
 cases A0 with
 | none =>
  have h0 : l0.length = 0 := by
   rcases Nat.eq_zero_or_pos l0.length with h0 | h0
   ·exact h0
   ·obtain ⟨ad, e, _⟩ := hr0.2.2 h0; cases e
  obtain rfl := List.length_eq_zero_iff.1 h0; clear hr0 hc0 h0
  go_enter Try.func36, Try.ntmps36
  go_wp2
  go_ret
  exact ⟨_, rfl, Kd.R_nil _ _ _ _ _, (by repeat (first | apply pw_below_drewN | apply below_drew1 | exact Below.refl _ _))⟩
 | some ad =>
  clear hr0 hc0
  go_enter Try.func36, Try.ntmps36
  go_wp2_with (first | ((with_reducible refine gate_dst (N := 5) rfl ?_); refine Kd.R_lit (Kd.int .i64) _ 3 ?hg (N := 5) ?hd (xs := ([] : List (Int))) (inner := []) (ok := fun _ => True) (okp := fun _ => True) ?hr ?hp (fun _ hk => hk) trivial (Below.refl _ _) (Nat.le_refl _) (by simp) ?_; (case hd => rfl); (case hg => rfl); (case hr => exact (qR25)); (case hp => exact (Reps.none _ _)); intro v244 w7 ho8 hb hg_ hnew_; clear hg_ hnew_; have HO := Aside0.mk (by exact Kd.R_lower ho8 (below_size (qR46))); replace HB := Aside0.mk (by exact below_step (qR46) hb); clear hb ho8) | ((with_reducible refine gate_builtin (b := .append) (xs := #[.tmp 5, .tmp 6]) rfl ?_); at_builtin; refine Kd.R_append_rows (Kd.int .i64) (w0 := w) w.heap.size rfl (.tmp 5) (.tmp 6) 25 3 ((.int .i64 0)) 8 rfl Try.underlying25 info3 rfl (by decide) (by decide) _ ([] : List (Int)) l0 _ _ _ (fun _ => True) (fun _ => False) rfl rfl ?aO ?aR (fun _ _ h => h) (fun _ h => h.elim) ?aF ?aB ?aS ?aL ?_; (case aR => exact (qR14 HR0.out)); (case aB => exact (qR46)); (case aF => exact (fun _ _ => trivial)); (case aO => exact (by (with_reducible repeat (first | apply Kd.R_alloc | apply Kd.R_drewN | apply Kd.R_drew)); exact HO.out)); (case aS => exact (by exact (below_size (qR46)))); (case aL => exact (by have hL := HL.out; rw [List.length_nil, Nat.zero_add]; exact hL)); intro v247 w9 ho hb hg hat; rw [List.nil_append] at ho; replace HB := Aside0.mk hb; replace HO := Aside0.mk ho; clear ho hb hg hat))
  go_ret
  exact ⟨_, rfl, HO.out, (qR46)⟩


/-! ### impl_between: function 37 -/
mutual
def impl_between.l0 : Nat → List (S58) → List Int → Int → Int → Int → List (S58) → Int → Int → Option (Int)
 | 0, _, _, _, _, _, _, _, _ => none
 | k + 1, x0, x1, x2, x3, x9, x12, x13, x14 => if x14 < x13 then (if 0 ≤ x14 then (if x14 < (x12.length : Int) then (if (wrap64 (((rd_T58 x12 x14).f0) + ((rd_T58 x12 x14).f1))) = (wrap64 (x2 + x3)) then (if ((rd_T58 x12 x14).f0) = x2 then (impl_between.j1 k x0 x1 x2 x3 x9 x14 x12 x13 x14 false ((rd_T58 x12 x14).f0) ((rd_T58 x12 x14).f1) ((rd_T58 x12 x14).f2) ((rd_T58 x12 x14).f3) ((rd_T58 x12 x14).f4)) else (impl_between.j1 k x0 x1 x2 x3 x9 x14 x12 x13 x14 (((rd_T58 x12 x14).f0) != x3) ((rd_T58 x12 x14).f0) ((rd_T58 x12 x14).f1) ((rd_T58 x12 x14).f2) ((rd_T58 x12 x14).f3) ((rd_T58 x12 x14).f4))) else (impl_between.j1 k x0 x1 x2 x3 x9 x14 x12 x13 x14 true ((rd_T58 x12 x14).f0) ((rd_T58 x12 x14).f1) ((rd_T58 x12 x14).f2) ((rd_T58 x12 x14).f3) ((rd_T58 x12 x14).f4))) else (none)) else (none)) else (some x9)
def impl_between.j1 : Nat → List (S58) → List Int → Int → Int → Int → Int → List (S58) → Int → Int → Bool → Int → Int → Int → Int → Int → Option (Int)
 | 0, _, _, _, _, _, _, _, _, _, _, _, _, _, _, _ => none
 | k + 1, x0, x1, x2, x3, x9, x10, x12, x13, x14, x39, x425000, x425001, x425002, x425003, x425004 => if x39 = true then (impl_between.l0 k x0 x1 x2 x3 x9 x12 x13 (wrap64 (x14 + 1))) else (if x9 < 0 then (impl_between.l0 k x0 x1 x2 x3 x10 x12 x13 (wrap64 (x14 + 1))) else (if 0 ≤ x10 then (if x10 < (x1.length : Int) then (if 0 ≤ x9 then (if x9 < (x1.length : Int) then (if (rd x1 x10) > (rd x1 x9) then (impl_between.l0 k x0 x1 x2 x3 x10 x12 x13 (wrap64 (x14 + 1))) else (if (rd x1 x10) = (rd x1 x9) then (if x9 < (x0.length : Int) then (if x425002 < ((rd_T58 x0 x9).f2) then (impl_between.l0 k x0 x1 x2 x3 x10 x12 x13 (wrap64 (x14 + 1))) else (impl_between.l0 k x0 x1 x2 x3 x9 x12 x13 (wrap64 (x14 + 1)))) else (none)) else (impl_between.l0 k x0 x1 x2 x3 x9 x12 x13 (wrap64 (x14 + 1))))) else (none)) else (none)) else (none)) else (none)))
end
def impl_between.f (k : Nat) (l0 : List (S58)) (l1 : List Int) (a2 : Int) (a3 : Int) : Option (Int) := impl_between.l0 k l0 l1 a2 a3 (-1) l0 (l0.length : Int) 0
theorem impl_between.mono_l : ∀ k, (∀ y0 y1 y2 y3 y4 y5 y6 y7, LeO (impl_between.l0 k y0 y1 y2 y3 y4 y5 y6 y7) (impl_between.l0 (k + 1) y0 y1 y2 y3 y4 y5 y6 y7)) ∧ (∀ y0 y1 y2 y3 y4 y5 y6 y7 y8 y9 y10 y11 y12 y13 y14, LeO (impl_between.j1 k y0 y1 y2 y3 y4 y5 y6 y7 y8 y9 y10 y11 y12 y13 y14) (impl_between.j1 (k + 1) y0 y1 y2 y3 y4 y5 y6 y7 y8 y9 y10 y11 y12 y13 y14))
 | 0 => ⟨fun _ _ _ _ _ _ _ _ r h => by simp [impl_between.l0] at h, fun _ _ _ _ _ _ _ _ _ _ _ _ _ _ _ r h => by simp [impl_between.j1] at h⟩
 | k + 1 => by
  obtain ⟨ih0, ih1⟩ := impl_between.mono_l k
  refine ⟨?_, ?_⟩
  ·intro y0 y1 y2 y3 y4 y5 y6 y7
   unfold impl_between.l0
   exact qmono
  ·intro y0 y1 y2 y3 y4 y5 y6 y7 y8 y9 y10 y11 y12 y13 y14
   unfold impl_between.j1
   exact qmono
theorem impl_between.mono : ∀ a0 a1 a2 a3 k, LeO (impl_between.f k a0 a1 a2 a3) (impl_between.f (k + 1) a0 a1 a2 a3) := by
 intro a0 a1 a2 a3 k; obtain ⟨ih0, ih1⟩ := impl_between.mono_l k
 unfold impl_between.f
 exact qmono
theorem impl_between.calls (k : Nat) (A0 : Option Addr) (c0 : Nat) (l0 : List (S58)) (A1 : Option Addr) (c1 : Nat) (l1 : List Int) (a2 : Int) (a3 : Int) (r : Int) (w : World) (hr0 : Kd.C k58 w A0 l0.length l0) (hc0 : l0.length ≤ c0) (hr1 : Kd.C (Kd.int .i64) w A1 l1.length l1) (hc1 : l1.length ≤ c1) (h : impl_between.f k l0 l1 a2 a3 = some r) :
  Calls Try.prog 37 #[.slice A0 l0.length c0, .slice A1 l1.length c1, .int .i64 a2, .int .i64 a3] w fun e w' => e = .returned (.int .i64 r) ∧ Below w.heap.size w w' := by
 have hu58 := Try.underlying58; have HR0 := Aside0.mk hr0; have HC0 := Aside0.mk hc0; clear hr0 hc0; have HR1 := Aside0.mk hr1; have HC1 := Aside0.mk hc1; clear hr1 hc1; have HB := Aside0.mk (Below.refl w.heap.size w); have H : (impl_between.l0 k l0 l1 a2 a3 (-1) l0 (l0.length : Int) 0) = some r := h; clear h; have H' := Aside0.mk H; clear H
 go_enter Try.func37, Try.ntmps37
 go_wp2
 repeat (go_quiet (fail); try go_wp2)
 go_loopg [9, 14] k (fun kq v9 v14 w' => ∃ (x9_1 : Int) (x14_1 : Int), v9 = .int .i64 x9_1 ∧ v14 = .int .i64 x14_1 ∧ Aside0 (impl_between.l0 kq l0 l1 a2 a3 x9_1 l0 (l0.length : Int) x14_1 = some r) ∧ Aside0 (kq ≤ k) ∧ Aside0 (Below w.heap.size w w'))
 case atStart => exact ⟨((-1)), (0), (qR12), (qR12), H', ⟨Nat.le_refl _⟩, ⟨(qR0)⟩⟩
 case round =>
  clear H'; (try clear c1); (try clear p2); (try clear c3); obtain ⟨x9_1, x14_1, rfl, rfl, HA, HK1, HB⟩ := hrel
  cases gk with
  | zero => exact absurd HA.out (by simp [impl_between.l0])
  | succ k1 =>
   have H := HA.out; clear HA; simp only [impl_between.l0] at H
   by_cases c5 : x14_1 < (l0.length : Int)
   ·rw [if_pos c5] at H; have c5b0 : decide (x14_1 < (l0.length : Int)) = true := decide_eq_true c5; clear c5
    by_cases c6 : 0 ≤ x14_1
    ·rw [if_pos c6] at H; have c6b0 : decide (0 ≤ x14_1) = true := decide_eq_true c6; clear c6
     by_cases c7 : x14_1 < (l0.length : Int)
     ·rw [if_pos c7] at H; have c7b0 : decide (x14_1 < (l0.length : Int)) = true := decide_eq_true c7; clear c7; have HC8 := Aside0.mk H; clear H; have p423 : 0 ≤ (x14_1 : Int) := of_decide_eq_true (qR8); have q423 : x14_1 < (l0.length : Int) := of_decide_eq_true (qR8); obtain ⟨ad423, e423, hx423_0, hx423_1, hx423_2, hx423_3, hx423_4⟩ := at_T58 HR0.out x14_1 p423 q423; cases e423; replace hx423_0 := (HB.out.cell (World.block_lt_of_cell? w _ hx423_0)).trans hx423_0; replace hx423_1 := (HB.out.cell (World.block_lt_of_cell? w _ hx423_1)).trans hx423_1; replace hx423_2 := (HB.out.cell (World.block_lt_of_cell? w _ hx423_2)).trans hx423_2; replace hx423_3 := (HB.out.cell (World.block_lt_of_cell? w _ hx423_3)).trans hx423_3; replace hx423_4 := (HB.out.cell (World.block_lt_of_cell? w _ hx423_4)).trans hx423_4; replace p423 := eq_true p423; replace q423 := eq_true q423
      go_upto_region 5 with (first | ((with_reducible refine gate_dst (N := 11) rfl ?_); refine box_event ?hg (N := 11) ?hd (cs := #[.int .i64 0, .int .i64 0, .int .i64 0, .int .i64 0, .int .i64 0]) (t := 58) ?hr ?_; (case hd => rfl); (case hg => rfl); (case hr => exact (qR25)); intro gb424 hg w9 hbox hb; have BK424 := Aside0.mk (hbox); have GW424 := Aside0.mk (qR85); have GE424 := Aside0.mk (qR85); replace HB := Aside0.mk (qR62); clear hb hbox hg; have hcz10_0 : w9.cell? ⟨gb424, 0, none⟩ = some (.int .i64 0) := (blk_cell BK424.out 0).trans rfl; have hcz10_1 : w9.cell? ⟨gb424, 1, none⟩ = some (.int .i64 0) := (blk_cell BK424.out 1).trans rfl; have hcz10_2 : w9.cell? ⟨gb424, 2, none⟩ = some (.int .i64 0) := (blk_cell BK424.out 2).trans rfl; have hcz10_3 : w9.cell? ⟨gb424, 3, none⟩ = some (.int .i64 0) := (blk_cell BK424.out 3).trans rfl; have hcz10_4 : w9.cell? ⟨gb424, 4, none⟩ = some (.int .i64 0) := (blk_cell BK424.out 4).trans rfl; have hfz10_0 := blk_frozen BK424.out 0; have hfz10_1 := blk_frozen BK424.out 1; have hfz10_2 := blk_frozen BK424.out 2; have hfz10_3 := blk_frozen BK424.out 3; have hfz10_4 := blk_frozen BK424.out 4))
      repeat (go_quiet (first | ((with_reducible refine gate_dst (N := 11) rfl ?_); refine box_event ?hg (N := 11) ?hd (cs := #[.int .i64 0, .int .i64 0, .int .i64 0, .int .i64 0, .int .i64 0]) (t := 58) ?hr ?_; (case hd => rfl); (case hg => rfl); (case hr => exact (qR25)); intro gb424 hg w9 hbox hb; have BK424 := Aside0.mk (hbox); have GW424 := Aside0.mk (qR85); have GE424 := Aside0.mk (qR85); replace HB := Aside0.mk (qR62); clear hb hbox hg; have hcz10_0 : w9.cell? ⟨gb424, 0, none⟩ = some (.int .i64 0) := (blk_cell BK424.out 0).trans rfl; have hcz10_1 : w9.cell? ⟨gb424, 1, none⟩ = some (.int .i64 0) := (blk_cell BK424.out 1).trans rfl; have hcz10_2 : w9.cell? ⟨gb424, 2, none⟩ = some (.int .i64 0) := (blk_cell BK424.out 2).trans rfl; have hcz10_3 : w9.cell? ⟨gb424, 3, none⟩ = some (.int .i64 0) := (blk_cell BK424.out 3).trans rfl; have hcz10_4 : w9.cell? ⟨gb424, 4, none⟩ = some (.int .i64 0) := (blk_cell BK424.out 4).trans rfl; have hfz10_0 := blk_frozen BK424.out 0; have hfz10_1 := blk_frozen BK424.out 1; have hfz10_2 := blk_frozen BK424.out 2; have hfz10_3 := blk_frozen BK424.out 3; have hfz10_4 := blk_frozen BK424.out 4)); go_upto_region 5 with (first | ((with_reducible refine gate_dst (N := 11) rfl ?_); refine box_event ?hg (N := 11) ?hd (cs := #[.int .i64 0, .int .i64 0, .int .i64 0, .int .i64 0, .int .i64 0]) (t := 58) ?hr ?_; (case hd => rfl); (case hg => rfl); (case hr => exact (qR25)); intro gb424 hg w9 hbox hb; have BK424 := Aside0.mk (hbox); have GW424 := Aside0.mk (qR85); have GE424 := Aside0.mk (qR85); replace HB := Aside0.mk (qR62); clear hb hbox hg; have hcz10_0 : w9.cell? ⟨gb424, 0, none⟩ = some (.int .i64 0) := (blk_cell BK424.out 0).trans rfl; have hcz10_1 : w9.cell? ⟨gb424, 1, none⟩ = some (.int .i64 0) := (blk_cell BK424.out 1).trans rfl; have hcz10_2 : w9.cell? ⟨gb424, 2, none⟩ = some (.int .i64 0) := (blk_cell BK424.out 2).trans rfl; have hcz10_3 : w9.cell? ⟨gb424, 3, none⟩ = some (.int .i64 0) := (blk_cell BK424.out 3).trans rfl; have hcz10_4 : w9.cell? ⟨gb424, 4, none⟩ = some (.int .i64 0) := (blk_cell BK424.out 4).trans rfl; have hfz10_0 := blk_frozen BK424.out 0; have hfz10_1 := blk_frozen BK424.out 1; have hfz10_2 := blk_frozen BK424.out 2; have hfz10_3 := blk_frozen BK424.out 3; have hfz10_4 := blk_frozen BK424.out 4)))
      (try simp only [Act.put, List.setIfInBounds_toArray, List.set_cons_zero, List.set_cons_succ])
      go_cut [39] (fun v39 wc => ∃ (kq : Nat) (x39_7 : Bool), v39 = .bool x39_7 ∧ Aside0 (impl_between.j1 kq l0 l1 a2 a3 x9_1 x14_1 l0 (l0.length : Int) x14_1 x39_7 ((rd_T58 l0 x14_1).f0) ((rd_T58 l0 x14_1).f1) ((rd_T58 l0 x14_1).f2) ((rd_T58 l0 x14_1).f3) ((rd_T58 l0 x14_1).f4) = some r) ∧ Aside0 (kq ≤ k1) ∧ Aside0 (wc.heap[gb424]? = some (.cells #[.int .i64 ((rd_T58 l0 x14_1).f0), .int .i64 ((rd_T58 l0 x14_1).f1), .int .i64 ((rd_T58 l0 x14_1).f2), .int .i64 ((rd_T58 l0 x14_1).f3), .int .i64 ((rd_T58 l0 x14_1).f4)] 58 (0, 0))) ∧ Aside0 (Below w.heap.size w wc))
      case first =>
       have H := HC8.out; clear HC8
       by_cases c11 : (wrap64 (((rd_T58 l0 x14_1).f0) + ((rd_T58 l0 x14_1).f1))) = (wrap64 (a2 + a3))
       ·rw [if_pos c11] at H; have c11b0 : ((wrap64 (((rd_T58 l0 x14_1).f0) + ((rd_T58 l0 x14_1).f1))) == (wrap64 (a2 + a3))) = true := beq_iff_eq.mpr c11; have c11b1 : ((wrap64 (((rd_T58 l0 x14_1).f0) + ((rd_T58 l0 x14_1).f1))) != (wrap64 (a2 + a3))) = false := bne_eq_false_iff_eq.mpr c11; clear c11
        (first | rw [c11b0] | (simp only [i64_w, i32_w]; rw [c11b0]) | skip)
        by_cases c12 : ((rd_T58 l0 x14_1).f0) = a2
        ·rw [if_pos c12] at H; have c12b0 : (((rd_T58 l0 x14_1).f0) == a2) = true := beq_iff_eq.mpr c12; have c12b1 : (((rd_T58 l0 x14_1).f0) != a2) = false := bne_eq_false_iff_eq.mpr c12; clear c12; have H' := Aside0.mk H; clear H; have hcz13_0 : w9.cell? ⟨gb424, 0, none⟩ = some (.int .i64 0) := (blk_cell BK424.out 0).trans rfl; have hcz13_1 : w9.cell? ⟨gb424, 1, none⟩ = some (.int .i64 0) := (blk_cell BK424.out 1).trans rfl; have hcz13_2 : w9.cell? ⟨gb424, 2, none⟩ = some (.int .i64 0) := (blk_cell BK424.out 2).trans rfl; have hcz13_3 : w9.cell? ⟨gb424, 3, none⟩ = some (.int .i64 0) := (blk_cell BK424.out 3).trans rfl; have hcz13_4 : w9.cell? ⟨gb424, 4, none⟩ = some (.int .i64 0) := (blk_cell BK424.out 4).trans rfl; have hfz13_0 := blk_frozen BK424.out 0; have hfz13_1 := blk_frozen BK424.out 1; have hfz13_2 := blk_frozen BK424.out 2; have hfz13_3 := blk_frozen BK424.out 3; have hfz13_4 := blk_frozen BK424.out 4
         go_wp2
         repeat (go_quiet (fail); try go_wp2)
         go_meet
         case rel => exact ⟨_, (false), (qR12), H', ⟨by have := HK1.out; first | omega | exact Nat.le_refl _⟩, ⟨(qR27)⟩, ⟨(qR21 GE424.out)⟩⟩
        ·rw [if_neg c12] at H; have c12b0 : (((rd_T58 l0 x14_1).f0) == a2) = false := beq_eq_false_iff_ne.mpr c12; have c12b1 : (((rd_T58 l0 x14_1).f0) != a2) = true := bne_iff_ne.mpr c12; have H' := Aside0.mk H; clear H; have hcz14_0 : w9.cell? ⟨gb424, 0, none⟩ = some (.int .i64 0) := (blk_cell BK424.out 0).trans rfl; have hcz14_1 : w9.cell? ⟨gb424, 1, none⟩ = some (.int .i64 0) := (blk_cell BK424.out 1).trans rfl; have hcz14_2 : w9.cell? ⟨gb424, 2, none⟩ = some (.int .i64 0) := (blk_cell BK424.out 2).trans rfl; have hcz14_3 : w9.cell? ⟨gb424, 3, none⟩ = some (.int .i64 0) := (blk_cell BK424.out 3).trans rfl; have hcz14_4 : w9.cell? ⟨gb424, 4, none⟩ = some (.int .i64 0) := (blk_cell BK424.out 4).trans rfl; have hfz14_0 := blk_frozen BK424.out 0; have hfz14_1 := blk_frozen BK424.out 1; have hfz14_2 := blk_frozen BK424.out 2; have hfz14_3 := blk_frozen BK424.out 3; have hfz14_4 := blk_frozen BK424.out 4
         go_wp2
         repeat (go_quiet (fail); try go_wp2)
         go_meet
         case rel => exact ⟨_, ((((rd_T58 l0 x14_1).f0) != a3)), (qR12), H', ⟨by have := HK1.out; first | omega | exact Nat.le_refl _⟩, ⟨(qR27)⟩, ⟨(qR21 GE424.out)⟩⟩
       ·rw [if_neg c11] at H; have c11b0 : ((wrap64 (((rd_T58 l0 x14_1).f0) + ((rd_T58 l0 x14_1).f1))) == (wrap64 (a2 + a3))) = false := beq_eq_false_iff_ne.mpr c11; have c11b1 : ((wrap64 (((rd_T58 l0 x14_1).f0) + ((rd_T58 l0 x14_1).f1))) != (wrap64 (a2 + a3))) = true := bne_iff_ne.mpr c11
        (first | rw [c11b0] | (simp only [i64_w, i32_w]; rw [c11b0]) | skip)
        have H' := Aside0.mk H; clear H; have hcz15_0 : w9.cell? ⟨gb424, 0, none⟩ = some (.int .i64 0) := (blk_cell BK424.out 0).trans rfl; have hcz15_1 : w9.cell? ⟨gb424, 1, none⟩ = some (.int .i64 0) := (blk_cell BK424.out 1).trans rfl; have hcz15_2 : w9.cell? ⟨gb424, 2, none⟩ = some (.int .i64 0) := (blk_cell BK424.out 2).trans rfl; have hcz15_3 : w9.cell? ⟨gb424, 3, none⟩ = some (.int .i64 0) := (blk_cell BK424.out 3).trans rfl; have hcz15_4 : w9.cell? ⟨gb424, 4, none⟩ = some (.int .i64 0) := (blk_cell BK424.out 4).trans rfl; have hfz15_0 := blk_frozen BK424.out 0; have hfz15_1 := blk_frozen BK424.out 1; have hfz15_2 := blk_frozen BK424.out 2; have hfz15_3 := blk_frozen BK424.out 3; have hfz15_4 := blk_frozen BK424.out 4
        go_wp2
        repeat (go_quiet (fail); try go_wp2)
        go_meet
        case rel => exact ⟨_, (true), (qR12), H', ⟨by have := HK1.out; first | omega | exact Nat.le_refl _⟩, ⟨(qR27)⟩, ⟨(qR21 GE424.out)⟩⟩
      case rest =>
       clear HC8; (try clear c1); (try clear p2); (try clear c3); (try clear p4); (try clear q4); (try clear hx4); (try clear c5); (try clear c5b0); (try clear c6); (try clear c6b0); (try clear p6); (try clear c7); (try clear c7b0); (try clear c11); (try clear c11b0); (try clear c11b1); (try clear c12); (try clear c12b0); (try clear c12b1); (try clear hcz10_0); (try clear hcz10_1); (try clear hcz10_2); (try clear hcz10_3); (try clear hcz10_4); (try clear hcz13_0); (try clear hcz13_1); (try clear hcz13_2); (try clear hcz13_3); (try clear hcz13_4); (try clear hcz14_0); (try clear hcz14_1); (try clear hcz14_2); (try clear hcz14_3); (try clear hcz14_4); (try clear hcz15_0); (try clear hcz15_1); (try clear hcz15_2); (try clear hcz15_3); (try clear hcz15_4); (try clear hfz10_0); (try clear hfz10_1); (try clear hfz10_2); (try clear hfz10_3); (try clear hfz10_4); (try clear hfz13_0); (try clear hfz13_1); (try clear hfz13_2); (try clear hfz13_3); (try clear hfz13_4); (try clear hfz14_0); (try clear hfz14_1); (try clear hfz14_2); (try clear hfz14_3); (try clear hfz14_4); (try clear hfz15_0); (try clear hfz15_1); (try clear hfz15_2); (try clear hfz15_3); (try clear hfz15_4); (try clear hx423_0); (try clear hx423_1); (try clear hx423_2); (try clear hx423_3); (try clear hx423_4); (try clear p2); (try clear p423); (try clear q423); obtain ⟨kq, x39_7, rfl, HA, HJ7, BK424, HB⟩ := hcut
       cases kq with
       | zero => exact absurd HA.out (by simp [impl_between.j1])
       | succ kj7 =>
        have H := HA.out; clear HA; simp only [impl_between.j1] at H
        by_cases c16 : x39_7 = true
        ·subst c16; rw [if_pos rfl] at H; have H' := Aside0.mk H; clear H
         go_wp2
         repeat (go_quiet (fail); try go_wp2)
         go_roundg kj7
         case measure => have := HK1.out; have := HJ7.out; omega
         case rel => exact ⟨(x9_1), (wrap64 (x14_1 + 1)), (qR12), (qR12), H', ⟨by have := HK1.out; have := HJ7.out; omega⟩, ⟨(qR21 GE424.out)⟩⟩
        ·replace c16 := Bool.eq_false_iff.mpr c16; subst c16; rw [if_neg (show ¬ (false = true) by decide)] at H
         by_cases c17 : x9_1 < 0
         ·rw [if_pos c17] at H; have c17b0 : decide (x9_1 < 0) = true := decide_eq_true c17; clear c17; have H' := Aside0.mk H; clear H
          go_wp2
          repeat (go_quiet (fail); try go_wp2)
          go_roundg kj7
          case measure => have := HK1.out; have := HJ7.out; omega
          case rel => exact ⟨(x14_1), (wrap64 (x14_1 + 1)), (qR12), (qR12), H', ⟨by have := HK1.out; have := HJ7.out; omega⟩, ⟨(qR21 GE424.out)⟩⟩
         ·rw [if_neg c17] at H; have c17b0 : decide (x9_1 < 0) = false := decide_eq_false c17; clear c17
          by_cases c18 : 0 ≤ x14_1
          ·rw [if_pos c18] at H; have c18b0 : decide (0 ≤ x14_1) = true := decide_eq_true c18; clear c18
           by_cases c19 : x14_1 < (l1.length : Int)
           ·rw [if_pos c19] at H; have c19b0 : decide (x14_1 < (l1.length : Int)) = true := decide_eq_true c19; clear c19
            by_cases c20 : 0 ≤ x9_1
            ·rw [if_pos c20] at H; have c20b0 : decide (0 ≤ x9_1) = true := decide_eq_true c20; clear c20
             by_cases c21 : x9_1 < (l1.length : Int)
             ·rw [if_pos c21] at H; have c21b0 : decide (x9_1 < (l1.length : Int)) = true := decide_eq_true c21; clear c21
              by_cases c22 : (rd l1 x14_1) > (rd l1 x9_1)
              ·rw [if_pos c22] at H; have c22b0 : decide ((rd l1 x9_1) < (rd l1 x14_1)) = true := decide_eq_true c22; clear c22; have H' := Aside0.mk H; clear H; have p425 : 0 ≤ (x14_1 : Int) := of_decide_eq_true (qR8); have q425 : x14_1 < (l1.length : Int) := of_decide_eq_true (qR8); obtain ⟨ad425, e425, hx425_0⟩ := Kd.at_int HR1.out x14_1 p425 q425; cases e425; replace hx425_0 := (HB.out.cell (World.block_lt_of_cell? w _ hx425_0)).trans hx425_0; replace p425 := eq_true p425; replace q425 := eq_true q425; have p426 : 0 ≤ (x9_1 : Int) := of_decide_eq_true (qR8); have q426 : x9_1 < (l1.length : Int) := of_decide_eq_true (qR8); obtain ⟨ad426, e426, hx426_0⟩ := Kd.at_int HR1.out x9_1 p426 q426; obtain rfl : ad425 = ad426 := (by injection e426); replace hx426_0 := (HB.out.cell (World.block_lt_of_cell? w _ hx426_0)).trans hx426_0; replace p426 := eq_true p426; replace q426 := eq_true q426
               go_wp2
               repeat (go_quiet (fail); try go_wp2)
               go_roundg kj7
               case measure => have := HK1.out; have := HJ7.out; omega
               case rel => exact ⟨(x14_1), (wrap64 (x14_1 + 1)), (qR12), (qR12), H', ⟨by have := HK1.out; have := HJ7.out; omega⟩, ⟨(qR21 GE424.out)⟩⟩
              ·rw [if_neg c22] at H; have c22b0 : decide ((rd l1 x9_1) < (rd l1 x14_1)) = false := decide_eq_false c22; clear c22
               by_cases c23 : (rd l1 x14_1) = (rd l1 x9_1)
               ·rw [if_pos c23] at H; have c23b0 : ((rd l1 x14_1) == (rd l1 x9_1)) = true := beq_iff_eq.mpr c23; have c23b1 : ((rd l1 x14_1) != (rd l1 x9_1)) = false := bne_eq_false_iff_eq.mpr c23; clear c23
                by_cases c24 : x9_1 < (l0.length : Int)
                ·rw [if_pos c24] at H; have c24b0 : decide (x9_1 < (l0.length : Int)) = true := decide_eq_true c24; clear c24
                 by_cases c25 : ((rd_T58 l0 x14_1).f2) < ((rd_T58 l0 x9_1).f2)
                 ·rw [if_pos c25] at H; have c25b0 : decide (((rd_T58 l0 x14_1).f2) < ((rd_T58 l0 x9_1).f2)) = true := decide_eq_true c25; clear c25; have H' := Aside0.mk H; clear H; have p425 : 0 ≤ (x14_1 : Int) := of_decide_eq_true (qR8); have q425 : x14_1 < (l1.length : Int) := of_decide_eq_true (qR8); obtain ⟨ad425, e425, hx425_0⟩ := Kd.at_int HR1.out x14_1 p425 q425; cases e425; replace hx425_0 := (HB.out.cell (World.block_lt_of_cell? w _ hx425_0)).trans hx425_0; replace p425 := eq_true p425; replace q425 := eq_true q425; have p426 : 0 ≤ (x9_1 : Int) := of_decide_eq_true (qR8); have q426 : x9_1 < (l1.length : Int) := of_decide_eq_true (qR8); obtain ⟨ad426, e426, hx426_0⟩ := Kd.at_int HR1.out x9_1 p426 q426; obtain rfl : ad425 = ad426 := (by injection e426); replace hx426_0 := (HB.out.cell (World.block_lt_of_cell? w _ hx426_0)).trans hx426_0; replace p426 := eq_true p426; replace q426 := eq_true q426; have p427 : 0 ≤ (x14_1 : Int) := of_decide_eq_true (qR8); have q427 : x14_1 < (l1.length : Int) := of_decide_eq_true (qR8); obtain ⟨ad427, e427, hx427_0⟩ := Kd.at_int HR1.out x14_1 p427 q427; obtain rfl : ad425 = ad427 := (by injection e427); replace hx427_0 := (HB.out.cell (World.block_lt_of_cell? w _ hx427_0)).trans hx427_0; replace p427 := eq_true p427; replace q427 := eq_true q427; have p428 : 0 ≤ (x9_1 : Int) := of_decide_eq_true (qR8); have q428 : x9_1 < (l1.length : Int) := of_decide_eq_true (qR8); obtain ⟨ad428, e428, hx428_0⟩ := Kd.at_int HR1.out x9_1 p428 q428; obtain rfl : ad425 = ad428 := (by injection e428)
                  replace hx428_0 := (HB.out.cell (World.block_lt_of_cell? w _ hx428_0)).trans hx428_0; replace p428 := eq_true p428; replace q428 := eq_true q428; have hcz26_0 : wc.cell? ⟨gb424, 0, none⟩ = some (.int .i64 ((rd_T58 l0 x14_1).f0)) := (blk_cell BK424.out 0).trans rfl; have hcz26_1 : wc.cell? ⟨gb424, 1, none⟩ = some (.int .i64 ((rd_T58 l0 x14_1).f1)) := (blk_cell BK424.out 1).trans rfl; have hcz26_2 : wc.cell? ⟨gb424, 2, none⟩ = some (.int .i64 ((rd_T58 l0 x14_1).f2)) := (blk_cell BK424.out 2).trans rfl; have hcz26_3 : wc.cell? ⟨gb424, 3, none⟩ = some (.int .i64 ((rd_T58 l0 x14_1).f3)) := (blk_cell BK424.out 3).trans rfl; have hcz26_4 : wc.cell? ⟨gb424, 4, none⟩ = some (.int .i64 ((rd_T58 l0 x14_1).f4)) := (blk_cell BK424.out 4).trans rfl; have hfz26_0 := blk_frozen BK424.out 0; have hfz26_1 := blk_frozen BK424.out 1; have hfz26_2 := blk_frozen BK424.out 2; have hfz26_3 := blk_frozen BK424.out 3; have hfz26_4 := blk_frozen BK424.out 4; have p429 : 0 ≤ (x9_1 : Int) := of_decide_eq_true (qR8); have q429 : x9_1 < (l0.length : Int) := of_decide_eq_true (qR8); obtain ⟨ad429, e429, hx429_0, hx429_1, hx429_2, hx429_3, hx429_4⟩ := at_T58 HR0.out x9_1 p429 q429; obtain rfl : ad423 = ad429 := (by injection e429); replace hx429_0 := (HB.out.cell (World.block_lt_of_cell? w _ hx429_0)).trans hx429_0; replace hx429_1 := (HB.out.cell (World.block_lt_of_cell? w _ hx429_1)).trans hx429_1; replace hx429_2 := (HB.out.cell (World.block_lt_of_cell? w _ hx429_2)).trans hx429_2; replace hx429_3 := (HB.out.cell (World.block_lt_of_cell? w _ hx429_3)).trans hx429_3
                  replace hx429_4 := (HB.out.cell (World.block_lt_of_cell? w _ hx429_4)).trans hx429_4; replace p429 := eq_true p429; replace q429 := eq_true q429
                  go_wp2
                  repeat (go_quiet (fail); try go_wp2)
                  go_roundg kj7
                  case measure => have := HK1.out; have := HJ7.out; omega
                  case rel => exact ⟨(x14_1), (wrap64 (x14_1 + 1)), (qR12), (qR12), H', ⟨by have := HK1.out; have := HJ7.out; omega⟩, ⟨(qR21 GE424.out)⟩⟩
                 ·rw [if_neg c25] at H; have c25b0 : decide (((rd_T58 l0 x14_1).f2) < ((rd_T58 l0 x9_1).f2)) = false := decide_eq_false c25; clear c25; have H' := Aside0.mk H; clear H; have p425 : 0 ≤ (x14_1 : Int) := of_decide_eq_true (qR8); have q425 : x14_1 < (l1.length : Int) := of_decide_eq_true (qR8); obtain ⟨ad425, e425, hx425_0⟩ := Kd.at_int HR1.out x14_1 p425 q425; cases e425; replace hx425_0 := (HB.out.cell (World.block_lt_of_cell? w _ hx425_0)).trans hx425_0; replace p425 := eq_true p425; replace q425 := eq_true q425; have p426 : 0 ≤ (x9_1 : Int) := of_decide_eq_true (qR8); have q426 : x9_1 < (l1.length : Int) := of_decide_eq_true (qR8); obtain ⟨ad426, e426, hx426_0⟩ := Kd.at_int HR1.out x9_1 p426 q426; obtain rfl : ad425 = ad426 := (by injection e426); replace hx426_0 := (HB.out.cell (World.block_lt_of_cell? w _ hx426_0)).trans hx426_0; replace p426 := eq_true p426; replace q426 := eq_true q426; have p427 : 0 ≤ (x14_1 : Int) := of_decide_eq_true (qR8); have q427 : x14_1 < (l1.length : Int) := of_decide_eq_true (qR8); obtain ⟨ad427, e427, hx427_0⟩ := Kd.at_int HR1.out x14_1 p427 q427; obtain rfl : ad425 = ad427 := (by injection e427); replace hx427_0 := (HB.out.cell (World.block_lt_of_cell? w _ hx427_0)).trans hx427_0; replace p427 := eq_true p427; replace q427 := eq_true q427; have p428 : 0 ≤ (x9_1 : Int) := of_decide_eq_true (qR8); have q428 : x9_1 < (l1.length : Int) := of_decide_eq_true (qR8); obtain ⟨ad428, e428, hx428_0⟩ := Kd.at_int HR1.out x9_1 p428 q428; obtain rfl : ad425 = ad428 := (by injection e428)
                  replace hx428_0 := (HB.out.cell (World.block_lt_of_cell? w _ hx428_0)).trans hx428_0; replace p428 := eq_true p428; replace q428 := eq_true q428; have hcz27_0 : wc.cell? ⟨gb424, 0, none⟩ = some (.int .i64 ((rd_T58 l0 x14_1).f0)) := (blk_cell BK424.out 0).trans rfl; have hcz27_1 : wc.cell? ⟨gb424, 1, none⟩ = some (.int .i64 ((rd_T58 l0 x14_1).f1)) := (blk_cell BK424.out 1).trans rfl; have hcz27_2 : wc.cell? ⟨gb424, 2, none⟩ = some (.int .i64 ((rd_T58 l0 x14_1).f2)) := (blk_cell BK424.out 2).trans rfl; have hcz27_3 : wc.cell? ⟨gb424, 3, none⟩ = some (.int .i64 ((rd_T58 l0 x14_1).f3)) := (blk_cell BK424.out 3).trans rfl; have hcz27_4 : wc.cell? ⟨gb424, 4, none⟩ = some (.int .i64 ((rd_T58 l0 x14_1).f4)) := (blk_cell BK424.out 4).trans rfl; have hfz27_0 := blk_frozen BK424.out 0; have hfz27_1 := blk_frozen BK424.out 1; have hfz27_2 := blk_frozen BK424.out 2; have hfz27_3 := blk_frozen BK424.out 3; have hfz27_4 := blk_frozen BK424.out 4; have p429 : 0 ≤ (x9_1 : Int) := of_decide_eq_true (qR8); have q429 : x9_1 < (l0.length : Int) := of_decide_eq_true (qR8); obtain ⟨ad429, e429, hx429_0, hx429_1, hx429_2, hx429_3, hx429_4⟩ := at_T58 HR0.out x9_1 p429 q429; obtain rfl : ad423 = ad429 := (by injection e429); replace hx429_0 := (HB.out.cell (World.block_lt_of_cell? w _ hx429_0)).trans hx429_0; replace hx429_1 := (HB.out.cell (World.block_lt_of_cell? w _ hx429_1)).trans hx429_1; replace hx429_2 := (HB.out.cell (World.block_lt_of_cell? w _ hx429_2)).trans hx429_2; replace hx429_3 := (HB.out.cell (World.block_lt_of_cell? w _ hx429_3)).trans hx429_3
                  replace hx429_4 := (HB.out.cell (World.block_lt_of_cell? w _ hx429_4)).trans hx429_4; replace p429 := eq_true p429; replace q429 := eq_true q429
                  go_wp2
                  repeat (go_quiet (fail); try go_wp2)
                  go_roundg kj7
                  case measure => have := HK1.out; have := HJ7.out; omega
                  case rel => exact ⟨(x9_1), (wrap64 (x14_1 + 1)), (qR12), (qR12), H', ⟨by have := HK1.out; have := HJ7.out; omega⟩, ⟨(qR21 GE424.out)⟩⟩
                ·rw [if_neg c24] at H
                 exact absurd H (by simp)
               ·rw [if_neg c23] at H; have c23b0 : ((rd l1 x14_1) == (rd l1 x9_1)) = false := beq_eq_false_iff_ne.mpr c23; have c23b1 : ((rd l1 x14_1) != (rd l1 x9_1)) = true := bne_iff_ne.mpr c23; have H' := Aside0.mk H; clear H; have p425 : 0 ≤ (x14_1 : Int) := of_decide_eq_true (qR8); have q425 : x14_1 < (l1.length : Int) := of_decide_eq_true (qR8); obtain ⟨ad425, e425, hx425_0⟩ := Kd.at_int HR1.out x14_1 p425 q425; cases e425; replace hx425_0 := (HB.out.cell (World.block_lt_of_cell? w _ hx425_0)).trans hx425_0; replace p425 := eq_true p425; replace q425 := eq_true q425; have p426 : 0 ≤ (x9_1 : Int) := of_decide_eq_true (qR8); have q426 : x9_1 < (l1.length : Int) := of_decide_eq_true (qR8); obtain ⟨ad426, e426, hx426_0⟩ := Kd.at_int HR1.out x9_1 p426 q426; obtain rfl : ad425 = ad426 := (by injection e426); replace hx426_0 := (HB.out.cell (World.block_lt_of_cell? w _ hx426_0)).trans hx426_0; replace p426 := eq_true p426; replace q426 := eq_true q426; have p427 : 0 ≤ (x14_1 : Int) := of_decide_eq_true (qR8); have q427 : x14_1 < (l1.length : Int) := of_decide_eq_true (qR8); obtain ⟨ad427, e427, hx427_0⟩ := Kd.at_int HR1.out x14_1 p427 q427; obtain rfl : ad425 = ad427 := (by injection e427); replace hx427_0 := (HB.out.cell (World.block_lt_of_cell? w _ hx427_0)).trans hx427_0; replace p427 := eq_true p427; replace q427 := eq_true q427; have p428 : 0 ≤ (x9_1 : Int) := of_decide_eq_true (qR8); have q428 : x9_1 < (l1.length : Int) := of_decide_eq_true (qR8); obtain ⟨ad428, e428, hx428_0⟩ := Kd.at_int HR1.out x9_1 p428 q428
                obtain rfl : ad425 = ad428 := (by injection e428); replace hx428_0 := (HB.out.cell (World.block_lt_of_cell? w _ hx428_0)).trans hx428_0; replace p428 := eq_true p428; replace q428 := eq_true q428
                go_wp2
                repeat (go_quiet (fail); try go_wp2)
                go_roundg kj7
                case measure => have := HK1.out; have := HJ7.out; omega
                case rel => exact ⟨(x9_1), (wrap64 (x14_1 + 1)), (qR12), (qR12), H', ⟨by have := HK1.out; have := HJ7.out; omega⟩, ⟨(qR21 GE424.out)⟩⟩
             ·rw [if_neg c21] at H
              exact absurd H (by simp)
            ·rw [if_neg c20] at H
             exact absurd H (by simp)
           ·rw [if_neg c19] at H
            exact absurd H (by simp)
          ·rw [if_neg c18] at H
           exact absurd H (by simp)
     ·rw [if_neg c7] at H
      exact absurd H (by simp)
    ·rw [if_neg c6] at H
     exact absurd H (by simp)
   ·rw [if_neg c5] at H; have c5b0 : decide (x14_1 < (l0.length : Int)) = false := decide_eq_false c5; clear c5; obtain rfl := Option.some.inj H
    go_wp2
    repeat (go_quiet (fail); try go_wp2)
    go_ret
    exact ⟨(qR10), (qR0)⟩

/-! ### slices_Index_int_int: function 89 -/
def slices_Index_int_int.l0 : Nat → List Int → Int → Int → Int → Option (Int)
 | 0, _, _, _, _ => none
 | k + 1, x0, x1, x7, x8 => if x8 < x7 then (if 0 ≤ x8 then (if x8 < (x0.length : Int) then (if x1 = (rd x0 x8) then (some x8) else (slices_Index_int_int.l0 k x0 x1 x7 (wrap64 (x8 + 1)))) else (none)) else (none)) else (some (-1))
def slices_Index_int_int.f (k : Nat) (l0 : List Int) (a1 : Int) : Option (Int) := slices_Index_int_int.l0 k l0 a1 (l0.length : Int) 0
theorem slices_Index_int_int.mono_l : ∀ k, (∀ y0 y1 y2 y3, LeO (slices_Index_int_int.l0 k y0 y1 y2 y3) (slices_Index_int_int.l0 (k + 1) y0 y1 y2 y3))
 | 0 => fun _ _ _ _ r h => by simp [slices_Index_int_int.l0] at h
 | k + 1 => by
  have ih0 := slices_Index_int_int.mono_l k
  ·intro y0 y1 y2 y3
   unfold slices_Index_int_int.l0
   exact qmono
theorem slices_Index_int_int.mono : ∀ a0 a1 k, LeO (slices_Index_int_int.f k a0 a1) (slices_Index_int_int.f (k + 1) a0 a1) := by
 intro a0 a1 k; have ih0 := slices_Index_int_int.mono_l k
 unfold slices_Index_int_int.f
 exact qmono
theorem slices_Index_int_int.calls (k : Nat) (A0 : Option Addr) (c0 : Nat) (l0 : List Int) (a1 : Int) (r : Int) (w : World) (hr0 : Kd.C (Kd.int .i64) w A0 l0.length l0) (hc0 : l0.length ≤ c0) (h : slices_Index_int_int.f k l0 a1 = some r) :
  Calls Try.prog 89 #[.slice A0 l0.length c0, .int .i64 a1] w fun e w' => e = .returned (.int .i64 r) ∧ Drawn0 w w' := by
 have HR0 := Aside0.mk hr0; have HC0 := Aside0.mk hc0; clear hr0 hc0; have H : (slices_Index_int_int.l0 k l0 a1 (l0.length : Int) 0) = some r := h; clear h; have H' := Aside0.mk H; clear H
 go_enter Try.func89, Try.ntmps89
 go_wp2
 go_loopg [8] k (fun kq v8 w' => ∃ (x8_1 : Int), v8 = .int .i64 x8_1 ∧ Aside0 (slices_Index_int_int.l0 kq l0 a1 (l0.length : Int) x8_1 = some r) ∧ Aside0 (kq ≤ k) ∧ Drawn0 w w')
 case atStart => exact ⟨(0), (qR12), H', ⟨Nat.le_refl _⟩, (qR26)⟩
 case round =>
  clear H'; (try clear p2); obtain ⟨x8_1, rfl, HA, HK1, ⟨m1, rfl⟩⟩ := hrel
  cases gk with
  | zero => exact absurd HA.out (by simp [slices_Index_int_int.l0])
  | succ k1 =>
   have H := HA.out; clear HA; simp only [slices_Index_int_int.l0] at H
   by_cases c3 : x8_1 < (l0.length : Int)
   ·rw [if_pos c3] at H; have c3b0 : decide (x8_1 < (l0.length : Int)) = true := decide_eq_true c3; clear c3
    by_cases c4 : 0 ≤ x8_1
    ·rw [if_pos c4] at H; have c4b0 : decide (0 ≤ x8_1) = true := decide_eq_true c4; clear c4
     by_cases c5 : x8_1 < (l0.length : Int)
     ·rw [if_pos c5] at H; have c5b0 : decide (x8_1 < (l0.length : Int)) = true := decide_eq_true c5; clear c5
      by_cases c6 : a1 = (rd l0 x8_1)
      ·rw [if_pos c6] at H; have c6b0 : (a1 == (rd l0 x8_1)) = true := beq_iff_eq.mpr c6; have c6b1 : (a1 != (rd l0 x8_1)) = false := bne_eq_false_iff_eq.mpr c6; clear c6; obtain rfl := Option.some.inj H; have p430 : 0 ≤ (x8_1 : Int) := of_decide_eq_true (qR8); have q430 : x8_1 < (l0.length : Int) := of_decide_eq_true (qR8); obtain ⟨ad430, e430, hx430_0⟩ := Kd.at_int HR0.out x8_1 p430 q430; cases e430; replace p430 := eq_true p430; replace q430 := eq_true q430
       go_wp2
       go_ret
       exact ⟨(qR12), (qR26)⟩
      ·rw [if_neg c6] at H; have c6b0 : (a1 == (rd l0 x8_1)) = false := beq_eq_false_iff_ne.mpr c6; have c6b1 : (a1 != (rd l0 x8_1)) = true := bne_iff_ne.mpr c6; have H' := Aside0.mk H; clear H; have p430 : 0 ≤ (x8_1 : Int) := of_decide_eq_true (qR8); have q430 : x8_1 < (l0.length : Int) := of_decide_eq_true (qR8); obtain ⟨ad430, e430, hx430_0⟩ := Kd.at_int HR0.out x8_1 p430 q430; cases e430; replace p430 := eq_true p430; replace q430 := eq_true q430
       go_wp2
       go_roundg k1
       case measure => have := HK1.out; omega
       case rel => exact ⟨(wrap64 (x8_1 + 1)), (qR12), H', ⟨by have := HK1.out; omega⟩, (qR26)⟩
     ·rw [if_neg c5] at H
      exact absurd H (by simp)
    ·rw [if_neg c4] at H
     exact absurd H (by simp)
   ·rw [if_neg c3] at H; have c3b0 : decide (x8_1 < (l0.length : Int)) = false := decide_eq_false c3; clear c3; obtain rfl := Option.some.inj H
    go_wp2
    go_ret
    exact ⟨(qR12), (qR26)⟩

/-! ### slices_Contains_int_int: function 67 -/
def slices_Contains_int_int.f (k : Nat) (l0 : List Int) (a1 : Int) : Option (Bool) := (slices_Index_int_int.f k l0 a1).bind fun t431 => (some (decide (t431 ≥ 0)))
theorem slices_Contains_int_int.mono : ∀ a0 a1 k, LeO (slices_Contains_int_int.f k a0 a1) (slices_Contains_int_int.f (k + 1) a0 a1) := by
 intro a0 a1 k
 unfold slices_Contains_int_int.f
 have m0 := @slices_Index_int_int.mono
 exact qmono
theorem slices_Contains_int_int.calls (k : Nat) (A0 : Option Addr) (c0 : Nat) (l0 : List Int) (a1 : Int) (r : Bool) (w : World) (hr0 : Kd.C (Kd.int .i64) w A0 l0.length l0) (hc0 : l0.length ≤ c0) (h : slices_Contains_int_int.f k l0 a1 = some r) :
  Calls Try.prog 67 #[.slice A0 l0.length c0, .int .i64 a1] w fun e w' => e = .returned (.bool r) ∧ Drawn0 w w' := by
 have HR0 := Aside0.mk hr0; have HC0 := Aside0.mk hc0; clear hr0 hc0; have H : ((slices_Index_int_int.f k l0 a1).bind fun t431 => (some (decide (t431 ≥ 0)))) = some r := h; clear h; replace H := Option.bind_eq_some_iff.mp H; obtain ⟨t431, A30, H⟩ := H; replace H : (some (decide (t431 ≥ 0))) = some r := H; have A3 := Aside0.mk A30; clear A30; obtain rfl := Option.some.inj H
 go_enter Try.func67, Try.ntmps67
 go_wp2_with (first | ((with_reducible refine gate_callee (f := 89) rfl ?_); refine goesL_ (some 7) rfl rfl Try.func89 (by kernel_rfl) rfl #[.slice A0 l0.length c0, .int .i64 a1] rfl (qR2) ?_; (with_reducible refine (slices_Index_int_int.calls k _ _ l0 a1 t431 _ ?s1 ?s2 A3.out).mono ?_); (case s1 => exact (qR11 HR0.out)); (case s2 => exact HC0.out); rintro e w' ⟨rfl, ⟨nd, rfl⟩⟩; refine ⟨_, rfl, ?_⟩))
 go_ret
 exact ⟨(qR12), (qR26)⟩

/-! ### impl_has: function 38 -/
def impl_has.f (k : Nat) (l0 : List Int) (a1 : Int) : Option (Bool) := (slices_Contains_int_int.f k l0 a1).bind fun t432 => (some t432)
theorem impl_has.mono : ∀ a0 a1 k, LeO (impl_has.f k a0 a1) (impl_has.f (k + 1) a0 a1) := by
 intro a0 a1 k
 unfold impl_has.f
 have m0 := @slices_Contains_int_int.mono
 exact qmono
theorem impl_has.calls (k : Nat) (A0 : Option Addr) (c0 : Nat) (l0 : List Int) (a1 : Int) (r : Bool) (w : World) (hr0 : Kd.C (Kd.int .i64) w A0 l0.length l0) (hc0 : l0.length ≤ c0) (h : impl_has.f k l0 a1 = some r) :
  Calls Try.prog 38 #[.slice A0 l0.length c0, .int .i64 a1] w fun e w' => e = .returned (.bool r) ∧ Drawn0 w w' := by
 have HR0 := Aside0.mk hr0; have HC0 := Aside0.mk hc0; clear hr0 hc0; have H : ((slices_Contains_int_int.f k l0 a1).bind fun t432 => (some t432)) = some r := h; clear h; replace H := Option.bind_eq_some_iff.mp H; obtain ⟨t432, A30, H⟩ := H; replace H : (some t432) = some r := H; have A3 := Aside0.mk A30; clear A30; obtain rfl := Option.some.inj H
 go_enter Try.func38, Try.ntmps38
 go_wp2_with (first | ((with_reducible refine gate_callee (f := 67) rfl ?_); refine goesL_ (some 7) rfl rfl Try.func67 (by kernel_rfl) rfl #[.slice A0 l0.length c0, .int .i64 a1] rfl (qR2) ?_; (with_reducible refine (slices_Contains_int_int.calls k _ _ l0 a1 t432 _ ?s1 ?s2 A3.out).mono ?_); (case s1 => exact (qR11 HR0.out)); (case s2 => exact HC0.out); rintro e w' ⟨rfl, ⟨nd, rfl⟩⟩; refine ⟨_, rfl, ?_⟩))
 go_ret
 exact ⟨(qR12), (qR26)⟩

-- NOT PRINTED: function 35 (impl_BestRoute_1)

end Go.Proofs.Ytoljdjgndogegaa.MR
