-- tight2 (a walk)
import Derived.Test.YtkocflfadlempaaMKx0
import Derived.Test.YtkocflfadlempaaMKx3
namespace Go.Proofs.Ytkocflfadlempaa.MK
open Go.RowKit Go.Proofs.YtkocflfadlempaaW.PrintWords Go.Proofs.YtkocflfadlempaaW.PrintLast
set_option maxHeartbeats 8000000
set_option maxRecDepth 100000
attribute [local go_sem] max2_int min2_int max_two min_two
set_option linter.unusedVariables false
set_option linter.unusedSimpArgs false

def impl_within.f (a0 : Int) (a1 : Int) (a2 : Int) : Option (Bool) := if a0 ≥ a1 then (some (decide (a0 ≤ a2))) else (some false)
theorem impl_within.calls (a0 : Int) (a1 : Int) (a2 : Int) (r : Bool) (w : World) (h : impl_within.f a0 a1 a2 = some r) :
  Calls Try.prog 56 #[.int .i64 a0, .int .i64 a1, .int .i64 a2] w fun e w' => e = .returned (.bool r) ∧ Drawn0 w w' := by
 have H : (if a0 ≥ a1 then (some (decide (a0 ≤ a2))) else (some false)) = some r := h; clear h
 by_cases c4 : a0 ≥ a1
 ·rw [yb c4] at H; have c4b0 : decide (a1 ≤ a0) = true := zc c4; clear c4; obtain rfl := zm H
  go_enter Try.func56, Try.ntmps56
  go_wp2
  go_ret
  exact ⟨(qK10), (qK24)⟩
 ·rw [yc c4] at H; have c4b0 : decide (a1 ≤ a0) = false := zv c4; clear c4; obtain rfl := zm H
  go_enter Try.func56, Try.ntmps56
  go_wp2
  go_ret
  exact ⟨(qK10), (qK24)⟩

def impl_isStation.f (a0 : Int) : Option (Bool) := (impl_within.f a0 0 7).bind fun t372 => (some t372)
theorem impl_isStation.calls (a0 : Int) (r : Bool) (w : World) (h : impl_isStation.f a0 = some r) :
  Calls Try.prog 30 #[.int .i64 a0] w fun e w' => e = .returned (.bool r) ∧ Drawn0 w w' := by
 have H : ((impl_within.f a0 0 7).bind fun t372 => (some t372)) = some r := h; clear h; replace H := zC H; obtain ⟨t372, A20, H⟩ := H; replace H : (some t372) = some r := H; have A2 := za A20; clear A20; obtain rfl := zm H
 go_enter Try.func30, Try.ntmps30
 go_wp2_with (first | ((with_reducible refine zp (f := 56) rfl ?_); refine zV (some 4) rfl rfl Try.func56 (qK25) rfl #[.int .i64 a0, .int .i64 0, .int .i64 7] rfl (qK2) ?_; (with_reducible refine (impl_within.calls a0 0 7 t372 _ A2.1).mono ?_); rintro e w' ⟨rfl, ⟨nd, rfl⟩⟩; refine ⟨_, rfl, ?_⟩))
 go_ret
 exact ⟨(qK10), (qK24)⟩

def impl_isBearing.f (a0 : Int) : Option (Bool) := (impl_within.f a0 0 359).bind fun t373 => (some t373)
theorem impl_isBearing.calls (a0 : Int) (r : Bool) (w : World) (h : impl_isBearing.f a0 = some r) :
  Calls Try.prog 72 #[.int .i64 a0] w fun e w' => e = .returned (.bool r) ∧ Drawn0 w w' := by
 have H : ((impl_within.f a0 0 359).bind fun t373 => (some t373)) = some r := h; clear h; replace H := zC H; obtain ⟨t373, A20, H⟩ := H; replace H : (some t373) = some r := H; have A2 := za A20; clear A20; obtain rfl := zm H
 go_enter Try.func72, Try.ntmps72
 go_wp2_with (first | ((with_reducible refine zp (f := 56) rfl ?_); refine zV (some 4) rfl rfl Try.func56 (qK25) rfl #[.int .i64 a0, .int .i64 0, .int .i64 359] rfl (qK2) ?_; (with_reducible refine (impl_within.calls a0 0 359 t373 _ A2.1).mono ?_); rintro e w' ⟨rfl, ⟨nd, rfl⟩⟩; refine ⟨_, rfl, ?_⟩))
 go_ret
 exact ⟨(qK10), (qK24)⟩

def impl_IsLeg.f (a0_0 : Int) (a0_1 : Int) (a0_2 : Int) (a0_3 : Int) (a0_4 : Int) : Option (Bool) := (impl_isStation.f a0_0).bind fun t375 => (if t375 = true then ((impl_isStation.f a0_1).bind fun t376 => (if t376 = true then (if a0_0 = a0_1 then (some false) else ((impl_within.f a0_2 1 500).bind fun t377 => (if t377 = true then ((impl_isBearing.f a0_3).bind fun t378 => (if t378 = true then ((impl_within.f a0_4 (-90) 90).bind fun t379 => (some t379)) else (some false))) else (some false)))) else (some false))) else (some false))
theorem impl_IsLeg.calls (a0_0 : Int) (a0_1 : Int) (a0_2 : Int) (a0_3 : Int) (a0_4 : Int) (r : Bool) (w : World) (h : impl_IsLeg.f a0_0 a0_1 a0_2 a0_3 a0_4 = some r) :
  Calls Try.prog 49 #[.agg #[.int .i64 a0_0, .int .i64 a0_1, .int .i64 a0_2, .int .i64 a0_3, .int .i64 a0_4]] w fun e w' => e = .returned (.bool r) ∧ Below w.heap.size w w' := by
 have hu72 := Try.underlying72; have HB := za (zs w.heap.size w); have H : ((impl_isStation.f a0_0).bind fun t375 => (if t375 = true then ((impl_isStation.f a0_1).bind fun t376 => (if t376 = true then (if a0_0 = a0_1 then (some false) else ((impl_within.f a0_2 1 500).bind fun t377 => (if t377 = true then ((impl_isBearing.f a0_3).bind fun t378 => (if t378 = true then ((impl_within.f a0_4 (-90) 90).bind fun t379 => (some t379)) else (some false))) else (some false)))) else (some false))) else (some false))) = some r := h; clear h; replace H := bindA H; obtain ⟨t375, A2, H⟩ := H; (try dsimp only at H)
 by_cases c3 : t375 = true
 ·subst c3; rw [yb rfl] at H; replace H := bindA H; obtain ⟨t376, A4, H⟩ := H; (try dsimp only at H)
  by_cases c5 : t376 = true
  ·subst c5; rw [yb rfl] at H
   by_cases c6 : a0_0 = a0_1
   ·rw [yb c6] at H; have c6b0 : (a0_0 == a0_1) = true := zT c6; have c6b1 : (a0_0 != a0_1) = false := zy c6; clear c6; obtain rfl := zm H
    go_enter Try.func49, Try.ntmps49
    go_wp2_with (first | ((with_reducible refine zq (N := 1) rfl ?_); refine zB ?hg (N := 1) ?hd (cs := #[.int .i64 a0_0, .int .i64 a0_1, .int .i64 a0_2, .int .i64 a0_3, .int .i64 a0_4]) (t := 72) ?hr ?_; (case hd | hg => rfl); (case hr => exact (qK23)); intro gb374 hg w7 hbox hb; have BK374 := za hbox; have GW374 := za qK83; have GE374 := za qK83; replace HB := za qK73; clear hb hbox hg; have hcz8_0 : w7.cell? ⟨gb374, 0, none⟩ = some (.int .i64 a0_0) := (zf BK374.1 0).trans rfl; have hcz8_1 : w7.cell? ⟨gb374, 1, none⟩ = some (.int .i64 a0_1) := (zf BK374.1 1).trans rfl; have hcz8_2 : w7.cell? ⟨gb374, 2, none⟩ = some (.int .i64 a0_2) := (zf BK374.1 2).trans rfl; have hcz8_3 : w7.cell? ⟨gb374, 3, none⟩ = some (.int .i64 a0_3) := (zf BK374.1 3).trans rfl; have hcz8_4 : w7.cell? ⟨gb374, 4, none⟩ = some (.int .i64 a0_4) := (zf BK374.1 4).trans rfl; have hfz8_0 := ze BK374.1 0; have hfz8_1 := ze BK374.1 1; have hfz8_2 := ze BK374.1 2; have hfz8_3 := ze BK374.1 3; have hfz8_4 := ze BK374.1 4) | ((with_reducible refine zp (f := 30) rfl ?_); refine zV (some 5) rfl rfl Try.func30 (qK25) rfl #[.int .i64 a0_0] rfl (qK2) ?_; (with_reducible refine (impl_isStation.calls a0_0 true _ A2.1).mono ?_); rintro e w' ⟨rfl, ⟨nd, rfl⟩⟩; refine ⟨_, rfl, ?_⟩) | (go_at_call 30; (with_reducible refine (impl_isStation.calls a0_1 true _ A4.1).mono ?_); rintro e w' ⟨rfl, ⟨nd, rfl⟩⟩))
    go_ret
    exact ⟨(qK11), (qK19 GE374.1)⟩
   ·rw [yc c6] at H; have c6b0 : (a0_0 == a0_1) = false := zx c6; have c6b1 : (a0_0 != a0_1) = true := zU c6; replace H := bindA H; obtain ⟨t377, A9, H⟩ := H; (try dsimp only at H)
    by_cases c10 : t377 = true
    ·subst c10; rw [yb rfl] at H; replace H := bindA H; obtain ⟨t378, A11, H⟩ := H; (try dsimp only at H)
     by_cases c12 : t378 = true
     ·subst c12; rw [yb rfl] at H; replace H := zC H; obtain ⟨t379, A130, H⟩ := H; replace H : (some t379) = some r := H; have A13 := za A130; clear A130; obtain rfl := zm H
      go_enter Try.func49, Try.ntmps49
      go_wp2_with (first | ((with_reducible refine zq (N := 1) rfl ?_); refine zB ?hg (N := 1) ?hd (cs := #[.int .i64 a0_0, .int .i64 a0_1, .int .i64 a0_2, .int .i64 a0_3, .int .i64 a0_4]) (t := 72) ?hr ?_; (case hd | hg => rfl); (case hr => exact (qK23)); intro gb374 hg w14 hbox hb; have BK374 := za hbox; have GW374 := za qK83; have GE374 := za qK83; replace HB := za qK73; clear hb hbox hg; have hcz15_0 : w14.cell? ⟨gb374, 0, none⟩ = some (.int .i64 a0_0) := (zf BK374.1 0).trans rfl; have hcz15_1 : w14.cell? ⟨gb374, 1, none⟩ = some (.int .i64 a0_1) := (zf BK374.1 1).trans rfl; have hcz15_2 : w14.cell? ⟨gb374, 2, none⟩ = some (.int .i64 a0_2) := (zf BK374.1 2).trans rfl; have hcz15_3 : w14.cell? ⟨gb374, 3, none⟩ = some (.int .i64 a0_3) := (zf BK374.1 3).trans rfl; have hcz15_4 : w14.cell? ⟨gb374, 4, none⟩ = some (.int .i64 a0_4) := (zf BK374.1 4).trans rfl; have hfz15_0 := ze BK374.1 0; have hfz15_1 := ze BK374.1 1; have hfz15_2 := ze BK374.1 2; have hfz15_3 := ze BK374.1 3; have hfz15_4 := ze BK374.1 4) | ((with_reducible refine zp (f := 30) rfl ?_); refine zV (some 5) rfl rfl Try.func30 (qK25) rfl #[.int .i64 a0_0] rfl (qK2) ?_; (with_reducible refine (impl_isStation.calls a0_0 true _ A2.1).mono ?_); rintro e w' ⟨rfl, ⟨nd, rfl⟩⟩; refine ⟨_, rfl, ?_⟩) | (go_at_call 30; (with_reducible refine (impl_isStation.calls a0_1 true _ A4.1).mono ?_); rintro e w' ⟨rfl, ⟨nd, rfl⟩⟩) | (go_at_call 56; (with_reducible refine (impl_within.calls a0_2 1 500 true _ A9.1).mono ?_); rintro e w' ⟨rfl, ⟨nd, rfl⟩⟩) | (go_at_call 72; (with_reducible refine (impl_isBearing.calls a0_3 true _ A11.1).mono ?_); rintro e w' ⟨rfl, ⟨nd, rfl⟩⟩) | (go_at_call 56; (with_reducible refine (impl_within.calls a0_4 (-90) 90 t379 _ A13.1).mono ?_); rintro e w' ⟨rfl, ⟨nd, rfl⟩⟩))
      go_ret
      exact ⟨(qK11), (qK19 GE374.1)⟩
     ·replace c12 := zn c12; subst c12; rw [yc (show ¬ (false = true) by decide)] at H; obtain rfl := zm H
      go_enter Try.func49, Try.ntmps49
      go_wp2_with (first | ((with_reducible refine zq (N := 1) rfl ?_); refine zB ?hg (N := 1) ?hd (cs := #[.int .i64 a0_0, .int .i64 a0_1, .int .i64 a0_2, .int .i64 a0_3, .int .i64 a0_4]) (t := 72) ?hr ?_; (case hd | hg => rfl); (case hr => exact (qK23)); intro gb374 hg w16 hbox hb; have BK374 := za hbox; have GW374 := za qK83; have GE374 := za qK83; replace HB := za qK73; clear hb hbox hg; have hcz17_0 : w16.cell? ⟨gb374, 0, none⟩ = some (.int .i64 a0_0) := (zf BK374.1 0).trans rfl; have hcz17_1 : w16.cell? ⟨gb374, 1, none⟩ = some (.int .i64 a0_1) := (zf BK374.1 1).trans rfl; have hcz17_2 : w16.cell? ⟨gb374, 2, none⟩ = some (.int .i64 a0_2) := (zf BK374.1 2).trans rfl; have hcz17_3 : w16.cell? ⟨gb374, 3, none⟩ = some (.int .i64 a0_3) := (zf BK374.1 3).trans rfl; have hcz17_4 : w16.cell? ⟨gb374, 4, none⟩ = some (.int .i64 a0_4) := (zf BK374.1 4).trans rfl; have hfz17_0 := ze BK374.1 0; have hfz17_1 := ze BK374.1 1; have hfz17_2 := ze BK374.1 2; have hfz17_3 := ze BK374.1 3; have hfz17_4 := ze BK374.1 4) | ((with_reducible refine zp (f := 30) rfl ?_); refine zV (some 5) rfl rfl Try.func30 (qK25) rfl #[.int .i64 a0_0] rfl (qK2) ?_; (with_reducible refine (impl_isStation.calls a0_0 true _ A2.1).mono ?_); rintro e w' ⟨rfl, ⟨nd, rfl⟩⟩; refine ⟨_, rfl, ?_⟩) | (go_at_call 30; (with_reducible refine (impl_isStation.calls a0_1 true _ A4.1).mono ?_); rintro e w' ⟨rfl, ⟨nd, rfl⟩⟩) | (go_at_call 56; (with_reducible refine (impl_within.calls a0_2 1 500 true _ A9.1).mono ?_); rintro e w' ⟨rfl, ⟨nd, rfl⟩⟩) | (go_at_call 72; (with_reducible refine (impl_isBearing.calls a0_3 false _ A11.1).mono ?_); rintro e w' ⟨rfl, ⟨nd, rfl⟩⟩))
      go_ret
      exact ⟨(qK11), (qK19 GE374.1)⟩
    ·replace c10 := zn c10; subst c10; rw [yc (show ¬ (false = true) by decide)] at H; obtain rfl := zm H
     go_enter Try.func49, Try.ntmps49
     go_wp2_with (first | ((with_reducible refine zq (N := 1) rfl ?_); refine zB ?hg (N := 1) ?hd (cs := #[.int .i64 a0_0, .int .i64 a0_1, .int .i64 a0_2, .int .i64 a0_3, .int .i64 a0_4]) (t := 72) ?hr ?_; (case hd | hg => rfl); (case hr => exact (qK23)); intro gb374 hg w18 hbox hb; have BK374 := za hbox; have GW374 := za qK83; have GE374 := za qK83; replace HB := za qK73; clear hb hbox hg; have hcz19_0 : w18.cell? ⟨gb374, 0, none⟩ = some (.int .i64 a0_0) := (zf BK374.1 0).trans rfl; have hcz19_1 : w18.cell? ⟨gb374, 1, none⟩ = some (.int .i64 a0_1) := (zf BK374.1 1).trans rfl; have hcz19_2 : w18.cell? ⟨gb374, 2, none⟩ = some (.int .i64 a0_2) := (zf BK374.1 2).trans rfl; have hcz19_3 : w18.cell? ⟨gb374, 3, none⟩ = some (.int .i64 a0_3) := (zf BK374.1 3).trans rfl; have hcz19_4 : w18.cell? ⟨gb374, 4, none⟩ = some (.int .i64 a0_4) := (zf BK374.1 4).trans rfl; have hfz19_0 := ze BK374.1 0; have hfz19_1 := ze BK374.1 1; have hfz19_2 := ze BK374.1 2; have hfz19_3 := ze BK374.1 3; have hfz19_4 := ze BK374.1 4) | ((with_reducible refine zp (f := 30) rfl ?_); refine zV (some 5) rfl rfl Try.func30 (qK25) rfl #[.int .i64 a0_0] rfl (qK2) ?_; (with_reducible refine (impl_isStation.calls a0_0 true _ A2.1).mono ?_); rintro e w' ⟨rfl, ⟨nd, rfl⟩⟩; refine ⟨_, rfl, ?_⟩) | (go_at_call 30; (with_reducible refine (impl_isStation.calls a0_1 true _ A4.1).mono ?_); rintro e w' ⟨rfl, ⟨nd, rfl⟩⟩) | (go_at_call 56; (with_reducible refine (impl_within.calls a0_2 1 500 false _ A9.1).mono ?_); rintro e w' ⟨rfl, ⟨nd, rfl⟩⟩))
     go_ret
     exact ⟨(qK11), (qK19 GE374.1)⟩
  ·replace c5 := zn c5; subst c5; rw [yc (show ¬ (false = true) by decide)] at H; obtain rfl := zm H
   go_enter Try.func49, Try.ntmps49
   go_wp2_with (first | ((with_reducible refine zq (N := 1) rfl ?_); refine zB ?hg (N := 1) ?hd (cs := #[.int .i64 a0_0, .int .i64 a0_1, .int .i64 a0_2, .int .i64 a0_3, .int .i64 a0_4]) (t := 72) ?hr ?_; (case hd | hg => rfl); (case hr => exact (qK23)); intro gb374 hg w20 hbox hb; have BK374 := za hbox; have GW374 := za qK83; have GE374 := za qK83; replace HB := za qK73; clear hb hbox hg; have hcz21_0 : w20.cell? ⟨gb374, 0, none⟩ = some (.int .i64 a0_0) := (zf BK374.1 0).trans rfl; have hcz21_1 : w20.cell? ⟨gb374, 1, none⟩ = some (.int .i64 a0_1) := (zf BK374.1 1).trans rfl; have hcz21_2 : w20.cell? ⟨gb374, 2, none⟩ = some (.int .i64 a0_2) := (zf BK374.1 2).trans rfl; have hcz21_3 : w20.cell? ⟨gb374, 3, none⟩ = some (.int .i64 a0_3) := (zf BK374.1 3).trans rfl; have hcz21_4 : w20.cell? ⟨gb374, 4, none⟩ = some (.int .i64 a0_4) := (zf BK374.1 4).trans rfl; have hfz21_0 := ze BK374.1 0; have hfz21_1 := ze BK374.1 1; have hfz21_2 := ze BK374.1 2; have hfz21_3 := ze BK374.1 3; have hfz21_4 := ze BK374.1 4) | ((with_reducible refine zp (f := 30) rfl ?_); refine zV (some 5) rfl rfl Try.func30 (qK25) rfl #[.int .i64 a0_0] rfl (qK2) ?_; (with_reducible refine (impl_isStation.calls a0_0 true _ A2.1).mono ?_); rintro e w' ⟨rfl, ⟨nd, rfl⟩⟩; refine ⟨_, rfl, ?_⟩) | (go_at_call 30; (with_reducible refine (impl_isStation.calls a0_1 false _ A4.1).mono ?_); rintro e w' ⟨rfl, ⟨nd, rfl⟩⟩))
   go_ret
   exact ⟨(qK11), (qK19 GE374.1)⟩
 ·replace c3 := zn c3; subst c3; rw [yc (show ¬ (false = true) by decide)] at H; obtain rfl := zm H
  go_enter Try.func49, Try.ntmps49
  go_wp2_with (first | ((with_reducible refine zq (N := 1) rfl ?_); refine zB ?hg (N := 1) ?hd (cs := #[.int .i64 a0_0, .int .i64 a0_1, .int .i64 a0_2, .int .i64 a0_3, .int .i64 a0_4]) (t := 72) ?hr ?_; (case hd | hg => rfl); (case hr => exact (qK23)); intro gb374 hg w22 hbox hb; have BK374 := za hbox; have GW374 := za qK83; have GE374 := za qK83; replace HB := za qK73; clear hb hbox hg; have hcz23_0 : w22.cell? ⟨gb374, 0, none⟩ = some (.int .i64 a0_0) := (zf BK374.1 0).trans rfl; have hcz23_1 : w22.cell? ⟨gb374, 1, none⟩ = some (.int .i64 a0_1) := (zf BK374.1 1).trans rfl; have hcz23_2 : w22.cell? ⟨gb374, 2, none⟩ = some (.int .i64 a0_2) := (zf BK374.1 2).trans rfl; have hcz23_3 : w22.cell? ⟨gb374, 3, none⟩ = some (.int .i64 a0_3) := (zf BK374.1 3).trans rfl; have hcz23_4 : w22.cell? ⟨gb374, 4, none⟩ = some (.int .i64 a0_4) := (zf BK374.1 4).trans rfl; have hfz23_0 := ze BK374.1 0; have hfz23_1 := ze BK374.1 1; have hfz23_2 := ze BK374.1 2; have hfz23_3 := ze BK374.1 3; have hfz23_4 := ze BK374.1 4) | ((with_reducible refine zp (f := 30) rfl ?_); refine zV (some 5) rfl rfl Try.func30 (qK25) rfl #[.int .i64 a0_0] rfl (qK2) ?_; (with_reducible refine (impl_isStation.calls a0_0 false _ A2.1).mono ?_); rintro e w' ⟨rfl, ⟨nd, rfl⟩⟩; refine ⟨_, rfl, ?_⟩))
  go_ret
  exact ⟨(qK11), (qK19 GE374.1)⟩

def impl_areLegs.l0 : Nat → List (S72) → List (S72) → Int → Int → Option (Bool)
 | 0, _, _, _, _ => none
 | k + 1, x0, x5, x6, x7 => if x7 < x6 then (if 0 ≤ x7 then (if x7 < (x5.length : Int) then ((impl_IsLeg.f ((rd_T72 x5 x7).f0) ((rd_T72 x5 x7).f1) ((rd_T72 x5 x7).f2) ((rd_T72 x5 x7).f3) ((rd_T72 x5 x7).f4)).bind fun t382 => (if t382 = true then (impl_areLegs.l0 k x0 x5 x6 (wrap64 (x7 + 1))) else (some false))) else (none)) else (none)) else (some (decide ((x0.length : Int) ≤ 12)))
def impl_areLegs.f (k : Nat) (l0 : List (S72)) : Option (Bool) := impl_areLegs.l0 k l0 l0 (l0.length : Int) 0
theorem impl_areLegs.calls (k : Nat) (A0 : Option Addr) (c0 : Nat) (l0 : List (S72)) (r : Bool) (w : World) (hr0 : Kd.C k72 w A0 l0.length l0) (hc0 : l0.length ≤ c0) (h : impl_areLegs.f k l0 = some r) :
  Calls Try.prog 25 #[.slice A0 l0.length c0] w fun e w' => e = .returned (.bool r) ∧ Below w.heap.size w w' := by
 have hu72 := Try.underlying72; have HR0 := za hr0; have HC0 := za hc0; clear hr0 hc0; have HB := za (zs w.heap.size w); have H : (impl_areLegs.l0 k l0 l0 (l0.length : Int) 0) = some r := h; clear h; have H' := za H; clear H
 go_enter Try.func25, Try.ntmps25
 go_wp2
 go_loopg [7] k (fun kq v7 w' => ∃ (x7_1 : Int), v7 = .int .i64 x7_1 ∧ Aside0 (impl_areLegs.l0 kq l0 l0 (l0.length : Int) x7_1 = some r) ∧ Aside0 (kq ≤ k) ∧ Aside0 (Below w.heap.size w w'))
 case atStart => exact ⟨(0), (qK10), H', ⟨zo _⟩, ⟨(qK0)⟩⟩
 case round =>
  clear H'; obtain ⟨x7_1, rfl, HA, HK1, HB⟩ := hrel
  cases gk with
  | zero => exact absurd HA.1 (by simp [impl_areLegs.l0])
  | succ k1 =>
   have H := HA.1; clear HA; simp only [impl_areLegs.l0] at H
   by_cases c2 : x7_1 < (l0.length : Int)
   ·rw [yb c2] at H; have c2b0 : decide (x7_1 < (l0.length : Int)) = true := zc c2; clear c2
    by_cases c3 : 0 ≤ x7_1
    ·rw [yb c3] at H; have c3b0 : decide (0 ≤ x7_1) = true := zc c3; clear c3
     by_cases c4 : x7_1 < (l0.length : Int)
     ·rw [yb c4] at H; have c4b0 : decide (x7_1 < (l0.length : Int)) = true := zc c4; clear c4; replace H := bindA H; obtain ⟨t382, A5, H⟩ := H; (try dsimp only at H)
      by_cases c6 : t382 = true
      ·subst c6; rw [yb rfl] at H; have H' := za H; clear H; have p380 : 0 ≤ (x7_1 : Int) := zb (qK7); have q380 : x7_1 < (l0.length : Int) := zb (qK7); obtain ⟨ad380, e380, hx380_0, hx380_1, hx380_2, hx380_3, hx380_4⟩ := at_T72 HR0.1 x7_1 p380 q380; cases e380; replace hx380_0 := (HB.1.cell (zd w _ hx380_0)).trans hx380_0; replace hx380_1 := (HB.1.cell (zd w _ hx380_1)).trans hx380_1; replace hx380_2 := (HB.1.cell (zd w _ hx380_2)).trans hx380_2; replace hx380_3 := (HB.1.cell (zd w _ hx380_3)).trans hx380_3; replace hx380_4 := (HB.1.cell (zd w _ hx380_4)).trans hx380_4; replace p380 := zw p380; replace q380 := zw q380
       go_wp2_with (first | ((with_reducible refine zq (N := 4) rfl ?_); refine zB ?hg (N := 4) ?hd (cs := #[.int .i64 0, .int .i64 0, .int .i64 0, .int .i64 0, .int .i64 0]) (t := 72) ?hr ?_; (case hd | hg => rfl); (case hr => exact (qK23)); intro gb381 hg w7 hbox hb; have BK381 := za hbox; have GW381 := za qK101; have GE381 := za qK101; replace HB := za qK73; clear hb hbox hg; have hcz8_0 : w7.cell? ⟨gb381, 0, none⟩ = some (.int .i64 0) := (zf BK381.1 0).trans rfl; have hcz8_1 : w7.cell? ⟨gb381, 1, none⟩ = some (.int .i64 0) := (zf BK381.1 1).trans rfl; have hcz8_2 : w7.cell? ⟨gb381, 2, none⟩ = some (.int .i64 0) := (zf BK381.1 2).trans rfl; have hcz8_3 : w7.cell? ⟨gb381, 3, none⟩ = some (.int .i64 0) := (zf BK381.1 3).trans rfl; have hcz8_4 : w7.cell? ⟨gb381, 4, none⟩ = some (.int .i64 0) := (zf BK381.1 4).trans rfl; have hfz8_0 := ze BK381.1 0; have hfz8_1 := ze BK381.1 1; have hfz8_2 := ze BK381.1 2; have hfz8_3 := ze BK381.1 3; have hfz8_4 := ze BK381.1 4) | ((with_reducible refine zp (f := 49) rfl ?_); refine zV (some 12) rfl rfl Try.func49 (qK25) rfl #[.agg #[.int .i64 ((rd_T72 l0 x7_1).f0), .int .i64 ((rd_T72 l0 x7_1).f1), .int .i64 ((rd_T72 l0 x7_1).f2), .int .i64 ((rd_T72 l0 x7_1).f3), .int .i64 ((rd_T72 l0 x7_1).f4)]] rfl (qK2) ?_; (with_reducible refine (impl_IsLeg.calls ((rd_T72 l0 x7_1).f0) ((rd_T72 l0 x7_1).f1) ((rd_T72 l0 x7_1).f2) ((rd_T72 l0 x7_1).f3) ((rd_T72 l0 x7_1).f4) true _ A5.1).mono ?_); rintro e w9 ⟨rfl, hb⟩; refine ⟨_, rfl, ?_⟩; replace BK381 := za (zl (g := gb381) (o := .cells #[.int .i64 ((rd_T72 l0 x7_1).f0), .int .i64 ((rd_T72 l0 x7_1).f1), .int .i64 ((rd_T72 l0 x7_1).f2), .int .i64 ((rd_T72 l0 x7_1).f3), .int .i64 ((rd_T72 l0 x7_1).f4)] 72 (0, 0)) (qK29) hb); replace HB := za (zW (qK19 GE381.1) hb); clear hb))
       go_roundg k1
       case measure => have := HK1.1; omega
       case rel => exact ⟨(wrap64 (x7_1 + 1)), (qK10), H', ⟨by have := HK1.1; omega⟩, ⟨(qK19 GE381.1)⟩⟩
      ·replace c6 := zn c6; subst c6; rw [yc (show ¬ (false = true) by decide)] at H; obtain rfl := zm H; have p380 : 0 ≤ (x7_1 : Int) := zb (qK7); have q380 : x7_1 < (l0.length : Int) := zb (qK7); obtain ⟨ad380, e380, hx380_0, hx380_1, hx380_2, hx380_3, hx380_4⟩ := at_T72 HR0.1 x7_1 p380 q380; cases e380; replace hx380_0 := (HB.1.cell (zd w _ hx380_0)).trans hx380_0; replace hx380_1 := (HB.1.cell (zd w _ hx380_1)).trans hx380_1; replace hx380_2 := (HB.1.cell (zd w _ hx380_2)).trans hx380_2; replace hx380_3 := (HB.1.cell (zd w _ hx380_3)).trans hx380_3; replace hx380_4 := (HB.1.cell (zd w _ hx380_4)).trans hx380_4; replace p380 := zw p380; replace q380 := zw q380
       go_wp2_with (first | ((with_reducible refine zq (N := 4) rfl ?_); refine zB ?hg (N := 4) ?hd (cs := #[.int .i64 0, .int .i64 0, .int .i64 0, .int .i64 0, .int .i64 0]) (t := 72) ?hr ?_; (case hd | hg => rfl); (case hr => exact (qK23)); intro gb381 hg w10 hbox hb; have BK381 := za hbox; have GW381 := za qK101; have GE381 := za qK101; replace HB := za qK73; clear hb hbox hg; have hcz11_0 : w10.cell? ⟨gb381, 0, none⟩ = some (.int .i64 0) := (zf BK381.1 0).trans rfl; have hcz11_1 : w10.cell? ⟨gb381, 1, none⟩ = some (.int .i64 0) := (zf BK381.1 1).trans rfl; have hcz11_2 : w10.cell? ⟨gb381, 2, none⟩ = some (.int .i64 0) := (zf BK381.1 2).trans rfl; have hcz11_3 : w10.cell? ⟨gb381, 3, none⟩ = some (.int .i64 0) := (zf BK381.1 3).trans rfl; have hcz11_4 : w10.cell? ⟨gb381, 4, none⟩ = some (.int .i64 0) := (zf BK381.1 4).trans rfl; have hfz11_0 := ze BK381.1 0; have hfz11_1 := ze BK381.1 1; have hfz11_2 := ze BK381.1 2; have hfz11_3 := ze BK381.1 3; have hfz11_4 := ze BK381.1 4) | ((with_reducible refine zp (f := 49) rfl ?_); refine zV (some 12) rfl rfl Try.func49 (qK25) rfl #[.agg #[.int .i64 ((rd_T72 l0 x7_1).f0), .int .i64 ((rd_T72 l0 x7_1).f1), .int .i64 ((rd_T72 l0 x7_1).f2), .int .i64 ((rd_T72 l0 x7_1).f3), .int .i64 ((rd_T72 l0 x7_1).f4)]] rfl (qK2) ?_; (with_reducible refine (impl_IsLeg.calls ((rd_T72 l0 x7_1).f0) ((rd_T72 l0 x7_1).f1) ((rd_T72 l0 x7_1).f2) ((rd_T72 l0 x7_1).f3) ((rd_T72 l0 x7_1).f4) false _ A5.1).mono ?_); rintro e w12 ⟨rfl, hb⟩; refine ⟨_, rfl, ?_⟩; replace BK381 := za (zl (g := gb381) (o := .cells #[.int .i64 ((rd_T72 l0 x7_1).f0), .int .i64 ((rd_T72 l0 x7_1).f1), .int .i64 ((rd_T72 l0 x7_1).f2), .int .i64 ((rd_T72 l0 x7_1).f3), .int .i64 ((rd_T72 l0 x7_1).f4)] 72 (0, 0)) (qK29) hb); replace HB := za (zW (qK19 GE381.1) hb); clear hb))
       go_ret
       exact ⟨(qK11), (qK19 GE381.1)⟩
     ·rw [yc c4] at H
      exact absurd H (by simp)
    ·rw [yc c3] at H
     exact absurd H (by simp)
   ·rw [yc c2] at H; have c2b0 : decide (x7_1 < (l0.length : Int)) = false := zv c2; clear c2; obtain rfl := zm H
    go_wp2
    go_ret
    exact ⟨(qK11), (qK0)⟩

def impl_legsAt.l0 : Nat → Int → List Int → List (S72) → Int → Int → Option (List Int)
 | 0, _, _, _, _, _ => none
 | k + 1, x1, x5, x8, x9, x10 => if x10 < x9 then (if 0 ≤ x10 then (if x10 < (x8.length : Int) then (if ((rd_T72 x8 x10).f0) = x1 then (if x5.length < 17592186044416 then (impl_legsAt.l0 k x1 (x5 ++ [x10]) x8 x9 (wrap64 (x10 + 1))) else (none)) else (if ((rd_T72 x8 x10).f1) = x1 then (if x5.length < 17592186044416 then (impl_legsAt.l0 k x1 (x5 ++ [x10]) x8 x9 (wrap64 (x10 + 1))) else (none)) else (impl_legsAt.l0 k x1 x5 x8 x9 (wrap64 (x10 + 1))))) else (none)) else (none)) else (some x5)
def impl_legsAt.f (k : Nat) (l0 : List (S72)) (a1 : Int) : Option (List Int) := impl_legsAt.l0 k a1 ([] : List Int) l0 (l0.length : Int) 0
theorem impl_legsAt.calls (k : Nat) (A0 : Option Addr) (c0 : Nat) (l0 : List (S72)) (a1 : Int) (r : List Int) (w : World) (hr0 : Kd.C k72 w A0 l0.length l0) (hc0 : l0.length ≤ c0) (h : impl_legsAt.f k l0 a1 = some r) :
  Calls Try.prog 50 #[.slice A0 l0.length c0, .int .i64 a1] w fun e w' => ∃ v0_ : Value, e = .returned (v0_) ∧ Kd.R (Kd.int .i64) 3 w' w.heap.size (fun _ => True) v0_ r ∧ Below w.heap.size w w' := by
 have hu72 := Try.underlying72; have HR0 := za hr0; have HC0 := za hc0; clear hr0 hc0; have HB := za (zs w.heap.size w); have H : (impl_legsAt.l0 k a1 ([] : List Int) l0 (l0.length : Int) 0) = some r := h; clear h; have H' := za H; clear H
 go_enter Try.func50, Try.ntmps50
 go_wp2
 go_loopg [5, 10] k (fun kq v5 v10 w' => ∃ (x5_1 : List Int) (x10_1 : Int), v10 = .int .i64 x10_1 ∧ Aside0 (impl_legsAt.l0 kq a1 x5_1 l0 (l0.length : Int) x10_1 = some r) ∧ Aside0 (kq ≤ k) ∧ Aside0 (Kd.R (Kd.int .i64) 3 w' w.heap.size (fun _ => True) v5 x5_1) ∧ Aside0 (Below w.heap.size w w'))
 case atStart => exact ⟨(([] : List Int)), (0), (qK10), H', ⟨zo _⟩, ⟨by first | exact Kd.R_nil _ _ _ _ _ | exact Kd.N_nil _ _ _ _ _ | exact Kd.V_nil _ _ _ _ _ | exact Kd.Q_nil _ _ _ _ _ | exact Kd.S_nil _ _ _ _ _⟩, ⟨(qK0)⟩⟩
 case round =>
  clear H'; (try clear p2); obtain ⟨x5_1, x10_1, rfl, HA, HK1, HO_5, HB⟩ := hrel
  cases gk with
  | zero => exact absurd HA.1 (by simp [impl_legsAt.l0])
  | succ k1 =>
   have H := HA.1; clear HA; simp only [impl_legsAt.l0] at H
   by_cases c3 : x10_1 < (l0.length : Int)
   ·rw [yb c3] at H; have c3b0 : decide (x10_1 < (l0.length : Int)) = true := zc c3; clear c3
    by_cases c4 : 0 ≤ x10_1
    ·rw [yb c4] at H; have c4b0 : decide (0 ≤ x10_1) = true := zc c4; clear c4
     by_cases c5 : x10_1 < (l0.length : Int)
     ·rw [yb c5] at H; have c5b0 : decide (x10_1 < (l0.length : Int)) = true := zc c5; clear c5
      by_cases c6 : ((rd_T72 l0 x10_1).f0) = a1
      ·rw [yb c6] at H; have c6b0 : (((rd_T72 l0 x10_1).f0) == a1) = true := zT c6; have c6b1 : (((rd_T72 l0 x10_1).f0) != a1) = false := zy c6; clear c6
       by_cases c7 : x5_1.length < 17592186044416
       ·rw [yb c7] at H; have LMc7 := za c7; clear c7; obtain ⟨y385, hy385⟩ : ∃ y_ : List Int, y_ = (x5_1 ++ [x10_1]) := ⟨_, rfl⟩; replace H : (impl_legsAt.l0 k1 a1 y385 l0 (l0.length : Int) (wrap64 (x10_1 + 1))) = some r := (qK4 hy385); have Ny385 := za hy385; clear hy385; have H' := za H; clear H; have p383 : 0 ≤ (x10_1 : Int) := zb (qK7); have q383 : x10_1 < (l0.length : Int) := zb (qK7); obtain ⟨ad383, e383, hx383_0, hx383_1, hx383_2, hx383_3, hx383_4⟩ := at_T72 HR0.1 x10_1 p383 q383; cases e383; replace hx383_0 := (HB.1.cell (zd w _ hx383_0)).trans hx383_0; replace hx383_1 := (HB.1.cell (zd w _ hx383_1)).trans hx383_1; replace hx383_2 := (HB.1.cell (zd w _ hx383_2)).trans hx383_2; replace hx383_3 := (HB.1.cell (zd w _ hx383_3)).trans hx383_3; replace hx383_4 := (HB.1.cell (zd w _ hx383_4)).trans hx383_4; replace p383 := zw p383; replace q383 := zw q383
        go_wp2_with (first | ((with_reducible refine zq (N := 7) rfl ?_); refine zB ?hg (N := 7) ?hd (cs := #[.int .i64 0, .int .i64 0, .int .i64 0, .int .i64 0, .int .i64 0]) (t := 72) ?hr ?_; (case hd | hg => rfl); (case hr => exact (qK23)); intro gb384 hg w8 hbox hb; replace HO_5 := za (qK75 HO_5.1); have BK384 := za hbox; have GW384 := za qK94; have GE384 := za qK94; replace HB := za qK73; clear hb hbox hg; have hcz9_0 : w8.cell? ⟨gb384, 0, none⟩ = some (.int .i64 0) := (zf BK384.1 0).trans rfl; have hcz9_1 : w8.cell? ⟨gb384, 1, none⟩ = some (.int .i64 0) := (zf BK384.1 1).trans rfl; have hcz9_2 : w8.cell? ⟨gb384, 2, none⟩ = some (.int .i64 0) := (zf BK384.1 2).trans rfl; have hcz9_3 : w8.cell? ⟨gb384, 3, none⟩ = some (.int .i64 0) := (zf BK384.1 3).trans rfl; have hcz9_4 : w8.cell? ⟨gb384, 4, none⟩ = some (.int .i64 0) := (zf BK384.1 4).trans rfl; have hfz9_0 := ze BK384.1 0; have hfz9_1 := ze BK384.1 1; have hfz9_2 := ze BK384.1 2; have hfz9_3 := ze BK384.1 3; have hfz9_4 := ze BK384.1 4) | ((with_reducible refine zr (b := .append) (xs := #[.tmp 25, .tmp 27]) rfl ?_); at_builtin; refine Kd.R_append (Kd.int .i64) (w0 := w) w.heap.size rfl (.tmp 25) (.tmp 27) 32 3 (.int .i64 0) 8 rfl Try.underlying32 info3 rfl (by decide) (by omega) u5 x5_1 x10_1 [.int .i64 x10_1] (fun _ => True) (fun _ => False) rfl (qK23) ?aP (fun _ hk => hk.elim) ?aF ?aO ?aB ?aS ?aL ?_; (case aP => exact rfl); (case aB => exact (qK19 GE384.1)); (case aF => exact (fun _ _ => trivial)); (case aO => exact (qK30)); (case aS => exact (by exact (zX (qK19 GE384.1)))); (case aL => have := LMc7.1; omega); intro v386 w10 ho hb hg hat; rw [← Ny385.1] at ho; replace BK384 := za (blk_grown (g := gb384) (o := .cells #[.int .i64 ((rd_T72 l0 x10_1).f0), .int .i64 ((rd_T72 l0 x10_1).f1), .int .i64 ((rd_T72 l0 x10_1).f2), .int .i64 ((rd_T72 l0 x10_1).f3), .int .i64 ((rd_T72 l0 x10_1).f4)] 72 (0, 0)) (qK28) hg (Kd.R_ne HO_5.1 BK384.1 (by decide))); replace HB := za hb; have HO387 := za ho; clear HO_5; clear ho hb hg hat))
        go_roundg k1
        case measure => have := HK1.1; omega
        case rel => exact ⟨(y385), (wrap64 (x10_1 + 1)), (qK10), H', ⟨by have := HK1.1; omega⟩, ⟨(qK1 HO387.1)⟩, ⟨(qK19 GE384.1)⟩⟩
       ·rw [yc c7] at H
        exact absurd H (by simp)
      ·rw [yc c6] at H; have c6b0 : (((rd_T72 l0 x10_1).f0) == a1) = false := zx c6; have c6b1 : (((rd_T72 l0 x10_1).f0) != a1) = true := zU c6
       by_cases c11 : ((rd_T72 l0 x10_1).f1) = a1
       ·rw [yb c11] at H; have c11b0 : (((rd_T72 l0 x10_1).f1) == a1) = true := zT c11; have c11b1 : (((rd_T72 l0 x10_1).f1) != a1) = false := zy c11; clear c11
        by_cases c12 : x5_1.length < 17592186044416
        ·rw [yb c12] at H; have LMc12 := za c12; clear c12; obtain ⟨y388, hy388⟩ : ∃ y_ : List Int, y_ = (x5_1 ++ [x10_1]) := ⟨_, rfl⟩; replace H : (impl_legsAt.l0 k1 a1 y388 l0 (l0.length : Int) (wrap64 (x10_1 + 1))) = some r := (qK4 hy388); have Ny388 := za hy388; clear hy388; have H' := za H; clear H; have p383 : 0 ≤ (x10_1 : Int) := zb (qK7); have q383 : x10_1 < (l0.length : Int) := zb (qK7); obtain ⟨ad383, e383, hx383_0, hx383_1, hx383_2, hx383_3, hx383_4⟩ := at_T72 HR0.1 x10_1 p383 q383; cases e383; replace hx383_0 := (HB.1.cell (zd w _ hx383_0)).trans hx383_0; replace hx383_1 := (HB.1.cell (zd w _ hx383_1)).trans hx383_1; replace hx383_2 := (HB.1.cell (zd w _ hx383_2)).trans hx383_2; replace hx383_3 := (HB.1.cell (zd w _ hx383_3)).trans hx383_3; replace hx383_4 := (HB.1.cell (zd w _ hx383_4)).trans hx383_4; replace p383 := zw p383; replace q383 := zw q383
         go_wp2_with (first | ((with_reducible refine zq (N := 7) rfl ?_); refine zB ?hg (N := 7) ?hd (cs := #[.int .i64 0, .int .i64 0, .int .i64 0, .int .i64 0, .int .i64 0]) (t := 72) ?hr ?_; (case hd | hg => rfl); (case hr => exact (qK23)); intro gb384 hg w13 hbox hb; replace HO_5 := za (qK75 HO_5.1); have BK384 := za hbox; have GW384 := za qK94; have GE384 := za qK94; replace HB := za qK73; clear hb hbox hg; have hcz14_0 : w13.cell? ⟨gb384, 0, none⟩ = some (.int .i64 0) := (zf BK384.1 0).trans rfl; have hcz14_1 : w13.cell? ⟨gb384, 1, none⟩ = some (.int .i64 0) := (zf BK384.1 1).trans rfl; have hcz14_2 : w13.cell? ⟨gb384, 2, none⟩ = some (.int .i64 0) := (zf BK384.1 2).trans rfl; have hcz14_3 : w13.cell? ⟨gb384, 3, none⟩ = some (.int .i64 0) := (zf BK384.1 3).trans rfl; have hcz14_4 : w13.cell? ⟨gb384, 4, none⟩ = some (.int .i64 0) := (zf BK384.1 4).trans rfl; have hfz14_0 := ze BK384.1 0; have hfz14_1 := ze BK384.1 1; have hfz14_2 := ze BK384.1 2; have hfz14_3 := ze BK384.1 3; have hfz14_4 := ze BK384.1 4) | ((with_reducible refine zr (b := .append) (xs := #[.tmp 25, .tmp 27]) rfl ?_); at_builtin; refine Kd.R_append (Kd.int .i64) (w0 := w) w.heap.size rfl (.tmp 25) (.tmp 27) 32 3 (.int .i64 0) 8 rfl Try.underlying32 info3 rfl (by decide) (by omega) u5 x5_1 x10_1 [.int .i64 x10_1] (fun _ => True) (fun _ => False) rfl (qK23) ?aP (fun _ hk => hk.elim) ?aF ?aO ?aB ?aS ?aL ?_; (case aP => exact rfl); (case aB => exact (qK19 GE384.1)); (case aF => exact (fun _ _ => trivial)); (case aO => exact (qK30)); (case aS => exact (by exact (zX (qK19 GE384.1)))); (case aL => have := LMc12.1; omega); intro v389 w15 ho hb hg hat; rw [← Ny388.1] at ho; replace BK384 := za (blk_grown (g := gb384) (o := .cells #[.int .i64 ((rd_T72 l0 x10_1).f0), .int .i64 ((rd_T72 l0 x10_1).f1), .int .i64 ((rd_T72 l0 x10_1).f2), .int .i64 ((rd_T72 l0 x10_1).f3), .int .i64 ((rd_T72 l0 x10_1).f4)] 72 (0, 0)) (qK28) hg (Kd.R_ne HO_5.1 BK384.1 (by decide))); replace HB := za hb; have HO390 := za ho; clear HO_5; clear ho hb hg hat))
         go_roundg k1
         case measure => have := HK1.1; omega
         case rel => exact ⟨(y388), (wrap64 (x10_1 + 1)), (qK10), H', ⟨by have := HK1.1; omega⟩, ⟨(qK1 HO390.1)⟩, ⟨(qK19 GE384.1)⟩⟩
        ·rw [yc c12] at H
         exact absurd H (by simp)
       ·rw [yc c11] at H; have c11b0 : (((rd_T72 l0 x10_1).f1) == a1) = false := zx c11; have c11b1 : (((rd_T72 l0 x10_1).f1) != a1) = true := zU c11; have H' := za H; clear H; have p383 : 0 ≤ (x10_1 : Int) := zb (qK7); have q383 : x10_1 < (l0.length : Int) := zb (qK7); obtain ⟨ad383, e383, hx383_0, hx383_1, hx383_2, hx383_3, hx383_4⟩ := at_T72 HR0.1 x10_1 p383 q383; cases e383; replace hx383_0 := (HB.1.cell (zd w _ hx383_0)).trans hx383_0; replace hx383_1 := (HB.1.cell (zd w _ hx383_1)).trans hx383_1; replace hx383_2 := (HB.1.cell (zd w _ hx383_2)).trans hx383_2; replace hx383_3 := (HB.1.cell (zd w _ hx383_3)).trans hx383_3; replace hx383_4 := (HB.1.cell (zd w _ hx383_4)).trans hx383_4; replace p383 := zw p383; replace q383 := zw q383
        go_wp2_with (first | ((with_reducible refine zq (N := 7) rfl ?_); refine zB ?hg (N := 7) ?hd (cs := #[.int .i64 0, .int .i64 0, .int .i64 0, .int .i64 0, .int .i64 0]) (t := 72) ?hr ?_; (case hd | hg => rfl); (case hr => exact (qK23)); intro gb384 hg w16 hbox hb; replace HO_5 := za (qK75 HO_5.1); have BK384 := za hbox; have GW384 := za qK94; have GE384 := za qK94; replace HB := za qK73; clear hb hbox hg; have hcz17_0 : w16.cell? ⟨gb384, 0, none⟩ = some (.int .i64 0) := (zf BK384.1 0).trans rfl; have hcz17_1 : w16.cell? ⟨gb384, 1, none⟩ = some (.int .i64 0) := (zf BK384.1 1).trans rfl; have hcz17_2 : w16.cell? ⟨gb384, 2, none⟩ = some (.int .i64 0) := (zf BK384.1 2).trans rfl; have hcz17_3 : w16.cell? ⟨gb384, 3, none⟩ = some (.int .i64 0) := (zf BK384.1 3).trans rfl; have hcz17_4 : w16.cell? ⟨gb384, 4, none⟩ = some (.int .i64 0) := (zf BK384.1 4).trans rfl; have hfz17_0 := ze BK384.1 0; have hfz17_1 := ze BK384.1 1; have hfz17_2 := ze BK384.1 2; have hfz17_3 := ze BK384.1 3; have hfz17_4 := ze BK384.1 4))
        go_roundg k1
        case measure => have := HK1.1; omega
        case rel => exact ⟨(x5_1), (wrap64 (x10_1 + 1)), (qK10), H', ⟨by have := HK1.1; omega⟩, ⟨(qK30)⟩, ⟨(qK19 GE384.1)⟩⟩
     ·rw [yc c5] at H
      exact absurd H (by simp)
    ·rw [yc c4] at H
     exact absurd H (by simp)
   ·rw [yc c3] at H; have c3b0 : decide (x10_1 < (l0.length : Int)) = false := zv c3; clear c3; obtain rfl := zm H
    go_wp2
    go_ret
    exact ⟨_, (qK11), (qK1 HO_5.1), (qK0)⟩

-- NOT PRINTED: function 73 (slices_IndexFunc_int_int_73)

-- NOT PRINTED: function 51 (slices_ContainsFunc_int_int_51)

def slices_Index_int_int.l0 : Nat → List Int → Int → Int → Int → Option (Int)
 | 0, _, _, _, _ => none
 | k + 1, x0, x1, x7, x8 => if x8 < x7 then (if 0 ≤ x8 then (if x8 < (x0.length : Int) then (if x1 = (rd x0 x8) then (some x8) else (slices_Index_int_int.l0 k x0 x1 x7 (wrap64 (x8 + 1)))) else (none)) else (none)) else (some (-1))
def slices_Index_int_int.f (k : Nat) (l0 : List Int) (a1 : Int) : Option (Int) := slices_Index_int_int.l0 k l0 a1 (l0.length : Int) 0
theorem slices_Index_int_int.calls (k : Nat) (A0 : Option Addr) (c0 : Nat) (l0 : List Int) (a1 : Int) (r : Int) (w : World) (hr0 : Kd.C (Kd.int .i64) w A0 l0.length l0) (hc0 : l0.length ≤ c0) (h : slices_Index_int_int.f k l0 a1 = some r) :
  Calls Try.prog 75 #[.slice A0 l0.length c0, .int .i64 a1] w fun e w' => e = .returned (.int .i64 r) ∧ Drawn0 w w' := by
 have HR0 := za hr0; have HC0 := za hc0; clear hr0 hc0; have H : (slices_Index_int_int.l0 k l0 a1 (l0.length : Int) 0) = some r := h; clear h; have H' := za H; clear H
 go_enter Try.func75, Try.ntmps75
 go_wp2
 go_loopg [8] k (fun kq v8 w' => ∃ (x8_1 : Int), v8 = .int .i64 x8_1 ∧ Aside0 (slices_Index_int_int.l0 kq l0 a1 (l0.length : Int) x8_1 = some r) ∧ Aside0 (kq ≤ k) ∧ Drawn0 w w')
 case atStart => exact ⟨(0), (qK10), H', ⟨zo _⟩, (qK24)⟩
 case round =>
  clear H'; (try clear p2); obtain ⟨x8_1, rfl, HA, HK1, ⟨m1, rfl⟩⟩ := hrel
  cases gk with
  | zero => exact absurd HA.1 (by simp [slices_Index_int_int.l0])
  | succ k1 =>
   have H := HA.1; clear HA; simp only [slices_Index_int_int.l0] at H
   by_cases c3 : x8_1 < (l0.length : Int)
   ·rw [yb c3] at H; have c3b0 : decide (x8_1 < (l0.length : Int)) = true := zc c3; clear c3
    by_cases c4 : 0 ≤ x8_1
    ·rw [yb c4] at H; have c4b0 : decide (0 ≤ x8_1) = true := zc c4; clear c4
     by_cases c5 : x8_1 < (l0.length : Int)
     ·rw [yb c5] at H; have c5b0 : decide (x8_1 < (l0.length : Int)) = true := zc c5; clear c5
      by_cases c6 : a1 = (rd l0 x8_1)
      ·rw [yb c6] at H; have c6b0 : (a1 == (rd l0 x8_1)) = true := zT c6; have c6b1 : (a1 != (rd l0 x8_1)) = false := zy c6; clear c6; obtain rfl := zm H; have p391 : 0 ≤ (x8_1 : Int) := zb (qK7); have q391 : x8_1 < (l0.length : Int) := zb (qK7); obtain ⟨ad391, e391, hx391_0⟩ := zJ HR0.1 x8_1 p391 q391; cases e391; replace p391 := zw p391; replace q391 := zw q391
       go_wp2
       go_ret
       exact ⟨(qK10), (qK24)⟩
      ·rw [yc c6] at H; have c6b0 : (a1 == (rd l0 x8_1)) = false := zx c6; have c6b1 : (a1 != (rd l0 x8_1)) = true := zU c6; have H' := za H; clear H; have p391 : 0 ≤ (x8_1 : Int) := zb (qK7); have q391 : x8_1 < (l0.length : Int) := zb (qK7); obtain ⟨ad391, e391, hx391_0⟩ := zJ HR0.1 x8_1 p391 q391; cases e391; replace p391 := zw p391; replace q391 := zw q391
       go_wp2
       go_roundg k1
       case measure => have := HK1.1; omega
       case rel => exact ⟨(wrap64 (x8_1 + 1)), (qK10), H', ⟨by have := HK1.1; omega⟩, (qK24)⟩
     ·rw [yc c5] at H
      exact absurd H (by simp)
    ·rw [yc c4] at H
     exact absurd H (by simp)
   ·rw [yc c3] at H; have c3b0 : decide (x8_1 < (l0.length : Int)) = false := zv c3; clear c3; obtain rfl := zm H
    go_wp2
    go_ret
    exact ⟨(qK10), (qK24)⟩

def slices_Contains_int_int.f (k : Nat) (l0 : List Int) (a1 : Int) : Option (Bool) := (slices_Index_int_int.f k l0 a1).bind fun t392 => (some (decide (t392 ≥ 0)))
theorem slices_Contains_int_int.calls (k : Nat) (A0 : Option Addr) (c0 : Nat) (l0 : List Int) (a1 : Int) (r : Bool) (w : World) (hr0 : Kd.C (Kd.int .i64) w A0 l0.length l0) (hc0 : l0.length ≤ c0) (h : slices_Contains_int_int.f k l0 a1 = some r) :
  Calls Try.prog 62 #[.slice A0 l0.length c0, .int .i64 a1] w fun e w' => e = .returned (.bool r) ∧ Drawn0 w w' := by
 have HR0 := za hr0; have HC0 := za hc0; clear hr0 hc0; have H : ((slices_Index_int_int.f k l0 a1).bind fun t392 => (some (decide (t392 ≥ 0)))) = some r := h; clear h; replace H := zC H; obtain ⟨t392, A30, H⟩ := H; replace H : (some (decide (t392 ≥ 0))) = some r := H; have A3 := za A30; clear A30; obtain rfl := zm H
 go_enter Try.func62, Try.ntmps62
 go_wp2_with (first | ((with_reducible refine zp (f := 75) rfl ?_); refine zV (some 7) rfl rfl Try.func75 (qK25) rfl #[.slice A0 l0.length c0, .int .i64 a1] rfl (qK2) ?_; (with_reducible refine (slices_Index_int_int.calls k _ _ l0 a1 t392 _ ?s1 ?s2 A3.1).mono ?_); (case s1 => exact (qK21 HR0.1)); (case s2 => exact HC0.1); rintro e w' ⟨rfl, ⟨nd, rfl⟩⟩; refine ⟨_, rfl, ?_⟩))
 go_ret
 exact ⟨(qK10), (qK24)⟩

def impl_has.f (k : Nat) (l0 : List Int) (a1 : Int) : Option (Bool) := (slices_Contains_int_int.f k l0 a1).bind fun t393 => (some t393)
theorem impl_has.calls (k : Nat) (A0 : Option Addr) (c0 : Nat) (l0 : List Int) (a1 : Int) (r : Bool) (w : World) (hr0 : Kd.C (Kd.int .i64) w A0 l0.length l0) (hc0 : l0.length ≤ c0) (h : impl_has.f k l0 a1 = some r) :
  Calls Try.prog 41 #[.slice A0 l0.length c0, .int .i64 a1] w fun e w' => e = .returned (.bool r) ∧ Drawn0 w w' := by
 have HR0 := za hr0; have HC0 := za hc0; clear hr0 hc0; have H : ((slices_Contains_int_int.f k l0 a1).bind fun t393 => (some t393)) = some r := h; clear h; replace H := zC H; obtain ⟨t393, A30, H⟩ := H; replace H : (some t393) = some r := H; have A3 := za A30; clear A30; obtain rfl := zm H
 go_enter Try.func41, Try.ntmps41
 go_wp2_with (first | ((with_reducible refine zp (f := 62) rfl ?_); refine zV (some 7) rfl rfl Try.func62 (qK25) rfl #[.slice A0 l0.length c0, .int .i64 a1] rfl (qK2) ?_; (with_reducible refine (slices_Contains_int_int.calls k _ _ l0 a1 t393 _ ?s1 ?s2 A3.1).mono ?_); (case s1 => exact (qK21 HR0.1)); (case s2 => exact HC0.1); rintro e w' ⟨rfl, ⟨nd, rfl⟩⟩; refine ⟨_, rfl, ?_⟩))
 go_ret
 exact ⟨(qK10), (qK24)⟩

-- NOT PRINTED: function 52 (impl_caves_1)

def arrOf (B : List Bool) : Array Value := (B.map Value.bool).toArray
def reachStep (l0 : List S72) (l1 : List Int) (width : Int) (i : Nat) (B : List Bool) : List Bool :=
 if (decide (width ≤ l1.getD i 0) && (B.getD (l0.getD i z72).f0.toNat false != B.getD (l0.getD i z72).f1.toNat false)) = true then (B.set (l0.getD i z72).f0.toNat true).set (l0.getD i z72).f1.toNat true else B
def reachPass (l0 : List S72) (l1 : List Int) (width : Int) : Nat → Nat → List Bool → List Bool
 | 0, _, B => B
 | d + 1, i, B => reachPass l0 l1 width d (i + 1) (reachStep l0 l1 width i B)
def reachAll (l0 : List S72) (l1 : List Int) (width : Int) : Nat → List Bool → List Bool
 | 0, B => B
 | m + 1, B => reachAll l0 l1 width m (reachPass l0 l1 width l0.length 0 B)
def reachOk (l0 : List S72) (l1 : List Int) (from_ : Int) : Bool := decide (l0.length ≤ l1.length) && (decide (0 ≤ from_ ∧ from_ ≤ 7) && l0.all (fun x => decide (0 ≤ x.f0 ∧ x.f0 ≤ 7) && decide (0 ≤ x.f1 ∧ x.f1 ≤ 7)))
def impl_reach.f (l0 : List S72) (l1 : List Int) (a2 a3 : Int) : Option (List Bool) := if reachOk l0 l1 a2 = true then some (reachAll l0 l1 a3 l0.length ((List.replicate 8 false).set a2.toNat true)) else none
theorem arrOf_set (B : List Bool) (i : Nat) (v : Bool) : (arrOf B).setIfInBounds i (.bool v) = arrOf (B.set i v) := by
 unfold arrOf
 rw [yf, List.map_set]
theorem arrOf_get {B : List Bool} {i : Nat} (h : i < B.length) : (arrOf B)[i]? = some (.bool (B.getD i false)) := by
 simp [arrOf, List.getD_eq_getElem?_getD, List.getElem?_eq_getElem h]
theorem reachStep_length (l0 : List S72) (l1 : List Int) (width : Int) (i : Nat) (B : List Bool) : (reachStep l0 l1 width i B).length = B.length := by
 unfold reachStep
 split <;> simp
theorem reachPass_length (l0 : List S72) (l1 : List Int) (width : Int) : ∀ d i B, (reachPass l0 l1 width d i B).length = B.length
 | 0, _, _ => rfl
 | d + 1, i, B => by
  simp only [reachPass]; rw [reachPass_length l0 l1 width d (i + 1), reachStep_length]
theorem reach_yes {l0 : List S72} {l1 : List Int} {a3 y : Int} {B : List Bool} (h0 : 0 ≤ y) (hl : y < l0.length) (hm : l0.length ≤ 9223372036854775807) (hw : rd l1 y ≥ a3) (hst : B.getD (rd_T72 l0 y).f0.toNat false ≠ B.getD (rd_T72 l0 y).f1.toNat false) (k : Nat) :
  reachPass l0 l1 a3 (k + 1) y.toNat B = reachPass l0 l1 a3 k (wrap64 (y + 1)).toNat ((B.set (rd_T72 l0 y).f0.toNat true).set (rd_T72 l0 y).f1.toNat true) := by
 have e : (wrap64 (y + 1)).toNat = y.toNat + 1 := by unfold wrap64; omega
 rw [e]
 show reachPass l0 l1 a3 k (y.toNat + 1) (reachStep l0 l1 a3 y.toNat B) = _
 congr 1
 unfold reachStep
 rw [yb]
 ·rfl
 ·rw [Bool.and_eq_true]
  exact ⟨zc hw, bne_iff_ne.2 hst⟩
theorem reach_no {l0 : List S72} {l1 : List Int} {a3 y : Int} {B : List Bool} (h0 : 0 ≤ y) (hl : y < l0.length) (hm : l0.length ≤ 9223372036854775807) (hn : ¬ (rd l1 y ≥ a3 ∧ B.getD (rd_T72 l0 y).f0.toNat false ≠ B.getD (rd_T72 l0 y).f1.toNat false)) (k : Nat) :
  reachPass l0 l1 a3 (k + 1) y.toNat B = reachPass l0 l1 a3 k (wrap64 (y + 1)).toNat B := by
 have e : (wrap64 (y + 1)).toNat = y.toNat + 1 := by unfold wrap64; omega
 rw [e]
 show reachPass l0 l1 a3 k (y.toNat + 1) (reachStep l0 l1 a3 y.toNat B) = _
 congr 1
 unfold reachStep
 rw [yc]; intro h; rw [Bool.and_eq_true] at h
 exact hn ⟨zb h.1, bne_iff_ne.1 h.2⟩
theorem impl_reach.calls (A0 : Option Addr) (c0 : Nat) (l0 : List S72) (A1 : Option Addr) (c1 : Nat) (l1 : List Int) (a2 a3 : Int) (r : List Bool) (w : World) (hr0 : Kd.C k72 w A0 l0.length l0) (hc0 : l0.length ≤ c0) (hr1 : Kd.C (Kd.int .i64) w A1 l1.length l1) (hc1 : l1.length ≤ c1) (h : impl_reach.f l0 l1 a2 a3 = some r) :
  Calls Try.prog 53 #[.slice A0 l0.length c0, .slice A1 l1.length c1, .int .i64 a2, .int .i64 a3] w fun e w' => e = .returned (.agg (arrOf r)) ∧ Below w.heap.size w w' := by
 have huL := Try.underlying72; have hu84 := Try.underlying77; have hu4 := Try.underlying4
 unfold impl_reach.f at h
 by_cases hok : reachOk l0 l1 a2 = true
 case neg => rw [yc hok] at h; cases h
 rw [yb hok] at h; have hr := zm h; clear h; simp only [reachOk, Bool.and_eq_true, decide_eq_true_eq, List.all_eq_true] at hok; obtain ⟨hlen, ⟨hf0, hf7⟩, hall⟩ := hok
 have HALL : Aside0 (∀ i, i < l0.length → (0 ≤ (l0.getD i z72).f0 ∧ (l0.getD i z72).f0 ≤ 7) ∧ (0 ≤ (l0.getD i z72).f1 ∧ (l0.getD i z72).f1 ≤ 7)) := ⟨fun i hi => by
  have := hall _ (List.getElem_mem hi)
  simpa [List.getD_eq_getElem?_getD, List.getElem?_eq_getElem hi] using this⟩
 clear hall; have HLEN := za hlen; have HR0 := za hr0; have HR1 := za hr1; have HM := za hr0.2.1; obtain ⟨B0, hB0⟩ : ∃ B0 : List Bool, B0 = (List.replicate 8 false).set a2.toNat true := ⟨_, rfl⟩; rw [← hB0] at hr; have HRES := za hr
 have HB0 : Aside0 (B0.length = 8 ∧ ([.bool false, .bool false, .bool false, .bool false, .bool false, .bool false, .bool false, .bool false].set a2.toNat (.bool true) : List Value).toArray = arrOf B0) := ⟨by rw [hB0]; simp, by
  rw [hB0]
  unfold arrOf
  rw [List.map_set]
  rfl⟩
 clear hr hlen hr0 hr1 hc0 hc1 hB0; have p0 := zw hf0
 have q0 : a2 < 8 := by omega
 have hf7' := za hf7; clear hf7
 go_enter Try.func53, Try.ntmps53
 go_wp2
  
 rw [HB0.1.2]
 go_loopg [16] l0.length (fun kq v16 w' => ∃ (x : Int) (B : List Bool), v16 = .int .i64 x ∧ Aside0 (0 ≤ x ∧ kq + x.toNat = l0.length ∧ B.length = 8 ∧ reachAll l0 l1 a3 kq B = r) ∧ Aside0 (w'.heap[w.heap.size + 1]? = some (.cells (arrOf B) 77 (0, 0))) ∧ Aside0 (w'.heap[w.heap.size]? = some (.cells #[.bool false, .bool false, .bool false, .bool false, .bool false, .bool false, .bool false, .bool false] 77 (0, 0))) ∧ Aside0 (Below w.heap.size w w'))
 case atStart =>
  refine ⟨0, B0, rfl, ⟨by omega, by simp, HB0.1.1, HRES.1⟩, ⟨?_⟩, ⟨?_⟩, ⟨?_⟩⟩
  ·exact heap_alloc2_new _ _ _
  ·exact zg (blk_new w _) _
  ·exact zZ (zZ (zs _ _) _) _
 case round =>
  obtain ⟨x, B, rfl, HA, HK1, HK0, HB⟩ := hrel
  by_cases hlt : x < (l0.length : Int)
  ·have c0 : decide (x < (l0.length : Int)) = true := zc hlt; have HLT := za hlt; clear hlt; obtain ⟨k1, rfl⟩ : ∃ k1, gk = k1 + 1 := ⟨gk - 1, by have := HA.1; have := HLT.1; omega⟩; obtain ⟨wo, rfl⟩ : ∃ wo : World, wo = wr := ⟨_, rfl⟩
   go_wp2
   go_loopg [20] l0.length (fun kq v20 w' => ∃ (y : Int) (B' : List Bool), v20 = .int .i64 y ∧ Aside0 (0 ≤ y ∧ kq + y.toNat = l0.length ∧ B'.length = 8 ∧ reachPass l0 l1 a3 kq y.toNat B' = reachPass l0 l1 a3 l0.length 0 B) ∧ Aside0 (w'.heap[w.heap.size + 1]? = some (.cells (arrOf B') 77 (0, 0))) ∧ Aside0 (w'.heap[w.heap.size]? = some (.cells #[.bool false, .bool false, .bool false, .bool false, .bool false, .bool false, .bool false, .bool false] 77 (0, 0))) ∧ Aside0 (Below w.heap.size w w'))
   case atStart => exact ⟨0, B, rfl, ⟨by omega, by simp, HA.1.2.2.1, rfl⟩, HK1, HK0, HB⟩
   case round =>
    obtain ⟨y, B', rfl, HA2, HK1', HK0', HB'⟩ := hrel
    by_cases hlt2 : y < (l0.length : Int)
    ·have d0 : decide (y < (l0.length : Int)) = true := zc hlt2; have HLT2 := za hlt2; obtain ⟨ad, e, hx0, hx1, hx2, hx3, hx4⟩ := at_T72 (zG HR0.1 HB'.1) y HA2.1.1 hlt2; cases e; obtain ⟨ad1, e1, hy⟩ := zJ (zG HR1.1 HB'.1) y HA2.1.1 (by have := HLEN.1; omega); cases e1
     have hq1 : y < (l1.length : Int) := by have := HLEN.1; omega
     have py := zw HA2.1.1; have qy := zw hlt2; have qy1 := zw hq1; clear hlt2 hq1; obtain ⟨k2, rfl⟩ : ∃ k2, gk = k2 + 1 := ⟨gk - 1, by have := HA2.1; have := HLT2.1; omega⟩; have HXB := za (HALL.1 y.toNat (by have := HA2.1; have := HLT2.1; omega)); obtain ⟨a, ha⟩ : ∃ a : Int, a = (rd_T72 l0 y).f0 := ⟨_, rfl⟩; obtain ⟨b, hb⟩ : ∃ b : Int, b = (rd_T72 l0 y).f1 := ⟨_, rfl⟩; rw [← ha] at hx0; rw [← hb] at hx1; have HAB : Aside0 ((0 ≤ a ∧ a ≤ 7) ∧ (0 ≤ b ∧ b ≤ 7)) := ⟨by rw [ha, hb]; exact HXB.1⟩; have NA := za ha; have NB := za hb; clear ha hb; have pa := zw HAB.1.1.1; have pb := zw HAB.1.2.1; have qa : (a < 8) = True := zw (by have := HAB.1; omega); have qb : (b < 8) = True := zw (by have := HAB.1; omega)
     by_cases hw : rd l1 y ≥ a3
     ·have w0 : decide (rd l1 y ≥ a3) = true := zc hw; have w1 : decide (a3 ≤ rd l1 y) = true := zc hw; have HW := za hw; clear hw; have ha7 : wr.cell? ⟨w.heap.size + 1, a.toNat, none⟩ = some (.bool (B'.getD a.toNat false)) := (zf HK1'.1 _).trans (arrOf_get (by have := HAB.1; have := HA2.1; omega)); have hb7 : wr.cell? ⟨w.heap.size + 1, b.toNat, none⟩ = some (.bool (B'.getD b.toNat false)) := (zf HK1'.1 _).trans (arrOf_get (by have := HAB.1; have := HA2.1; omega)); have hgl : w.heap.size + 1 < wr.heap.size := blk_lt HK1'.1; obtain ⟨s, hs⟩ : ∃ s : Bool, s = B'.getD a.toNat false := ⟨_, rfl⟩; obtain ⟨t, ht⟩ : ∃ t : Bool, t = B'.getD b.toNat false := ⟨_, rfl⟩; rw [← hs] at ha7; rw [← ht] at hb7; have NS := za hs; have NT := za ht; clear hs ht; have AL : ∀ (o : Obj) (p : Addr) (v : Value), wr.cell? p = some v → (wr.alloc o).cell? p = some v := fun o p v h => ((zZ (zs wr.heap.size wr) o).cell (zd wr _ h)).trans h; have hy' := AL (.cells #[.int .i64 a, .int .i64 b, .int .i64 (rd_T72 l0 y).f2, .int .i64 (rd_T72 l0 y).f3, .int .i64 (rd_T72 l0 y).f4] 72 (0, 0)) _ _ hy; have ha8 := AL (.cells #[.int .i64 a, .int .i64 b, .int .i64 (rd_T72 l0 y).f2, .int .i64 (rd_T72 l0 y).f3, .int .i64 (rd_T72 l0 y).f4] 72 (0, 0)) _ _ ha7; have hb8 := AL (.cells #[.int .i64 a, .int .i64 b, .int .i64 (rd_T72 l0 y).f2, .int .i64 (rd_T72 l0 y).f3, .int .i64 (rd_T72 l0 y).f4] 72 (0, 0)) _ _ hb7; clear AL
      by_cases hst : s = t
      ·have NST := za hst; subst hst
       go_wp2
       go_quiet (fail)
       go_wp2
       go_roundg k2
       case measure => omega
       case rel => exact ⟨wrap64 (y + 1), B', rfl, ⟨by have := HA2.1; have := HLT2.1; have := HM.1; unfold wrap64; omega, by have := HA2.1; have := HLT2.1; have := HM.1; unfold wrap64; omega, HA2.1.2.2.1, by rw [← HA2.1.2.2.2, reach_no HA2.1.1 HLT2.1 HM.1 (fun h => h.2 (by rw [← NA.1, ← NB.1, ← NS.1, ← NT.1]))]⟩, ⟨zh (zg HK1'.1 _) _⟩, ⟨zh (zg HK0'.1 _) _⟩, ⟨pw_below_drewN (zZ HB'.1 _) _⟩⟩
      ·have hst' : (s != t) = true := bne_iff_ne.2 hst; have NST := za hst; clear hst
       have hst2 : (s == t) = false := by simpa using hst'
       have hne : ¬ a.toNat = b.toNat := fun h => NST.1 (by rw [NS.1, NT.1, h]); have hne' : ¬ b.toNat = a.toNat := fun h => hne h.symm; have hfa : (wr.alloc (.cells #[.int .i64 a, .int .i64 b, .int .i64 (rd_T72 l0 y).f2, .int .i64 (rd_T72 l0 y).f3, .int .i64 (rd_T72 l0 y).f4] 72 (0, 0))).frozen? ⟨w.heap.size + 1, a.toNat, none⟩ = false := ze (zg HK1'.1 _) _; have hfb : (wr.alloc (.cells #[.int .i64 a, .int .i64 b, .int .i64 (rd_T72 l0 y).f2, .int .i64 (rd_T72 l0 y).f3, .int .i64 (rd_T72 l0 y).f4] 72 (0, 0))).frozen? ⟨w.heap.size + 1, b.toNat, none⟩ = false := ze (zg HK1'.1 _) _
       go_wp2
       go_quiet (fail)
       go_wp2
              
       go_region
       all_goals go_wp2
       all_goals go_roundg k2
       all_goals first | (show _ < _; omega) | exact ⟨wrap64 (y + 1), (B'.set a.toNat true).set b.toNat true, rfl, ⟨by have := HA2.1; have := HLT2.1; have := HM.1; unfold wrap64; omega, by have := HA2.1; have := HLT2.1; have := HM.1; unfold wrap64; omega, by simpa using HA2.1.2.2.1, by rw [← HA2.1.2.2.2, reach_yes HA2.1.1 HLT2.1 HM.1 (by have := HW.1; omega) (fun h => NST.1 (by rw [NS.1, NT.1, NA.1, NB.1, h])), NA.1, NB.1]⟩, ⟨by rw [← arrOf_set, ← arrOf_set]; exact blk_set (blk_set (zh (zg HK1'.1 _) _) _ _) _ _⟩, ⟨zk (p := ⟨w.heap.size + 1, b.toNat, none⟩) (zk (p := ⟨w.heap.size + 1, a.toNat, none⟩) (zh (zg HK0'.1 _) _) (Nat.ne_of_lt (Nat.lt_succ_self _)) _) (Nat.ne_of_lt (Nat.lt_succ_self _)) _⟩, ⟨((pw_below_drewN (zZ HB'.1 _) _).setCell (p := ⟨w.heap.size + 1, a.toNat, none⟩) (Nat.le_succ _) _).setCell (p := ⟨w.heap.size + 1, b.toNat, none⟩) (Nat.le_succ _) _⟩⟩
     ·have w0 : decide (rd l1 y ≥ a3) = false := zv hw; have w1 : decide (a3 ≤ rd l1 y) = false := zv hw; have HW := za hw; clear hw; have AL : ∀ (o : Obj) (p : Addr) (v : Value), wr.cell? p = some v → (wr.alloc o).cell? p = some v := fun o p v h => ((zZ (zs wr.heap.size wr) o).cell (zd wr _ h)).trans h; have hy' := AL (.cells #[.int .i64 a, .int .i64 b, .int .i64 (rd_T72 l0 y).f2, .int .i64 (rd_T72 l0 y).f3, .int .i64 (rd_T72 l0 y).f4] 72 (0, 0)) _ _ hy; clear AL
      go_wp2
      go_quiet (fail)
      go_wp2
      go_roundg k2
      case measure => omega
      case rel => exact ⟨wrap64 (y + 1), B', rfl, ⟨by have := HA2.1; have := HLT2.1; have := HM.1; unfold wrap64; omega, by have := HA2.1; have := HLT2.1; have := HM.1; unfold wrap64; omega, HA2.1.2.2.1, by rw [← HA2.1.2.2.2, reach_no HA2.1.1 HLT2.1 HM.1 (fun h => absurd h.1 (by have := HW.1; omega))]⟩, ⟨zh (zg HK1'.1 _) _⟩, ⟨zh (zg HK0'.1 _) _⟩, ⟨pw_below_drewN (zZ HB'.1 _) _⟩⟩
    ·have d0 : decide (y < (l0.length : Int)) = false := zv hlt2; have HLT2 := za hlt2; clear hlt2
     go_wp2
          
     go_roundg k1
     case measure => omega
     case rel =>
      obtain rfl : gk = 0 := by have := HA2.1; have := HLT2.1; omega
      refine ⟨wrap64 (x + 1), B', rfl, ⟨by have := HA.1; have := HLT.1; have := HM.1; unfold wrap64; omega, by have := HA.1; have := HLT.1; have := HM.1; unfold wrap64; omega, HA2.1.2.2.1, ?_⟩, HK1', HK0', HB'⟩
      rw [← HA.1.2.2.2]
      show _ = reachAll l0 l1 a3 k1 (reachPass l0 l1 a3 l0.length 0 B)
      rw [← HA2.1.2.2.2]
      rfl
  ·have d0 : decide (x < (l0.length : Int)) = false := zv hlt; have HLT := za hlt; clear hlt
   obtain rfl : gk = 0 := by have := HA.1; have := HLT.1; omega
   obtain rfl : B = r := HA.1.2.2.2
   obtain ⟨b0, b1, b2, b3, b4, b5, b6, b7, hb8⟩ : ∃ b0 b1 b2 b3 b4 b5 b6 b7, B = [b0, b1, b2, b3, b4, b5, b6, b7] := by
    have h8 := HA.1.2.2.1
    match B, h8 with
    | [b0, b1, b2, b3, b4, b5, b6, b7], _ => exact ⟨_, _, _, _, _, _, _, _, rfl⟩
   have HK1c : Aside0 (wr.heap[w.heap.size + 1]? = some (.cells #[.bool b0, .bool b1, .bool b2, .bool b3, .bool b4, .bool b5, .bool b6, .bool b7] 77 (0, 0))) := ⟨HK1.1.trans (by rw [hb8]; rfl)⟩; have HEND : Aside0 (arrOf B = #[.bool b0, .bool b1, .bool b2, .bool b3, .bool b4, .bool b5, .bool b6, .bool b7]) := ⟨by rw [hb8]; rfl⟩; clear hb8; have e0 : wr.cell? ⟨w.heap.size + 1, 0, none⟩ = some (.bool b0) := (zf HK1c.1 0).trans rfl; have e1 : wr.cell? ⟨w.heap.size + 1, 1, none⟩ = some (.bool b1) := (zf HK1c.1 1).trans rfl; have e2 : wr.cell? ⟨w.heap.size + 1, 2, none⟩ = some (.bool b2) := (zf HK1c.1 2).trans rfl; have e3 : wr.cell? ⟨w.heap.size + 1, 3, none⟩ = some (.bool b3) := (zf HK1c.1 3).trans rfl; have e4 : wr.cell? ⟨w.heap.size + 1, 4, none⟩ = some (.bool b4) := (zf HK1c.1 4).trans rfl; have e5 : wr.cell? ⟨w.heap.size + 1, 5, none⟩ = some (.bool b5) := (zf HK1c.1 5).trans rfl; have e6 : wr.cell? ⟨w.heap.size + 1, 6, none⟩ = some (.bool b6) := (zf HK1c.1 6).trans rfl; have e7 : wr.cell? ⟨w.heap.size + 1, 7, none⟩ = some (.bool b7) := (zf HK1c.1 7).trans rfl; have f0 : wr.cell? ⟨w.heap.size, 0, none⟩ = some (.bool false) := (zf HK0.1 0).trans rfl; have f1 : wr.cell? ⟨w.heap.size, 1, none⟩ = some (.bool false) := (zf HK0.1 1).trans rfl; have f2 : wr.cell? ⟨w.heap.size, 2, none⟩ = some (.bool false) := (zf HK0.1 2).trans rfl; have f3 : wr.cell? ⟨w.heap.size, 3, none⟩ = some (.bool false) := (zf HK0.1 3).trans rfl
   have f4 : wr.cell? ⟨w.heap.size, 4, none⟩ = some (.bool false) := (zf HK0.1 4).trans rfl; have f5 : wr.cell? ⟨w.heap.size, 5, none⟩ = some (.bool false) := (zf HK0.1 5).trans rfl; have f6 : wr.cell? ⟨w.heap.size, 6, none⟩ = some (.bool false) := (zf HK0.1 6).trans rfl; have f7 : wr.cell? ⟨w.heap.size, 7, none⟩ = some (.bool false) := (zf HK0.1 7).trans rfl; have g0 : wr.frozen? ⟨w.heap.size, 0, none⟩ = false := ze HK0.1 0; have g1 : wr.frozen? ⟨w.heap.size, 1, none⟩ = false := ze HK0.1 1; have g2 : wr.frozen? ⟨w.heap.size, 2, none⟩ = false := ze HK0.1 2; have g3 : wr.frozen? ⟨w.heap.size, 3, none⟩ = false := ze HK0.1 3; have g4 : wr.frozen? ⟨w.heap.size, 4, none⟩ = false := ze HK0.1 4; have g5 : wr.frozen? ⟨w.heap.size, 5, none⟩ = false := ze HK0.1 5; have g6 : wr.frozen? ⟨w.heap.size, 6, none⟩ = false := ze HK0.1 6; have g7 : wr.frozen? ⟨w.heap.size, 7, none⟩ = false := ze HK0.1 7
   go_wp2
   refine bodyPost_ret (results_cell_row rfl _ _ w.heap.size 77 #[.bool b0, .bool b1, .bool b2, .bool b3, .bool b4, .bool b5, .bool b6, .bool b7] (0, 0) _ rfl ((blk_set (blk_set (blk_set (blk_set (blk_set (blk_set (blk_set (blk_set HK0.1 0 (.bool b0)) 1 (.bool b1)) 2 (.bool b2)) 3 (.bool b3)) 4 (.bool b4)) 5 (.bool b5)) 6 (.bool b6)) 7 (.bool b7)).trans rfl) hu84 rfl (qK25)) rfl ?_
   exact ⟨by rw [HEND.1], ((((((((HB.1).setCell (p := ⟨w.heap.size, 0, none⟩) (zo _) _).setCell (p := ⟨w.heap.size, 1, none⟩) (zo _) _).setCell (p := ⟨w.heap.size, 2, none⟩) (zo _) _).setCell (p := ⟨w.heap.size, 3, none⟩) (zo _) _).setCell (p := ⟨w.heap.size, 4, none⟩) (zo _) _).setCell (p := ⟨w.heap.size, 5, none⟩) (zo _) _).setCell (p := ⟨w.heap.size, 6, none⟩) (zo _) _).setCell (p := ⟨w.heap.size, 7, none⟩) (zo _) _⟩
theorem reachAll_length (l0 : List S72) (l1 : List Int) (width : Int) : ∀ m B, (reachAll l0 l1 width m B).length = B.length
 | 0, _ => rfl
 | m + 1, B => by
  simp only [reachAll]; rw [reachAll_length l0 l1 width m, reachPass_length]
theorem run_indexA_0 (b0 b1 b2 b3 b4 b5 b6 b7 : Bool) (w : World) : (Instr.index 77 (.agg #[.bool b0, .bool b1, .bool b2, .bool b3, .bool b4, .bool b5, .bool b6, .bool b7]) (.int .i64 0)).run Try.prog w = .ok (.bool b0) w := by kernel_rfl
theorem run_indexA_1 (b0 b1 b2 b3 b4 b5 b6 b7 : Bool) (w : World) : (Instr.index 77 (.agg #[.bool b0, .bool b1, .bool b2, .bool b3, .bool b4, .bool b5, .bool b6, .bool b7]) (.int .i64 1)).run Try.prog w = .ok (.bool b1) w := by kernel_rfl
theorem run_indexA_2 (b0 b1 b2 b3 b4 b5 b6 b7 : Bool) (w : World) : (Instr.index 77 (.agg #[.bool b0, .bool b1, .bool b2, .bool b3, .bool b4, .bool b5, .bool b6, .bool b7]) (.int .i64 2)).run Try.prog w = .ok (.bool b2) w := by kernel_rfl
theorem run_indexA_3 (b0 b1 b2 b3 b4 b5 b6 b7 : Bool) (w : World) : (Instr.index 77 (.agg #[.bool b0, .bool b1, .bool b2, .bool b3, .bool b4, .bool b5, .bool b6, .bool b7]) (.int .i64 3)).run Try.prog w = .ok (.bool b3) w := by kernel_rfl
theorem run_indexA_4 (b0 b1 b2 b3 b4 b5 b6 b7 : Bool) (w : World) : (Instr.index 77 (.agg #[.bool b0, .bool b1, .bool b2, .bool b3, .bool b4, .bool b5, .bool b6, .bool b7]) (.int .i64 4)).run Try.prog w = .ok (.bool b4) w := by kernel_rfl
theorem run_indexA_5 (b0 b1 b2 b3 b4 b5 b6 b7 : Bool) (w : World) : (Instr.index 77 (.agg #[.bool b0, .bool b1, .bool b2, .bool b3, .bool b4, .bool b5, .bool b6, .bool b7]) (.int .i64 5)).run Try.prog w = .ok (.bool b5) w := by kernel_rfl
theorem run_indexA_6 (b0 b1 b2 b3 b4 b5 b6 b7 : Bool) (w : World) : (Instr.index 77 (.agg #[.bool b0, .bool b1, .bool b2, .bool b3, .bool b4, .bool b5, .bool b6, .bool b7]) (.int .i64 6)).run Try.prog w = .ok (.bool b6) w := by kernel_rfl
theorem run_indexA_7 (b0 b1 b2 b3 b4 b5 b6 b7 : Bool) (w : World) : (Instr.index 77 (.agg #[.bool b0, .bool b1, .bool b2, .bool b3, .bool b4, .bool b5, .bool b6, .bool b7]) (.int .i64 7)).run Try.prog w = .ok (.bool b7) w := by kernel_rfl
theorem run_indexA (B : List Bool) (h8 : B.length = 8) (i : Int) (h0 : 0 ≤ i) (h7 : i ≤ 7) (w : World) : (Instr.index 77 (.agg (arrOf B)) (.int .i64 i)).run Try.prog w = .ok (.bool (B.getD i.toNat false)) w := by
 match B, h8 with
 | [b0, b1, b2, b3, b4, b5, b6, b7], _ =>
  have h : i = 0 ∨ i = 1 ∨ i = 2 ∨ i = 3 ∨ i = 4 ∨ i = 5 ∨ i = 6 ∨ i = 7 := by omega
  rcases h with rfl | rfl | rfl | rfl | rfl | rfl | rfl | rfl
  ·exact run_indexA_0 b0 b1 b2 b3 b4 b5 b6 b7 w
  ·exact run_indexA_1 b0 b1 b2 b3 b4 b5 b6 b7 w
  ·exact run_indexA_2 b0 b1 b2 b3 b4 b5 b6 b7 w
  ·exact run_indexA_3 b0 b1 b2 b3 b4 b5 b6 b7 w
  ·exact run_indexA_4 b0 b1 b2 b3 b4 b5 b6 b7 w
  ·exact run_indexA_5 b0 b1 b2 b3 b4 b5 b6 b7 w
  ·exact run_indexA_6 b0 b1 b2 b3 b4 b5 b6 b7 w
  ·exact run_indexA_7 b0 b1 b2 b3 b4 b5 b6 b7 w
def reachOf (l0 : List S72) (l1 : List Int) (from_ width : Int) : List Bool := reachAll l0 l1 width l0.length ((List.replicate 8 false).set from_.toNat true)
theorem reachOf_length (l0 : List S72) (l1 : List Int) (from_ width : Int) : (reachOf l0 l1 from_ width).length = 8 := by
 unfold reachOf
 rw [reachAll_length]
 simp
def memFrom (B : List Bool) : Nat → Nat → List Int → List Int
 | 0, _, acc => acc
 | d + 1, i, acc => memFrom B d (i + 1) (if B.getD i false = true then acc ++ [(i : Int)] else acc)
/-- The stations that hang together with one. -/
def hangOf (l0 : List S72) (a : Int) : List Bool := reachOf l0 (List.replicate l0.length 0) a 0
def hangOk (l0 : List S72) (a : Int) : Bool := reachOk l0 (List.replicate l0.length 0) a && decide (l0.length ≤ 12)


def idxF {α : Type} (p : α → Bool) : List α → Int → Int
 | [], _ => -1
 | x :: l, i => if p x then i else idxF p l (i + 1)
theorem idxF_step {α : Type} (p : α → Bool) (l : List α) (d : α) (x : Int) (h0 : 0 ≤ x) (h1 : x < l.length) (hm : l.length ≤ 9223372036854775807) :
  idxF p (l.drop x.toNat) x = if p (l.getD x.toNat d) then x else idxF p (l.drop (wrap64 (x + 1)).toNat) (wrap64 (x + 1)) := by
 have hw : wrap64 (x + 1) = x + 1 := by unfold wrap64; omega
 have hl : x.toNat < l.length := by omega
 rw [hw, List.drop_eq_getElem_cons hl, show (x + 1).toNat = x.toNat + 1 by omega]; simp only [idxF, List.getD_eq_getElem?_getD, List.getElem?_eq_getElem hl, Option.getD_some]
theorem idxF_end {α : Type} (p : α → Bool) (l : List α) (x : Int) (h1 : ¬ x < l.length) : idxF p (l.drop x.toNat) x = -1 := by
 rw [List.drop_eq_nil_of_le (by omega)]
 rfl
theorem idxF_ge {α : Type} (p : α → Bool) : ∀ (l : List α) (i : Int), 0 ≤ i → decide (0 ≤ idxF p l i) = l.any p
 | [], _, _ => by simp [idxF]
 | x :: l, i, hi => by
  by_cases h : p x = true
  ·simp [idxF, h, hi]
  ·simp only [Bool.not_eq_true] at h
   simp [idxF, h, idxF_ge p l (i + 1) (by omega)]
theorem impl_caves_idx.calls (caps : Array Value) (p : List Int → Bool) (A0 : Option Addr) (c0 : Nat) (l0 : List (List Int)) (w : World) (hr0 : Kd.C (Kd.slice 3 (Kd.int .i64)) w A0 l0.length l0) (hc0 : l0.length ≤ c0)
  (hp : ∀ (x : List Int) W Ax cx, Below w.heap.size w W → Kd.C (Kd.int .i64) W Ax x.length x → x.length ≤ cx → Calls Try.prog 52 (#[.slice Ax x.length cx] ++ caps) W fun e W' => e = .returned (.bool (p x)) ∧ Below W.heap.size W W') :
  Calls Try.prog 73 #[.slice A0 l0.length c0, .func (.func 52) #[] caps] w fun e w' => e = .returned (.int .i64 (idxF p l0 0)) ∧ Below w.heap.size w w' := by
 have HR0 := za hr0; have HC0 := za hc0; have HP := za hp; have HM := za hr0.2.1; clear hr0 hc0 hp
 go_enter Try.func73, Try.ntmps73
 go_wp2
 go_loopg [8] l0.length (fun kq v8 w' => ∃ x : Int, v8 = .int .i64 x ∧ Aside0 (0 ≤ x ∧ kq + x.toNat = l0.length ∧ idxF p l0 0 = idxF p (l0.drop x.toNat) x) ∧ Aside0 (Below w.heap.size w w'))
 case atStart => exact ⟨0, rfl, ⟨by simp⟩, ⟨zs _ _⟩⟩
 case round =>
  obtain ⟨x, rfl, HA, HB⟩ := hrel
  by_cases hlt : x < (l0.length : Int)
  ·have c0 : decide (x < (l0.length : Int)) = true := zc hlt; have c1 : decide (0 ≤ x) = true := zc HA.1.1; obtain ⟨ad, Ax, cx, e, hx, hxl, hxC⟩ := at_L5 (zG HR0.1 HB.1) x HA.1.1 hlt; cases e; have HLT := za hlt; have p1 := zw HA.1.1; have q1 := zw hlt; clear hlt; obtain ⟨k1, rfl⟩ : ∃ k1, gk = k1 + 1 := ⟨gk - 1, by have := HA.1; have := HLT.1; omega⟩; have HS := za (by exact HA.1.2.2.trans (idxF_step p l0 [] x HA.1.1 HLT.1 HM.1))
   cases hq : p (rd_L5 l0 x) with
   | true =>
    have HQ := za hq
    go_wp2_with (go_at_call 52; refine (HP.1 _ _ _ _ HB.1 hxC hxl).mono ?_; rintro e w1 ⟨rfl, hb⟩)
    go_ret
    exact ⟨by rw [HS.1, show p (l0.getD x.toNat []) = true from HQ.1]; rfl, Below.trans HB.1 (hb.mono HB.1.size)⟩
   | false =>
    have HQ := za hq
    go_wp2_with (go_at_call 52; refine (HP.1 _ _ _ _ HB.1 hxC hxl).mono ?_; rintro e w1 ⟨rfl, hb⟩)
    go_roundg k1
    case measure => omega
    case rel => exact ⟨wrap64 (x + 1), rfl, ⟨by have := HA.1; have := HLT.1; have := HM.1; unfold wrap64; omega, by have := HA.1; have := HLT.1; have := HM.1; unfold wrap64; omega, by rw [HS.1, show p (l0.getD x.toNat []) = false from HQ.1]; rfl⟩, ⟨Below.trans HB.1 (hb.mono HB.1.size)⟩⟩
  ·have c0 : decide (x < (l0.length : Int)) = false := zv hlt; have HS := za (by exact HA.1.2.2.trans (idxF_end p l0 x hlt)); clear hlt
   go_wp2
   go_ret
   exact ⟨by rw [HS.1]; rfl, HB.1⟩
theorem impl_caves_cont.calls (caps : Array Value) (p : List Int → Bool) (A0 : Option Addr) (c0 : Nat) (l0 : List (List Int)) (w : World) (hr0 : Kd.C (Kd.slice 3 (Kd.int .i64)) w A0 l0.length l0) (hc0 : l0.length ≤ c0)
  (hp : ∀ (x : List Int) W Ax cx, Below w.heap.size w W → Kd.C (Kd.int .i64) W Ax x.length x → x.length ≤ cx → Calls Try.prog 52 (#[.slice Ax x.length cx] ++ caps) W fun e W' => e = .returned (.bool (p x)) ∧ Below W.heap.size W W') :
  Calls Try.prog 51 #[.slice A0 l0.length c0, .func (.func 52) #[] caps] w fun e w' => e = .returned (.bool (l0.any p)) ∧ Below w.heap.size w w' := by
 have HI := za (by exact impl_caves_idx.calls caps p A0 c0 l0 w hr0 hc0 hp); clear hr0 hc0 hp
 go_enter Try.func51, Try.ntmps51
 go_wp2_with (go_at_call 73; refine HI.1.mono ?_; rintro e w1 ⟨rfl, hb⟩)
 go_ret
 exact ⟨by rw [← idxF_ge p l0 0 (by omega)]; rfl, hb⟩
theorem caves_any {l : List Int} {x : Int} : x ∈ l ↔ ∃ i, i < l.length ∧ l.getD i 0 = x := by
 constructor
 ·intro h; obtain ⟨i, hi, e⟩ := List.getElem_of_mem h
  exact ⟨i, hi, by simp [List.getD_eq_getElem?_getD, List.getElem?_eq_getElem hi, e]⟩
 ·rintro ⟨i, hi, e⟩
  rw [List.getD_eq_getElem?_getD, List.getElem?_eq_getElem hi] at e; simp only [Option.getD_some] at e
  exact e ▸ List.getElem_mem hi
theorem has_total (l : List Int) (x : Int) (hm : l.length ≤ 9223372036854775807) : ∀ k, l.length < k → impl_has.f k l x = some (decide (x ∈ l)) := by
 have key : ∀ d i k, i + d = l.length → d < k → (∀ j, j < i → l.getD j 0 ≠ x) → ∃ r, slices_Index_int_int.l0 k l x (l.length : Int) (i : Int) = some r ∧ (0 ≤ r ↔ x ∈ l) := by
  intro d
  induction d with
  | zero =>
   intro i k hi hk hno; obtain ⟨k, rfl⟩ : ∃ m, k = m + 1 := ⟨k - 1, by omega⟩
   refine ⟨-1, by simp only [slices_Index_int_int.l0]; rw [yc (by omega)], by omega, fun h => ?_⟩
   obtain ⟨j, hj, he⟩ := caves_any.1 h
   exact absurd he (hno j (by omega))
  | succ d ih =>
   intro i k hi hk hno; obtain ⟨k, rfl⟩ : ∃ m, k = m + 1 := ⟨k - 1, by omega⟩
   have hil : i < l.length := by omega
   have hr : rd l (i : Int) = l.getD i 0 := by simp [rd]
   have hw : wrap64 ((i : Int) + 1) = ((i + 1 : Nat) : Int) := by unfold wrap64; omega
   simp only [slices_Index_int_int.l0, hr]; rw [yb (by omega), yb (by omega), yb (by omega), hw]
   by_cases he : x = l.getD i 0
   ·exact ⟨i, by rw [yb he], fun _ => caves_any.2 ⟨i, hil, he.symm⟩, fun _ => by omega⟩
   ·rw [yc he]
    refine ih (i + 1) k (by omega) (by omega) (fun j hj => ?_)
    by_cases hji : j = i
    ·rw [hji]; exact fun h => he h.symm
    ·exact hno j (by omega)
 intro k hk
 obtain ⟨r, h1, h2⟩ := key l.length 0 k (by omega) hk (fun j hj => by omega)
 have h1' : slices_Index_int_int.l0 k l x (l.length : Int) 0 = some r := h1; simp only [impl_has.f, slices_Contains_int_int.f, slices_Index_int_int.f, h1', Option.bind_some]
 congr 1
 rw [decide_eq_decide]
 exact h2
theorem impl_caves_1.calls (x : List Int) (g : Nat) (s : Int) (W : World) (Ax : Option Addr) (cx : Nat) (hx : Kd.C (Kd.int .i64) W Ax x.length x) (hc : x.length ≤ cx) (hg : W.heap[g]? = some (.cells #[.int .i64 s] 3 (0, 0))) :
  Calls Try.prog 52 #[.slice Ax x.length cx, .pointer (some ⟨g, 0, none⟩)] W fun e W' => e = .returned (.bool (decide (s ∈ x))) ∧ Below W.heap.size W W' := by
 have HX := za hx; have HC := za hc; have HH := za (by exact has_total x s hx.2.1 (x.length + 1) (Nat.lt_succ_self _)); have hcell : W.cell? ⟨g, 0, none⟩ = some (.int .i64 s) := (zf hg 0).trans rfl; clear hx hc hg
 go_enter Try.func52, Try.ntmps52
 go_wp2_with (go_at_call 41; refine (impl_has.calls (x.length + 1) _ _ x s _ _ HX.1 HC.1 HH.1).mono ?_; rintro e w1 ⟨rfl, ⟨nd, rfl⟩⟩)
 go_ret
 exact ⟨rfl, pw_below_drewN (zs _ _) _⟩
theorem made_reads (m : Nat) (hm : m ≤ 9223372036854775807) (W : World) : Kd.C (Kd.int .i64) (W.alloc (.cells (madeCells (Value.int .i64 0).cells (m * 1)) 3)) (some ⟨W.heap.size, 0, none⟩) m (List.replicate m 0) := by
 refine ⟨List.length_replicate, hm, fun _ => ⟨_, rfl, fun j p hj => ?_⟩⟩
 have hjm : j < m := by
  have := (List.getElem?_eq_some_iff.1 hj).1; rwa [List.length_replicate] at this
 have hp : p = 0 := by
  have := (List.getElem?_eq_some_iff.1 hj).2
  simpa using this.symm
 subst hp
 refine ⟨[.int .i64 0], rfl, rfl, fun i u hu => ?_⟩
 match i, hu with
 | 0, hu =>
  obtain rfl : Value.int .i64 0 = u := by simpa using hu
  have e : ((⟨W.heap.size, 0, none⟩ : Addr).add (j * (Kd.int .i64).sz + 0)) = ⟨W.heap.size, j, none⟩ := by
   simp [Addr.add, Kd.int, Kd.scalar]
   try (intro h; exact h.symm)
  rw [e]
  exact (zf (heap_alloc_new W _) j).trans (by simp [madeCells, Value.cells, hjm, Nat.mod_one])
 | i + 1, hu => simp at hu
theorem made_reads2 (m : Nat) (hm : m ≤ 9223372036854775807) (W : World) : Kd.C (Kd.int .i64) (W.alloc (.cells (madeCells #[Value.int .i64 0] m) 3)).drew (some ⟨W.heap.size, 0, none⟩) m (List.replicate m 0) := by
 have h := made_reads m hm W; rw [Nat.mul_one] at h
 exact zF h
structure CavesS (w : World) (gb : Nat) (x : Int) (v : Value) (all : List (List Int)) (W : World) : Prop where
 b : Below w.heap.size w W
 r : Kd.S (Kd.slice 3 (Kd.int .i64)) 32 W w.heap.size (fun _ => True) v all
 h : W.heap[gb]? = some (.cells #[.int .i64 x] 3 (0, 0))
theorem CavesS.below {w : World} {gb : Nat} {x : Int} {v : Value} {all : List (List Int)} {W W' : World} (h : CavesS w gb x v all W) (hb : Below W.heap.size W W') : CavesS w gb x v all W' := ⟨zW h.b hb, Kd.S_below h.r hb, zl h.h hb⟩
theorem CavesS.drew {w : World} {gb : Nat} {x : Int} {v : Value} {all : List (List Int)} {W : World} (h : CavesS w gb x v all W) : CavesS w gb x v all W.drew := h.below (below_drew1 (zs _ _))
theorem CavesS.cell {w : World} {gb : Nat} {x : Int} {v : Value} {all : List (List Int)} {W : World} (h : CavesS w gb x v all W) : W.cell? ⟨gb, 0, none⟩ = some (.int .i64 x) := (zf h.h 0).trans rfl
def impl_caves.go (k : Nat) (l0 : List S72) : Nat → Int → List (List Int) → Option (List (List Int))
 | 0, _, all => some all
 | d + 1, x, all => (impl_legsAt.f k l0 x).bind fun ls => if (ls.length : Int) = 0 then impl_caves.go k l0 d (x + 1) all else if all.any (fun c => decide (x ∈ c)) = true then impl_caves.go k l0 d (x + 1) all else if hangOk l0 x = true ∧ all.length ≤ 100 then impl_caves.go k l0 d (x + 1) (all ++ [memFrom (hangOf l0 x) 8 0 []]) else none
def impl_caves.f (k : Nat) (l0 : List S72) : Option (List (List Int)) := impl_caves.go k l0 8 0 []
theorem impl_caves.calls (k : Nat) (A0 : Option Addr) (c0 : Nat) (l0 : List S72) (r : List (List Int)) (w : World) (hr0 : Kd.C k72 w A0 l0.length l0) (hc0 : l0.length ≤ c0) (h : impl_caves.f k l0 = some r) :
  Calls Try.prog 26 #[.slice A0 l0.length c0] w fun e w' => ∃ v0_ : Value, e = .returned v0_ ∧ Kd.S (Kd.slice 3 (Kd.int .i64)) 32 w' w.heap.size (fun _ => True) v0_ r ∧ Below w.heap.size w w' := by
 have HR0 := za hr0; have HC0 := za hc0; have HM0 := za hr0.2.1; have HF := za h; clear hr0 hc0 h
 go_enter Try.func26, Try.ntmps26
 go_wp2
 go_loopg [3, 8] 8 (fun kq v3 v8 w' => ∃ (x : Int) (all : List (List Int)), v8 = .int .i64 x ∧ Aside0 (0 ≤ x ∧ kq + x.toNat = 8 ∧ impl_caves.go k l0 kq x all = some r) ∧ Aside0 (Kd.S (Kd.slice 3 (Kd.int .i64)) 32 w' w.heap.size (fun _ => True) v3 all) ∧ Aside0 (Below w.heap.size w w'))
 case atStart => exact ⟨0, [], rfl, ⟨by omega, by simp, HF.1⟩, ⟨Kd.S_nil _ _ _ _ _⟩, ⟨(by repeat (first | apply pw_below_drewN | apply below_drew1 | exact zs _ _))⟩⟩
 case round =>
  clear HF; obtain ⟨x, all, rfl, HA, HO, HB⟩ := hrel
  by_cases hlt : x < 8
  ·have d0 : decide (x < 8) = true := zc hlt; have HLT := za hlt; clear hlt; obtain ⟨k1, rfl⟩ : ∃ k1, gk = k1 + 1 := ⟨gk - 1, by have := HA.1; have := HLT.1; omega⟩; have h := HA.1.2.2; simp only [impl_caves.go] at h; obtain ⟨ls, A1, h⟩ := zC h; have H1 := za A1; have HREST := za h; clear A1 h; have HX1 : Aside0 (0 ≤ wrap64 (x + 1) ∧ k1 + (wrap64 (x + 1)).toNat = 8 ∧ wrap64 (x + 1) = x + 1) := ⟨by have := HA.1; have := HLT.1; unfold wrap64; omega, by have := HA.1; have := HLT.1; unfold wrap64; omega, by have := HA.1; have := HLT.1; unfold wrap64; omega⟩; obtain ⟨A3, c3, e3, hl3, hC3⟩ := Kd.S_reads HO.1; subst e3; have HL3 := za hl3; clear hl3 hC3
   by_cases hz : (ls.length : Int) = 0
   ·have z0 : ((ls.length : Int) == 0) = true := zT hz; have hg := HREST.1; rw [yb hz] at hg; have HG := za hg; clear hz hg
    go_wp2_with (first | ((with_reducible refine zq (N := 4) rfl ?_); refine zB ?hg (N := 4) ?hd (cs := #[.int .i64 0]) (t := 3) ?hr ?_; (case hd | hg => rfl); (case hr => exact (qK23)); intro gb hg w15 hbox hb; have HBX := za hbox; have HWB := za hb; have HGE : Aside0 (wr.heap.size ≤ gb) := ⟨by rw [hg]; exact zo _⟩; clear hbox hb hg; have hcz : w15.cell? ⟨gb, 0, none⟩ = some (.int .i64 0) := (zf HBX.1 0).trans rfl; have hfz := ze HBX.1 0) | (go_at_call 50; refine (impl_legsAt.calls k _ _ l0 x ls _ (zG HR0.1 (zW HB.1 (ya HWB.1 HGE.1))) HC0.1 H1.1).mono ?_; rintro e w1 ⟨v13, rfl, ho13, hb⟩; obtain ⟨A13, c13, e13⟩ := zI ho13; subst e13; clear ho13; have n0_ := za qK64; have n1_ := za qK65; have n2_ := za qK60; clear HB HO HBX HWB; have HB := n0_; have HO := n1_; have HK := n2_; clear n0_ n1_ n2_ hb; have hb0 := (zf HK.1 0).trans rfl))
    go_roundg k1
    case measure => omega
    case rel => exact ⟨wrap64 (x + 1), all, rfl, ⟨HX1.1.1, HX1.1.2.1, by rw [HX1.1.2.2]; exact HG.1⟩, HO, HB⟩
   ·have z0 : ((ls.length : Int) == 0) = false := zx hz; have hg := HREST.1; rw [yc hz] at hg; clear hz
    cases hany : all.any (fun c => decide (x ∈ c)) with
    | true =>
     rw [yb hany] at hg; have HG := za hg; have HANY := za hany; clear hg hany
     go_wp2_with (first | ((with_reducible refine zq (N := 4) rfl ?_); refine zB ?hg (N := 4) ?hd (cs := #[.int .i64 0]) (t := 3) ?hr ?_; (case hd | hg => rfl); (case hr => exact (qK23)); intro gb hg w15 hbox hb; have HBX := za hbox; have HWB := za hb; have HGE : Aside0 (wr.heap.size ≤ gb) := ⟨by rw [hg]; exact zo _⟩; clear hbox hb hg; have hcz : w15.cell? ⟨gb, 0, none⟩ = some (.int .i64 0) := (zf HBX.1 0).trans rfl; have hfz := ze HBX.1 0) | (go_at_call 50; refine (impl_legsAt.calls k _ _ l0 x ls _ (zG HR0.1 (zW HB.1 (ya HWB.1 HGE.1))) HC0.1 H1.1).mono ?_; rintro e w1 ⟨v13, rfl, ho13, hb⟩; obtain ⟨A13, c13, e13⟩ := zI ho13; subst e13; clear ho13; have n0_ := za qK64; have n1_ := za qK65; have n2_ := za qK60; clear HB HO HBX HWB; have HB := n0_; have HO := n1_; have HK := n2_; clear n0_ n1_ n2_ hb; have hb0 := (zf HK.1 0).trans rfl) | (go_at_call 51; refine (impl_caves_cont.calls #[.pointer (some ⟨gb, 0, none⟩)] (fun c => decide (x ∈ c)) A3 c3 all _ (Kd.S_reads' HO.1).2.2 HL3.1 (fun c W' Ax cx hb' hC hc' => impl_caves_1.calls c gb x W' Ax cx hC hc' (zl HK.1 hb'))).mono ?_; rintro e w1 ⟨he, hb⟩; rw [HANY.1] at he; subst he; have n0_ := za (zW HB.1 hb); have n1_ := za (Kd.S_below HO.1 hb); have n2_ := za (zl HK.1 hb); clear HB HO HK; have HB := n0_; have HO := n1_; have HK := n2_; clear n0_ n1_ n2_ hb; have hb0 := (zf HK.1 0).trans rfl))
     go_roundg k1
     case measure => omega
     case rel => exact ⟨wrap64 (x + 1), all, rfl, ⟨HX1.1.1, HX1.1.2.1, by rw [HX1.1.2.2]; exact HG.1⟩, HO, HB⟩
    | false =>
     rw [yc (by rw [hany]; decide)] at hg
     by_cases hok : hangOk l0 x = true ∧ all.length ≤ 100
     case neg => rw [yc hok] at hg; cases hg
     rw [yb hok] at hg; have HG := za hg; have HANY := za hany; have hok2 := hok; simp only [hangOk, Bool.and_eq_true, decide_eq_true_eq] at hok2; have HOK := za hok2.1; have HA100 := za hok.2; have H12 : Aside0 (0 ≤ (l0.length : Int) ∧ (l0.length : Int).toNat * 8 ≤ 281474976710656) := ⟨by have := hok2.1.2; omega⟩; clear hg hany hok hok2
     have HCALL : Aside0 (∀ (A1 : Option Addr) (c1 : Nat) (W : World), Below w.heap.size w W → Kd.C (Kd.int .i64) W A1 l0.length (List.replicate l0.length 0) → l0.length ≤ c1 → Calls Try.prog 53 #[.slice A0 l0.length c0, .slice A1 l0.length c1, .int .i64 x, .int .i64 0] W fun e w' => e = .returned (.agg (arrOf (hangOf l0 x))) ∧ Below W.heap.size W w') := ⟨fun A1 c1 W hb hC hc => by
      have := impl_reach.calls A0 c0 l0 A1 c1 (List.replicate l0.length 0) x 0 (hangOf l0 x) W (zG HR0.1 hb) HC0.1 (by rw [List.length_replicate]; exact hC) (by rw [List.length_replicate]; exact hc) (qK69); rwa [List.length_replicate] at this⟩
     have HB8 := za (by exact show (hangOf l0 x).length = 8 from reachOf_length _ _ _ _); obtain ⟨B, hB⟩ : ∃ B, B = hangOf l0 x := ⟨_, rfl⟩; rw [← hB] at HCALL HG HB8; clear hB
     go_wp2_with (first | ((with_reducible refine zq (N := 4) rfl ?_); refine zB ?hg (N := 4) ?hd (cs := #[.int .i64 0]) (t := 3) ?hr ?_; (case hd | hg => rfl); (case hr => exact (qK23)); intro gb hg w15 hbox hb; have HBX := za hbox; have HWB := za hb; have HGE : Aside0 (wr.heap.size ≤ gb) := ⟨by rw [hg]; exact zo _⟩; clear hbox hb hg; have hcz : w15.cell? ⟨gb, 0, none⟩ = some (.int .i64 0) := (zf HBX.1 0).trans rfl; have hfz := ze HBX.1 0) | (go_at_call 50; refine (impl_legsAt.calls k _ _ l0 x ls _ (zG HR0.1 (zW HB.1 (ya HWB.1 HGE.1))) HC0.1 H1.1).mono ?_; rintro e w1 ⟨v13, rfl, ho13, hb⟩; obtain ⟨A13, c13, e13⟩ := zI ho13; subst e13; clear ho13; have n0_ := za qK64; have n1_ := za qK65; have n2_ := za qK60; clear HB HO HBX HWB; have HB := n0_; have HO := n1_; have HK := n2_; clear n0_ n1_ n2_ hb; have hb0 := (zf HK.1 0).trans rfl) | (go_at_call 51; refine (impl_caves_cont.calls #[.pointer (some ⟨gb, 0, none⟩)] (fun c => decide (x ∈ c)) A3 c3 all _ (Kd.S_reads' HO.1).2.2 HL3.1 (fun c W' Ax cx hb' hC hc' => impl_caves_1.calls c gb x W' Ax cx hC hc' (zl HK.1 hb'))).mono ?_; rintro e w1 ⟨he, hb⟩; rw [HANY.1] at he; subst he; have n0_ := za (zW HB.1 hb); have n1_ := za (Kd.S_below HO.1 hb); have n2_ := za (zl HK.1 hb); clear HB HO HK; have HB := n0_; have HO := n1_; have HK := n2_; clear n0_ n1_ n2_ hb; have hb0 := (zf HK.1 0).trans rfl))
     have HS : CavesS w gb x (.slice A3 all.length c3) all _ := ⟨HB.1, HO.1, HK.1⟩; have HSd := za HS.drew
     have HC2 : Aside0 (∀ (A1 : Option Addr) (c1 : Nat) (W : World), CavesS w gb x (.slice A3 all.length c3) all W → Kd.C (Kd.int .i64) W A1 l0.length (List.replicate l0.length 0) → l0.length ≤ c1 → Calls Try.prog 53 #[.slice A0 l0.length c0, .slice A1 l0.length c1, .int .i64 x, .int .i64 0] W fun e w' => e = .returned (.agg (arrOf B)) ∧ CavesS w gb x (.slice A3 all.length c3) all w') := ⟨fun A1 c1 W hs hC1 hc1 => by
      refine (HCALL.1 _ _ _ hs.b hC1 hc1).mono ?_
      rintro e w' ⟨he, hb⟩
      exact ⟨he, hs.below hb⟩⟩
     have hmk : ∀ W : World, (Instr.makeSlice 32 (.int .i64 (l0.length : Int)) (.int .i64 (l0.length : Int))).run Try.prog W = .ok (.slice (some ⟨W.heap.size, 0, none⟩) l0.length l0.length) (W.alloc (.cells (madeCells (Value.int .i64 0).cells (l0.length * 1)) 3)) := by
      intro W; obtain ⟨i0, hi, hzz⟩ := Option.map_eq_some_iff.1 info3; simp only [ye] at hzz; obtain ⟨hz0, hz1, hz2⟩ := hzz; have h12 := H12.1.2; rw [Int.toNat_natCast] at h12; have hr := run_make (P := Try.prog) W 32 3 i0 (.int .i64 0) Try.underlying32 hi hz0 .i64 .i64 (l0.length : Int) (l0.length : Int) (by omega) (by omega) (by rw [hz2]; omega) (by omega); simp only [Int.toNat_natCast] at hr; rw [hz1] at hr
      exact hr
     clear HB HO HK; have hbd := CavesS.cell HS.drew
     have wl : IntKind.i64.wrap (l0.length : Int) = (l0.length : Int) := by
      have hM := HM0.1; rw [i64_w]
      unfold wrap64
      omega
     have wl2 : wrap64 (l0.length : Int) = (l0.length : Int) := (i64_w _).symm.trans wl; have n1 : ¬ ((l0.length : Int) < 0) := Int.not_lt.2 (Int.natCast_nonneg _)
     have n2 : ¬ ((281474976710656 : Int) < 8 * (l0.length : Int)) := by
      have h12 := H12.1.2; rw [Int.toNat_natCast] at h12
      omega
     go_region_held3 (fun W' => CavesS w gb x (.slice A3 all.length c3) all W' ∧ W'.cell? ⟨gb, 0, none⟩ = some (.int .i64 x)) ((first | exact ⟨HSd.1, CavesS.cell HSd.1⟩ | exact ⟨CavesS.below HSd.1 (zZ (zs _ _) _), CavesS.cell (CavesS.below HSd.1 (zZ (zs _ _) _))⟩ | exact ⟨by assumption, CavesS.cell (by assumption)⟩)) ((go_at_call 53; refine (HC2.1 _ _ _ ?h1 ?h2 ?h3).mono ?_; (case h1 => exact (by exact CavesS.below HSd.1 (zZ (zs _ _) _))); (case h2 => exact (by exact made_reads2 l0.length HM0.1 _)); (case h3 => exact zo _); rintro e w2 ⟨rfl, hs⟩))
     clear hbd n1 n2 wl wl2 HC2 HCALL HSd hmk; have HS := za hs; clear hs; obtain ⟨rw, hrw⟩ : ∃ rw, rw = memFrom B 8 0 [] := ⟨_, rfl⟩; have HRW := za hrw.symm; rw [← hrw] at HG; clear hrw
     go_wp2
     go_loopg [5, 27] 8 (fun kq v5 v27 w' => ∃ (y : Int) (acc : List Int), v27 = .int .i64 y ∧ Aside0 (0 ≤ y ∧ kq + y.toNat = 8 ∧ acc.length ≤ y.toNat ∧ memFrom B kq y.toNat acc = rw) ∧ Aside0 (Kd.R (Kd.int .i64) 3 w' w2.heap.size (fun _ => True) v5 acc) ∧ Aside0 (Below w2.heap.size w2 w'))
     case atStart => exact ⟨0, [], rfl, ⟨by omega, by simp, by simp, HRW.1⟩, ⟨Kd.R_nil _ _ _ _ _⟩, ⟨zs _ _⟩⟩
     case round =>
      clear HRW; obtain ⟨y, acc, rfl, HAy, HOy, HBy⟩ := hrel
      by_cases hly : y < 8
      ·have dy0 : decide (y < 8) = true := zc hly; have HLY := za hly; clear hly; obtain ⟨ky, rfl⟩ : ∃ k1, gk = k1 + 1 := ⟨gk - 1, by have := HAy.1; have := HLY.1; omega⟩; have hidx := fun w => run_indexA B HB8.1 y HAy.1.1 (by have := HLY.1; omega) w
       cases ht : B.getD y.toNat false with
       | true =>
        rw [ht] at hidx; have HT := za ht; clear ht
        go_wp2_with ((with_reducible refine zr (b := .append) (xs := #[.tmp 32, .tmp 34]) rfl ?_); at_builtin; refine Kd.R_append (Kd.int .i64) (w0 := w2) w2.heap.size rfl (.tmp 32) (.tmp 34) 32 3 (.int .i64 0) 8 rfl Try.underlying32 info3 rfl (by decide) (by omega) u5 acc y [.int .i64 y] (fun _ => True) (fun _ => False) rfl rfl ?aP (fun _ hk => hk.elim) ?aF ?aO ?aB ?aS ?aL ?_; (case aP => exact rfl); (case aB => exact HBy.1); (case aF => exact (fun _ _ => trivial)); (case aO => exact HOy.1); (case aS => exact HBy.1.size); (case aL => exact (by have := HAy.1; have := HLY.1; omega)); intro v212 w22 ho hb hg hat; have HO2 := za ho; have HB3 := za hb; clear ho hb hg hat)
        go_roundg ky
        case measure => omega
        case rel => exact ⟨wrap64 (y + 1), acc ++ [y], rfl, ⟨by have := HAy.1; have := HLY.1; unfold wrap64; omega, by have := HAy.1; have := HLY.1; unfold wrap64; omega, by have := HAy.1; have := HLY.1; rw [List.length_append, List.length_singleton]; unfold wrap64; omega, by rw [← HAy.1.2.2.2, show (wrap64 (y + 1)).toNat = y.toNat + 1 by have := HAy.1; have := HLY.1; unfold wrap64; omega]; simp only [memFrom, HT.1, if_true, Int.toNat_of_nonneg HAy.1.1]⟩, HO2, HB3⟩
       | false =>
        rw [ht] at hidx; have HT := za ht; clear ht
        go_wp2
        go_roundg ky
        case measure => omega
        case rel => exact ⟨wrap64 (y + 1), acc, rfl, ⟨by have := HAy.1; have := HLY.1; unfold wrap64; omega, by have := HAy.1; have := HLY.1; unfold wrap64; omega, by have := HAy.1; have := HLY.1; unfold wrap64; omega, by rw [← HAy.1.2.2.2, show (wrap64 (y + 1)).toNat = y.toNat + 1 by have := HAy.1; have := HLY.1; unfold wrap64; omega]; simp only [memFrom, HT.1, Bool.false_eq_true, if_false]⟩, HOy, HBy⟩
      ·have dy0 : decide (y < 8) = false := zv hly; have HLY := za hly; clear hly
       obtain rfl : gk = 0 := by have := HAy.1; have := HLY.1; omega
       have HRE := za (show acc = rw from HAy.1.2.2.2); have HSy := za (CavesS.below HS.1 HBy.1); have HSo := za (by exact Kd.S_below (Kd.S_mono (Kd.S_bound HS.1.r) (fun _ hk => hk.2.2.1)) HBy.1); have HRo := za (by exact zK (Kd.R_bound HOy.1) (fun _ hk => hk.2.1)); obtain ⟨A5, c5, e5⟩ := zI HRo.1; subst e5; clear HOy
       go_wp2_with ((with_reducible refine zr (b := .append) (xs := #[.tmp 37, .tmp 39]) rfl ?_); at_builtin; refine Kd.S_append (Kd.slice 3 (Kd.int .i64)) (w0 := w) w.heap.size rfl (.tmp 37) (.tmp 39) 26 32 (.slice none 0 0) 24 rfl Try.underlying26 info32 rfl (by decide) (by omega) (.slice A3 all.length c3) all rw [.slice A5 acc.length c5] (fun _ => True) (fun k => w2.heap.size ≤ k) rfl rfl ?aP ?aK ?aF ?aO ?aB ?aS ?aL ?_; (case aP => exact (by exact ⟨_, rfl, by rw [← HRE.1]; exact zP HRo.1 HS.1.b.size⟩)); (case aK => exact (by exact fun k hk => ⟨trivial, fun e => Nat.lt_irrefl _ (Nat.lt_of_lt_of_le (Kd.S_lt HS.1.r k e.symm) hk)⟩)); (case aF => exact (fun _ _ => trivial)); (case aO => exact (by exact Kd.S_mono HSo.1 (fun k hk => ⟨trivial, Nat.not_le.2 hk⟩))); (case aB => exact HSy.1.b); (case aS => exact HSy.1.b.size); (case aL => have := HA100.1; omega); intro v213 w23 ho hb hg hat; have HO2 := za ho; have HB3 := za hb; clear ho hb hg hat)
       go_roundg k1
       case measure => omega
       case rel => exact ⟨wrap64 (x + 1), all ++ [rw], rfl, ⟨HX1.1.1, HX1.1.2.1, by rw [HX1.1.2.2]; exact HG.1⟩, HO2, HB3⟩
  ·have d0 : decide (x < 8) = false := zv hlt; have HLT := za hlt; clear hlt
   obtain rfl : gk = 0 := by have := HA.1; have := HLT.1; omega
   have hr := HA.1.2.2; simp only [impl_caves.go] at hr; obtain rfl := zm hr; clear hr
   go_wp2
   go_ret
   exact ⟨_, rfl, HO.1, HB.1⟩


def impl_CavesOf.f (k : Nat) (l0 : List (S72)) : Option ((List (List Int)) × Bool) := (impl_areLegs.f k l0).bind fun t394 => (if t394 = true then ((impl_caves.f k l0).bind fun t395 => (some (t395, true))) else (some (([] : List (List Int)), false)))
theorem impl_CavesOf.calls (k : Nat) (A0 : Option Addr) (c0 : Nat) (l0 : List (S72)) (r1 : List (List Int)) (r2 : Bool) (w : World) (hr0 : Kd.C k72 w A0 l0.length l0) (hc0 : l0.length ≤ c0) (h : impl_CavesOf.f k l0 = some (r1, r2)) :
  Calls Try.prog 6 #[.slice A0 l0.length c0] w fun e w' => ∃ v0_ : Value, e = .returned (.tuple #[v0_, .bool r2]) ∧ Kd.S (Kd.slice 3 (Kd.int .i64)) 32 w' w.heap.size (fun _ => True) v0_ r1 ∧ Below w.heap.size w w' := by
 have HR0 := za hr0; have HC0 := za hc0; clear hr0 hc0; have HB := za (zs w.heap.size w); have H : ((impl_areLegs.f k l0).bind fun t394 => (if t394 = true then ((impl_caves.f k l0).bind fun t395 => (some (t395, true))) else (some (([] : List (List Int)), false)))) = some (r1, r2) := h; clear h; replace H := bindA H; obtain ⟨t394, A2, H⟩ := H; (try dsimp only at H)
 by_cases c3 : t394 = true
 ·subst c3; rw [yb rfl] at H; replace H := zC H; obtain ⟨t395, A40, H⟩ := H; replace H : (some (t395, true)) = some (r1, r2) := H; have A4 := za A40; clear A40; simp only [yd, ye] at H; obtain ⟨rfl, rfl⟩ := H
  go_enter Try.func6, Try.ntmps6
  go_wp2_with (first | ((with_reducible refine zp (f := 25) rfl ?_); refine zV (some 5) rfl rfl Try.func25 (qK25) rfl #[.slice A0 l0.length c0] rfl (qK2) ?_; (with_reducible refine (impl_areLegs.calls k _ _ l0 true _ ?s1 ?s2 A2.1).mono ?_); (case s1 => exact (qK21 HR0.1)); (case s2 => exact HC0.1); rintro e w5 ⟨rfl, hb⟩; refine ⟨_, rfl, ?_⟩; replace HB := za qK73; clear hb) | ((with_reducible refine zp (f := 26) rfl ?_); refine zV (some 8) rfl rfl Try.func26 (qK25) rfl #[.slice A0 l0.length c0] rfl (qK2) ?_; (with_reducible refine (impl_caves.calls k _ _ l0 t395 _ ?s1 ?s2 A4.1).mono ?_); (case s1 => exact (qK9 HR0.1)); (case s2 => exact HC0.1); rintro e w6 ⟨v396, rfl, ho0, hb⟩; refine ⟨_, rfl, ?_⟩; have HO397 := za (qK115 ho0); replace HB := za qK73; clear hb ho0))
  go_ret2
  exact ⟨_, (qK11), (qK32 HO397.1), (qK0)⟩
 ·replace c3 := zn c3; subst c3; rw [yc (show ¬ (false = true) by decide)] at H; simp only [yd, ye] at H; obtain ⟨rfl, rfl⟩ := H
  go_enter Try.func6, Try.ntmps6
  go_wp2_with (first | ((with_reducible refine zp (f := 25) rfl ?_); refine zV (some 5) rfl rfl Try.func25 (qK25) rfl #[.slice A0 l0.length c0] rfl (qK2) ?_; (with_reducible refine (impl_areLegs.calls k _ _ l0 false _ ?s1 ?s2 A2.1).mono ?_); (case s1 => exact (qK21 HR0.1)); (case s2 => exact HC0.1); rintro e w7 ⟨rfl, hb⟩; refine ⟨_, rfl, ?_⟩; replace HB := za qK73; clear hb))
  go_ret2
  exact ⟨_, (qK11), by first | exact Kd.S_nil _ _ _ _ _ | exact Kd.N_nil _ _ _ _ _ | exact Kd.V_nil _ _ _ _ _ | exact Kd.Q_nil _ _ _ _ _ | exact Kd.R_nil _ _ _ _ _, (qK0)⟩

def spec_l4Station.f (a0 : Int) : Option (Bool) := (spec_l1In.f a0 0 7).bind fun t398 => (some t398)
theorem spec_l4Station.calls (a0 : Int) (r : Bool) (w : World) (h : spec_l4Station.f a0 = some r) :
  Calls Try.prog 44 #[.int .i64 a0] w fun e w' => e = .returned (.bool r) ∧ Drawn0 w w' := by
 have H : ((spec_l1In.f a0 0 7).bind fun t398 => (some t398)) = some r := h; clear h; replace H := zC H; obtain ⟨t398, A20, H⟩ := H; replace H : (some t398) = some r := H; have A2 := za A20; clear A20; obtain rfl := zm H
 go_enter Try.func44, Try.ntmps44
 go_wp2_with (first | ((with_reducible refine zp (f := 63) rfl ?_); refine zV (some 4) rfl rfl Try.func63 (qK25) rfl #[.int .i64 a0, .int .i64 0, .int .i64 7] rfl (qK2) ?_; (with_reducible refine (spec_l1In.calls a0 0 7 t398 _ A2.1).mono ?_); rintro e w' ⟨rfl, ⟨nd, rfl⟩⟩; refine ⟨_, rfl, ?_⟩))
 go_ret
 exact ⟨(qK10), (qK24)⟩

def spec_l2Bearing.f (a0 : Int) : Option (Bool) := (spec_l1In.f a0 0 359).bind fun t399 => (some t399)
theorem spec_l2Bearing.calls (a0 : Int) (r : Bool) (w : World) (h : spec_l2Bearing.f a0 = some r) :
  Calls Try.prog 74 #[.int .i64 a0] w fun e w' => e = .returned (.bool r) ∧ Drawn0 w w' := by
 have H : ((spec_l1In.f a0 0 359).bind fun t399 => (some t399)) = some r := h; clear h; replace H := zC H; obtain ⟨t399, A20, H⟩ := H; replace H : (some t399) = some r := H; have A2 := za A20; clear A20; obtain rfl := zm H
 go_enter Try.func74, Try.ntmps74
 go_wp2_with (first | ((with_reducible refine zp (f := 63) rfl ?_); refine zV (some 4) rfl rfl Try.func63 (qK25) rfl #[.int .i64 a0, .int .i64 0, .int .i64 359] rfl (qK2) ?_; (with_reducible refine (spec_l1In.calls a0 0 359 t399 _ A2.1).mono ?_); rintro e w' ⟨rfl, ⟨nd, rfl⟩⟩; refine ⟨_, rfl, ?_⟩))
 go_ret
 exact ⟨(qK10), (qK24)⟩

end Go.Proofs.Ytkocflfadlempaa.MK
