-- tight2 (a walk)
import Derived.Test.YtoljdjgndogegaaMSx0
namespace Go.Proofs.Ytoljdjgndogegaa.MS
open Go.RowKit Go.Proofs.YtoljdjgndogegaaW.PrintWords Go.Proofs.YtoljdjgndogegaaW.PrintLast
set_option maxHeartbeats 8000000
set_option maxRecDepth 100000
attribute [local go_sem] max2_int min2_int max_two min_two
set_option linter.unusedVariables false
set_option linter.unusedSimpArgs false

def laws_vInts.l0 : Nat → List Int → List Int → Int → Option (Bool)
 | 0, _, _, _ => none
 | k + 1, x0, x1, x5 => if x5 < (x0.length : Int) then (if 0 ≤ x5 then (if x5 < (x1.length : Int) then (if (rd x0 x5) = (rd x1 x5) then (laws_vInts.l0 k x0 x1 (wrap64 (x5 + 1))) else (some false)) else (none)) else (none)) else (some true)
def laws_vInts.f (k : Nat) (l0 : List Int) (l1 : List Int) : Option (Bool) := if (l0.length : Int) = (l1.length : Int) then (laws_vInts.l0 k l0 l1 0) else (some false)
theorem laws_vInts.calls (k : Nat) (A0 : Option Addr) (c0 : Nat) (l0 : List Int) (A1 : Option Addr) (c1 : Nat) (l1 : List Int) (r : Bool) (w : World) (hr0 : Kd.C (Kd.int .i64) w A0 l0.length l0) (hc0 : l0.length ≤ c0) (hr1 : Kd.C (Kd.int .i64) w A1 l1.length l1) (hc1 : l1.length ≤ c1) (h : laws_vInts.f k l0 l1 = some r) :
  Calls Try.prog 9 #[.slice A0 l0.length c0, .slice A1 l1.length c1] w fun e w' => e = .returned (.bool r) ∧ Drawn0 w w' := by
 have HR0 := za hr0; have HC0 := za hc0; clear hr0 hc0; have HR1 := za hr1; have HC1 := za hc1; clear hr1 hc1; have H : (if (l0.length : Int) = (l1.length : Int) then (laws_vInts.l0 k l0 l1 0) else (some false)) = some r := h; clear h
 by_cases c3 : (l0.length : Int) = (l1.length : Int)
 ·rw [yb c3] at H; have c3b0 : ((l0.length : Int) == (l1.length : Int)) = true := zT c3; have c3b1 : ((l0.length : Int) != (l1.length : Int)) = false := zy c3
  have c3b2 : (l0.length == l1.length) = true := by first | simpa using c3 | (simp at c3 ⊢; omega)
  clear c3; have H' := za H; clear H
  go_enter Try.func9, Try.ntmps9
  go_wp2
  repeat (go_quiet (fail); try go_wp2)
  go_loopg [5] k (fun kq v5 w' => ∃ (x5_1 : Int), v5 = .int .i64 x5_1 ∧ Aside0 (laws_vInts.l0 kq l0 l1 x5_1 = some r) ∧ Aside0 (kq ≤ k) ∧ Drawn0 w w')
  case atStart => exact ⟨(0), (qS16), H', ⟨zo _⟩, (qS30)⟩
  case round =>
   clear H'; (try clear c1); (try clear p2); (try clear c3); (try clear c3b0); (try clear c3b1); (try clear c3b2); obtain ⟨x5_1, rfl, HA, HK1, ⟨m1, rfl⟩⟩ := hrel
   cases gk with
   | zero => exact absurd HA.1 (by simp [laws_vInts.l0])
   | succ k1 =>
    have H := HA.1; clear HA; simp only [laws_vInts.l0] at H
    by_cases c4 : x5_1 < (l0.length : Int)
    ·rw [yb c4] at H; have c4b0 : decide (x5_1 < (l0.length : Int)) = true := zc c4; clear c4
     by_cases c5 : 0 ≤ x5_1
     ·rw [yb c5] at H; have c5b0 : decide (0 ≤ x5_1) = true := zc c5; clear c5
      by_cases c6 : x5_1 < (l1.length : Int)
      ·rw [yb c6] at H; have c6b0 : decide (x5_1 < (l1.length : Int)) = true := zc c6; clear c6
       by_cases c7 : (rd l0 x5_1) = (rd l1 x5_1)
       ·rw [yb c7] at H; have c7b0 : ((rd l0 x5_1) == (rd l1 x5_1)) = true := zT c7; have c7b1 : ((rd l0 x5_1) != (rd l1 x5_1)) = false := zy c7; clear c7; have H' := za H; clear H; have p101 : 0 ≤ (x5_1 : Int) := zb (qS8); have q101 : x5_1 < (l0.length : Int) := zb (qS8); obtain ⟨ad101, e101, hx101_0⟩ := zJ HR0.1 x5_1 p101 q101; cases e101; replace p101 := zw p101; replace q101 := zw q101; have p102 : 0 ≤ (x5_1 : Int) := zb (qS8); have q102 : x5_1 < (l1.length : Int) := zb (qS8); obtain ⟨ad102, e102, hx102_0⟩ := zJ HR1.1 x5_1 p102 q102; cases e102; replace p102 := zw p102; replace q102 := zw q102
        go_wp2
        repeat (go_quiet (fail); try go_wp2)
        go_roundg k1
        case measure => have := HK1.1; omega
        case rel => exact ⟨(wrap64 (x5_1 + 1)), (qS16), H', ⟨by have := HK1.1; omega⟩, (qS30)⟩
       ·rw [yc c7] at H; have c7b0 : ((rd l0 x5_1) == (rd l1 x5_1)) = false := zx c7; have c7b1 : ((rd l0 x5_1) != (rd l1 x5_1)) = true := zU c7; obtain rfl := zm H; have p101 : 0 ≤ (x5_1 : Int) := zb (qS8); have q101 : x5_1 < (l0.length : Int) := zb (qS8); obtain ⟨ad101, e101, hx101_0⟩ := zJ HR0.1 x5_1 p101 q101; cases e101; replace p101 := zw p101; replace q101 := zw q101; have p102 : 0 ≤ (x5_1 : Int) := zb (qS8); have q102 : x5_1 < (l1.length : Int) := zb (qS8); obtain ⟨ad102, e102, hx102_0⟩ := zJ HR1.1 x5_1 p102 q102; cases e102; replace p102 := zw p102; replace q102 := zw q102
        go_wp2
        repeat (go_quiet (fail); try go_wp2)
        go_ret
        exact ⟨(qS16), (qS30)⟩
      ·rw [yc c6] at H
       exact absurd H (by simp)
     ·rw [yc c5] at H
      exact absurd H (by simp)
    ·rw [yc c4] at H; have c4b0 : decide (x5_1 < (l0.length : Int)) = false := zv c4; clear c4; obtain rfl := zm H
     go_wp2
     repeat (go_quiet (fail); try go_wp2)
     go_ret
     exact ⟨(qS16), (qS30)⟩
 ·rw [yc c3] at H; have c3b0 : ((l0.length : Int) == (l1.length : Int)) = false := zx c3; have c3b1 : ((l0.length : Int) != (l1.length : Int)) = true := zU c3
  have c3b2 : (l0.length == l1.length) = false := by first | simpa using c3 | (simp at c3 ⊢; omega)
  obtain rfl := zm H
  go_enter Try.func9, Try.ntmps9
  go_wp2
  repeat (go_quiet (fail); try go_wp2)
  go_ret
  exact ⟨(qS16), (qS30)⟩

def impl_within.f (a0 : Int) (a1 : Int) (a2 : Int) : Option (Bool) := if a0 ≥ a1 then (some (decide (a0 ≤ a2))) else (some false)
theorem impl_within.calls (a0 : Int) (a1 : Int) (a2 : Int) (r : Bool) (w : World) (h : impl_within.f a0 a1 a2 = some r) :
  Calls Try.prog 34 #[.int .i64 a0, .int .i64 a1, .int .i64 a2] w fun e w' => e = .returned (.bool r) ∧ Drawn0 w w' := by
 have H : (if a0 ≥ a1 then (some (decide (a0 ≤ a2))) else (some false)) = some r := h; clear h
 by_cases c4 : a0 ≥ a1
 ·rw [yb c4] at H; have c4b0 : decide (a1 ≤ a0) = true := zc c4; clear c4; obtain rfl := zm H
  go_enter Try.func34, Try.ntmps34
  go_wp2
  go_ret
  exact ⟨(qS16), (qS30)⟩
 ·rw [yc c4] at H; have c4b0 : decide (a1 ≤ a0) = false := zv c4; clear c4; obtain rfl := zm H
  go_enter Try.func34, Try.ntmps34
  go_wp2
  go_ret
  exact ⟨(qS16), (qS30)⟩

def impl_isStation.f (a0 : Int) : Option (Bool) := (impl_within.f a0 0 7).bind fun t103 => (some t103)
theorem impl_isStation.calls (a0 : Int) (r : Bool) (w : World) (h : impl_isStation.f a0 = some r) :
  Calls Try.prog 66 #[.int .i64 a0] w fun e w' => e = .returned (.bool r) ∧ Drawn0 w w' := by
 have H : ((impl_within.f a0 0 7).bind fun t103 => (some t103)) = some r := h; clear h; replace H := zC H; obtain ⟨t103, A20, H⟩ := H; replace H : (some t103) = some r := H; have A2 := za A20; clear A20; obtain rfl := zm H
 go_enter Try.func66, Try.ntmps66
 go_wp2_with (first | ((with_reducible refine zp (f := 34) rfl ?_); refine zV (some 4) rfl rfl Try.func34 (qS27) rfl #[.int .i64 a0, .int .i64 0, .int .i64 7] rfl (qS2) ?_; (with_reducible refine (impl_within.calls a0 0 7 t103 _ A2.1).mono ?_); rintro e w' ⟨rfl, ⟨nd, rfl⟩⟩; refine ⟨_, rfl, ?_⟩))
 go_ret
 exact ⟨(qS16), (qS30)⟩

def impl_isBearing.f (a0 : Int) : Option (Bool) := (impl_within.f a0 0 359).bind fun t104 => (some t104)
theorem impl_isBearing.calls (a0 : Int) (r : Bool) (w : World) (h : impl_isBearing.f a0 = some r) :
  Calls Try.prog 90 #[.int .i64 a0] w fun e w' => e = .returned (.bool r) ∧ Drawn0 w w' := by
 have H : ((impl_within.f a0 0 359).bind fun t104 => (some t104)) = some r := h; clear h; replace H := zC H; obtain ⟨t104, A20, H⟩ := H; replace H : (some t104) = some r := H; have A2 := za A20; clear A20; obtain rfl := zm H
 go_enter Try.func90, Try.ntmps90
 go_wp2_with (first | ((with_reducible refine zp (f := 34) rfl ?_); refine zV (some 4) rfl rfl Try.func34 (qS27) rfl #[.int .i64 a0, .int .i64 0, .int .i64 359] rfl (qS2) ?_; (with_reducible refine (impl_within.calls a0 0 359 t104 _ A2.1).mono ?_); rintro e w' ⟨rfl, ⟨nd, rfl⟩⟩; refine ⟨_, rfl, ?_⟩))
 go_ret
 exact ⟨(qS16), (qS30)⟩

def impl_IsLeg.f (a0_0 : Int) (a0_1 : Int) (a0_2 : Int) (a0_3 : Int) (a0_4 : Int) : Option (Bool) := (impl_isStation.f a0_0).bind fun t106 => (if t106 = true then ((impl_isStation.f a0_1).bind fun t107 => (if t107 = true then (if a0_0 = a0_1 then (some false) else ((impl_within.f a0_2 1 500).bind fun t108 => (if t108 = true then ((impl_isBearing.f a0_3).bind fun t109 => (if t109 = true then ((impl_within.f a0_4 (-90) 90).bind fun t110 => (some t110)) else (some false))) else (some false)))) else (some false))) else (some false))
theorem impl_IsLeg.calls (a0_0 : Int) (a0_1 : Int) (a0_2 : Int) (a0_3 : Int) (a0_4 : Int) (r : Bool) (w : World) (h : impl_IsLeg.f a0_0 a0_1 a0_2 a0_3 a0_4 = some r) :
  Calls Try.prog 73 #[.agg #[.int .i64 a0_0, .int .i64 a0_1, .int .i64 a0_2, .int .i64 a0_3, .int .i64 a0_4]] w fun e w' => e = .returned (.bool r) ∧ Below w.heap.size w w' := by
 have hu58 := Try.underlying58; have HB := za (zs w.heap.size w); have H : ((impl_isStation.f a0_0).bind fun t106 => (if t106 = true then ((impl_isStation.f a0_1).bind fun t107 => (if t107 = true then (if a0_0 = a0_1 then (some false) else ((impl_within.f a0_2 1 500).bind fun t108 => (if t108 = true then ((impl_isBearing.f a0_3).bind fun t109 => (if t109 = true then ((impl_within.f a0_4 (-90) 90).bind fun t110 => (some t110)) else (some false))) else (some false)))) else (some false))) else (some false))) = some r := h; clear h; replace H := bindA H; obtain ⟨t106, A2, H⟩ := H; (try dsimp only at H)
 by_cases c3 : t106 = true
 ·subst c3; rw [yb rfl] at H; replace H := bindA H; obtain ⟨t107, A4, H⟩ := H; (try dsimp only at H)
  by_cases c5 : t107 = true
  ·subst c5; rw [yb rfl] at H
   by_cases c6 : a0_0 = a0_1
   ·rw [yb c6] at H; have c6b0 : (a0_0 == a0_1) = true := zT c6; have c6b1 : (a0_0 != a0_1) = false := zy c6; clear c6; obtain rfl := zm H
    go_enter Try.func73, Try.ntmps73
    go_wp2_with (first | ((with_reducible refine zq (N := 1) rfl ?_); refine zB ?hg (N := 1) ?hd (cs := #[.int .i64 a0_0, .int .i64 a0_1, .int .i64 a0_2, .int .i64 a0_3, .int .i64 a0_4]) (t := 58) ?hr ?_; (case hd | hg => rfl); (case hr => exact (qS26)); intro gb105 hg w7 hbox hb; have BK105 := za hbox; have GW105 := za qS84; have GE105 := za qS84; replace HB := za qS64; clear hb hbox hg; have hcz8_0 : w7.cell? ⟨gb105, 0, none⟩ = some (.int .i64 a0_0) := (zf BK105.1 0).trans rfl; have hcz8_1 : w7.cell? ⟨gb105, 1, none⟩ = some (.int .i64 a0_1) := (zf BK105.1 1).trans rfl; have hcz8_2 : w7.cell? ⟨gb105, 2, none⟩ = some (.int .i64 a0_2) := (zf BK105.1 2).trans rfl; have hcz8_3 : w7.cell? ⟨gb105, 3, none⟩ = some (.int .i64 a0_3) := (zf BK105.1 3).trans rfl; have hcz8_4 : w7.cell? ⟨gb105, 4, none⟩ = some (.int .i64 a0_4) := (zf BK105.1 4).trans rfl; have hfz8_0 := ze BK105.1 0; have hfz8_1 := ze BK105.1 1; have hfz8_2 := ze BK105.1 2; have hfz8_3 := ze BK105.1 3; have hfz8_4 := ze BK105.1 4) | ((with_reducible refine zp (f := 66) rfl ?_); refine zV (some 5) rfl rfl Try.func66 (qS27) rfl #[.int .i64 a0_0] rfl (qS2) ?_; (with_reducible refine (impl_isStation.calls a0_0 true _ A2.1).mono ?_); rintro e w' ⟨rfl, ⟨nd, rfl⟩⟩; refine ⟨_, rfl, ?_⟩) | (go_at_call 66; (with_reducible refine (impl_isStation.calls a0_1 true _ A4.1).mono ?_); rintro e w' ⟨rfl, ⟨nd, rfl⟩⟩))
    go_ret
    exact ⟨(qS11), (qS25 GE105.1)⟩
   ·rw [yc c6] at H; have c6b0 : (a0_0 == a0_1) = false := zx c6; have c6b1 : (a0_0 != a0_1) = true := zU c6; replace H := bindA H; obtain ⟨t108, A9, H⟩ := H; (try dsimp only at H)
    by_cases c10 : t108 = true
    ·subst c10; rw [yb rfl] at H; replace H := bindA H; obtain ⟨t109, A11, H⟩ := H; (try dsimp only at H)
     by_cases c12 : t109 = true
     ·subst c12; rw [yb rfl] at H; replace H := zC H; obtain ⟨t110, A130, H⟩ := H; replace H : (some t110) = some r := H; have A13 := za A130; clear A130; obtain rfl := zm H
      go_enter Try.func73, Try.ntmps73
      go_wp2_with (first | ((with_reducible refine zq (N := 1) rfl ?_); refine zB ?hg (N := 1) ?hd (cs := #[.int .i64 a0_0, .int .i64 a0_1, .int .i64 a0_2, .int .i64 a0_3, .int .i64 a0_4]) (t := 58) ?hr ?_; (case hd | hg => rfl); (case hr => exact (qS26)); intro gb105 hg w14 hbox hb; have BK105 := za hbox; have GW105 := za qS84; have GE105 := za qS84; replace HB := za qS64; clear hb hbox hg; have hcz15_0 : w14.cell? ⟨gb105, 0, none⟩ = some (.int .i64 a0_0) := (zf BK105.1 0).trans rfl; have hcz15_1 : w14.cell? ⟨gb105, 1, none⟩ = some (.int .i64 a0_1) := (zf BK105.1 1).trans rfl; have hcz15_2 : w14.cell? ⟨gb105, 2, none⟩ = some (.int .i64 a0_2) := (zf BK105.1 2).trans rfl; have hcz15_3 : w14.cell? ⟨gb105, 3, none⟩ = some (.int .i64 a0_3) := (zf BK105.1 3).trans rfl; have hcz15_4 : w14.cell? ⟨gb105, 4, none⟩ = some (.int .i64 a0_4) := (zf BK105.1 4).trans rfl; have hfz15_0 := ze BK105.1 0; have hfz15_1 := ze BK105.1 1; have hfz15_2 := ze BK105.1 2; have hfz15_3 := ze BK105.1 3; have hfz15_4 := ze BK105.1 4) | ((with_reducible refine zp (f := 66) rfl ?_); refine zV (some 5) rfl rfl Try.func66 (qS27) rfl #[.int .i64 a0_0] rfl (qS2) ?_; (with_reducible refine (impl_isStation.calls a0_0 true _ A2.1).mono ?_); rintro e w' ⟨rfl, ⟨nd, rfl⟩⟩; refine ⟨_, rfl, ?_⟩) | (go_at_call 66; (with_reducible refine (impl_isStation.calls a0_1 true _ A4.1).mono ?_); rintro e w' ⟨rfl, ⟨nd, rfl⟩⟩) | (go_at_call 34; (with_reducible refine (impl_within.calls a0_2 1 500 true _ A9.1).mono ?_); rintro e w' ⟨rfl, ⟨nd, rfl⟩⟩) | (go_at_call 90; (with_reducible refine (impl_isBearing.calls a0_3 true _ A11.1).mono ?_); rintro e w' ⟨rfl, ⟨nd, rfl⟩⟩) | (go_at_call 34; (with_reducible refine (impl_within.calls a0_4 (-90) 90 t110 _ A13.1).mono ?_); rintro e w' ⟨rfl, ⟨nd, rfl⟩⟩))
      go_ret
      exact ⟨(qS11), (qS25 GE105.1)⟩
     ·replace c12 := zn c12; subst c12; rw [yc (show ¬ (false = true) by decide)] at H; obtain rfl := zm H
      go_enter Try.func73, Try.ntmps73
      go_wp2_with (first | ((with_reducible refine zq (N := 1) rfl ?_); refine zB ?hg (N := 1) ?hd (cs := #[.int .i64 a0_0, .int .i64 a0_1, .int .i64 a0_2, .int .i64 a0_3, .int .i64 a0_4]) (t := 58) ?hr ?_; (case hd | hg => rfl); (case hr => exact (qS26)); intro gb105 hg w16 hbox hb; have BK105 := za hbox; have GW105 := za qS84; have GE105 := za qS84; replace HB := za qS64; clear hb hbox hg; have hcz17_0 : w16.cell? ⟨gb105, 0, none⟩ = some (.int .i64 a0_0) := (zf BK105.1 0).trans rfl; have hcz17_1 : w16.cell? ⟨gb105, 1, none⟩ = some (.int .i64 a0_1) := (zf BK105.1 1).trans rfl; have hcz17_2 : w16.cell? ⟨gb105, 2, none⟩ = some (.int .i64 a0_2) := (zf BK105.1 2).trans rfl; have hcz17_3 : w16.cell? ⟨gb105, 3, none⟩ = some (.int .i64 a0_3) := (zf BK105.1 3).trans rfl; have hcz17_4 : w16.cell? ⟨gb105, 4, none⟩ = some (.int .i64 a0_4) := (zf BK105.1 4).trans rfl; have hfz17_0 := ze BK105.1 0; have hfz17_1 := ze BK105.1 1; have hfz17_2 := ze BK105.1 2; have hfz17_3 := ze BK105.1 3; have hfz17_4 := ze BK105.1 4) | ((with_reducible refine zp (f := 66) rfl ?_); refine zV (some 5) rfl rfl Try.func66 (qS27) rfl #[.int .i64 a0_0] rfl (qS2) ?_; (with_reducible refine (impl_isStation.calls a0_0 true _ A2.1).mono ?_); rintro e w' ⟨rfl, ⟨nd, rfl⟩⟩; refine ⟨_, rfl, ?_⟩) | (go_at_call 66; (with_reducible refine (impl_isStation.calls a0_1 true _ A4.1).mono ?_); rintro e w' ⟨rfl, ⟨nd, rfl⟩⟩) | (go_at_call 34; (with_reducible refine (impl_within.calls a0_2 1 500 true _ A9.1).mono ?_); rintro e w' ⟨rfl, ⟨nd, rfl⟩⟩) | (go_at_call 90; (with_reducible refine (impl_isBearing.calls a0_3 false _ A11.1).mono ?_); rintro e w' ⟨rfl, ⟨nd, rfl⟩⟩))
      go_ret
      exact ⟨(qS11), (qS25 GE105.1)⟩
    ·replace c10 := zn c10; subst c10; rw [yc (show ¬ (false = true) by decide)] at H; obtain rfl := zm H
     go_enter Try.func73, Try.ntmps73
     go_wp2_with (first | ((with_reducible refine zq (N := 1) rfl ?_); refine zB ?hg (N := 1) ?hd (cs := #[.int .i64 a0_0, .int .i64 a0_1, .int .i64 a0_2, .int .i64 a0_3, .int .i64 a0_4]) (t := 58) ?hr ?_; (case hd | hg => rfl); (case hr => exact (qS26)); intro gb105 hg w18 hbox hb; have BK105 := za hbox; have GW105 := za qS84; have GE105 := za qS84; replace HB := za qS64; clear hb hbox hg; have hcz19_0 : w18.cell? ⟨gb105, 0, none⟩ = some (.int .i64 a0_0) := (zf BK105.1 0).trans rfl; have hcz19_1 : w18.cell? ⟨gb105, 1, none⟩ = some (.int .i64 a0_1) := (zf BK105.1 1).trans rfl; have hcz19_2 : w18.cell? ⟨gb105, 2, none⟩ = some (.int .i64 a0_2) := (zf BK105.1 2).trans rfl; have hcz19_3 : w18.cell? ⟨gb105, 3, none⟩ = some (.int .i64 a0_3) := (zf BK105.1 3).trans rfl; have hcz19_4 : w18.cell? ⟨gb105, 4, none⟩ = some (.int .i64 a0_4) := (zf BK105.1 4).trans rfl; have hfz19_0 := ze BK105.1 0; have hfz19_1 := ze BK105.1 1; have hfz19_2 := ze BK105.1 2; have hfz19_3 := ze BK105.1 3; have hfz19_4 := ze BK105.1 4) | ((with_reducible refine zp (f := 66) rfl ?_); refine zV (some 5) rfl rfl Try.func66 (qS27) rfl #[.int .i64 a0_0] rfl (qS2) ?_; (with_reducible refine (impl_isStation.calls a0_0 true _ A2.1).mono ?_); rintro e w' ⟨rfl, ⟨nd, rfl⟩⟩; refine ⟨_, rfl, ?_⟩) | (go_at_call 66; (with_reducible refine (impl_isStation.calls a0_1 true _ A4.1).mono ?_); rintro e w' ⟨rfl, ⟨nd, rfl⟩⟩) | (go_at_call 34; (with_reducible refine (impl_within.calls a0_2 1 500 false _ A9.1).mono ?_); rintro e w' ⟨rfl, ⟨nd, rfl⟩⟩))
     go_ret
     exact ⟨(qS11), (qS25 GE105.1)⟩
  ·replace c5 := zn c5; subst c5; rw [yc (show ¬ (false = true) by decide)] at H; obtain rfl := zm H
   go_enter Try.func73, Try.ntmps73
   go_wp2_with (first | ((with_reducible refine zq (N := 1) rfl ?_); refine zB ?hg (N := 1) ?hd (cs := #[.int .i64 a0_0, .int .i64 a0_1, .int .i64 a0_2, .int .i64 a0_3, .int .i64 a0_4]) (t := 58) ?hr ?_; (case hd | hg => rfl); (case hr => exact (qS26)); intro gb105 hg w20 hbox hb; have BK105 := za hbox; have GW105 := za qS84; have GE105 := za qS84; replace HB := za qS64; clear hb hbox hg; have hcz21_0 : w20.cell? ⟨gb105, 0, none⟩ = some (.int .i64 a0_0) := (zf BK105.1 0).trans rfl; have hcz21_1 : w20.cell? ⟨gb105, 1, none⟩ = some (.int .i64 a0_1) := (zf BK105.1 1).trans rfl; have hcz21_2 : w20.cell? ⟨gb105, 2, none⟩ = some (.int .i64 a0_2) := (zf BK105.1 2).trans rfl; have hcz21_3 : w20.cell? ⟨gb105, 3, none⟩ = some (.int .i64 a0_3) := (zf BK105.1 3).trans rfl; have hcz21_4 : w20.cell? ⟨gb105, 4, none⟩ = some (.int .i64 a0_4) := (zf BK105.1 4).trans rfl; have hfz21_0 := ze BK105.1 0; have hfz21_1 := ze BK105.1 1; have hfz21_2 := ze BK105.1 2; have hfz21_3 := ze BK105.1 3; have hfz21_4 := ze BK105.1 4) | ((with_reducible refine zp (f := 66) rfl ?_); refine zV (some 5) rfl rfl Try.func66 (qS27) rfl #[.int .i64 a0_0] rfl (qS2) ?_; (with_reducible refine (impl_isStation.calls a0_0 true _ A2.1).mono ?_); rintro e w' ⟨rfl, ⟨nd, rfl⟩⟩; refine ⟨_, rfl, ?_⟩) | (go_at_call 66; (with_reducible refine (impl_isStation.calls a0_1 false _ A4.1).mono ?_); rintro e w' ⟨rfl, ⟨nd, rfl⟩⟩))
   go_ret
   exact ⟨(qS11), (qS25 GE105.1)⟩
 ·replace c3 := zn c3; subst c3; rw [yc (show ¬ (false = true) by decide)] at H; obtain rfl := zm H
  go_enter Try.func73, Try.ntmps73
  go_wp2_with (first | ((with_reducible refine zq (N := 1) rfl ?_); refine zB ?hg (N := 1) ?hd (cs := #[.int .i64 a0_0, .int .i64 a0_1, .int .i64 a0_2, .int .i64 a0_3, .int .i64 a0_4]) (t := 58) ?hr ?_; (case hd | hg => rfl); (case hr => exact (qS26)); intro gb105 hg w22 hbox hb; have BK105 := za hbox; have GW105 := za qS84; have GE105 := za qS84; replace HB := za qS64; clear hb hbox hg; have hcz23_0 : w22.cell? ⟨gb105, 0, none⟩ = some (.int .i64 a0_0) := (zf BK105.1 0).trans rfl; have hcz23_1 : w22.cell? ⟨gb105, 1, none⟩ = some (.int .i64 a0_1) := (zf BK105.1 1).trans rfl; have hcz23_2 : w22.cell? ⟨gb105, 2, none⟩ = some (.int .i64 a0_2) := (zf BK105.1 2).trans rfl; have hcz23_3 : w22.cell? ⟨gb105, 3, none⟩ = some (.int .i64 a0_3) := (zf BK105.1 3).trans rfl; have hcz23_4 : w22.cell? ⟨gb105, 4, none⟩ = some (.int .i64 a0_4) := (zf BK105.1 4).trans rfl; have hfz23_0 := ze BK105.1 0; have hfz23_1 := ze BK105.1 1; have hfz23_2 := ze BK105.1 2; have hfz23_3 := ze BK105.1 3; have hfz23_4 := ze BK105.1 4) | ((with_reducible refine zp (f := 66) rfl ?_); refine zV (some 5) rfl rfl Try.func66 (qS27) rfl #[.int .i64 a0_0] rfl (qS2) ?_; (with_reducible refine (impl_isStation.calls a0_0 false _ A2.1).mono ?_); rintro e w' ⟨rfl, ⟨nd, rfl⟩⟩; refine ⟨_, rfl, ?_⟩))
  go_ret
  exact ⟨(qS11), (qS25 GE105.1)⟩

def impl_areLegs.l0 : Nat → List (S58) → List (S58) → Int → Int → Option (Bool)
 | 0, _, _, _, _ => none
 | k + 1, x0, x5, x6, x7 => if x7 < x6 then (if 0 ≤ x7 then (if x7 < (x5.length : Int) then ((impl_IsLeg.f ((rd_T58 x5 x7).f0) ((rd_T58 x5 x7).f1) ((rd_T58 x5 x7).f2) ((rd_T58 x5 x7).f3) ((rd_T58 x5 x7).f4)).bind fun t113 => (if t113 = true then (impl_areLegs.l0 k x0 x5 x6 (wrap64 (x7 + 1))) else (some false))) else (none)) else (none)) else (some (decide ((x0.length : Int) ≤ 12)))
def impl_areLegs.f (k : Nat) (l0 : List (S58)) : Option (Bool) := impl_areLegs.l0 k l0 l0 (l0.length : Int) 0
theorem impl_areLegs.calls (k : Nat) (A0 : Option Addr) (c0 : Nat) (l0 : List (S58)) (r : Bool) (w : World) (hr0 : Kd.C k58 w A0 l0.length l0) (hc0 : l0.length ≤ c0) (h : impl_areLegs.f k l0 = some r) :
  Calls Try.prog 42 #[.slice A0 l0.length c0] w fun e w' => e = .returned (.bool r) ∧ Below w.heap.size w w' := by
 have hu58 := Try.underlying58; have HR0 := za hr0; have HC0 := za hc0; clear hr0 hc0; have HB := za (zs w.heap.size w); have H : (impl_areLegs.l0 k l0 l0 (l0.length : Int) 0) = some r := h; clear h; have H' := za H; clear H
 go_enter Try.func42, Try.ntmps42
 go_wp2
 go_loopg [7] k (fun kq v7 w' => ∃ (x7_1 : Int), v7 = .int .i64 x7_1 ∧ Aside0 (impl_areLegs.l0 kq l0 l0 (l0.length : Int) x7_1 = some r) ∧ Aside0 (kq ≤ k) ∧ Aside0 (Below w.heap.size w w'))
 case atStart => exact ⟨(0), (qS16), H', ⟨zo _⟩, ⟨(qS0)⟩⟩
 case round =>
  clear H'; obtain ⟨x7_1, rfl, HA, HK1, HB⟩ := hrel
  cases gk with
  | zero => exact absurd HA.1 (by simp [impl_areLegs.l0])
  | succ k1 =>
   have H := HA.1; clear HA; simp only [impl_areLegs.l0] at H
   by_cases c2 : x7_1 < (l0.length : Int)
   ·rw [yb c2] at H; have c2b0 : decide (x7_1 < (l0.length : Int)) = true := zc c2; clear c2
    by_cases c3 : 0 ≤ x7_1
    ·rw [yb c3] at H; have c3b0 : decide (0 ≤ x7_1) = true := zc c3; clear c3
     by_cases c4 : x7_1 < (l0.length : Int)
     ·rw [yb c4] at H; have c4b0 : decide (x7_1 < (l0.length : Int)) = true := zc c4; clear c4; replace H := bindA H; obtain ⟨t113, A5, H⟩ := H; (try dsimp only at H)
      by_cases c6 : t113 = true
      ·subst c6; rw [yb rfl] at H; have H' := za H; clear H; have p111 : 0 ≤ (x7_1 : Int) := zb (qS8); have q111 : x7_1 < (l0.length : Int) := zb (qS8); obtain ⟨ad111, e111, hx111_0, hx111_1, hx111_2, hx111_3, hx111_4⟩ := at_T58 HR0.1 x7_1 p111 q111; cases e111; replace hx111_0 := (HB.1.cell (zd w _ hx111_0)).trans hx111_0; replace hx111_1 := (HB.1.cell (zd w _ hx111_1)).trans hx111_1; replace hx111_2 := (HB.1.cell (zd w _ hx111_2)).trans hx111_2; replace hx111_3 := (HB.1.cell (zd w _ hx111_3)).trans hx111_3; replace hx111_4 := (HB.1.cell (zd w _ hx111_4)).trans hx111_4; replace p111 := zw p111; replace q111 := zw q111
       go_wp2_with (first | ((with_reducible refine zq (N := 4) rfl ?_); refine zB ?hg (N := 4) ?hd (cs := #[.int .i64 0, .int .i64 0, .int .i64 0, .int .i64 0, .int .i64 0]) (t := 58) ?hr ?_; (case hd | hg => rfl); (case hr => exact (qS26)); intro gb112 hg w7 hbox hb; have BK112 := za hbox; have GW112 := za qS96; have GE112 := za qS96; replace HB := za qS64; clear hb hbox hg; have hcz8_0 : w7.cell? ⟨gb112, 0, none⟩ = some (.int .i64 0) := (zf BK112.1 0).trans rfl; have hcz8_1 : w7.cell? ⟨gb112, 1, none⟩ = some (.int .i64 0) := (zf BK112.1 1).trans rfl; have hcz8_2 : w7.cell? ⟨gb112, 2, none⟩ = some (.int .i64 0) := (zf BK112.1 2).trans rfl; have hcz8_3 : w7.cell? ⟨gb112, 3, none⟩ = some (.int .i64 0) := (zf BK112.1 3).trans rfl; have hcz8_4 : w7.cell? ⟨gb112, 4, none⟩ = some (.int .i64 0) := (zf BK112.1 4).trans rfl; have hfz8_0 := ze BK112.1 0; have hfz8_1 := ze BK112.1 1; have hfz8_2 := ze BK112.1 2; have hfz8_3 := ze BK112.1 3; have hfz8_4 := ze BK112.1 4) | ((with_reducible refine zp (f := 73) rfl ?_); refine zV (some 12) rfl rfl Try.func73 (qS27) rfl #[.agg #[.int .i64 ((rd_T58 l0 x7_1).f0), .int .i64 ((rd_T58 l0 x7_1).f1), .int .i64 ((rd_T58 l0 x7_1).f2), .int .i64 ((rd_T58 l0 x7_1).f3), .int .i64 ((rd_T58 l0 x7_1).f4)]] rfl (qS2) ?_; (with_reducible refine (impl_IsLeg.calls ((rd_T58 l0 x7_1).f0) ((rd_T58 l0 x7_1).f1) ((rd_T58 l0 x7_1).f2) ((rd_T58 l0 x7_1).f3) ((rd_T58 l0 x7_1).f4) true _ A5.1).mono ?_); rintro e w9 ⟨rfl, hb⟩; refine ⟨_, rfl, ?_⟩; replace BK112 := za (zl (g := gb112) (o := .cells #[.int .i64 ((rd_T58 l0 x7_1).f0), .int .i64 ((rd_T58 l0 x7_1).f1), .int .i64 ((rd_T58 l0 x7_1).f2), .int .i64 ((rd_T58 l0 x7_1).f3), .int .i64 ((rd_T58 l0 x7_1).f4)] 58 (0, 0)) (qS35) hb); replace HB := za (zW (qS25 GE112.1) hb); clear hb))
       go_roundg k1
       case measure => have := HK1.1; omega
       case rel => exact ⟨(wrap64 (x7_1 + 1)), (qS16), H', ⟨by have := HK1.1; omega⟩, ⟨(qS25 GE112.1)⟩⟩
      ·replace c6 := zn c6; subst c6; rw [yc (show ¬ (false = true) by decide)] at H; obtain rfl := zm H; have p111 : 0 ≤ (x7_1 : Int) := zb (qS8); have q111 : x7_1 < (l0.length : Int) := zb (qS8); obtain ⟨ad111, e111, hx111_0, hx111_1, hx111_2, hx111_3, hx111_4⟩ := at_T58 HR0.1 x7_1 p111 q111; cases e111; replace hx111_0 := (HB.1.cell (zd w _ hx111_0)).trans hx111_0; replace hx111_1 := (HB.1.cell (zd w _ hx111_1)).trans hx111_1; replace hx111_2 := (HB.1.cell (zd w _ hx111_2)).trans hx111_2; replace hx111_3 := (HB.1.cell (zd w _ hx111_3)).trans hx111_3; replace hx111_4 := (HB.1.cell (zd w _ hx111_4)).trans hx111_4; replace p111 := zw p111; replace q111 := zw q111
       go_wp2_with (first | ((with_reducible refine zq (N := 4) rfl ?_); refine zB ?hg (N := 4) ?hd (cs := #[.int .i64 0, .int .i64 0, .int .i64 0, .int .i64 0, .int .i64 0]) (t := 58) ?hr ?_; (case hd | hg => rfl); (case hr => exact (qS26)); intro gb112 hg w10 hbox hb; have BK112 := za hbox; have GW112 := za qS96; have GE112 := za qS96; replace HB := za qS64; clear hb hbox hg; have hcz11_0 : w10.cell? ⟨gb112, 0, none⟩ = some (.int .i64 0) := (zf BK112.1 0).trans rfl; have hcz11_1 : w10.cell? ⟨gb112, 1, none⟩ = some (.int .i64 0) := (zf BK112.1 1).trans rfl; have hcz11_2 : w10.cell? ⟨gb112, 2, none⟩ = some (.int .i64 0) := (zf BK112.1 2).trans rfl; have hcz11_3 : w10.cell? ⟨gb112, 3, none⟩ = some (.int .i64 0) := (zf BK112.1 3).trans rfl; have hcz11_4 : w10.cell? ⟨gb112, 4, none⟩ = some (.int .i64 0) := (zf BK112.1 4).trans rfl; have hfz11_0 := ze BK112.1 0; have hfz11_1 := ze BK112.1 1; have hfz11_2 := ze BK112.1 2; have hfz11_3 := ze BK112.1 3; have hfz11_4 := ze BK112.1 4) | ((with_reducible refine zp (f := 73) rfl ?_); refine zV (some 12) rfl rfl Try.func73 (qS27) rfl #[.agg #[.int .i64 ((rd_T58 l0 x7_1).f0), .int .i64 ((rd_T58 l0 x7_1).f1), .int .i64 ((rd_T58 l0 x7_1).f2), .int .i64 ((rd_T58 l0 x7_1).f3), .int .i64 ((rd_T58 l0 x7_1).f4)]] rfl (qS2) ?_; (with_reducible refine (impl_IsLeg.calls ((rd_T58 l0 x7_1).f0) ((rd_T58 l0 x7_1).f1) ((rd_T58 l0 x7_1).f2) ((rd_T58 l0 x7_1).f3) ((rd_T58 l0 x7_1).f4) false _ A5.1).mono ?_); rintro e w12 ⟨rfl, hb⟩; refine ⟨_, rfl, ?_⟩; replace BK112 := za (zl (g := gb112) (o := .cells #[.int .i64 ((rd_T58 l0 x7_1).f0), .int .i64 ((rd_T58 l0 x7_1).f1), .int .i64 ((rd_T58 l0 x7_1).f2), .int .i64 ((rd_T58 l0 x7_1).f3), .int .i64 ((rd_T58 l0 x7_1).f4)] 58 (0, 0)) (qS35) hb); replace HB := za (zW (qS25 GE112.1) hb); clear hb))
       go_ret
       exact ⟨(qS11), (qS25 GE112.1)⟩
     ·rw [yc c4] at H
      exact absurd H (by simp)
    ·rw [yc c3] at H
     exact absurd H (by simp)
   ·rw [yc c2] at H; have c2b0 : decide (x7_1 < (l0.length : Int)) = false := zv c2; clear c2; obtain rfl := zm H
    go_wp2
    go_ret
    exact ⟨(qS11), (qS0)⟩

-- NOT PRINTED: function 74 (slices_IndexFunc_int_int)

-- NOT PRINTED: function 43 (slices_ContainsFunc_int_int)

def impl_AreWidths_1.f (a0 : Int) : Option (Bool) := (impl_within.f a0 0 200).bind fun t114 => (some (!t114))
theorem impl_AreWidths_1.calls (a0 : Int) (r : Bool) (w : World) (h : impl_AreWidths_1.f a0 = some r) :
  Calls Try.prog 44 #[.int .i64 a0] w fun e w' => e = .returned (.bool r) ∧ Drawn0 w w' := by
 have H : ((impl_within.f a0 0 200).bind fun t114 => (some (!t114))) = some r := h; clear h; replace H := zC H; obtain ⟨t114, A20, H⟩ := H; replace H : (some (!t114)) = some r := H; have A2 := za A20; clear A20; obtain rfl := zm H
 go_enter Try.func44, Try.ntmps44
 go_wp2_with (first | ((with_reducible refine zp (f := 34) rfl ?_); refine zV (some 4) rfl rfl Try.func34 (qS27) rfl #[.int .i64 a0, .int .i64 0, .int .i64 200] rfl (qS2) ?_; (with_reducible refine (impl_within.calls a0 0 200 t114 _ A2.1).mono ?_); rintro e w' ⟨rfl, ⟨nd, rfl⟩⟩; refine ⟨_, rfl, ?_⟩))
 go_ret
 exact ⟨(qS16), (qS30)⟩

def idxF {α : Type} (p : α → Bool) : List α → Int → Int
 | [], _ => -1
 | x :: l, i => if p x then i else idxF p l (i + 1)
theorem idxF_step {α : Type} (p : α → Bool) (l : List α) (d : α) (x : Int) (h0 : 0 ≤ x) (h1 : x < l.length) (hm : l.length ≤ 9223372036854775807) :
  idxF p (l.drop x.toNat) x = if p (l.getD x.toNat d) then x else idxF p (l.drop (wrap64 (x + 1)).toNat) (wrap64 (x + 1)) := by
 have hw : wrap64 (x + 1) = x + 1 := by unfold wrap64; omega
 have hl : x.toNat < l.length := by omega
 rw [hw, List.drop_eq_getElem_cons hl, show (x + 1).toNat = x.toNat + 1 by omega]; simp only [idxF, List.getD_eq_getElem?_getD, List.getElem?_eq_getElem hl, Option.getD_some]
theorem idxF_end {α : Type} (p : α → Bool) (l : List α) (x : Int) (h1 : ¬ x < l.length) : idxF p (l.drop x.toNat) x = -1 := by
 rw [List.drop_eq_nil_of_le (by omega)]
 rfl
theorem idxF_ge {α : Type} (p : α → Bool) : ∀ (l : List α) (i : Int), 0 ≤ i → decide (0 ≤ idxF p l i) = l.any p
 | [], _, _ => by simp [idxF]
 | x :: l, i, hi => by
  by_cases h : p x = true
  ·simp [idxF, h, hi]
  ·simp only [Bool.not_eq_true] at h
   simp [idxF, h, idxF_ge p l (i + 1) (by omega)]
theorem impl_AreWidths_idx.calls (caps : Array Value) (p : Int → Bool) (A0 : Option Addr) (c0 : Nat) (l0 : List (Int)) (w : World) (hr0 : Kd.C (Kd.int .i64) w A0 l0.length l0) (hc0 : l0.length ≤ c0)
  (hp : ∀ x W, Below w.heap.size w W → Calls Try.prog 44 (#[.int .i64 x] ++ caps) W fun e W' => e = .returned (.bool (p x)) ∧ Below W.heap.size W W') :
  Calls Try.prog 74 #[.slice A0 l0.length c0, .func (.func 44) #[] caps] w fun e w' => e = .returned (.int .i64 (idxF p l0 0)) ∧ Below w.heap.size w w' := by
 have HR0 := za hr0; have HC0 := za hc0; have HP := za hp; have HM := za hr0.2.1; clear hr0 hc0 hp
 go_enter Try.func74, Try.ntmps74
 go_wp2
 go_loopg [8] l0.length (fun kq v8 w' => ∃ x : Int, v8 = .int .i64 x ∧ Aside0 (0 ≤ x ∧ kq + x.toNat = l0.length ∧ idxF p l0 0 = idxF p (l0.drop x.toNat) x) ∧ Aside0 (Below w.heap.size w w'))
 case atStart => exact ⟨0, rfl, ⟨by simp⟩, ⟨zs _ _⟩⟩
 case round =>
  obtain ⟨x, rfl, HA, HB⟩ := hrel
  by_cases hlt : x < (l0.length : Int)
  ·have c0 : decide (x < (l0.length : Int)) = true := zc hlt; have c1 : decide (0 ≤ x) = true := zc HA.1.1; obtain ⟨ad, e, hx⟩ := zJ (zG HR0.1 HB.1) x HA.1.1 hlt; cases e; have HLT := za hlt; have p1 := zw HA.1.1; have q1 := zw hlt; clear hlt; obtain ⟨k1, rfl⟩ : ∃ k1, gk = k1 + 1 := ⟨gk - 1, by have := HA.1; have := HLT.1; omega⟩; have HS := za (by exact HA.1.2.2.trans (idxF_step p l0 0 x HA.1.1 HLT.1 HM.1))
   cases hq : p (rd l0 x) with
   | true =>
    have HQ := za hq
    go_wp2_with (go_at_call 44; refine (HP.1 _ _ HB.1).mono ?_; rintro e w1 ⟨rfl, hb⟩)
    go_ret
    exact ⟨by rw [HS.1, show p (l0.getD x.toNat 0) = true from HQ.1]; rfl, Below.trans HB.1 (hb.mono HB.1.size)⟩
   | false =>
    have HQ := za hq
    go_wp2_with (go_at_call 44; refine (HP.1 _ _ HB.1).mono ?_; rintro e w1 ⟨rfl, hb⟩)
    go_roundg k1
    case measure => omega
    case rel => exact ⟨wrap64 (x + 1), rfl, ⟨by have := HA.1; have := HLT.1; have := HM.1; unfold wrap64; omega, by have := HA.1; have := HLT.1; have := HM.1; unfold wrap64; omega, by rw [HS.1, show p (l0.getD x.toNat 0) = false from HQ.1]; rfl⟩, ⟨Below.trans HB.1 (hb.mono HB.1.size)⟩⟩
  ·have c0 : decide (x < (l0.length : Int)) = false := zv hlt; have HS := za (by exact HA.1.2.2.trans (idxF_end p l0 x hlt)); clear hlt
   go_wp2
   go_ret
   exact ⟨by rw [HS.1]; rfl, HB.1⟩
theorem impl_AreWidths_cont.calls (caps : Array Value) (p : Int → Bool) (A0 : Option Addr) (c0 : Nat) (l0 : List (Int)) (w : World) (hr0 : Kd.C (Kd.int .i64) w A0 l0.length l0) (hc0 : l0.length ≤ c0)
  (hp : ∀ x W, Below w.heap.size w W → Calls Try.prog 44 (#[.int .i64 x] ++ caps) W fun e W' => e = .returned (.bool (p x)) ∧ Below W.heap.size W W') :
  Calls Try.prog 43 #[.slice A0 l0.length c0, .func (.func 44) #[] caps] w fun e w' => e = .returned (.bool (l0.any p)) ∧ Below w.heap.size w w' := by
 have HI := za (by exact impl_AreWidths_idx.calls caps p A0 c0 l0 w hr0 hc0 hp); clear hr0 hc0 hp
 go_enter Try.func43, Try.ntmps43
 go_wp2_with (go_at_call 74; refine HI.1.mono ?_; rintro e w1 ⟨rfl, hb⟩)
 go_ret
 exact ⟨by rw [← idxF_ge p l0 0 (by omega)]; rfl, hb⟩
def impl_AreWidths.bad (x : Int) : Bool := !(decide (0 ≤ x ∧ x ≤ 200))
theorem impl_AreWidths.bad_eq (x : Int) : impl_AreWidths_1.f x = some (impl_AreWidths.bad x) := by
 unfold impl_AreWidths_1.f impl_within.f impl_AreWidths.bad
 by_cases h1 : 0 ≤ x <;> by_cases h2 : x ≤ 200 <;> simp [h1, h2]
def impl_AreWidths.f (k : Nat) (l0 : List (S58)) (l1 : List Int) : Option Bool := (impl_areLegs.f k l0).bind fun t => some (t && (decide (l1.length = l0.length) && !(l1.any impl_AreWidths.bad)))
theorem impl_AreWidths.calls (k : Nat) (A0 : Option Addr) (c0 : Nat) (l0 : List (S58)) (A1 : Option Addr) (c1 : Nat) (l1 : List Int) (r : Bool) (w : World) (hr0 : Kd.C k58 w A0 l0.length l0) (hc0 : l0.length ≤ c0) (hr1 : Kd.C (Kd.int .i64) w A1 l1.length l1) (hc1 : l1.length ≤ c1) (h : impl_AreWidths.f k l0 l1 = some r) :
  Calls Try.prog 10 #[.slice A0 l0.length c0, .slice A1 l1.length c1] w fun e w' => e = .returned (.bool r) ∧ Below w.heap.size w w' := by
 obtain ⟨t, ht, hr⟩ := zC h; obtain rfl := zm hr; clear h hr; have HL := za (by exact impl_areLegs.calls k A0 c0 l0 t w hr0 hc0 ht); have HC := za (by exact fun w1 (hb : Below w.heap.size w w1) => impl_AreWidths_cont.calls #[] impl_AreWidths.bad A1 c1 l1 w1 (zG hr1 hb) hc1 (fun x W _ => (impl_AreWidths_1.calls x _ W (impl_AreWidths.bad_eq x)).mono fun e W' he => ⟨he.1, he.2.below⟩)); have HM0 := za hr0.2.1; have HM1 := za hr1.2.1; clear hr0 hc0 hr1 hc1 ht
 cases t with
 | false =>
  go_enter Try.func10, Try.ntmps10
  go_wp2_with (go_at_call 42; refine HL.1.mono ?_; rintro e w1 ⟨rfl, hb⟩)
  go_ret
  exact ⟨by simp only [Bool.false_and]; rfl, hb⟩
 | true =>
  by_cases hl : l1.length = l0.length
  ·have d0 : ((l1.length : Int) == (l0.length : Int)) = true := beq_iff_eq.2 (by omega); have d1 : (l1.length == l0.length) = true := beq_iff_eq.2 hl; have D2 := za hl; clear hl
   go_enter Try.func10, Try.ntmps10
   go_wp2_with (first | (go_at_call 42; refine HL.1.mono ?_; rintro e w1 ⟨rfl, hb⟩; have HB := za hb; clear hb) | (go_at_call 43; refine (HC.1 _ HB.1).mono ?_; rintro e w2 ⟨rfl, hb2⟩))
   go_ret
   exact ⟨by simp only [D2.1, decide_true, Bool.true_and]; rfl, HB.1.trans (hb2.mono HB.1.size)⟩
  ·have d0 : ((l1.length : Int) == (l0.length : Int)) = false := beq_eq_false_iff_ne.2 (by omega); have d1 : (l1.length == l0.length) = false := beq_eq_false_iff_ne.2 hl; have D2 := za hl; clear hl
   go_enter Try.func10, Try.ntmps10
   go_wp2_with (go_at_call 42; refine HL.1.mono ?_; rintro e w1 ⟨rfl, hb⟩)
   go_ret
   exact ⟨by simp only [D2.1, decide_false, Bool.false_and, Bool.and_false]; rfl, hb⟩


def impl_areEnds.f (k : Nat) (l0 : List (S58)) (l1 : List Int) (a2 : Int) (a3 : Int) : Option (Bool) := (impl_AreWidths.f k l0 l1).bind fun t115 => (if t115 = true then ((impl_isStation.f a2).bind fun t116 => (if t116 = true then ((impl_isStation.f a3).bind fun t117 => (some t117)) else (some false))) else (some false))
theorem impl_areEnds.calls (k : Nat) (A0 : Option Addr) (c0 : Nat) (l0 : List (S58)) (A1 : Option Addr) (c1 : Nat) (l1 : List Int) (a2 : Int) (a3 : Int) (r : Bool) (w : World) (hr0 : Kd.C k58 w A0 l0.length l0) (hc0 : l0.length ≤ c0) (hr1 : Kd.C (Kd.int .i64) w A1 l1.length l1) (hc1 : l1.length ≤ c1) (h : impl_areEnds.f k l0 l1 a2 a3 = some r) :
  Calls Try.prog 33 #[.slice A0 l0.length c0, .slice A1 l1.length c1, .int .i64 a2, .int .i64 a3] w fun e w' => e = .returned (.bool r) ∧ Below w.heap.size w w' := by
 have HR0 := za hr0; have HC0 := za hc0; clear hr0 hc0; have HR1 := za hr1; have HC1 := za hc1; clear hr1 hc1; have HB := za (zs w.heap.size w); have H : ((impl_AreWidths.f k l0 l1).bind fun t115 => (if t115 = true then ((impl_isStation.f a2).bind fun t116 => (if t116 = true then ((impl_isStation.f a3).bind fun t117 => (some t117)) else (some false))) else (some false))) = some r := h; clear h; replace H := bindA H; obtain ⟨t115, A5, H⟩ := H; (try dsimp only at H)
 by_cases c6 : t115 = true
 ·subst c6; rw [yb rfl] at H; replace H := bindA H; obtain ⟨t116, A7, H⟩ := H; (try dsimp only at H)
  by_cases c8 : t116 = true
  ·subst c8; rw [yb rfl] at H; replace H := zC H; obtain ⟨t117, A90, H⟩ := H; replace H : (some t117) = some r := H; have A9 := za A90; clear A90; obtain rfl := zm H
   go_enter Try.func33, Try.ntmps33
   go_wp2_with (first | ((with_reducible refine zp (f := 10) rfl ?_); refine zV (some 11) rfl rfl Try.func10 (qS27) rfl #[.slice A0 l0.length c0, .slice A1 l1.length c1] rfl (qS2) ?_; (with_reducible refine (impl_AreWidths.calls k _ _ l0 _ _ l1 true _ ?s1 ?s2 ?s3 ?s4 A5.1).mono ?_); (case s1 => exact (qS21 HR0.1)); (case s2 => exact HC0.1); (case s3 => exact (qS21 HR1.1)); (case s4 => exact HC1.1); rintro e w10 ⟨rfl, hb⟩; refine ⟨_, rfl, ?_⟩; replace HB := za qS64; clear hb) | (go_at_call 66; (with_reducible refine (impl_isStation.calls a2 true _ A7.1).mono ?_); rintro e w' ⟨rfl, ⟨nd, rfl⟩⟩) | (go_at_call 66; (with_reducible refine (impl_isStation.calls a3 t117 _ A9.1).mono ?_); rintro e w' ⟨rfl, ⟨nd, rfl⟩⟩))
   go_ret
   exact ⟨(qS11), (qS0)⟩
  ·replace c8 := zn c8; subst c8; rw [yc (show ¬ (false = true) by decide)] at H; obtain rfl := zm H
   go_enter Try.func33, Try.ntmps33
   go_wp2_with (first | ((with_reducible refine zp (f := 10) rfl ?_); refine zV (some 11) rfl rfl Try.func10 (qS27) rfl #[.slice A0 l0.length c0, .slice A1 l1.length c1] rfl (qS2) ?_; (with_reducible refine (impl_AreWidths.calls k _ _ l0 _ _ l1 true _ ?s1 ?s2 ?s3 ?s4 A5.1).mono ?_); (case s1 => exact (qS21 HR0.1)); (case s2 => exact HC0.1); (case s3 => exact (qS21 HR1.1)); (case s4 => exact HC1.1); rintro e w11 ⟨rfl, hb⟩; refine ⟨_, rfl, ?_⟩; replace HB := za qS64; clear hb) | (go_at_call 66; (with_reducible refine (impl_isStation.calls a2 false _ A7.1).mono ?_); rintro e w' ⟨rfl, ⟨nd, rfl⟩⟩))
   go_ret
   exact ⟨(qS11), (qS0)⟩
 ·replace c6 := zn c6; subst c6; rw [yc (show ¬ (false = true) by decide)] at H; obtain rfl := zm H
  go_enter Try.func33, Try.ntmps33
  go_wp2_with (first | ((with_reducible refine zp (f := 10) rfl ?_); refine zV (some 11) rfl rfl Try.func10 (qS27) rfl #[.slice A0 l0.length c0, .slice A1 l1.length c1] rfl (qS2) ?_; (with_reducible refine (impl_AreWidths.calls k _ _ l0 _ _ l1 false _ ?s1 ?s2 ?s3 ?s4 A5.1).mono ?_); (case s1 => exact (qS21 HR0.1)); (case s2 => exact HC0.1); (case s3 => exact (qS21 HR1.1)); (case s4 => exact HC1.1); rintro e w12 ⟨rfl, hb⟩; refine ⟨_, rfl, ?_⟩; replace HB := za qS64; clear hb))
  go_ret
  exact ⟨(qS11), (qS0)⟩

def arrOf (B : List Bool) : Array Value := (B.map Value.bool).toArray
def reachStep (l0 : List S58) (l1 : List Int) (width : Int) (i : Nat) (B : List Bool) : List Bool :=
 if (decide (width ≤ l1.getD i 0) && (B.getD (l0.getD i z58).f0.toNat false != B.getD (l0.getD i z58).f1.toNat false)) = true then (B.set (l0.getD i z58).f0.toNat true).set (l0.getD i z58).f1.toNat true else B
def reachPass (l0 : List S58) (l1 : List Int) (width : Int) : Nat → Nat → List Bool → List Bool
 | 0, _, B => B
 | d + 1, i, B => reachPass l0 l1 width d (i + 1) (reachStep l0 l1 width i B)
def reachAll (l0 : List S58) (l1 : List Int) (width : Int) : Nat → List Bool → List Bool
 | 0, B => B
 | m + 1, B => reachAll l0 l1 width m (reachPass l0 l1 width l0.length 0 B)
def reachOk (l0 : List S58) (l1 : List Int) (from_ : Int) : Bool := decide (l0.length ≤ l1.length) && (decide (0 ≤ from_ ∧ from_ ≤ 7) && l0.all (fun x => decide (0 ≤ x.f0 ∧ x.f0 ≤ 7) && decide (0 ≤ x.f1 ∧ x.f1 ≤ 7)))
def impl_reach.f (l0 : List S58) (l1 : List Int) (a2 a3 : Int) : Option (List Bool) := if reachOk l0 l1 a2 = true then some (reachAll l0 l1 a3 l0.length ((List.replicate 8 false).set a2.toNat true)) else none
theorem arrOf_set (B : List Bool) (i : Nat) (v : Bool) : (arrOf B).setIfInBounds i (.bool v) = arrOf (B.set i v) := by
 unfold arrOf
 rw [yf, List.map_set]
theorem arrOf_get {B : List Bool} {i : Nat} (h : i < B.length) : (arrOf B)[i]? = some (.bool (B.getD i false)) := by
 simp [arrOf, List.getD_eq_getElem?_getD, List.getElem?_eq_getElem h]
theorem reachStep_length (l0 : List S58) (l1 : List Int) (width : Int) (i : Nat) (B : List Bool) : (reachStep l0 l1 width i B).length = B.length := by
 unfold reachStep
 split <;> simp
theorem reachPass_length (l0 : List S58) (l1 : List Int) (width : Int) : ∀ d i B, (reachPass l0 l1 width d i B).length = B.length
 | 0, _, _ => rfl
 | d + 1, i, B => by
  simp only [reachPass]; rw [reachPass_length l0 l1 width d (i + 1), reachStep_length]
theorem reach_yes {l0 : List S58} {l1 : List Int} {a3 y : Int} {B : List Bool} (h0 : 0 ≤ y) (hl : y < l0.length) (hm : l0.length ≤ 9223372036854775807) (hw : rd l1 y ≥ a3) (hst : B.getD (rd_T58 l0 y).f0.toNat false ≠ B.getD (rd_T58 l0 y).f1.toNat false) (k : Nat) :
  reachPass l0 l1 a3 (k + 1) y.toNat B = reachPass l0 l1 a3 k (wrap64 (y + 1)).toNat ((B.set (rd_T58 l0 y).f0.toNat true).set (rd_T58 l0 y).f1.toNat true) := by
 have e : (wrap64 (y + 1)).toNat = y.toNat + 1 := by unfold wrap64; omega
 rw [e]
 show reachPass l0 l1 a3 k (y.toNat + 1) (reachStep l0 l1 a3 y.toNat B) = _
 congr 1
 unfold reachStep
 rw [yb]
 ·rfl
 ·rw [Bool.and_eq_true]
  exact ⟨zc hw, bne_iff_ne.2 hst⟩
theorem reach_no {l0 : List S58} {l1 : List Int} {a3 y : Int} {B : List Bool} (h0 : 0 ≤ y) (hl : y < l0.length) (hm : l0.length ≤ 9223372036854775807) (hn : ¬ (rd l1 y ≥ a3 ∧ B.getD (rd_T58 l0 y).f0.toNat false ≠ B.getD (rd_T58 l0 y).f1.toNat false)) (k : Nat) :
  reachPass l0 l1 a3 (k + 1) y.toNat B = reachPass l0 l1 a3 k (wrap64 (y + 1)).toNat B := by
 have e : (wrap64 (y + 1)).toNat = y.toNat + 1 := by unfold wrap64; omega
 rw [e]
 show reachPass l0 l1 a3 k (y.toNat + 1) (reachStep l0 l1 a3 y.toNat B) = _
 congr 1
 unfold reachStep
 rw [yc]; intro h; rw [Bool.and_eq_true] at h
 exact hn ⟨zb h.1, bne_iff_ne.1 h.2⟩
theorem impl_reach.calls (A0 : Option Addr) (c0 : Nat) (l0 : List S58) (A1 : Option Addr) (c1 : Nat) (l1 : List Int) (a2 a3 : Int) (r : List Bool) (w : World) (hr0 : Kd.C k58 w A0 l0.length l0) (hc0 : l0.length ≤ c0) (hr1 : Kd.C (Kd.int .i64) w A1 l1.length l1) (hc1 : l1.length ≤ c1) (h : impl_reach.f l0 l1 a2 a3 = some r) :
  Calls Try.prog 62 #[.slice A0 l0.length c0, .slice A1 l1.length c1, .int .i64 a2, .int .i64 a3] w fun e w' => e = .returned (.agg (arrOf r)) ∧ Below w.heap.size w w' := by
 have huL := Try.underlying58; have hu84 := Try.underlying74; have hu4 := Try.underlying4
 unfold impl_reach.f at h
 by_cases hok : reachOk l0 l1 a2 = true
 case neg => rw [yc hok] at h; cases h
 rw [yb hok] at h; have hr := zm h; clear h; simp only [reachOk, Bool.and_eq_true, decide_eq_true_eq, List.all_eq_true] at hok; obtain ⟨hlen, ⟨hf0, hf7⟩, hall⟩ := hok
 have HALL : Aside0 (∀ i, i < l0.length → (0 ≤ (l0.getD i z58).f0 ∧ (l0.getD i z58).f0 ≤ 7) ∧ (0 ≤ (l0.getD i z58).f1 ∧ (l0.getD i z58).f1 ≤ 7)) := ⟨fun i hi => by
  have := hall _ (List.getElem_mem hi)
  simpa [List.getD_eq_getElem?_getD, List.getElem?_eq_getElem hi] using this⟩
 clear hall; have HLEN := za hlen; have HR0 := za hr0; have HR1 := za hr1; have HM := za hr0.2.1; obtain ⟨B0, hB0⟩ : ∃ B0 : List Bool, B0 = (List.replicate 8 false).set a2.toNat true := ⟨_, rfl⟩; rw [← hB0] at hr; have HRES := za hr
 have HB0 : Aside0 (B0.length = 8 ∧ ([.bool false, .bool false, .bool false, .bool false, .bool false, .bool false, .bool false, .bool false].set a2.toNat (.bool true) : List Value).toArray = arrOf B0) := ⟨by rw [hB0]; simp, by
  rw [hB0]
  unfold arrOf
  rw [List.map_set]
  rfl⟩
 clear hr hlen hr0 hr1 hc0 hc1 hB0; have p0 := zw hf0
 have q0 : a2 < 8 := by omega
 have hf7' := za hf7; clear hf7
 go_enter Try.func62, Try.ntmps62
 go_wp2
  
 rw [HB0.1.2]
 go_loopg [16] l0.length (fun kq v16 w' => ∃ (x : Int) (B : List Bool), v16 = .int .i64 x ∧ Aside0 (0 ≤ x ∧ kq + x.toNat = l0.length ∧ B.length = 8 ∧ reachAll l0 l1 a3 kq B = r) ∧ Aside0 (w'.heap[w.heap.size + 1]? = some (.cells (arrOf B) 74 (0, 0))) ∧ Aside0 (w'.heap[w.heap.size]? = some (.cells #[.bool false, .bool false, .bool false, .bool false, .bool false, .bool false, .bool false, .bool false] 74 (0, 0))) ∧ Aside0 (Below w.heap.size w w'))
 case atStart =>
  refine ⟨0, B0, rfl, ⟨by omega, by simp, HB0.1.1, HRES.1⟩, ⟨?_⟩, ⟨?_⟩, ⟨?_⟩⟩
  ·exact heap_alloc2_new _ _ _
  ·exact zg (blk_new w _) _
  ·exact zZ (zZ (zs _ _) _) _
 case round =>
  obtain ⟨x, B, rfl, HA, HK1, HK0, HB⟩ := hrel
  by_cases hlt : x < (l0.length : Int)
  ·have c0 : decide (x < (l0.length : Int)) = true := zc hlt; have HLT := za hlt; clear hlt; obtain ⟨k1, rfl⟩ : ∃ k1, gk = k1 + 1 := ⟨gk - 1, by have := HA.1; have := HLT.1; omega⟩; obtain ⟨wo, rfl⟩ : ∃ wo : World, wo = wr := ⟨_, rfl⟩
   go_wp2
   go_loopg [20] l0.length (fun kq v20 w' => ∃ (y : Int) (B' : List Bool), v20 = .int .i64 y ∧ Aside0 (0 ≤ y ∧ kq + y.toNat = l0.length ∧ B'.length = 8 ∧ reachPass l0 l1 a3 kq y.toNat B' = reachPass l0 l1 a3 l0.length 0 B) ∧ Aside0 (w'.heap[w.heap.size + 1]? = some (.cells (arrOf B') 74 (0, 0))) ∧ Aside0 (w'.heap[w.heap.size]? = some (.cells #[.bool false, .bool false, .bool false, .bool false, .bool false, .bool false, .bool false, .bool false] 74 (0, 0))) ∧ Aside0 (Below w.heap.size w w'))
   case atStart => exact ⟨0, B, rfl, ⟨by omega, by simp, HA.1.2.2.1, rfl⟩, HK1, HK0, HB⟩
   case round =>
    obtain ⟨y, B', rfl, HA2, HK1', HK0', HB'⟩ := hrel
    by_cases hlt2 : y < (l0.length : Int)
    ·have d0 : decide (y < (l0.length : Int)) = true := zc hlt2; have HLT2 := za hlt2; obtain ⟨ad, e, hx0, hx1, hx2, hx3, hx4⟩ := at_T58 (zG HR0.1 HB'.1) y HA2.1.1 hlt2; cases e; obtain ⟨ad1, e1, hy⟩ := zJ (zG HR1.1 HB'.1) y HA2.1.1 (by have := HLEN.1; omega); cases e1
     have hq1 : y < (l1.length : Int) := by have := HLEN.1; omega
     have py := zw HA2.1.1; have qy := zw hlt2; have qy1 := zw hq1; clear hlt2 hq1; obtain ⟨k2, rfl⟩ : ∃ k2, gk = k2 + 1 := ⟨gk - 1, by have := HA2.1; have := HLT2.1; omega⟩; have HXB := za (HALL.1 y.toNat (by have := HA2.1; have := HLT2.1; omega)); obtain ⟨a, ha⟩ : ∃ a : Int, a = (rd_T58 l0 y).f0 := ⟨_, rfl⟩; obtain ⟨b, hb⟩ : ∃ b : Int, b = (rd_T58 l0 y).f1 := ⟨_, rfl⟩; rw [← ha] at hx0; rw [← hb] at hx1; have HAB : Aside0 ((0 ≤ a ∧ a ≤ 7) ∧ (0 ≤ b ∧ b ≤ 7)) := ⟨by rw [ha, hb]; exact HXB.1⟩; have NA := za ha; have NB := za hb; clear ha hb; have pa := zw HAB.1.1.1; have pb := zw HAB.1.2.1; have qa : (a < 8) = True := zw (by have := HAB.1; omega); have qb : (b < 8) = True := zw (by have := HAB.1; omega)
     by_cases hw : rd l1 y ≥ a3
     ·have w0 : decide (rd l1 y ≥ a3) = true := zc hw; have w1 : decide (a3 ≤ rd l1 y) = true := zc hw; have HW := za hw; clear hw; have ha7 : wr.cell? ⟨w.heap.size + 1, a.toNat, none⟩ = some (.bool (B'.getD a.toNat false)) := (zf HK1'.1 _).trans (arrOf_get (by have := HAB.1; have := HA2.1; omega)); have hb7 : wr.cell? ⟨w.heap.size + 1, b.toNat, none⟩ = some (.bool (B'.getD b.toNat false)) := (zf HK1'.1 _).trans (arrOf_get (by have := HAB.1; have := HA2.1; omega)); have hgl : w.heap.size + 1 < wr.heap.size := blk_lt HK1'.1; obtain ⟨s, hs⟩ : ∃ s : Bool, s = B'.getD a.toNat false := ⟨_, rfl⟩; obtain ⟨t, ht⟩ : ∃ t : Bool, t = B'.getD b.toNat false := ⟨_, rfl⟩; rw [← hs] at ha7; rw [← ht] at hb7; have NS := za hs; have NT := za ht; clear hs ht; have AL : ∀ (o : Obj) (p : Addr) (v : Value), wr.cell? p = some v → (wr.alloc o).cell? p = some v := fun o p v h => ((zZ (zs wr.heap.size wr) o).cell (zd wr _ h)).trans h; have hy' := AL (.cells #[.int .i64 a, .int .i64 b, .int .i64 (rd_T58 l0 y).f2, .int .i64 (rd_T58 l0 y).f3, .int .i64 (rd_T58 l0 y).f4] 58 (0, 0)) _ _ hy; have ha8 := AL (.cells #[.int .i64 a, .int .i64 b, .int .i64 (rd_T58 l0 y).f2, .int .i64 (rd_T58 l0 y).f3, .int .i64 (rd_T58 l0 y).f4] 58 (0, 0)) _ _ ha7; have hb8 := AL (.cells #[.int .i64 a, .int .i64 b, .int .i64 (rd_T58 l0 y).f2, .int .i64 (rd_T58 l0 y).f3, .int .i64 (rd_T58 l0 y).f4] 58 (0, 0)) _ _ hb7; clear AL
      by_cases hst : s = t
      ·have NST := za hst; subst hst
       go_wp2
       go_quiet (fail)
       go_wp2
       go_roundg k2
       case measure => omega
       case rel => exact ⟨wrap64 (y + 1), B', rfl, ⟨by have := HA2.1; have := HLT2.1; have := HM.1; unfold wrap64; omega, by have := HA2.1; have := HLT2.1; have := HM.1; unfold wrap64; omega, HA2.1.2.2.1, by rw [← HA2.1.2.2.2, reach_no HA2.1.1 HLT2.1 HM.1 (fun h => h.2 (by rw [← NA.1, ← NB.1, ← NS.1, ← NT.1]))]⟩, ⟨zh (zg HK1'.1 _) _⟩, ⟨zh (zg HK0'.1 _) _⟩, ⟨pw_below_drewN (zZ HB'.1 _) _⟩⟩
      ·have hst' : (s != t) = true := bne_iff_ne.2 hst; have NST := za hst; clear hst
       have hst2 : (s == t) = false := by simpa using hst'
       have hne : ¬ a.toNat = b.toNat := fun h => NST.1 (by rw [NS.1, NT.1, h]); have hne' : ¬ b.toNat = a.toNat := fun h => hne h.symm; have hfa : (wr.alloc (.cells #[.int .i64 a, .int .i64 b, .int .i64 (rd_T58 l0 y).f2, .int .i64 (rd_T58 l0 y).f3, .int .i64 (rd_T58 l0 y).f4] 58 (0, 0))).frozen? ⟨w.heap.size + 1, a.toNat, none⟩ = false := ze (zg HK1'.1 _) _; have hfb : (wr.alloc (.cells #[.int .i64 a, .int .i64 b, .int .i64 (rd_T58 l0 y).f2, .int .i64 (rd_T58 l0 y).f3, .int .i64 (rd_T58 l0 y).f4] 58 (0, 0))).frozen? ⟨w.heap.size + 1, b.toNat, none⟩ = false := ze (zg HK1'.1 _) _
       go_wp2
       go_quiet (fail)
       go_wp2
              
       go_region
       all_goals go_wp2
       all_goals go_roundg k2
       all_goals first | (show _ < _; omega) | exact ⟨wrap64 (y + 1), (B'.set a.toNat true).set b.toNat true, rfl, ⟨by have := HA2.1; have := HLT2.1; have := HM.1; unfold wrap64; omega, by have := HA2.1; have := HLT2.1; have := HM.1; unfold wrap64; omega, by simpa using HA2.1.2.2.1, by rw [← HA2.1.2.2.2, reach_yes HA2.1.1 HLT2.1 HM.1 (by have := HW.1; omega) (fun h => NST.1 (by rw [NS.1, NT.1, NA.1, NB.1, h])), NA.1, NB.1]⟩, ⟨by rw [← arrOf_set, ← arrOf_set]; exact blk_set (blk_set (zh (zg HK1'.1 _) _) _ _) _ _⟩, ⟨zk (p := ⟨w.heap.size + 1, b.toNat, none⟩) (zk (p := ⟨w.heap.size + 1, a.toNat, none⟩) (zh (zg HK0'.1 _) _) (Nat.ne_of_lt (Nat.lt_succ_self _)) _) (Nat.ne_of_lt (Nat.lt_succ_self _)) _⟩, ⟨((pw_below_drewN (zZ HB'.1 _) _).setCell (p := ⟨w.heap.size + 1, a.toNat, none⟩) (Nat.le_succ _) _).setCell (p := ⟨w.heap.size + 1, b.toNat, none⟩) (Nat.le_succ _) _⟩⟩
     ·have w0 : decide (rd l1 y ≥ a3) = false := zv hw; have w1 : decide (a3 ≤ rd l1 y) = false := zv hw; have HW := za hw; clear hw; have AL : ∀ (o : Obj) (p : Addr) (v : Value), wr.cell? p = some v → (wr.alloc o).cell? p = some v := fun o p v h => ((zZ (zs wr.heap.size wr) o).cell (zd wr _ h)).trans h; have hy' := AL (.cells #[.int .i64 a, .int .i64 b, .int .i64 (rd_T58 l0 y).f2, .int .i64 (rd_T58 l0 y).f3, .int .i64 (rd_T58 l0 y).f4] 58 (0, 0)) _ _ hy; clear AL
      go_wp2
      go_quiet (fail)
      go_wp2
      go_roundg k2
      case measure => omega
      case rel => exact ⟨wrap64 (y + 1), B', rfl, ⟨by have := HA2.1; have := HLT2.1; have := HM.1; unfold wrap64; omega, by have := HA2.1; have := HLT2.1; have := HM.1; unfold wrap64; omega, HA2.1.2.2.1, by rw [← HA2.1.2.2.2, reach_no HA2.1.1 HLT2.1 HM.1 (fun h => absurd h.1 (by have := HW.1; omega))]⟩, ⟨zh (zg HK1'.1 _) _⟩, ⟨zh (zg HK0'.1 _) _⟩, ⟨pw_below_drewN (zZ HB'.1 _) _⟩⟩
    ·have d0 : decide (y < (l0.length : Int)) = false := zv hlt2; have HLT2 := za hlt2; clear hlt2
     go_wp2
          
     go_roundg k1
     case measure => omega
     case rel =>
      obtain rfl : gk = 0 := by have := HA2.1; have := HLT2.1; omega
      refine ⟨wrap64 (x + 1), B', rfl, ⟨by have := HA.1; have := HLT.1; have := HM.1; unfold wrap64; omega, by have := HA.1; have := HLT.1; have := HM.1; unfold wrap64; omega, HA2.1.2.2.1, ?_⟩, HK1', HK0', HB'⟩
      rw [← HA.1.2.2.2]
      show _ = reachAll l0 l1 a3 k1 (reachPass l0 l1 a3 l0.length 0 B)
      rw [← HA2.1.2.2.2]
      rfl
  ·have d0 : decide (x < (l0.length : Int)) = false := zv hlt; have HLT := za hlt; clear hlt
   obtain rfl : gk = 0 := by have := HA.1; have := HLT.1; omega
   obtain rfl : B = r := HA.1.2.2.2
   obtain ⟨b0, b1, b2, b3, b4, b5, b6, b7, hb8⟩ : ∃ b0 b1 b2 b3 b4 b5 b6 b7, B = [b0, b1, b2, b3, b4, b5, b6, b7] := by
    have h8 := HA.1.2.2.1
    match B, h8 with
    | [b0, b1, b2, b3, b4, b5, b6, b7], _ => exact ⟨_, _, _, _, _, _, _, _, rfl⟩
   have HK1c : Aside0 (wr.heap[w.heap.size + 1]? = some (.cells #[.bool b0, .bool b1, .bool b2, .bool b3, .bool b4, .bool b5, .bool b6, .bool b7] 74 (0, 0))) := ⟨HK1.1.trans (by rw [hb8]; rfl)⟩; have HEND : Aside0 (arrOf B = #[.bool b0, .bool b1, .bool b2, .bool b3, .bool b4, .bool b5, .bool b6, .bool b7]) := ⟨by rw [hb8]; rfl⟩; clear hb8; have e0 : wr.cell? ⟨w.heap.size + 1, 0, none⟩ = some (.bool b0) := (zf HK1c.1 0).trans rfl; have e1 : wr.cell? ⟨w.heap.size + 1, 1, none⟩ = some (.bool b1) := (zf HK1c.1 1).trans rfl; have e2 : wr.cell? ⟨w.heap.size + 1, 2, none⟩ = some (.bool b2) := (zf HK1c.1 2).trans rfl; have e3 : wr.cell? ⟨w.heap.size + 1, 3, none⟩ = some (.bool b3) := (zf HK1c.1 3).trans rfl; have e4 : wr.cell? ⟨w.heap.size + 1, 4, none⟩ = some (.bool b4) := (zf HK1c.1 4).trans rfl; have e5 : wr.cell? ⟨w.heap.size + 1, 5, none⟩ = some (.bool b5) := (zf HK1c.1 5).trans rfl; have e6 : wr.cell? ⟨w.heap.size + 1, 6, none⟩ = some (.bool b6) := (zf HK1c.1 6).trans rfl; have e7 : wr.cell? ⟨w.heap.size + 1, 7, none⟩ = some (.bool b7) := (zf HK1c.1 7).trans rfl; have f0 : wr.cell? ⟨w.heap.size, 0, none⟩ = some (.bool false) := (zf HK0.1 0).trans rfl; have f1 : wr.cell? ⟨w.heap.size, 1, none⟩ = some (.bool false) := (zf HK0.1 1).trans rfl; have f2 : wr.cell? ⟨w.heap.size, 2, none⟩ = some (.bool false) := (zf HK0.1 2).trans rfl; have f3 : wr.cell? ⟨w.heap.size, 3, none⟩ = some (.bool false) := (zf HK0.1 3).trans rfl
   have f4 : wr.cell? ⟨w.heap.size, 4, none⟩ = some (.bool false) := (zf HK0.1 4).trans rfl; have f5 : wr.cell? ⟨w.heap.size, 5, none⟩ = some (.bool false) := (zf HK0.1 5).trans rfl; have f6 : wr.cell? ⟨w.heap.size, 6, none⟩ = some (.bool false) := (zf HK0.1 6).trans rfl; have f7 : wr.cell? ⟨w.heap.size, 7, none⟩ = some (.bool false) := (zf HK0.1 7).trans rfl; have g0 : wr.frozen? ⟨w.heap.size, 0, none⟩ = false := ze HK0.1 0; have g1 : wr.frozen? ⟨w.heap.size, 1, none⟩ = false := ze HK0.1 1; have g2 : wr.frozen? ⟨w.heap.size, 2, none⟩ = false := ze HK0.1 2; have g3 : wr.frozen? ⟨w.heap.size, 3, none⟩ = false := ze HK0.1 3; have g4 : wr.frozen? ⟨w.heap.size, 4, none⟩ = false := ze HK0.1 4; have g5 : wr.frozen? ⟨w.heap.size, 5, none⟩ = false := ze HK0.1 5; have g6 : wr.frozen? ⟨w.heap.size, 6, none⟩ = false := ze HK0.1 6; have g7 : wr.frozen? ⟨w.heap.size, 7, none⟩ = false := ze HK0.1 7
   go_wp2
   refine bodyPost_ret (results_cell_row rfl _ _ w.heap.size 74 #[.bool b0, .bool b1, .bool b2, .bool b3, .bool b4, .bool b5, .bool b6, .bool b7] (0, 0) _ rfl ((blk_set (blk_set (blk_set (blk_set (blk_set (blk_set (blk_set (blk_set HK0.1 0 (.bool b0)) 1 (.bool b1)) 2 (.bool b2)) 3 (.bool b3)) 4 (.bool b4)) 5 (.bool b5)) 6 (.bool b6)) 7 (.bool b7)).trans rfl) hu84 rfl (qS27)) rfl ?_
   exact ⟨by rw [HEND.1], ((((((((HB.1).setCell (p := ⟨w.heap.size, 0, none⟩) (zo _) _).setCell (p := ⟨w.heap.size, 1, none⟩) (zo _) _).setCell (p := ⟨w.heap.size, 2, none⟩) (zo _) _).setCell (p := ⟨w.heap.size, 3, none⟩) (zo _) _).setCell (p := ⟨w.heap.size, 4, none⟩) (zo _) _).setCell (p := ⟨w.heap.size, 5, none⟩) (zo _) _).setCell (p := ⟨w.heap.size, 6, none⟩) (zo _) _).setCell (p := ⟨w.heap.size, 7, none⟩) (zo _) _⟩
theorem reachAll_length (l0 : List S58) (l1 : List Int) (width : Int) : ∀ m B, (reachAll l0 l1 width m B).length = B.length
 | 0, _ => rfl
 | m + 1, B => by
  simp only [reachAll]; rw [reachAll_length l0 l1 width m, reachPass_length]
theorem run_indexA_0 (b0 b1 b2 b3 b4 b5 b6 b7 : Bool) (w : World) : (Instr.index 74 (.agg #[.bool b0, .bool b1, .bool b2, .bool b3, .bool b4, .bool b5, .bool b6, .bool b7]) (.int .i64 0)).run Try.prog w = .ok (.bool b0) w := by kernel_rfl
theorem run_indexA_1 (b0 b1 b2 b3 b4 b5 b6 b7 : Bool) (w : World) : (Instr.index 74 (.agg #[.bool b0, .bool b1, .bool b2, .bool b3, .bool b4, .bool b5, .bool b6, .bool b7]) (.int .i64 1)).run Try.prog w = .ok (.bool b1) w := by kernel_rfl
theorem run_indexA_2 (b0 b1 b2 b3 b4 b5 b6 b7 : Bool) (w : World) : (Instr.index 74 (.agg #[.bool b0, .bool b1, .bool b2, .bool b3, .bool b4, .bool b5, .bool b6, .bool b7]) (.int .i64 2)).run Try.prog w = .ok (.bool b2) w := by kernel_rfl
theorem run_indexA_3 (b0 b1 b2 b3 b4 b5 b6 b7 : Bool) (w : World) : (Instr.index 74 (.agg #[.bool b0, .bool b1, .bool b2, .bool b3, .bool b4, .bool b5, .bool b6, .bool b7]) (.int .i64 3)).run Try.prog w = .ok (.bool b3) w := by kernel_rfl
theorem run_indexA_4 (b0 b1 b2 b3 b4 b5 b6 b7 : Bool) (w : World) : (Instr.index 74 (.agg #[.bool b0, .bool b1, .bool b2, .bool b3, .bool b4, .bool b5, .bool b6, .bool b7]) (.int .i64 4)).run Try.prog w = .ok (.bool b4) w := by kernel_rfl
theorem run_indexA_5 (b0 b1 b2 b3 b4 b5 b6 b7 : Bool) (w : World) : (Instr.index 74 (.agg #[.bool b0, .bool b1, .bool b2, .bool b3, .bool b4, .bool b5, .bool b6, .bool b7]) (.int .i64 5)).run Try.prog w = .ok (.bool b5) w := by kernel_rfl
theorem run_indexA_6 (b0 b1 b2 b3 b4 b5 b6 b7 : Bool) (w : World) : (Instr.index 74 (.agg #[.bool b0, .bool b1, .bool b2, .bool b3, .bool b4, .bool b5, .bool b6, .bool b7]) (.int .i64 6)).run Try.prog w = .ok (.bool b6) w := by kernel_rfl
theorem run_indexA_7 (b0 b1 b2 b3 b4 b5 b6 b7 : Bool) (w : World) : (Instr.index 74 (.agg #[.bool b0, .bool b1, .bool b2, .bool b3, .bool b4, .bool b5, .bool b6, .bool b7]) (.int .i64 7)).run Try.prog w = .ok (.bool b7) w := by kernel_rfl
theorem run_indexA (B : List Bool) (h8 : B.length = 8) (i : Int) (h0 : 0 ≤ i) (h7 : i ≤ 7) (w : World) : (Instr.index 74 (.agg (arrOf B)) (.int .i64 i)).run Try.prog w = .ok (.bool (B.getD i.toNat false)) w := by
 match B, h8 with
 | [b0, b1, b2, b3, b4, b5, b6, b7], _ =>
  have h : i = 0 ∨ i = 1 ∨ i = 2 ∨ i = 3 ∨ i = 4 ∨ i = 5 ∨ i = 6 ∨ i = 7 := by omega
  rcases h with rfl | rfl | rfl | rfl | rfl | rfl | rfl | rfl
  ·exact run_indexA_0 b0 b1 b2 b3 b4 b5 b6 b7 w
  ·exact run_indexA_1 b0 b1 b2 b3 b4 b5 b6 b7 w
  ·exact run_indexA_2 b0 b1 b2 b3 b4 b5 b6 b7 w
  ·exact run_indexA_3 b0 b1 b2 b3 b4 b5 b6 b7 w
  ·exact run_indexA_4 b0 b1 b2 b3 b4 b5 b6 b7 w
  ·exact run_indexA_5 b0 b1 b2 b3 b4 b5 b6 b7 w
  ·exact run_indexA_6 b0 b1 b2 b3 b4 b5 b6 b7 w
  ·exact run_indexA_7 b0 b1 b2 b3 b4 b5 b6 b7 w
def reachOf (l0 : List S58) (l1 : List Int) (from_ width : Int) : List Bool := reachAll l0 l1 width l0.length ((List.replicate 8 false).set from_.toNat true)
theorem reachOf_length (l0 : List S58) (l1 : List Int) (from_ width : Int) : (reachOf l0 l1 from_ width).length = 8 := by
 unfold reachOf
 rw [reachAll_length]
 simp
def memFrom (B : List Bool) : Nat → Nat → List Int → List Int
 | 0, _, acc => acc
 | d + 1, i, acc => memFrom B d (i + 1) (if B.getD i false = true then acc ++ [(i : Int)] else acc)
/-- The stations that hang together with one. -/
def hangOf (l0 : List S58) (a : Int) : List Bool := reachOf l0 (List.replicate l0.length 0) a 0
def hangOk (l0 : List S58) (a : Int) : Bool := reachOk l0 (List.replicate l0.length 0) a && decide (l0.length ≤ 12)


def greatestDown (l0 : List S58) (l1 : List Int) (from_ to_ : Int) : Nat → Int
 | 0 => -1
 | k + 1 => if (reachOf l0 l1 from_ (k : Int)).getD to_.toNat false = true then (k : Int) else greatestDown l0 l1 from_ to_ k
def impl_greatest.f (l0 : List S58) (l1 : List Int) (a2 a3 : Int) : Option Int := if reachOk l0 l1 a2 = true ∧ 0 ≤ a3 ∧ a3 ≤ 7 then some (greatestDown l0 l1 a2 a3 201) else none
theorem impl_greatest.calls (A0 : Option Addr) (c0 : Nat) (l0 : List S58) (A1 : Option Addr) (c1 : Nat) (l1 : List Int) (a2 a3 : Int) (r : Int) (w : World) (hr0 : Kd.C k58 w A0 l0.length l0) (hc0 : l0.length ≤ c0) (hr1 : Kd.C (Kd.int .i64) w A1 l1.length l1) (hc1 : l1.length ≤ c1) (h : impl_greatest.f l0 l1 a2 a3 = some r) :
  Calls Try.prog 46 #[.slice A0 l0.length c0, .slice A1 l1.length c1, .int .i64 a2, .int .i64 a3] w fun e w' => e = .returned (.int .i64 r) ∧ Below w.heap.size w w' := by
 unfold impl_greatest.f at h
 by_cases hok : reachOk l0 l1 a2 = true ∧ 0 ≤ a3 ∧ a3 ≤ 7
 case neg => rw [yc hok] at h; cases h
 rw [yb hok] at h; have hr := zm h; clear h; have HOK := za hok; have HR0 := za hr0; have HR1 := za hr1; have HC0 := za hc0; have HC1 := za hc1; have HRES := za hr; have HM0 := za hr0.2.1; have HM1 := za hr1.2.1; clear hr hr0 hr1 hc0 hc1 hok; have HCALL : Aside0 (∀ (x : Int) (W : World), Below w.heap.size w W → Calls Try.prog 62 #[.slice A0 l0.length c0, .slice A1 l1.length c1, .int .i64 a2, .int .i64 x] W fun e w' => e = .returned (.agg (arrOf (reachOf l0 l1 a2 x))) ∧ Below W.heap.size W w') := ⟨fun x W hb => impl_reach.calls A0 c0 l0 A1 c1 l1 a2 x _ W (zG HR0.1 hb) HC0.1 (zG HR1.1 hb) HC1.1 (by unfold impl_reach.f; rw [yb HOK.1.1]; rfl)⟩
 go_enter Try.func46, Try.ntmps46
 go_wp2
 go_loopg [9] 201 (fun kq v9 w' => ∃ x : Int, v9 = .int .i64 x ∧ Aside0 (-1 ≤ x ∧ x ≤ 200 ∧ (kq : Int) = x + 1 ∧ greatestDown l0 l1 a2 a3 kq = r) ∧ Aside0 (Below w.heap.size w w'))
 case atStart => exact ⟨200, rfl, ⟨by omega, by omega, by omega, HRES.1⟩, ⟨zs _ _⟩⟩
 case round =>
  obtain ⟨x, rfl, HA, HB⟩ := hrel
  by_cases hlt : 0 ≤ x
  ·have d0 : decide (x ≥ 0) = true := zc hlt; have d1 : decide (0 ≤ x) = true := zc hlt; have HLT := za hlt; clear hlt; obtain ⟨k1, rfl⟩ : ∃ k1, gk = k1 + 1 := ⟨gk - 1, by have := HA.1; have := HLT.1; omega⟩
   have hx : x = (k1 : Int) := by have := HA.1; omega
   have hidx := fun w => run_indexA (reachOf l0 l1 a2 x) (reachOf_length _ _ _ _) a3 HOK.1.2.1 HOK.1.2.2 w
   cases ht : (reachOf l0 l1 a2 x).getD a3.toNat false with
   | true =>
    rw [ht] at hidx; have HT := za ht; have HX := za hx; clear ht hx
    go_wp2_with (go_at_call 62; refine (HCALL.1 _ _ HB.1).mono ?_; rintro e w1 ⟨rfl, hb⟩)
    go_ret
    refine ⟨?_, HB.1.trans (hb.mono HB.1.size)⟩
    rw [← HA.1.2.2.2]
    show _ = Ending.returned (Value.int .i64 (if (reachOf l0 l1 a2 (k1 : Int)).getD a3.toNat false = true then (k1 : Int) else _))
    rw [← HX.1, yb HT.1]
    rfl
   | false =>
    rw [ht] at hidx; have HT := za ht; have HX := za hx; clear ht hx
    go_wp2_with (go_at_call 62; refine (HCALL.1 _ _ HB.1).mono ?_; rintro e w1 ⟨rfl, hb⟩)
    go_roundg k1
    case measure => omega
    case rel =>
     refine ⟨wrap64 (x - 1), rfl, ⟨by have := HA.1; have := HLT.1; unfold wrap64; omega, by have := HA.1; have := HLT.1; unfold wrap64; omega, by have := HA.1; have := HLT.1; unfold wrap64; omega, ?_⟩, ⟨HB.1.trans (hb.mono HB.1.size)⟩⟩
     rw [← HA.1.2.2.2]
     show _ = (if (reachOf l0 l1 a2 (k1 : Int)).getD a3.toNat false = true then (k1 : Int) else greatestDown l0 l1 a2 a3 k1)
     rw [← HX.1, yc (by rw [HT.1]; decide)]
  ·have d0 : decide (x ≥ 0) = false := zv hlt; have d1 : decide (0 ≤ x) = false := zv hlt; have HLT := za hlt; clear hlt
   obtain rfl : gk = 0 := by have := HA.1; have := HLT.1; omega
   go_wp2
   go_ret
   exact ⟨by rw [← HA.1.2.2.2]; rfl, HB.1⟩


def impl_GreatestWidth.f (k : Nat) (l0 : List (S58)) (l1 : List Int) (a2 : Int) (a3 : Int) : Option (Int × Bool) := (impl_areEnds.f k l0 l1 a2 a3).bind fun t118 => (if t118 = true then ((impl_greatest.f l0 l1 a2 a3).bind fun t119 => (some (t119, true))) else (some (0, false)))
theorem impl_GreatestWidth.calls (k : Nat) (A0 : Option Addr) (c0 : Nat) (l0 : List (S58)) (A1 : Option Addr) (c1 : Nat) (l1 : List Int) (a2 : Int) (a3 : Int) (r1 : Int) (r2 : Bool) (w : World) (hr0 : Kd.C k58 w A0 l0.length l0) (hc0 : l0.length ≤ c0) (hr1 : Kd.C (Kd.int .i64) w A1 l1.length l1) (hc1 : l1.length ≤ c1) (h : impl_GreatestWidth.f k l0 l1 a2 a3 = some (r1, r2)) :
  Calls Try.prog 12 #[.slice A0 l0.length c0, .slice A1 l1.length c1, .int .i64 a2, .int .i64 a3] w fun e w' => e = .returned (.tuple #[.int .i64 r1, .bool r2]) ∧ Below w.heap.size w w' := by
 have HR0 := za hr0; have HC0 := za hc0; clear hr0 hc0; have HR1 := za hr1; have HC1 := za hc1; clear hr1 hc1; have HB := za (zs w.heap.size w); have H : ((impl_areEnds.f k l0 l1 a2 a3).bind fun t118 => (if t118 = true then ((impl_greatest.f l0 l1 a2 a3).bind fun t119 => (some (t119, true))) else (some (0, false)))) = some (r1, r2) := h; clear h; replace H := bindA H; obtain ⟨t118, A5, H⟩ := H; (try dsimp only at H)
 by_cases c6 : t118 = true
 ·subst c6; rw [yb rfl] at H; replace H := zC H; obtain ⟨t119, A70, H⟩ := H; replace H : (some (t119, true)) = some (r1, r2) := H; have A7 := za A70; clear A70; simp only [yd, ye] at H; obtain ⟨rfl, rfl⟩ := H
  go_enter Try.func12, Try.ntmps12
  go_wp2_with (first | ((with_reducible refine zp (f := 33) rfl ?_); refine zV (some 14) rfl rfl Try.func33 (qS27) rfl #[.slice A0 l0.length c0, .slice A1 l1.length c1, .int .i64 a2, .int .i64 a3] rfl (qS2) ?_; (with_reducible refine (impl_areEnds.calls k _ _ l0 _ _ l1 a2 a3 true _ ?s1 ?s2 ?s3 ?s4 A5.1).mono ?_); (case s1 => exact (qS21 HR0.1)); (case s2 => exact HC0.1); (case s3 => exact (qS21 HR1.1)); (case s4 => exact HC1.1); rintro e w8 ⟨rfl, hb⟩; refine ⟨_, rfl, ?_⟩; replace HB := za qS64; clear hb) | ((with_reducible refine zp (f := 46) rfl ?_); refine zV (some 20) rfl rfl Try.func46 (qS27) rfl #[.slice A0 l0.length c0, .slice A1 l1.length c1, .int .i64 a2, .int .i64 a3] rfl (qS2) ?_; (with_reducible refine (impl_greatest.calls _ _ l0 _ _ l1 a2 a3 t119 _ ?s1 ?s2 ?s3 ?s4 A7.1).mono ?_); (case s1 => exact (qS13 HR0.1)); (case s2 => exact HC0.1); (case s3 => exact (qS13 HR1.1)); (case s4 => exact HC1.1); rintro e w9 ⟨rfl, hb⟩; refine ⟨_, rfl, ?_⟩; replace HB := za qS64; clear hb))
  go_ret2
  exact ⟨(qS11), (qS0)⟩
 ·replace c6 := zn c6; subst c6; rw [yc (show ¬ (false = true) by decide)] at H; simp only [yd, ye] at H; obtain ⟨rfl, rfl⟩ := H
  go_enter Try.func12, Try.ntmps12
  go_wp2_with (first | ((with_reducible refine zp (f := 33) rfl ?_); refine zV (some 14) rfl rfl Try.func33 (qS27) rfl #[.slice A0 l0.length c0, .slice A1 l1.length c1, .int .i64 a2, .int .i64 a3] rfl (qS2) ?_; (with_reducible refine (impl_areEnds.calls k _ _ l0 _ _ l1 a2 a3 false _ ?s1 ?s2 ?s3 ?s4 A5.1).mono ?_); (case s1 => exact (qS21 HR0.1)); (case s2 => exact HC0.1); (case s3 => exact (qS21 HR1.1)); (case s4 => exact HC1.1); rintro e w10 ⟨rfl, hb⟩; refine ⟨_, rfl, ?_⟩; replace HB := za qS64; clear hb))
  go_ret2
  exact ⟨(qS11), (qS0)⟩

end Go.Proofs.Ytoljdjgndogegaa.MS
