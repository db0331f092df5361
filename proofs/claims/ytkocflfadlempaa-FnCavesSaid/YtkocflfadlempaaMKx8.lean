-- tight2 (a walk)
import Derived.Test.YtkocflfadlempaaMKx0
import Derived.Test.YtkocflfadlempaaMKx3
import Derived.Test.YtkocflfadlempaaMKx7
namespace Go.Proofs.Ytkocflfadlempaa.MK
open Go.RowKit Go.Proofs.YtkocflfadlempaaW.PrintWords Go.Proofs.YtkocflfadlempaaW.PrintLast
set_option maxHeartbeats 8000000
set_option maxRecDepth 100000
theorem qK8_c0 {p : Prop} (h : p := by
  simp only [Act.put, yf, yg, yh, i64_w, i32_w]
  rfl) : p := h
theorem qK8_c1 {p : Prop} (h : p := by
  show Act.put _ (some 37) _ = _
  simp only [Act.put, yf, yg, yh, i64_w, i32_w]
  rfl) : p := h
theorem qK8_c2 {p : Prop} (h : p := by
  show Act.put _ (some 39) _ = _
  simp only [Act.put, yf, yg, yh, i64_w, i32_w]
  rfl) : p := h
theorem qK8_c3 {p : Prop} (h : p := by
  intro w'
  go_simp
  with_reducible rfl) : p := h
theorem qK8_c4 {p : Prop} (h : p := by
  show Act.put _ (some 33) _ = _
  simp only [Act.put, yf, yg, yh, i64_w, i32_w]
  rfl) : p := h
attribute [local go_sem] max2_int min2_int max_two min_two
set_option linter.unusedVariables false
set_option linter.unusedSimpArgs false

def spec_l4Leg.f (a0_0 : Int) (a0_1 : Int) (a0_2 : Int) (a0_3 : Int) (a0_4 : Int) : Option (Bool) := (spec_l4Station.f a0_0).bind fun t401 => (if t401 = true then ((spec_l4Station.f a0_1).bind fun t402 => (if t402 = true then (if a0_0 = a0_1 then (some false) else ((spec_l1In.f a0_2 1 500).bind fun t403 => (if t403 = true then ((spec_l2Bearing.f a0_3).bind fun t404 => (if t404 = true then ((spec_l1In.f a0_4 (-90) 90).bind fun t405 => (some t405)) else (some false))) else (some false)))) else (some false))) else (some false))
theorem spec_l4Leg.calls (a0_0 : Int) (a0_1 : Int) (a0_2 : Int) (a0_3 : Int) (a0_4 : Int) (r : Bool) (w : World) (h : spec_l4Leg.f a0_0 a0_1 a0_2 a0_3 a0_4 = some r) :
  Calls Try.prog 54 #[.agg #[.int .i64 a0_0, .int .i64 a0_1, .int .i64 a0_2, .int .i64 a0_3, .int .i64 a0_4]] w fun e w' => e = .returned (.bool r) ∧ Below w.heap.size w w' := by
 have hu72 := Try.underlying72; have HB := za (zs w.heap.size w); have H : ((spec_l4Station.f a0_0).bind fun t401 => (if t401 = true then ((spec_l4Station.f a0_1).bind fun t402 => (if t402 = true then (if a0_0 = a0_1 then (some false) else ((spec_l1In.f a0_2 1 500).bind fun t403 => (if t403 = true then ((spec_l2Bearing.f a0_3).bind fun t404 => (if t404 = true then ((spec_l1In.f a0_4 (-90) 90).bind fun t405 => (some t405)) else (some false))) else (some false)))) else (some false))) else (some false))) = some r := h; clear h; replace H := bindA H; obtain ⟨t401, A2, H⟩ := H; (try dsimp only at H)
 by_cases c3 : t401 = true
 ·subst c3; rw [yb rfl] at H; replace H := bindA H; obtain ⟨t402, A4, H⟩ := H; (try dsimp only at H)
  by_cases c5 : t402 = true
  ·subst c5; rw [yb rfl] at H
   by_cases c6 : a0_0 = a0_1
   ·rw [yb c6] at H; have c6b0 : (a0_0 == a0_1) = true := zT c6; have c6b1 : (a0_0 != a0_1) = false := zy c6; clear c6; obtain rfl := zm H
    go_enter Try.func54, Try.ntmps54
    go_wp2_with (first | ((with_reducible refine zq (N := 1) rfl ?_); refine zB ?hg (N := 1) ?hd (cs := #[.int .i64 a0_0, .int .i64 a0_1, .int .i64 a0_2, .int .i64 a0_3, .int .i64 a0_4]) (t := 72) ?hr ?_; (case hd | hg => rfl); (case hr => exact (qK23)); intro gb400 hg w7 hbox hb; have BK400 := za hbox; have GW400 := za qK82; have GE400 := za qK82; replace HB := za qK73; clear hb hbox hg; have hcz8_0 : w7.cell? ⟨gb400, 0, none⟩ = some (.int .i64 a0_0) := (zf BK400.1 0).trans rfl; have hcz8_1 : w7.cell? ⟨gb400, 1, none⟩ = some (.int .i64 a0_1) := (zf BK400.1 1).trans rfl; have hcz8_2 : w7.cell? ⟨gb400, 2, none⟩ = some (.int .i64 a0_2) := (zf BK400.1 2).trans rfl; have hcz8_3 : w7.cell? ⟨gb400, 3, none⟩ = some (.int .i64 a0_3) := (zf BK400.1 3).trans rfl; have hcz8_4 : w7.cell? ⟨gb400, 4, none⟩ = some (.int .i64 a0_4) := (zf BK400.1 4).trans rfl; have hfz8_0 := ze BK400.1 0; have hfz8_1 := ze BK400.1 1; have hfz8_2 := ze BK400.1 2; have hfz8_3 := ze BK400.1 3; have hfz8_4 := ze BK400.1 4) | ((with_reducible refine zp (f := 44) rfl ?_); refine zV (some 5) rfl rfl Try.func44 (qK25) rfl #[.int .i64 a0_0] rfl (qK2) ?_; (with_reducible refine (spec_l4Station.calls a0_0 true _ A2.1).mono ?_); rintro e w' ⟨rfl, ⟨nd, rfl⟩⟩; refine ⟨_, rfl, ?_⟩) | (go_at_call 44; (with_reducible refine (spec_l4Station.calls a0_1 true _ A4.1).mono ?_); rintro e w' ⟨rfl, ⟨nd, rfl⟩⟩))
    go_ret
    exact ⟨(qK11), (qK19 GE400.1)⟩
   ·rw [yc c6] at H; have c6b0 : (a0_0 == a0_1) = false := zx c6; have c6b1 : (a0_0 != a0_1) = true := zU c6; replace H := bindA H; obtain ⟨t403, A9, H⟩ := H; (try dsimp only at H)
    by_cases c10 : t403 = true
    ·subst c10; rw [yb rfl] at H; replace H := bindA H; obtain ⟨t404, A11, H⟩ := H; (try dsimp only at H)
     by_cases c12 : t404 = true
     ·subst c12; rw [yb rfl] at H; replace H := zC H; obtain ⟨t405, A130, H⟩ := H; replace H : (some t405) = some r := H; have A13 := za A130; clear A130; obtain rfl := zm H
      go_enter Try.func54, Try.ntmps54
      go_wp2_with (first | ((with_reducible refine zq (N := 1) rfl ?_); refine zB ?hg (N := 1) ?hd (cs := #[.int .i64 a0_0, .int .i64 a0_1, .int .i64 a0_2, .int .i64 a0_3, .int .i64 a0_4]) (t := 72) ?hr ?_; (case hd | hg => rfl); (case hr => exact (qK23)); intro gb400 hg w14 hbox hb; have BK400 := za hbox; have GW400 := za qK82; have GE400 := za qK82; replace HB := za qK73; clear hb hbox hg; have hcz15_0 : w14.cell? ⟨gb400, 0, none⟩ = some (.int .i64 a0_0) := (zf BK400.1 0).trans rfl; have hcz15_1 : w14.cell? ⟨gb400, 1, none⟩ = some (.int .i64 a0_1) := (zf BK400.1 1).trans rfl; have hcz15_2 : w14.cell? ⟨gb400, 2, none⟩ = some (.int .i64 a0_2) := (zf BK400.1 2).trans rfl; have hcz15_3 : w14.cell? ⟨gb400, 3, none⟩ = some (.int .i64 a0_3) := (zf BK400.1 3).trans rfl; have hcz15_4 : w14.cell? ⟨gb400, 4, none⟩ = some (.int .i64 a0_4) := (zf BK400.1 4).trans rfl; have hfz15_0 := ze BK400.1 0; have hfz15_1 := ze BK400.1 1; have hfz15_2 := ze BK400.1 2; have hfz15_3 := ze BK400.1 3; have hfz15_4 := ze BK400.1 4) | ((with_reducible refine zp (f := 44) rfl ?_); refine zV (some 5) rfl rfl Try.func44 (qK25) rfl #[.int .i64 a0_0] rfl (qK2) ?_; (with_reducible refine (spec_l4Station.calls a0_0 true _ A2.1).mono ?_); rintro e w' ⟨rfl, ⟨nd, rfl⟩⟩; refine ⟨_, rfl, ?_⟩) | (go_at_call 44; (with_reducible refine (spec_l4Station.calls a0_1 true _ A4.1).mono ?_); rintro e w' ⟨rfl, ⟨nd, rfl⟩⟩) | (go_at_call 63; (with_reducible refine (spec_l1In.calls a0_2 1 500 true _ A9.1).mono ?_); rintro e w' ⟨rfl, ⟨nd, rfl⟩⟩) | (go_at_call 74; (with_reducible refine (spec_l2Bearing.calls a0_3 true _ A11.1).mono ?_); rintro e w' ⟨rfl, ⟨nd, rfl⟩⟩) | (go_at_call 63; (with_reducible refine (spec_l1In.calls a0_4 (-90) 90 t405 _ A13.1).mono ?_); rintro e w' ⟨rfl, ⟨nd, rfl⟩⟩))
      go_ret
      exact ⟨(qK11), (qK19 GE400.1)⟩
     ·replace c12 := zn c12; subst c12; rw [yc (show ¬ (false = true) by decide)] at H; obtain rfl := zm H
      go_enter Try.func54, Try.ntmps54
      go_wp2_with (first | ((with_reducible refine zq (N := 1) rfl ?_); refine zB ?hg (N := 1) ?hd (cs := #[.int .i64 a0_0, .int .i64 a0_1, .int .i64 a0_2, .int .i64 a0_3, .int .i64 a0_4]) (t := 72) ?hr ?_; (case hd | hg => rfl); (case hr => exact (qK23)); intro gb400 hg w16 hbox hb; have BK400 := za hbox; have GW400 := za qK82; have GE400 := za qK82; replace HB := za qK73; clear hb hbox hg; have hcz17_0 : w16.cell? ⟨gb400, 0, none⟩ = some (.int .i64 a0_0) := (zf BK400.1 0).trans rfl; have hcz17_1 : w16.cell? ⟨gb400, 1, none⟩ = some (.int .i64 a0_1) := (zf BK400.1 1).trans rfl; have hcz17_2 : w16.cell? ⟨gb400, 2, none⟩ = some (.int .i64 a0_2) := (zf BK400.1 2).trans rfl; have hcz17_3 : w16.cell? ⟨gb400, 3, none⟩ = some (.int .i64 a0_3) := (zf BK400.1 3).trans rfl; have hcz17_4 : w16.cell? ⟨gb400, 4, none⟩ = some (.int .i64 a0_4) := (zf BK400.1 4).trans rfl; have hfz17_0 := ze BK400.1 0; have hfz17_1 := ze BK400.1 1; have hfz17_2 := ze BK400.1 2; have hfz17_3 := ze BK400.1 3; have hfz17_4 := ze BK400.1 4) | ((with_reducible refine zp (f := 44) rfl ?_); refine zV (some 5) rfl rfl Try.func44 (qK25) rfl #[.int .i64 a0_0] rfl (qK2) ?_; (with_reducible refine (spec_l4Station.calls a0_0 true _ A2.1).mono ?_); rintro e w' ⟨rfl, ⟨nd, rfl⟩⟩; refine ⟨_, rfl, ?_⟩) | (go_at_call 44; (with_reducible refine (spec_l4Station.calls a0_1 true _ A4.1).mono ?_); rintro e w' ⟨rfl, ⟨nd, rfl⟩⟩) | (go_at_call 63; (with_reducible refine (spec_l1In.calls a0_2 1 500 true _ A9.1).mono ?_); rintro e w' ⟨rfl, ⟨nd, rfl⟩⟩) | (go_at_call 74; (with_reducible refine (spec_l2Bearing.calls a0_3 false _ A11.1).mono ?_); rintro e w' ⟨rfl, ⟨nd, rfl⟩⟩))
      go_ret
      exact ⟨(qK11), (qK19 GE400.1)⟩
    ·replace c10 := zn c10; subst c10; rw [yc (show ¬ (false = true) by decide)] at H; obtain rfl := zm H
     go_enter Try.func54, Try.ntmps54
     go_wp2_with (first | ((with_reducible refine zq (N := 1) rfl ?_); refine zB ?hg (N := 1) ?hd (cs := #[.int .i64 a0_0, .int .i64 a0_1, .int .i64 a0_2, .int .i64 a0_3, .int .i64 a0_4]) (t := 72) ?hr ?_; (case hd | hg => rfl); (case hr => exact (qK23)); intro gb400 hg w18 hbox hb; have BK400 := za hbox; have GW400 := za qK82; have GE400 := za qK82; replace HB := za qK73; clear hb hbox hg; have hcz19_0 : w18.cell? ⟨gb400, 0, none⟩ = some (.int .i64 a0_0) := (zf BK400.1 0).trans rfl; have hcz19_1 : w18.cell? ⟨gb400, 1, none⟩ = some (.int .i64 a0_1) := (zf BK400.1 1).trans rfl; have hcz19_2 : w18.cell? ⟨gb400, 2, none⟩ = some (.int .i64 a0_2) := (zf BK400.1 2).trans rfl; have hcz19_3 : w18.cell? ⟨gb400, 3, none⟩ = some (.int .i64 a0_3) := (zf BK400.1 3).trans rfl; have hcz19_4 : w18.cell? ⟨gb400, 4, none⟩ = some (.int .i64 a0_4) := (zf BK400.1 4).trans rfl; have hfz19_0 := ze BK400.1 0; have hfz19_1 := ze BK400.1 1; have hfz19_2 := ze BK400.1 2; have hfz19_3 := ze BK400.1 3; have hfz19_4 := ze BK400.1 4) | ((with_reducible refine zp (f := 44) rfl ?_); refine zV (some 5) rfl rfl Try.func44 (qK25) rfl #[.int .i64 a0_0] rfl (qK2) ?_; (with_reducible refine (spec_l4Station.calls a0_0 true _ A2.1).mono ?_); rintro e w' ⟨rfl, ⟨nd, rfl⟩⟩; refine ⟨_, rfl, ?_⟩) | (go_at_call 44; (with_reducible refine (spec_l4Station.calls a0_1 true _ A4.1).mono ?_); rintro e w' ⟨rfl, ⟨nd, rfl⟩⟩) | (go_at_call 63; (with_reducible refine (spec_l1In.calls a0_2 1 500 false _ A9.1).mono ?_); rintro e w' ⟨rfl, ⟨nd, rfl⟩⟩))
     go_ret
     exact ⟨(qK11), (qK19 GE400.1)⟩
  ·replace c5 := zn c5; subst c5; rw [yc (show ¬ (false = true) by decide)] at H; obtain rfl := zm H
   go_enter Try.func54, Try.ntmps54
   go_wp2_with (first | ((with_reducible refine zq (N := 1) rfl ?_); refine zB ?hg (N := 1) ?hd (cs := #[.int .i64 a0_0, .int .i64 a0_1, .int .i64 a0_2, .int .i64 a0_3, .int .i64 a0_4]) (t := 72) ?hr ?_; (case hd | hg => rfl); (case hr => exact (qK23)); intro gb400 hg w20 hbox hb; have BK400 := za hbox; have GW400 := za qK82; have GE400 := za qK82; replace HB := za qK73; clear hb hbox hg; have hcz21_0 : w20.cell? ⟨gb400, 0, none⟩ = some (.int .i64 a0_0) := (zf BK400.1 0).trans rfl; have hcz21_1 : w20.cell? ⟨gb400, 1, none⟩ = some (.int .i64 a0_1) := (zf BK400.1 1).trans rfl; have hcz21_2 : w20.cell? ⟨gb400, 2, none⟩ = some (.int .i64 a0_2) := (zf BK400.1 2).trans rfl; have hcz21_3 : w20.cell? ⟨gb400, 3, none⟩ = some (.int .i64 a0_3) := (zf BK400.1 3).trans rfl; have hcz21_4 : w20.cell? ⟨gb400, 4, none⟩ = some (.int .i64 a0_4) := (zf BK400.1 4).trans rfl; have hfz21_0 := ze BK400.1 0; have hfz21_1 := ze BK400.1 1; have hfz21_2 := ze BK400.1 2; have hfz21_3 := ze BK400.1 3; have hfz21_4 := ze BK400.1 4) | ((with_reducible refine zp (f := 44) rfl ?_); refine zV (some 5) rfl rfl Try.func44 (qK25) rfl #[.int .i64 a0_0] rfl (qK2) ?_; (with_reducible refine (spec_l4Station.calls a0_0 true _ A2.1).mono ?_); rintro e w' ⟨rfl, ⟨nd, rfl⟩⟩; refine ⟨_, rfl, ?_⟩) | (go_at_call 44; (with_reducible refine (spec_l4Station.calls a0_1 false _ A4.1).mono ?_); rintro e w' ⟨rfl, ⟨nd, rfl⟩⟩))
   go_ret
   exact ⟨(qK11), (qK19 GE400.1)⟩
 ·replace c3 := zn c3; subst c3; rw [yc (show ¬ (false = true) by decide)] at H; obtain rfl := zm H
  go_enter Try.func54, Try.ntmps54
  go_wp2_with (first | ((with_reducible refine zq (N := 1) rfl ?_); refine zB ?hg (N := 1) ?hd (cs := #[.int .i64 a0_0, .int .i64 a0_1, .int .i64 a0_2, .int .i64 a0_3, .int .i64 a0_4]) (t := 72) ?hr ?_; (case hd | hg => rfl); (case hr => exact (qK23)); intro gb400 hg w22 hbox hb; have BK400 := za hbox; have GW400 := za qK82; have GE400 := za qK82; replace HB := za qK73; clear hb hbox hg; have hcz23_0 : w22.cell? ⟨gb400, 0, none⟩ = some (.int .i64 a0_0) := (zf BK400.1 0).trans rfl; have hcz23_1 : w22.cell? ⟨gb400, 1, none⟩ = some (.int .i64 a0_1) := (zf BK400.1 1).trans rfl; have hcz23_2 : w22.cell? ⟨gb400, 2, none⟩ = some (.int .i64 a0_2) := (zf BK400.1 2).trans rfl; have hcz23_3 : w22.cell? ⟨gb400, 3, none⟩ = some (.int .i64 a0_3) := (zf BK400.1 3).trans rfl; have hcz23_4 : w22.cell? ⟨gb400, 4, none⟩ = some (.int .i64 a0_4) := (zf BK400.1 4).trans rfl; have hfz23_0 := ze BK400.1 0; have hfz23_1 := ze BK400.1 1; have hfz23_2 := ze BK400.1 2; have hfz23_3 := ze BK400.1 3; have hfz23_4 := ze BK400.1 4) | ((with_reducible refine zp (f := 44) rfl ?_); refine zV (some 5) rfl rfl Try.func44 (qK25) rfl #[.int .i64 a0_0] rfl (qK2) ?_; (with_reducible refine (spec_l4Station.calls a0_0 false _ A2.1).mono ?_); rintro e w' ⟨rfl, ⟨nd, rfl⟩⟩; refine ⟨_, rfl, ?_⟩))
  go_ret
  exact ⟨(qK11), (qK19 GE400.1)⟩

def spec_l4Legs.l0 : Nat → List (S72) → Int → Option (Bool)
 | 0, _, _ => none
 | k + 1, x0, x3 => if x3 < (x0.length : Int) then (if 0 ≤ x3 then ((spec_l4Leg.f ((rd_T72 x0 x3).f0) ((rd_T72 x0 x3).f1) ((rd_T72 x0 x3).f2) ((rd_T72 x0 x3).f3) ((rd_T72 x0 x3).f4)).bind fun t407 => (if t407 = true then (spec_l4Legs.l0 k x0 (wrap64 (x3 + 1))) else (some false))) else (none)) else (some (decide ((x0.length : Int) ≤ 12)))
def spec_l4Legs.f (k : Nat) (l0 : List (S72)) : Option (Bool) := spec_l4Legs.l0 k l0 0
theorem spec_l4Legs.calls (k : Nat) (A0 : Option Addr) (c0 : Nat) (l0 : List (S72)) (r : Bool) (w : World) (hr0 : Kd.C k72 w A0 l0.length l0) (hc0 : l0.length ≤ c0) (h : spec_l4Legs.f k l0 = some r) :
  Calls Try.prog 27 #[.slice A0 l0.length c0] w fun e w' => e = .returned (.bool r) ∧ Below w.heap.size w w' := by
 have hu72 := Try.underlying72; have HR0 := za hr0; have HC0 := za hc0; clear hr0 hc0; have HB := za (zs w.heap.size w); have H : (spec_l4Legs.l0 k l0 0) = some r := h; clear h; have H' := za H; clear H
 go_enter Try.func27, Try.ntmps27
 go_wp2
 go_loopg [3] k (fun kq v3 w' => ∃ (x3_1 : Int), v3 = .int .i64 x3_1 ∧ Aside0 (spec_l4Legs.l0 kq l0 x3_1 = some r) ∧ Aside0 (kq ≤ k) ∧ Aside0 (Below w.heap.size w w'))
 case atStart => exact ⟨(0), (qK10), H', ⟨zo _⟩, ⟨(qK0)⟩⟩
 case round =>
  clear H'; obtain ⟨x3_1, rfl, HA, HK1, HB⟩ := hrel
  cases gk with
  | zero => exact absurd HA.1 (by simp [spec_l4Legs.l0])
  | succ k1 =>
   have H := HA.1; clear HA; simp only [spec_l4Legs.l0] at H
   by_cases c2 : x3_1 < (l0.length : Int)
   ·rw [yb c2] at H; have c2b0 : decide (x3_1 < (l0.length : Int)) = true := zc c2; clear c2
    by_cases c3 : 0 ≤ x3_1
    ·rw [yb c3] at H; have c3b0 : decide (0 ≤ x3_1) = true := zc c3; clear c3; replace H := bindA H; obtain ⟨t407, A4, H⟩ := H; (try dsimp only at H)
     by_cases c5 : t407 = true
     ·subst c5; rw [yb rfl] at H; have H' := za H; clear H; have p406 : 0 ≤ (x3_1 : Int) := zb (qK7); have q406 : x3_1 < (l0.length : Int) := zb (qK7); obtain ⟨ad406, e406, hx406_0, hx406_1, hx406_2, hx406_3, hx406_4⟩ := at_T72 HR0.1 x3_1 p406 q406; cases e406; replace hx406_0 := (HB.1.cell (zd w _ hx406_0)).trans hx406_0; replace hx406_1 := (HB.1.cell (zd w _ hx406_1)).trans hx406_1; replace hx406_2 := (HB.1.cell (zd w _ hx406_2)).trans hx406_2; replace hx406_3 := (HB.1.cell (zd w _ hx406_3)).trans hx406_3; replace hx406_4 := (HB.1.cell (zd w _ hx406_4)).trans hx406_4; replace p406 := zw p406; replace q406 := zw q406
      go_wp2_with (first | ((with_reducible refine zp (f := 54) rfl ?_); refine zV (some 14) rfl rfl Try.func54 (qK25) rfl #[.agg #[.int .i64 ((rd_T72 l0 x3_1).f0), .int .i64 ((rd_T72 l0 x3_1).f1), .int .i64 ((rd_T72 l0 x3_1).f2), .int .i64 ((rd_T72 l0 x3_1).f3), .int .i64 ((rd_T72 l0 x3_1).f4)]] rfl (qK2) ?_; (with_reducible refine (spec_l4Leg.calls ((rd_T72 l0 x3_1).f0) ((rd_T72 l0 x3_1).f1) ((rd_T72 l0 x3_1).f2) ((rd_T72 l0 x3_1).f3) ((rd_T72 l0 x3_1).f4) true _ A4.1).mono ?_); rintro e w6 ⟨rfl, hb⟩; refine ⟨_, rfl, ?_⟩; replace HB := za qK73; clear hb))
      go_roundg k1
      case measure => have := HK1.1; omega
      case rel => exact ⟨(wrap64 (x3_1 + 1)), (qK10), H', ⟨by have := HK1.1; omega⟩, ⟨(qK0)⟩⟩
     ·replace c5 := zn c5; subst c5; rw [yc (show ¬ (false = true) by decide)] at H; obtain rfl := zm H; have p406 : 0 ≤ (x3_1 : Int) := zb (qK7); have q406 : x3_1 < (l0.length : Int) := zb (qK7); obtain ⟨ad406, e406, hx406_0, hx406_1, hx406_2, hx406_3, hx406_4⟩ := at_T72 HR0.1 x3_1 p406 q406; cases e406; replace hx406_0 := (HB.1.cell (zd w _ hx406_0)).trans hx406_0; replace hx406_1 := (HB.1.cell (zd w _ hx406_1)).trans hx406_1; replace hx406_2 := (HB.1.cell (zd w _ hx406_2)).trans hx406_2; replace hx406_3 := (HB.1.cell (zd w _ hx406_3)).trans hx406_3; replace hx406_4 := (HB.1.cell (zd w _ hx406_4)).trans hx406_4; replace p406 := zw p406; replace q406 := zw q406
      go_wp2_with (first | ((with_reducible refine zp (f := 54) rfl ?_); refine zV (some 14) rfl rfl Try.func54 (qK25) rfl #[.agg #[.int .i64 ((rd_T72 l0 x3_1).f0), .int .i64 ((rd_T72 l0 x3_1).f1), .int .i64 ((rd_T72 l0 x3_1).f2), .int .i64 ((rd_T72 l0 x3_1).f3), .int .i64 ((rd_T72 l0 x3_1).f4)]] rfl (qK2) ?_; (with_reducible refine (spec_l4Leg.calls ((rd_T72 l0 x3_1).f0) ((rd_T72 l0 x3_1).f1) ((rd_T72 l0 x3_1).f2) ((rd_T72 l0 x3_1).f3) ((rd_T72 l0 x3_1).f4) false _ A4.1).mono ?_); rintro e w7 ⟨rfl, hb⟩; refine ⟨_, rfl, ?_⟩; replace HB := za qK73; clear hb))
      go_ret
      exact ⟨(qK11), (qK0)⟩
    ·rw [yc c3] at H
     exact absurd H (by simp)
   ·rw [yc c2] at H; have c2b0 : decide (x3_1 < (l0.length : Int)) = false := zv c2; clear c2; obtain rfl := zm H
    go_wp2
    go_ret
    exact ⟨(qK11), (qK0)⟩

def spec_l1Has.l0 : Nat → List Int → Int → Int → Option (Bool)
 | 0, _, _, _ => none
 | k + 1, x0, x1, x5 => if x5 < (x0.length : Int) then (if 0 ≤ x5 then (if (rd x0 x5) = x1 then (some true) else (spec_l1Has.l0 k x0 x1 (wrap64 (x5 + 1)))) else (none)) else (some false)
def spec_l1Has.f (k : Nat) (l0 : List Int) (a1 : Int) : Option (Bool) := spec_l1Has.l0 k l0 a1 0
theorem spec_l1Has.calls (k : Nat) (A0 : Option Addr) (c0 : Nat) (l0 : List Int) (a1 : Int) (r : Bool) (w : World) (hr0 : Kd.C (Kd.int .i64) w A0 l0.length l0) (hc0 : l0.length ≤ c0) (h : spec_l1Has.f k l0 a1 = some r) :
  Calls Try.prog 38 #[.slice A0 l0.length c0, .int .i64 a1] w fun e w' => e = .returned (.bool r) ∧ Drawn0 w w' := by
 have HR0 := za hr0; have HC0 := za hc0; clear hr0 hc0; have H : (spec_l1Has.l0 k l0 a1 0) = some r := h; clear h; have H' := za H; clear H
 go_enter Try.func38, Try.ntmps38
 go_wp2
 go_loopg [5] k (fun kq v5 w' => ∃ (x5_1 : Int), v5 = .int .i64 x5_1 ∧ Aside0 (spec_l1Has.l0 kq l0 a1 x5_1 = some r) ∧ Aside0 (kq ≤ k) ∧ Drawn0 w w')
 case atStart => exact ⟨(0), (qK10), H', ⟨zo _⟩, (qK24)⟩
 case round =>
  clear H'; (try clear p2); obtain ⟨x5_1, rfl, HA, HK1, ⟨m1, rfl⟩⟩ := hrel
  cases gk with
  | zero => exact absurd HA.1 (by simp [spec_l1Has.l0])
  | succ k1 =>
   have H := HA.1; clear HA; simp only [spec_l1Has.l0] at H
   by_cases c3 : x5_1 < (l0.length : Int)
   ·rw [yb c3] at H; have c3b0 : decide (x5_1 < (l0.length : Int)) = true := zc c3; clear c3
    by_cases c4 : 0 ≤ x5_1
    ·rw [yb c4] at H; have c4b0 : decide (0 ≤ x5_1) = true := zc c4; clear c4
     by_cases c5 : (rd l0 x5_1) = a1
     ·rw [yb c5] at H; have c5b0 : ((rd l0 x5_1) == a1) = true := zT c5; have c5b1 : ((rd l0 x5_1) != a1) = false := zy c5; clear c5; obtain rfl := zm H; have p408 : 0 ≤ (x5_1 : Int) := zb (qK7); have q408 : x5_1 < (l0.length : Int) := zb (qK7); obtain ⟨ad408, e408, hx408_0⟩ := zJ HR0.1 x5_1 p408 q408; cases e408; replace p408 := zw p408; replace q408 := zw q408
      go_wp2
      go_ret
      exact ⟨(qK10), (qK24)⟩
     ·rw [yc c5] at H; have c5b0 : ((rd l0 x5_1) == a1) = false := zx c5; have c5b1 : ((rd l0 x5_1) != a1) = true := zU c5; have H' := za H; clear H; have p408 : 0 ≤ (x5_1 : Int) := zb (qK7); have q408 : x5_1 < (l0.length : Int) := zb (qK7); obtain ⟨ad408, e408, hx408_0⟩ := zJ HR0.1 x5_1 p408 q408; cases e408; replace p408 := zw p408; replace q408 := zw q408
      go_wp2
      go_roundg k1
      case measure => have := HK1.1; omega
      case rel => exact ⟨(wrap64 (x5_1 + 1)), (qK10), H', ⟨by have := HK1.1; omega⟩, (qK24)⟩
    ·rw [yc c4] at H
     exact absurd H (by simp)
   ·rw [yc c3] at H; have c3b0 : decide (x5_1 < (l0.length : Int)) = false := zv c3; clear c3; obtain rfl := zm H
    go_wp2
    go_ret
    exact ⟨(qK10), (qK24)⟩

def spec_l1PutNew.l0 : Nat → List Int → Int → Int → Option (List Int)
 | 0, _, _, _ => none
 | k + 1, x0, x1, x5 => if x5 < (x0.length : Int) then (if 0 ≤ x5 then (if (rd x0 x5) < x1 then (spec_l1PutNew.l0 k x0 x1 (wrap64 (x5 + 1))) else (if (rd x0 x5) = x1 then (none) else ((some (([] : List Int) : List Int)).bind fun y411 => (if x5 ≤ (x0.length : Int) then (if y411.length + (x0.take (x5 : Int).toNat).length < 17592186044416 then ((some (y411 ++ (x0.take (x5 : Int).toNat) : List Int)).bind fun y415 => ((some (([x1] : List Int) : List Int)).bind fun y418 => (if y415.length + y418.length < 17592186044416 then ((some (y415 ++ y418 : List Int)).bind fun y421 => (if y421.length + (x0.drop (x5 : Int).toNat).length < 17592186044416 then (some (y421 ++ (x0.drop (x5 : Int).toNat))) else (none))) else (none)))) else (none)) else (none))))) else (none)) else ((some (([] : List Int) : List Int)).bind fun y428 => (if 0 ≤ x5 then (if x5 ≤ (x0.length : Int) then (if y428.length + (x0.take (x5 : Int).toNat).length < 17592186044416 then ((some (y428 ++ (x0.take (x5 : Int).toNat) : List Int)).bind fun y432 => ((some (([x1] : List Int) : List Int)).bind fun y435 => (if y432.length + y435.length < 17592186044416 then ((some (y432 ++ y435 : List Int)).bind fun y438 => (if y438.length + (x0.drop (x5 : Int).toNat).length < 17592186044416 then (some (y438 ++ (x0.drop (x5 : Int).toNat))) else (none))) else (none)))) else (none)) else (none)) else (none)))
def spec_l1PutNew.f (k : Nat) (l0 : List Int) (a1 : Int) : Option (List Int) := spec_l1PutNew.l0 k l0 a1 0
def spec_l1PutNew.T6 : Bool × List (List Nat × List Nat) := (true, [([], []), ([], []), ([], []), ([1, 2], [1, 2]), ([0, 3], [0, 3]), ([], []), ([5], [5]), ([4, 6, 4], [4, 6]), ([], []), ([], []), ([8, 9], [8, 9]), ([7, 10, 7], [7, 10]), ([11, 11, 0, 1, 2, 3, 4, 5, 6, 7, 8, 9, 10, 11], [11])])
def spec_l1PutNew.B6 : List Nat := [0, 0, 0, 6, 15, 0, 32, 127, 0, 0, 768, 2047, 4095]
theorem spec_l1PutNew.tab6 : rtab .any (opsOf Try.f60 6) = spec_l1PutNew.T6 := by kernel_rfl
theorem spec_l1PutNew.bits6 : waitsOk spec_l1PutNew.T6.2 spec_l1PutNew.B6 = true := by kernel_rfl
theorem spec_l1PutNew.calls (k : Nat) (A0 : Option Addr) (c0 : Nat) (l0 : List Int) (a1 : Int) (r : List Int) (w : World) (hr0 : Kd.C (Kd.int .i64) w A0 l0.length l0) (hc0 : l0.length ≤ c0) (h : spec_l1PutNew.f k l0 a1 = some r) :
  Calls Try.prog 60 #[.slice A0 l0.length c0, .int .i64 a1] w fun e w' => ∃ v0_ : Value, e = .returned (v0_) ∧ Kd.R (Kd.int .i64) 3 w' w.heap.size (fun _ => True) v0_ r ∧ Below w.heap.size w w' := by
 have HR0 := za hr0; have HC0 := za hc0; clear hr0 hc0; have HB := za (zs w.heap.size w); have H : (spec_l1PutNew.l0 k l0 a1 0) = some r := h; clear h; have H' := za H; clear H
 go_enter Try.func60, Try.ntmps60
 go_wp2
 go_loopg [5] k (fun kq v5 w' => ∃ (x5_1 : Int), v5 = .int .i64 x5_1 ∧ Aside0 (spec_l1PutNew.l0 kq l0 a1 x5_1 = some r) ∧ Aside0 (kq ≤ k) ∧ Aside0 (Below w.heap.size w w'))
 case atStart => exact ⟨(0), (qK10), H', ⟨zo _⟩, ⟨(qK0)⟩⟩
 case round =>
  clear H'; (try clear p2); obtain ⟨x5_1, rfl, HA, HK1, HB⟩ := hrel
  cases gk with
  | zero => exact absurd HA.1 (by simp [spec_l1PutNew.l0])
  | succ k1 =>
   have H := HA.1; clear HA; simp only [spec_l1PutNew.l0] at H
   by_cases c3 : x5_1 < (l0.length : Int)
   ·rw [yb c3] at H; have c3b0 : decide (x5_1 < (l0.length : Int)) = true := zc c3; clear c3
    by_cases c4 : 0 ≤ x5_1
    ·rw [yb c4] at H; have c4b0 : decide (0 ≤ x5_1) = true := zc c4; clear c4
     by_cases c5 : (rd l0 x5_1) < a1
     ·rw [yb c5] at H; have c5b0 : decide ((rd l0 x5_1) < a1) = true := zc c5; clear c5; have H' := za H; clear H; have p409 : 0 ≤ (x5_1 : Int) := zb (qK7); have q409 : x5_1 < (l0.length : Int) := zb (qK7); obtain ⟨ad409, e409, hx409_0⟩ := zJ HR0.1 x5_1 p409 q409; cases e409; replace hx409_0 := (HB.1.cell (zd w _ hx409_0)).trans hx409_0; replace p409 := zw p409; replace q409 := zw q409
      go_wp2
      go_roundg k1
      case measure => have := HK1.1; omega
      case rel => exact ⟨(wrap64 (x5_1 + 1)), (qK10), H', ⟨by have := HK1.1; omega⟩, ⟨(qK0)⟩⟩
     ·rw [yc c5] at H; have c5b0 : decide ((rd l0 x5_1) < a1) = false := zv c5; clear c5
      by_cases c6 : (rd l0 x5_1) = a1
      ·rw [yb c6] at H
       exact absurd H (by simp)
      ·rw [yc c6] at H; have c6b0 : ((rd l0 x5_1) == a1) = false := zx c6; have c6b1 : ((rd l0 x5_1) != a1) = true := zU c6; obtain ⟨y411, hy411⟩ : ∃ y_ : List Int, y_ = (([] : List Int)) := ⟨_, rfl⟩; replace H : (if x5_1 ≤ (l0.length : Int) then (if y411.length + (l0.take (x5_1 : Int).toNat).length < 17592186044416 then ((some (y411 ++ (l0.take (x5_1 : Int).toNat) : List Int)).bind fun y415 => ((some (([a1] : List Int) : List Int)).bind fun y418 => (if y415.length + y418.length < 17592186044416 then ((some (y415 ++ y418 : List Int)).bind fun y421 => (if y421.length + (l0.drop (x5_1 : Int).toNat).length < 17592186044416 then (some (y421 ++ (l0.drop (x5_1 : Int).toNat))) else (none))) else (none)))) else (none)) else (none)) = some r := (qK4 hy411); have Ny411 := za hy411; clear hy411; have c7b0 := zw (zb (qK7) : 0 ≤ x5_1)
       by_cases c8 : x5_1 ≤ (l0.length : Int)
       ·rw [yb c8] at H; have c8b0 := zw c8; have c8b1 : decide (x5_1 ≤ (l0.length : Int)) = true := zc c8; clear c8
        by_cases c9 : y411.length + (l0.take (x5_1 : Int).toNat).length < 17592186044416
        ·rw [yb c9] at H; have LMc9 := za c9; clear c9; obtain ⟨y415, hy415⟩ : ∃ y_ : List Int, y_ = (y411 ++ (l0.take (x5_1 : Int).toNat)) := ⟨_, rfl⟩; replace H : ((some (([a1] : List Int) : List Int)).bind fun y418 => (if y415.length + y418.length < 17592186044416 then ((some (y415 ++ y418 : List Int)).bind fun y421 => (if y421.length + (l0.drop (x5_1 : Int).toNat).length < 17592186044416 then (some (y421 ++ (l0.drop (x5_1 : Int).toNat))) else (none))) else (none))) = some r := (qK4 hy415); have Ny415 := za hy415; clear hy415; obtain ⟨y418, hy418⟩ : ∃ y_ : List Int, y_ = (([a1] : List Int)) := ⟨_, rfl⟩; replace H : (if y415.length + y418.length < 17592186044416 then ((some (y415 ++ y418 : List Int)).bind fun y421 => (if y421.length + (l0.drop (x5_1 : Int).toNat).length < 17592186044416 then (some (y421 ++ (l0.drop (x5_1 : Int).toNat))) else (none))) else (none)) = some r := (qK4 hy418); have Ny418 := za hy418; clear hy418
         by_cases c10 : y415.length + y418.length < 17592186044416
         ·rw [yb c10] at H; have LMc10 := za c10; clear c10; obtain ⟨y421, hy421⟩ : ∃ y_ : List Int, y_ = (y415 ++ y418) := ⟨_, rfl⟩; replace H : (if y421.length + (l0.drop (x5_1 : Int).toNat).length < 17592186044416 then (some (y421 ++ (l0.drop (x5_1 : Int).toNat))) else (none)) = some r := (qK4 hy421); have Ny421 := za hy421; clear hy421; have c11b0 := zw (zb (qK7) : 0 ≤ x5_1); have c12b0 := zw (zb (qK7) : x5_1 ≤ (l0.length : Int))
          by_cases c13 : y421.length + (l0.drop (x5_1 : Int).toNat).length < 17592186044416
          ·rw [yb c13] at H; have LMc13 := za c13; clear c13; obtain ⟨y425, hy425⟩ : ∃ y_ : List Int, y_ = (y421 ++ (l0.drop (x5_1 : Int).toNat)) := ⟨_, rfl⟩; replace H : (some y425) = some r := (qK4 hy425); have Ny425 := za hy425; clear hy425; obtain rfl := zm H; have p409 : 0 ≤ (x5_1 : Int) := zb (qK7); have q409 : x5_1 < (l0.length : Int) := zb (qK7); obtain ⟨ad409, e409, hx409_0⟩ := zJ HR0.1 x5_1 p409 q409; cases e409; replace hx409_0 := (HB.1.cell (zd w _ hx409_0)).trans hx409_0; replace p409 := zw p409; replace q409 := zw q409; have p410 : 0 ≤ (x5_1 : Int) := zb (qK7); have q410 : x5_1 < (l0.length : Int) := zb (qK7); obtain ⟨ad410, e410, hx410_0⟩ := zJ HR0.1 x5_1 p410 q410; obtain rfl : ad409 = ad410 := (by injection e410); replace hx410_0 := (HB.1.cell (zd w _ hx410_0)).trans hx410_0; replace p410 := zw p410; replace q410 := zw q410
           try go_wp2
           replace HB := za (below_drew1 HB.1); obtain ⟨i015, hi015, _, hsz15, _⟩ := info_parts info3; obtain ⟨hcut15, hA15, hC15⟩ := print_take_of (P := Try.prog) (Value.int .i64) 0 32 3 .i64 Try.underlying32 hi015 hsz15 (some ad409) c0 l0 x5_1 (zb (qK7)) (zb (qK7)) HC0.1; have HR414 := za (by exact Kd.C_of_reads (h1 := fun _ => rfl) (hA15 _ (Kd.reads_of_C HR0.1))); have HC414 := za hC15; clear hA15 hC15 hi015 hsz15; obtain ⟨i016, hi016, _, hsz16, _⟩ := info_parts info3; obtain ⟨A16, hcut16, hA16, hC16⟩ := print_drop_of (P := Try.prog) (Value.int .i64) 0 32 3 .i64 Try.underlying32 hi016 hsz16 (some ad409) c0 l0 x5_1 (zb (qK7)) (zb (qK7)) HC0.1; have HR424 := za (by exact Kd.C_of_reads (h1 := fun _ => rfl) (hA16 _ (Kd.reads_of_C HR0.1))); have HC424 := za hC16; clear hA16 hC16 hi016 hsz16
           refine start_ (n := 13) (S := fun w' => True) (ds := []) qKb4 (qK25) rfl rfl trivial (fun hHeld => ?_); refine with_tabW spec_l1PutNew.tab6 spec_l1PutNew.bits6 (fun HT_ HW_ => ?_)
           generalize wr.drew = w14 at HB HR414 HR424 hHeld ⊢
           refine pure_ (i := 1) (N := some 34) (v := ?_) (a' := ?_) qKb5 rfl rfl (qK76) (fun _ _ _ h => h) (zY ⟨by rfl, ?_⟩) ?_ ?_
           rotate_left; exact qK8_c3; rotate_left; exact qK8_c0
           refine pure_ (i := 2) (N := some 35) (v := ?_) (a' := ?_) qKb6 rfl rfl (qK76) (fun _ _ _ h => h) (zY ⟨by rfl, ?_⟩) ?_ ?_
           rotate_left; exact qK8_c3; rotate_left; exact qK8_c0
           refine pure_ (i := 3) (N := some 36) (v := ?_) (a' := ?_) qKb7 rfl rfl (qK76) (fun _ _ _ h => h) (zY ⟨by rfl, ?_⟩) ?_ ?_
           rotate_left; exact qK8_c3; rotate_left; exact qK8_c0
           refine pure_ (i := 5) (N := some 38) (v := ?_) (a' := ?_) qKb8 rfl rfl (qK76) (fun _ _ _ h => h) (zY ⟨by rfl, ?_⟩) ?_ ?_
           rotate_left; exact qK8_c3; rotate_left; exact qK8_c0
           refine pure_ (i := 8) (N := some 41) (v := ?_) (a' := ?_) qKb9 rfl rfl (qK76) (fun _ _ _ h => h) (zY ⟨by rfl, ?_⟩) ?_ ?_
           rotate_left; exact qK8_c3; rotate_left; exact qK8_c0
           refine pure_ (i := 9) (N := some 42) (v := ?_) (a' := ?_) qKb10 rfl rfl (qK76) (fun _ _ _ h => h) (zY ⟨by rfl, ?_⟩) ?_ ?_
           rotate_left; exact qK8_c3; rotate_left; exact qK8_c0
           refine pure_ (i := 10) (N := some 43) (v := ?_) (a' := ?_) qKb11 rfl rfl (qK76) (fun _ _ _ h => h) (zY ⟨by rfl, ?_⟩) ?_ ?_
           rotate_left; exact qK8_c3; rotate_left; exact qK8_c0
           refine join_ (σ := Value × Value × Value) 3 qKb12 (fun s_ => [(33, s_.1), (37, s_.2.1), (39, s_.2.2)]) (fun s_ w' => (Kd.R (Kd.int .i64) 3 w' w.heap.size (fun k_ => some k_ ≠ (s_.2.2 : Value).ownBlock) s_.2.1 y415) ∧ (Kd.R (Kd.int .i64) 3 w' w.heap.size (fun k_ => some k_ ≠ (s_.2.1 : Value).ownBlock) s_.2.2 y418) ∧ (Below w.heap.size w w')) ?_ ?_
           rotate_left
           ·intro hCont
            refine two_ (i := 0) (j := 6) (Ni := some 33) (Nj := some 39) qKb13 qKb14 rfl rfl rfl rfl (two_of HT_.1 (qK25)) (by decide) (by decide) (fun K hK => ?_) (fun K hK => ?_)
            ·skip
             refine Kd.R_lit_step (Kd.int .i64) _ 3 ?hg (N := 33) ?hd (xs := ([] : List Int)) (inner := []) (ok := fun _ => True) (okp := fun _ => True) ?hr ?hp (fun _ hk => hk) trivial (zs _ _) (zo _) (by simp) ?_; (case hd | hg => rfl); (case hr => exact (qK23)); (case hp => exact (zu _ _))
             intro v412 w17 ho18 hb hg_ hnew_; clear hg_ hnew_
             (first | rw [← Ny411.1] at ho18 | (simp only [Int.reduceToNat] at ho18; rw [← Ny411.1] at ho18))
             have HO413 := za (qK80 ho18); replace HB := za qK73; clear hb ho18
             refine hK.out _ _ trivial (fun hHeld => ?_)
             clear hK K
             refine norm_ (a' := ?_) ?_ ?_
             rotate_left
             ·exact qK8_c4
             refine two_ (i := 4) (j := 6) (Ni := some 37) (Nj := some 39) qKb15 qKb16 rfl rfl rfl rfl (two_of HT_.1 (qK25)) (by decide) (by decide) (fun K hK => ?_) (fun K hK => ?_)
             ·skip
              refine zM (Kd.int .i64) (w0 := w) w.heap.size (by rfl) (.tmp 33) (.tmp 36) 32 3 (.int .i64 0) 8 rfl Try.underlying32 info3 rfl (by decide) (by omega) v412 y411 (l0.take (x5_1 : Int).toNat) _ _ _ (fun _ => True) (fun _ => False) rfl rfl ?aO ?aR (fun _ _ h => h) (fun _ h => h.elim) ?aF ?aB ?aS ?aL ?_
              (case aR => exact (qK74 HR414.1))
              (case aB => exact (qK0))
              (case aF => exact (fun _ _ => trivial))
              (case aO => exact (qK1 HO413.1))
              (case aS => exact (qK91))
              (case aL => exact (qK78 LMc9.1))
              intro v416 w19 ho hb hg hat; rw [← Ny415.1] at ho; replace HB := za hb; have HO417 := za ho; clear HO413; clear ho hb hg hat
              refine hK.out _ _ trivial (fun hHeld => ?_)
              clear hK K
              refine norm_ (a' := ?_) ?_ ?_
              rotate_left
              ·exact qK8_c1
              refine one_ (i := 6) (N := some 39) qKb12 rfl rfl (qK81) (by decide) (fun K hK => ?_)
              refine Kd.R_lit_step (Kd.int .i64) _ 3 ?hg (N := 39) ?hd (xs := ([a1] : List Int)) (inner := [.int .i64 a1]) (ok := fun _ => True) (okp := fun _ => True) ?hr ?hp (fun _ hk => hk) trivial (zs _ _) (zo _) (by simp) ?_; (case hd | hg => rfl); (case hr => exact (qK23)); (case hp => exact (qK46))
              intro v419 w20 ho21 hb hg_ hnew_; clear hg_ hnew_
              (first | rw [← Ny418.1] at ho21 | (simp only [Int.reduceToNat] at ho21; rw [← Ny418.1] at ho21))
              have HO420 := za (qK86 ho21 HO417.1); replace HO417 := za (qK84 HO417.1 ho21); replace HB := za qK73; clear hb ho21
              refine hK.out _ _ trivial (fun hHeld => ?_)
              clear hK K
              refine norm_ (a' := ?_) ?_ ?_
              rotate_left
              ·exact qK8_c2
              exact norm_ (qK43) (hCont (v412, v416, v419) _ ⟨(qK26 HO417.1), (qK26 HO420.1), (qK0)⟩)
             ·skip
              refine Kd.R_lit_step (Kd.int .i64) _ 3 ?hg (N := 39) ?hd (xs := ([a1] : List Int)) (inner := [.int .i64 a1]) (ok := fun _ => True) (okp := fun _ => True) ?hr ?hp (fun _ hk => hk) trivial (zs _ _) (zo _) (by simp) ?_; (case hd | hg => rfl); (case hr => exact (qK23)); (case hp => exact (qK46))
              intro v419 w19 ho20 hb hg_ hnew_; clear hg_ hnew_
              (first | rw [← Ny418.1] at ho20 | (simp only [Int.reduceToNat] at ho20; rw [← Ny418.1] at ho20))
              have HO420 := za (qK86 ho20 HO413.1); replace HO413 := za (qK84 HO413.1 ho20); replace HB := za qK73; clear hb ho20
              refine hK.out _ _ trivial (fun hHeld => ?_)
              clear hK K
              refine norm_ (a' := ?_) ?_ ?_
              rotate_left
              ·exact qK8_c2
              refine one_ (i := 4) (N := some 37) qKb12 rfl rfl (qK81) (by decide) (fun K hK => ?_)
              refine zM (Kd.int .i64) (w0 := w) w.heap.size (by rfl) (.tmp 33) (.tmp 36) 32 3 (.int .i64 0) 8 rfl Try.underlying32 info3 rfl (by decide) (by omega) v412 y411 (l0.take (x5_1 : Int).toNat) _ _ _ (fun k_ => some k_ ≠ (v419 : Value).ownBlock) (fun _ => False) rfl rfl ?aO ?aR (fun _ _ h => h) (fun _ h => h.elim) ?aF ?aB ?aS ?aL ?_
              (case aR => exact (qK74 HR414.1))
              (case aB => exact (qK0))
              (case aF => exact (qK85 HO420.1))
              (case aO => exact (qK26 HO413.1))
              (case aS => exact (qK91))
              (case aL => exact (qK78 LMc9.1))
              intro v416 w21 ho hb hg hat; rw [← Ny415.1] at ho; replace HO420 := za (qK88 HO420.1); replace HB := za hb; have HO417 := za ho; clear HO413; clear ho hb hg hat
              refine hK.out _ _ trivial (fun hHeld => ?_)
              clear hK K
              refine norm_ (a' := ?_) ?_ ?_
              rotate_left
              ·exact qK8_c1
              exact norm_ (qK43) (hCont (v412, v416, v419) _ ⟨(qK1 HO417.1), (qK26 HO420.1), (qK0)⟩)
            ·skip
             refine Kd.R_lit_step (Kd.int .i64) _ 3 ?hg (N := 39) ?hd (xs := ([a1] : List Int)) (inner := [.int .i64 a1]) (ok := fun _ => True) (okp := fun _ => True) ?hr ?hp (fun _ hk => hk) trivial (zs _ _) (zo _) (by simp) ?_; (case hd | hg => rfl); (case hr => exact (qK23)); (case hp => exact (qK46))
             intro v419 w17 ho18 hb hg_ hnew_; clear hg_ hnew_
             (first | rw [← Ny418.1] at ho18 | (simp only [Int.reduceToNat] at ho18; rw [← Ny418.1] at ho18))
             have HO420 := za (qK80 ho18); replace HB := za qK73; clear hb ho18
             refine hK.out _ _ trivial (fun hHeld => ?_)
             clear hK K
             refine norm_ (a' := ?_) ?_ ?_
             rotate_left
             ·exact qK8_c2
             refine one_ (i := 0) (N := some 33) qKb16 rfl rfl (qK81) (by decide) (fun K hK => ?_)
             refine Kd.R_lit_step (Kd.int .i64) _ 3 ?hg (N := 33) ?hd (xs := ([] : List Int)) (inner := []) (ok := fun _ => True) (okp := fun _ => True) ?hr ?hp (fun _ hk => hk) trivial (zs _ _) (zo _) (by simp) ?_; (case hd | hg => rfl); (case hr => exact (qK23)); (case hp => exact (zu _ _))
             intro v412 w19 ho20 hb hg_ hnew_; clear hg_ hnew_
             (first | rw [← Ny411.1] at ho20 | (simp only [Int.reduceToNat] at ho20; rw [← Ny411.1] at ho20))
             have HO413 := za (qK86 ho20 HO420.1); replace HO420 := za (qK84 HO420.1 ho20); replace HB := za qK73; clear hb ho20
             refine hK.out _ _ trivial (fun hHeld => ?_)
             clear hK K
             refine norm_ (a' := ?_) ?_ ?_
             rotate_left
             ·exact qK8_c4
             refine one_ (i := 4) (N := some 37) qKb12 rfl rfl (qK81) (by decide) (fun K hK => ?_)
             refine zM (Kd.int .i64) (w0 := w) w.heap.size (by rfl) (.tmp 33) (.tmp 36) 32 3 (.int .i64 0) 8 rfl Try.underlying32 info3 rfl (by decide) (by omega) v412 y411 (l0.take (x5_1 : Int).toNat) _ _ _ (fun k_ => some k_ ≠ (v419 : Value).ownBlock) (fun _ => False) rfl rfl ?aO ?aR (fun _ _ h => h) (fun _ h => h.elim) ?aF ?aB ?aS ?aL ?_
             (case aR => exact (qK74 HR414.1))
             (case aB => exact (qK0))
             (case aF => exact (qK85 HO420.1))
             (case aO => exact (qK26 HO413.1))
             (case aS => exact (qK91))
             (case aL => exact (qK78 LMc9.1))
             intro v416 w21 ho hb hg hat; rw [← Ny415.1] at ho; replace HO420 := za (qK88 HO420.1); replace HB := za hb; have HO417 := za ho; clear HO413; clear ho hb hg hat
             refine hK.out _ _ trivial (fun hHeld => ?_)
             clear hK K
             refine norm_ (a' := ?_) ?_ ?_
             rotate_left
             ·exact qK8_c1
             exact norm_ (qK43) (hCont (v412, v416, v419) _ ⟨(qK1 HO417.1), (qK26 HO420.1), (qK0)⟩)
           rintro ⟨v412, v416, v419⟩ w22 ⟨h0_, h1_, h2_⟩
           have HO417 : Aside0 (Kd.R (Kd.int .i64) 3 w22 w.heap.size (fun k_ => some k_ ≠ (v419 : Value).ownBlock) v416 y415) := ⟨h0_⟩; have HO420 : Aside0 (Kd.R (Kd.int .i64) 3 w22 w.heap.size (fun k_ => some k_ ≠ (v416 : Value).ownBlock) v419 y418) := ⟨h1_⟩; replace HB : Aside0 (Below w.heap.size w w22) := ⟨h2_⟩; clear h0_ h1_ h2_; have hHeld := trivial; obtain ⟨Ao24, co24, eo24⟩ := zI HO420.1
           (first | subst eo24 | (injection eo24 with f1_ f2_ f3_; have f4_ := f1_.symm; have f5_ := f3_.symm; clear f1_ f2_ f3_; subst f4_; subst f5_))
           refine norm_ (a' := ?_) ?_ ?_
           rotate_left
           ·simp only [putAll, Act.put, yf, yg, yh]
            rfl
           refine one_ (i := 7) (N := some 40) qKb17 rfl rfl (qK81) (by decide) (fun K hK => ?_)
           refine zM (Kd.int .i64) (w0 := w) w.heap.size (by rfl) (.tmp 37) (.tmp 39) 32 3 (.int .i64 0) 8 rfl Try.underlying32 info3 rfl (by decide) (by omega) v416 y415 y418 _ _ _ (fun k_ => some k_ ≠ (.slice Ao24 y418.length co24 : Value).ownBlock) (fun _ => False) rfl rfl ?aO ?aR (fun _ _ h => h) (fun _ h => h.elim) ?aF ?aB ?aS ?aL ?_
           (case aR => exact (qK13 HO420.1))
           (case aB => exact (qK0))
           (case aF => exact (qK85 HO420.1))
           (case aO => exact (qK1 HO417.1))
           (case aS => exact (qK91))
           (case aL => have := LMc10.1; omega)
           intro v422 w23 ho hb hg hat; rw [← Ny421.1] at ho; replace HO420 := za (qK61 HO420.1); replace HB := za hb; have HO423 := za ho; clear HO417; clear ho hb hg hat
           refine hK.out _ _ trivial (fun hHeld => ?_)
           clear hK K
           refine norm_ (a' := ?_) ?_ ?_
           rotate_left
           ·show Act.put _ (some 40) _ = _
            simp only [Act.put, yf, yg, yh, i64_w, i32_w]
            rfl
           refine one_ (i := 11) (N := some 44) qKb18 rfl rfl (qK81) (by decide) (fun K hK => ?_)
           refine zM (Kd.int .i64) (w0 := w) w.heap.size (by rfl) (.tmp 40) (.tmp 43) 32 3 (.int .i64 0) 8 rfl Try.underlying32 info3 rfl (by decide) (by omega) v422 y421 (l0.drop (x5_1 : Int).toNat) _ _ _ (fun k_ => some k_ ≠ (.slice Ao24 y418.length co24 : Value).ownBlock) (fun _ => False) rfl rfl ?aO ?aR (fun _ _ h => h) (fun _ h => h.elim) ?aF ?aB ?aS ?aL ?_
           (case aR => exact (qK52 HR424.1))
           (case aB => exact (qK0))
           (case aF => exact (qK85 HO420.1))
           (case aO => exact (qK1 HO423.1))
           (case aS => exact (qK91))
           (case aL => exact (by have := LMc13.1; have hlx_ := (show (l0.drop (x5_1 : Int).toNat).length = (l0.length - x5_1.toNat) from List.length_drop); omega))
           intro v426 w25 ho hb hg hat; rw [← Ny425.1] at ho; replace HO420 := za (qK88 HO420.1); replace HB := za hb; have HO427 := za ho; clear HO423; clear ho hb hg hat
           refine hK.out _ _ trivial (fun hHeld => ?_)
           clear hK K
           refine norm_ (a' := ?_) ?_ ?_
           rotate_left
           ·show Act.put _ (some 44) _ = _
            simp only [Act.put, yf, yg, yh, i64_w, i32_w]
            rfl
           refine pure_ (i := 12) (N := some 4) (v := ?_) (a' := ?_) qKb19 rfl rfl (qK76) (fun _ _ _ h => h) (zY ⟨by rfl, ?_⟩) ?_ ?_
           rotate_left; exact qK8_c3; rotate_left; exact qK8_c0
           refine done_ (qK102) ?_
           try go_wp2
           go_ret
           exact ⟨_, (qK11), (qK31 HO427.1), (qK0)⟩
          ·rw [yc c13] at H
           exact absurd H (by simp)
         ·rw [yc c10] at H
          exact absurd H (by simp)
        ·rw [yc c9] at H
         exact absurd H (by simp)
       ·rw [yc c8] at H
        exact absurd H (by simp)
    ·rw [yc c4] at H
     exact absurd H (by simp)
   ·rw [yc c3] at H; have c3b0 : decide (x5_1 < (l0.length : Int)) = false := zv c3; clear c3; obtain ⟨y428, hy428⟩ : ∃ y_ : List Int, y_ = (([] : List Int)) := ⟨_, rfl⟩; replace H : (if 0 ≤ x5_1 then (if x5_1 ≤ (l0.length : Int) then (if y428.length + (l0.take (x5_1 : Int).toNat).length < 17592186044416 then ((some (y428 ++ (l0.take (x5_1 : Int).toNat) : List Int)).bind fun y432 => ((some (([a1] : List Int) : List Int)).bind fun y435 => (if y432.length + y435.length < 17592186044416 then ((some (y432 ++ y435 : List Int)).bind fun y438 => (if y438.length + (l0.drop (x5_1 : Int).toNat).length < 17592186044416 then (some (y438 ++ (l0.drop (x5_1 : Int).toNat))) else (none))) else (none)))) else (none)) else (none)) else (none)) = some r := (qK4 hy428); have Ny428 := za hy428; clear hy428
    by_cases c26 : 0 ≤ x5_1
    ·rw [yb c26] at H; have c26b0 := zw c26; have c26b1 : decide (0 ≤ x5_1) = true := zc c26; clear c26
     by_cases c27 : x5_1 ≤ (l0.length : Int)
     ·rw [yb c27] at H; have c27b0 := zw c27; have c27b1 : decide (x5_1 ≤ (l0.length : Int)) = true := zc c27; clear c27
      by_cases c28 : y428.length + (l0.take (x5_1 : Int).toNat).length < 17592186044416
      ·rw [yb c28] at H; have LMc28 := za c28; clear c28; obtain ⟨y432, hy432⟩ : ∃ y_ : List Int, y_ = (y428 ++ (l0.take (x5_1 : Int).toNat)) := ⟨_, rfl⟩; replace H : ((some (([a1] : List Int) : List Int)).bind fun y435 => (if y432.length + y435.length < 17592186044416 then ((some (y432 ++ y435 : List Int)).bind fun y438 => (if y438.length + (l0.drop (x5_1 : Int).toNat).length < 17592186044416 then (some (y438 ++ (l0.drop (x5_1 : Int).toNat))) else (none))) else (none))) = some r := (qK4 hy432); have Ny432 := za hy432; clear hy432; obtain ⟨y435, hy435⟩ : ∃ y_ : List Int, y_ = (([a1] : List Int)) := ⟨_, rfl⟩; replace H : (if y432.length + y435.length < 17592186044416 then ((some (y432 ++ y435 : List Int)).bind fun y438 => (if y438.length + (l0.drop (x5_1 : Int).toNat).length < 17592186044416 then (some (y438 ++ (l0.drop (x5_1 : Int).toNat))) else (none))) else (none)) = some r := (qK4 hy435); have Ny435 := za hy435; clear hy435
       by_cases c29 : y432.length + y435.length < 17592186044416
       ·rw [yb c29] at H; have LMc29 := za c29; clear c29; obtain ⟨y438, hy438⟩ : ∃ y_ : List Int, y_ = (y432 ++ y435) := ⟨_, rfl⟩; replace H : (if y438.length + (l0.drop (x5_1 : Int).toNat).length < 17592186044416 then (some (y438 ++ (l0.drop (x5_1 : Int).toNat))) else (none)) = some r := (qK4 hy438); have Ny438 := za hy438; clear hy438; have c30b0 := zw (zb (qK7) : 0 ≤ x5_1); have c31b0 := zw (zb (qK7) : x5_1 ≤ (l0.length : Int))
        by_cases c32 : y438.length + (l0.drop (x5_1 : Int).toNat).length < 17592186044416
        ·rw [yb c32] at H; have LMc32 := za c32; clear c32; obtain ⟨y442, hy442⟩ : ∃ y_ : List Int, y_ = (y438 ++ (l0.drop (x5_1 : Int).toNat)) := ⟨_, rfl⟩; replace H : (some y442) = some r := (qK4 hy442); have Ny442 := za hy442; clear hy442; obtain rfl := zm H
         try go_wp2
         replace HB := za (below_drew1 HB.1); obtain ⟨i034, hi034, _, hsz34, _⟩ := info_parts info3; obtain ⟨hcut34, hA34, hC34⟩ := print_take_of (P := Try.prog) (Value.int .i64) 0 32 3 .i64 Try.underlying32 hi034 hsz34 A0 c0 l0 x5_1 (zb (qK7)) (zb (qK7)) HC0.1; have HR431 := za (by exact Kd.C_of_reads (h1 := fun _ => rfl) (hA34 _ (Kd.reads_of_C HR0.1))); have HC431 := za hC34; clear hA34 hC34 hi034 hsz34; obtain ⟨i035, hi035, _, hsz35, _⟩ := info_parts info3; obtain ⟨A35, hcut35, hA35, hC35⟩ := print_drop_of (P := Try.prog) (Value.int .i64) 0 32 3 .i64 Try.underlying32 hi035 hsz35 A0 c0 l0 x5_1 (zb (qK7)) (zb (qK7)) HC0.1; have HR441 := za (by exact Kd.C_of_reads (h1 := fun _ => rfl) (hA35 _ (Kd.reads_of_C HR0.1))); have HC441 := za hC35; clear hA35 hC35 hi035 hsz35
         refine start_ (n := 13) (S := fun w' => True) (ds := []) qKb4 (qK25) rfl rfl trivial (fun hHeld => ?_); refine with_tabW spec_l1PutNew.tab6 spec_l1PutNew.bits6 (fun HT_ HW_ => ?_)
         generalize wr.drew = w33 at HB HR431 HR441 hHeld ⊢
         refine pure_ (i := 1) (N := some 34) (v := ?_) (a' := ?_) qKb5 rfl rfl (qK76) (fun _ _ _ h => h) (zY ⟨by rfl, ?_⟩) ?_ ?_
         rotate_left; exact qK8_c3; rotate_left; exact qK8_c0
         refine pure_ (i := 2) (N := some 35) (v := ?_) (a' := ?_) qKb6 rfl rfl (qK76) (fun _ _ _ h => h) (zY ⟨by rfl, ?_⟩) ?_ ?_
         rotate_left; exact qK8_c3; rotate_left; exact qK8_c0
         refine pure_ (i := 3) (N := some 36) (v := ?_) (a' := ?_) qKb7 rfl rfl (qK76) (fun _ _ _ h => h) (zY ⟨by rfl, ?_⟩) ?_ ?_
         rotate_left; exact qK8_c3; rotate_left; exact qK8_c0
         refine pure_ (i := 5) (N := some 38) (v := ?_) (a' := ?_) qKb8 rfl rfl (qK76) (fun _ _ _ h => h) (zY ⟨by rfl, ?_⟩) ?_ ?_
         rotate_left; exact qK8_c3; rotate_left; exact qK8_c0
         refine pure_ (i := 8) (N := some 41) (v := ?_) (a' := ?_) qKb9 rfl rfl (qK76) (fun _ _ _ h => h) (zY ⟨by rfl, ?_⟩) ?_ ?_
         rotate_left; exact qK8_c3; rotate_left; exact qK8_c0
         refine pure_ (i := 9) (N := some 42) (v := ?_) (a' := ?_) qKb10 rfl rfl (qK76) (fun _ _ _ h => h) (zY ⟨by rfl, ?_⟩) ?_ ?_
         rotate_left; exact qK8_c3; rotate_left; exact qK8_c0
         refine pure_ (i := 10) (N := some 43) (v := ?_) (a' := ?_) qKb11 rfl rfl (qK76) (fun _ _ _ h => h) (zY ⟨by rfl, ?_⟩) ?_ ?_
         rotate_left; exact qK8_c3; rotate_left; exact qK8_c0
         refine join_ (σ := Value × Value × Value) 3 qKb12 (fun s_ => [(33, s_.1), (37, s_.2.1), (39, s_.2.2)]) (fun s_ w' => (Kd.R (Kd.int .i64) 3 w' w.heap.size (fun k_ => some k_ ≠ (s_.2.2 : Value).ownBlock) s_.2.1 y432) ∧ (Kd.R (Kd.int .i64) 3 w' w.heap.size (fun k_ => some k_ ≠ (s_.2.1 : Value).ownBlock) s_.2.2 y435) ∧ (Below w.heap.size w w')) ?_ ?_
         rotate_left
         ·intro hCont
          refine two_ (i := 0) (j := 6) (Ni := some 33) (Nj := some 39) qKb13 qKb14 rfl rfl rfl rfl (two_of HT_.1 (qK25)) (by decide) (by decide) (fun K hK => ?_) (fun K hK => ?_)
          ·skip
           refine Kd.R_lit_step (Kd.int .i64) _ 3 ?hg (N := 33) ?hd (xs := ([] : List Int)) (inner := []) (ok := fun _ => True) (okp := fun _ => True) ?hr ?hp (fun _ hk => hk) trivial (zs _ _) (zo _) (by simp) ?_; (case hd | hg => rfl); (case hr => exact (qK23)); (case hp => exact (zu _ _))
           intro v429 w36 ho37 hb hg_ hnew_; clear hg_ hnew_
           (first | rw [← Ny428.1] at ho37 | (simp only [Int.reduceToNat] at ho37; rw [← Ny428.1] at ho37))
           have HO430 := za (qK80 ho37); replace HB := za qK73; clear hb ho37
           refine hK.out _ _ trivial (fun hHeld => ?_)
           clear hK K
           refine norm_ (a' := ?_) ?_ ?_
           rotate_left
           ·exact qK8_c4
           refine two_ (i := 4) (j := 6) (Ni := some 37) (Nj := some 39) qKb15 qKb16 rfl rfl rfl rfl (two_of HT_.1 (qK25)) (by decide) (by decide) (fun K hK => ?_) (fun K hK => ?_)
           ·skip
            refine zM (Kd.int .i64) (w0 := w) w.heap.size (by rfl) (.tmp 33) (.tmp 36) 32 3 (.int .i64 0) 8 rfl Try.underlying32 info3 rfl (by decide) (by omega) v429 y428 (l0.take (x5_1 : Int).toNat) _ _ _ (fun _ => True) (fun _ => False) rfl rfl ?aO ?aR (fun _ _ h => h) (fun _ h => h.elim) ?aF ?aB ?aS ?aL ?_
            (case aR => exact (qK74 HR431.1))
            (case aB => exact (qK0))
            (case aF => exact (fun _ _ => trivial))
            (case aO => exact (qK1 HO430.1))
            (case aS => exact (qK91))
            (case aL => exact (qK78 LMc28.1))
            intro v433 w38 ho hb hg hat; rw [← Ny432.1] at ho; replace HB := za hb; have HO434 := za ho; clear HO430; clear ho hb hg hat
            refine hK.out _ _ trivial (fun hHeld => ?_)
            clear hK K
            refine norm_ (a' := ?_) ?_ ?_
            rotate_left
            ·exact qK8_c1
            refine one_ (i := 6) (N := some 39) qKb12 rfl rfl (qK81) (by decide) (fun K hK => ?_)
            refine Kd.R_lit_step (Kd.int .i64) _ 3 ?hg (N := 39) ?hd (xs := ([a1] : List Int)) (inner := [.int .i64 a1]) (ok := fun _ => True) (okp := fun _ => True) ?hr ?hp (fun _ hk => hk) trivial (zs _ _) (zo _) (by simp) ?_; (case hd | hg => rfl); (case hr => exact (qK23)); (case hp => exact (qK46))
            intro v436 w39 ho40 hb hg_ hnew_; clear hg_ hnew_
            (first | rw [← Ny435.1] at ho40 | (simp only [Int.reduceToNat] at ho40; rw [← Ny435.1] at ho40))
            have HO437 := za (qK86 ho40 HO434.1); replace HO434 := za (qK84 HO434.1 ho40); replace HB := za qK73; clear hb ho40
            refine hK.out _ _ trivial (fun hHeld => ?_)
            clear hK K
            refine norm_ (a' := ?_) ?_ ?_
            rotate_left
            ·exact qK8_c2
            exact norm_ (qK43) (hCont (v429, v433, v436) _ ⟨(qK26 HO434.1), (qK26 HO437.1), (qK0)⟩)
           ·skip
            refine Kd.R_lit_step (Kd.int .i64) _ 3 ?hg (N := 39) ?hd (xs := ([a1] : List Int)) (inner := [.int .i64 a1]) (ok := fun _ => True) (okp := fun _ => True) ?hr ?hp (fun _ hk => hk) trivial (zs _ _) (zo _) (by simp) ?_; (case hd | hg => rfl); (case hr => exact (qK23)); (case hp => exact (qK46))
            intro v436 w38 ho39 hb hg_ hnew_; clear hg_ hnew_
            (first | rw [← Ny435.1] at ho39 | (simp only [Int.reduceToNat] at ho39; rw [← Ny435.1] at ho39))
            have HO437 := za (qK86 ho39 HO430.1); replace HO430 := za (qK84 HO430.1 ho39); replace HB := za qK73; clear hb ho39
            refine hK.out _ _ trivial (fun hHeld => ?_)
            clear hK K
            refine norm_ (a' := ?_) ?_ ?_
            rotate_left
            ·exact qK8_c2
            refine one_ (i := 4) (N := some 37) qKb12 rfl rfl (qK81) (by decide) (fun K hK => ?_)
            refine zM (Kd.int .i64) (w0 := w) w.heap.size (by rfl) (.tmp 33) (.tmp 36) 32 3 (.int .i64 0) 8 rfl Try.underlying32 info3 rfl (by decide) (by omega) v429 y428 (l0.take (x5_1 : Int).toNat) _ _ _ (fun k_ => some k_ ≠ (v436 : Value).ownBlock) (fun _ => False) rfl rfl ?aO ?aR (fun _ _ h => h) (fun _ h => h.elim) ?aF ?aB ?aS ?aL ?_
            (case aR => exact (qK74 HR431.1))
            (case aB => exact (qK0))
            (case aF => exact (qK85 HO437.1))
            (case aO => exact (qK26 HO430.1))
            (case aS => exact (qK91))
            (case aL => exact (qK78 LMc28.1))
            intro v433 w40 ho hb hg hat; rw [← Ny432.1] at ho; replace HO437 := za (qK88 HO437.1); replace HB := za hb; have HO434 := za ho; clear HO430; clear ho hb hg hat
            refine hK.out _ _ trivial (fun hHeld => ?_)
            clear hK K
            refine norm_ (a' := ?_) ?_ ?_
            rotate_left
            ·exact qK8_c1
            exact norm_ (qK43) (hCont (v429, v433, v436) _ ⟨(qK1 HO434.1), (qK26 HO437.1), (qK0)⟩)
          ·skip
           refine Kd.R_lit_step (Kd.int .i64) _ 3 ?hg (N := 39) ?hd (xs := ([a1] : List Int)) (inner := [.int .i64 a1]) (ok := fun _ => True) (okp := fun _ => True) ?hr ?hp (fun _ hk => hk) trivial (zs _ _) (zo _) (by simp) ?_; (case hd | hg => rfl); (case hr => exact (qK23)); (case hp => exact (qK46))
           intro v436 w36 ho37 hb hg_ hnew_; clear hg_ hnew_
           (first | rw [← Ny435.1] at ho37 | (simp only [Int.reduceToNat] at ho37; rw [← Ny435.1] at ho37))
           have HO437 := za (qK80 ho37); replace HB := za qK73; clear hb ho37
           refine hK.out _ _ trivial (fun hHeld => ?_)
           clear hK K
           refine norm_ (a' := ?_) ?_ ?_
           rotate_left
           ·exact qK8_c2
           refine one_ (i := 0) (N := some 33) qKb16 rfl rfl (qK81) (by decide) (fun K hK => ?_)
           refine Kd.R_lit_step (Kd.int .i64) _ 3 ?hg (N := 33) ?hd (xs := ([] : List Int)) (inner := []) (ok := fun _ => True) (okp := fun _ => True) ?hr ?hp (fun _ hk => hk) trivial (zs _ _) (zo _) (by simp) ?_; (case hd | hg => rfl); (case hr => exact (qK23)); (case hp => exact (zu _ _))
           intro v429 w38 ho39 hb hg_ hnew_; clear hg_ hnew_
           (first | rw [← Ny428.1] at ho39 | (simp only [Int.reduceToNat] at ho39; rw [← Ny428.1] at ho39))
           have HO430 := za (qK86 ho39 HO437.1); replace HO437 := za (qK84 HO437.1 ho39); replace HB := za qK73; clear hb ho39
           refine hK.out _ _ trivial (fun hHeld => ?_)
           clear hK K
           refine norm_ (a' := ?_) ?_ ?_
           rotate_left
           ·exact qK8_c4
           refine one_ (i := 4) (N := some 37) qKb12 rfl rfl (qK81) (by decide) (fun K hK => ?_)
           refine zM (Kd.int .i64) (w0 := w) w.heap.size (by rfl) (.tmp 33) (.tmp 36) 32 3 (.int .i64 0) 8 rfl Try.underlying32 info3 rfl (by decide) (by omega) v429 y428 (l0.take (x5_1 : Int).toNat) _ _ _ (fun k_ => some k_ ≠ (v436 : Value).ownBlock) (fun _ => False) rfl rfl ?aO ?aR (fun _ _ h => h) (fun _ h => h.elim) ?aF ?aB ?aS ?aL ?_
           (case aR => exact (qK74 HR431.1))
           (case aB => exact (qK0))
           (case aF => exact (qK85 HO437.1))
           (case aO => exact (qK26 HO430.1))
           (case aS => exact (qK91))
           (case aL => exact (qK78 LMc28.1))
           intro v433 w40 ho hb hg hat; rw [← Ny432.1] at ho; replace HO437 := za (qK88 HO437.1); replace HB := za hb; have HO434 := za ho; clear HO430; clear ho hb hg hat
           refine hK.out _ _ trivial (fun hHeld => ?_)
           clear hK K
           refine norm_ (a' := ?_) ?_ ?_
           rotate_left
           ·exact qK8_c1
           exact norm_ (qK43) (hCont (v429, v433, v436) _ ⟨(qK1 HO434.1), (qK26 HO437.1), (qK0)⟩)
         rintro ⟨v429, v433, v436⟩ w41 ⟨h0_, h1_, h2_⟩
         have HO434 : Aside0 (Kd.R (Kd.int .i64) 3 w41 w.heap.size (fun k_ => some k_ ≠ (v436 : Value).ownBlock) v433 y432) := ⟨h0_⟩; have HO437 : Aside0 (Kd.R (Kd.int .i64) 3 w41 w.heap.size (fun k_ => some k_ ≠ (v433 : Value).ownBlock) v436 y435) := ⟨h1_⟩; replace HB : Aside0 (Below w.heap.size w w41) := ⟨h2_⟩; clear h0_ h1_ h2_; have hHeld := trivial; obtain ⟨Ao43, co43, eo43⟩ := zI HO437.1
         (first | subst eo43 | (injection eo43 with f1_ f2_ f3_; have f4_ := f1_.symm; have f5_ := f3_.symm; clear f1_ f2_ f3_; subst f4_; subst f5_))
         refine norm_ (a' := ?_) ?_ ?_
         rotate_left
         ·simp only [putAll, Act.put, yf, yg, yh]
          rfl
         refine one_ (i := 7) (N := some 40) qKb17 rfl rfl (qK81) (by decide) (fun K hK => ?_)
         refine zM (Kd.int .i64) (w0 := w) w.heap.size (by rfl) (.tmp 37) (.tmp 39) 32 3 (.int .i64 0) 8 rfl Try.underlying32 info3 rfl (by decide) (by omega) v433 y432 y435 _ _ _ (fun k_ => some k_ ≠ (.slice Ao43 y435.length co43 : Value).ownBlock) (fun _ => False) rfl rfl ?aO ?aR (fun _ _ h => h) (fun _ h => h.elim) ?aF ?aB ?aS ?aL ?_
         (case aR => exact (qK13 HO437.1))
         (case aB => exact (qK0))
         (case aF => exact (qK85 HO437.1))
         (case aO => exact (qK1 HO434.1))
         (case aS => exact (qK91))
         (case aL => have := LMc29.1; omega)
         intro v439 w42 ho hb hg hat; rw [← Ny438.1] at ho; replace HO437 := za (qK61 HO437.1); replace HB := za hb; have HO440 := za ho; clear HO434; clear ho hb hg hat
         refine hK.out _ _ trivial (fun hHeld => ?_)
         clear hK K
         refine norm_ (a' := ?_) ?_ ?_
         rotate_left
         ·show Act.put _ (some 40) _ = _
          simp only [Act.put, yf, yg, yh, i64_w, i32_w]
          rfl
         refine one_ (i := 11) (N := some 44) qKb18 rfl rfl (qK81) (by decide) (fun K hK => ?_)
         refine zM (Kd.int .i64) (w0 := w) w.heap.size (by rfl) (.tmp 40) (.tmp 43) 32 3 (.int .i64 0) 8 rfl Try.underlying32 info3 rfl (by decide) (by omega) v439 y438 (l0.drop (x5_1 : Int).toNat) _ _ _ (fun k_ => some k_ ≠ (.slice Ao43 y435.length co43 : Value).ownBlock) (fun _ => False) rfl rfl ?aO ?aR (fun _ _ h => h) (fun _ h => h.elim) ?aF ?aB ?aS ?aL ?_
         (case aR => exact (qK52 HR441.1))
         (case aB => exact (qK0))
         (case aF => exact (qK85 HO437.1))
         (case aO => exact (qK1 HO440.1))
         (case aS => exact (qK91))
         (case aL => exact (by have := LMc32.1; have hlx_ := (show (l0.drop (x5_1 : Int).toNat).length = (l0.length - x5_1.toNat) from List.length_drop); omega))
         intro v443 w44 ho hb hg hat; rw [← Ny442.1] at ho; replace HO437 := za (qK88 HO437.1); replace HB := za hb; have HO444 := za ho; clear HO440; clear ho hb hg hat
         refine hK.out _ _ trivial (fun hHeld => ?_)
         clear hK K
         refine norm_ (a' := ?_) ?_ ?_
         rotate_left
         ·show Act.put _ (some 44) _ = _
          simp only [Act.put, yf, yg, yh, i64_w, i32_w]
          rfl
         refine pure_ (i := 12) (N := some 4) (v := ?_) (a' := ?_) qKb19 rfl rfl (qK76) (fun _ _ _ h => h) (zY ⟨by rfl, ?_⟩) ?_ ?_
         rotate_left; exact qK8_c3; rotate_left; exact qK8_c0
         refine done_ (qK102) ?_
         try go_wp2
         go_ret
         exact ⟨_, (qK11), (qK31 HO444.1), (qK0)⟩
        ·rw [yc c32] at H
         exact absurd H (by simp)
       ·rw [yc c29] at H
        exact absurd H (by simp)
      ·rw [yc c28] at H
       exact absurd H (by simp)
     ·rw [yc c27] at H
      exact absurd H (by simp)
    ·rw [yc c26] at H
     exact absurd H (by simp)
def putHit : List Int → Int → Bool
 | [], _ => false
 | x :: l, n => if x < n then putHit l n else x == n
theorem putHit_at : ∀ {l : List Int} {n : Int}, putHit l n = true → ∃ K, K < l.length ∧ l.getD K 0 = n ∧ ∀ j, j < K → l.getD j 0 < n
 | [], n, h => by simp [putHit] at h
 | x :: l, n, h => by
  simp only [putHit] at h
  split at h
  ·rename_i hlt
   obtain ⟨K, h1, h2, h3⟩ := putHit_at h
   refine ⟨K + 1, by simpa using h1, by simpa using h2, fun j hj => ?_⟩
   cases j with
   | zero => simpa using hlt
   | succ j => simpa using h3 j (by omega)
  ·exact ⟨0, by simp, by simpa using h, fun j hj => by omega⟩
def spec_l1Put.f (k : Nat) (l0 : List Int) (a1 : Int) : Option (List Int) := if putHit l0 a1 = true then some l0 else spec_l1PutNew.f k l0 a1
theorem spec_l1Put.calls (k : Nat) (P0_ : Nat → Prop) (u9000_ : Value) (l0 : List Int) (a1 : Int) (r : List Int) (w0 w : World) (hB : Below w0.heap.size w0 w) (ho0 : Kd.R (Kd.int .i64) 3 w w0.heap.size P0_ u9000_ l0) (h : spec_l1Put.f k l0 a1 = some r) :
  Calls Try.prog 60 #[u9000_, .int .i64 a1] w fun e w' => ∃ v0_ : Value, e = .returned v0_ ∧ Kd.R (Kd.int .i64) 3 w' w0.heap.size (fun k_ => (P0_ k_ ∨ w.heap.size ≤ k_)) v0_ r ∧ Below w0.heap.size w0 w' ∧ Kept w w' (fun k_ => P0_ k_) := by
 obtain ⟨A0, c0, hu, hc0, hr0⟩ := Kd.R_reads ho0
 unfold spec_l1Put.f at h
 by_cases hh : putHit l0 a1 = true
 ·rw [yb hh] at h; obtain rfl := zm h; clear h; obtain ⟨K, hK1, hK2, hK3⟩ := putHit_at hh; have HO := za ho0; have HK := za (And.intro hK1 (And.intro hK2 hK3)); have HR0 := za hr0; have HM := za hr0.2.1; have HBB := za hB; have HU := za hu; clear ho0 hh hK1 hK2 hK3 hr0 hB; rw [hu]; clear hu
  go_enter Try.func60, Try.ntmps60
  go_wp2
  go_loopg [5] (K + 1) (fun kq v5 w' => ∃ x : Int, v5 = .int .i64 x ∧ Aside0 (0 ≤ x ∧ kq + x.toNat = K + 1 ∧ x ≤ (K : Int)) ∧ Aside0 (Below w.heap.size w w'))
  case atStart => exact ⟨0, rfl, ⟨by omega, by simp, by omega⟩, ⟨zs _ _⟩⟩
  case round =>
   obtain ⟨x, rfl, HA, HB⟩ := hrel
   have hlt : x < (l0.length : Int) := by have := HA.1; have := HK.1.1; omega
   have d0 : decide (x < (l0.length : Int)) = true := zc hlt; obtain ⟨ad, e, hx⟩ := zJ (zG HR0.1 HB.1) x HA.1.1 hlt; cases e; have p1 := zw HA.1.1; have q1 := zw hlt; clear hlt
   by_cases hxk : x = (K : Int)
   ·have hrd : rd l0 x = a1 := by rw [hxk]; exact HK.1.2.1
    have d1 : decide (rd l0 x < a1) = false := zv (by omega); have d2 : (rd l0 x == a1) = true := beq_iff_eq.2 hrd; clear hxk hrd
    go_wp2
    go_ret
    exact ⟨_, rfl, by rw [← HU.1]; exact zK (Kd.R_below HO.1 HB.1) (fun _ hk => .inl hk), HBB.1.trans (HB.1.mono HBB.1.size), Kept.of_below HB.1 _⟩
   ·have hrd : rd l0 x < a1 := HK.1.2.2 x.toNat (by have := HA.1; omega); have d1 : decide (rd l0 x < a1) = true := zc hrd; have HX := za hxk; have HRD := za hrd; clear hrd hxk; obtain ⟨k1, rfl⟩ : ∃ k1, gk = k1 + 1 := ⟨gk - 1, by have := HA.1; omega⟩
    go_wp2
    go_roundg k1
    case measure => omega
    case rel => exact ⟨wrap64 (x + 1), rfl, ⟨by have := HA.1; have := HK.1.1; have := HM.1; unfold wrap64; omega, by have := HA.1; have := HK.1.1; have := HM.1; unfold wrap64; omega, by have := HA.1; have := HK.1.1; have := HM.1; have := HX.1; unfold wrap64; omega⟩, HB⟩
 ·rw [yc hh] at h; rw [hu]
  refine (spec_l1PutNew.calls k A0 c0 l0 a1 r w hr0 hc0 h).mono ?_
  rintro e w' ⟨v0_, he, hR, hb⟩
  exact ⟨v0_, he, zK (zP (Kd.R_bound hR) hB.size) (fun _ hk => .inr hk.2.1), hB.trans (hb.mono hB.size), Kept.of_below hb _⟩


end Go.Proofs.Ytkocflfadlempaa.MK
