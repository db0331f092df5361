-- tight2 (a walk)
import Derived.Test.YtkocflfadlempaaMKx0
import Derived.Test.YtkocflfadlempaaMKx7
import Derived.Test.YtkocflfadlempaaMKx8
import Derived.Test.YtkocflfadlempaaMKx6
namespace Go.Proofs.Ytkocflfadlempaa.MK
open Go.RowKit Go.Proofs.YtkocflfadlempaaW.PrintWords Go.Proofs.YtkocflfadlempaaW.PrintLast
set_option maxHeartbeats 8000000
set_option maxRecDepth 100000
attribute [local go_sem] max2_int min2_int max_two min_two
set_option linter.unusedVariables false
set_option linter.unusedSimpArgs false

mutual
def spec_l17Cave.l0 : Nat → List (S72) → Int → List Int → Bool → Option (List Int)
 | 0, _, _, _, _ => none
 | k + 1, x0, x2, x7, x8 => if x8 = true then (spec_l17Cave.l1 k x0 x2 x7 false 0) else (some x7)
def spec_l17Cave.l1 : Nat → List (S72) → Int → List Int → Bool → Int → Option (List Int)
 | 0, _, _, _, _, _ => none
 | k + 1, x0, x2, x7, x8, x9 => if x9 < (x0.length : Int) then (if 0 ≤ x9 then (if ((rd_T72 x0 x9).f0) = x2 then (spec_l17Cave.j2 k x0 x2 x7 x8 x9 ((rd_T72 x0 x9).f0) ((rd_T72 x0 x9).f1) true) else (if ((rd_T72 x0 x9).f1) = x2 then (spec_l17Cave.j2 k x0 x2 x7 x8 x9 ((rd_T72 x0 x9).f0) ((rd_T72 x0 x9).f1) true) else ((spec_l1Has.f k x7 ((rd_T72 x0 x9).f0)).bind fun t450 => ((spec_l1Has.f k x7 ((rd_T72 x0 x9).f1)).bind fun t451 => (spec_l17Cave.j2 k x0 x2 x7 x8 x9 ((rd_T72 x0 x9).f0) ((rd_T72 x0 x9).f1) (t450 == t451)))))) else (none)) else (spec_l17Cave.l0 k x0 x2 x7 x8)
def spec_l17Cave.j2 : Nat → List (S72) → Int → List Int → Bool → Int → Int → Int → Bool → Option (List Int)
 | 0, _, _, _, _, _, _, _, _ => none
 | k + 1, x0, x2, x7, x8, x9, x10, x11, x47 => if x47 = true then (spec_l17Cave.l1 k x0 x2 x7 x8 (wrap64 (x9 + 1))) else ((spec_l1Put.f k x7 x10).bind fun t452 => ((spec_l1Put.f k t452 x11).bind fun t455 => (spec_l17Cave.l1 k x0 x2 t455 true (wrap64 (x9 + 1)))))
end
def spec_l17Cave.f (k : Nat) (l0 : List (S72)) (a1 : Int) (a2 : Int) : Option (List Int) := spec_l17Cave.l0 k l0 a2 (([a1] : List Int)) true
theorem spec_l17Cave.calls (k : Nat) (A0 : Option Addr) (c0 : Nat) (l0 : List (S72)) (a1 : Int) (a2 : Int) (r : List Int) (w : World) (hr0 : Kd.C k72 w A0 l0.length l0) (hc0 : l0.length ≤ c0) (h : spec_l17Cave.f k l0 a1 a2 = some r) :
  Calls Try.prog 37 #[.slice A0 l0.length c0, .int .i64 a1, .int .i64 a2] w fun e w' => ∃ v0_ : Value, e = .returned (v0_) ∧ Kd.R (Kd.int .i64) 3 w' w.heap.size (fun _ => True) v0_ r ∧ Below w.heap.size w w' := by
 have HR0 := za hr0; have HC0 := za hc0; clear hr0 hc0; have HB := za (zs w.heap.size w); have H : (spec_l17Cave.l0 k l0 a2 (([a1] : List Int)) true) = some r := h; clear h; obtain ⟨y445, hy445⟩ : ∃ y_ : List Int, y_ = (([a1] : List Int)) := ⟨_, rfl⟩; replace H : (spec_l17Cave.l0 k l0 a2 y445 true) = some r := (qK4 hy445); have Ny445 := za hy445; clear hy445; have H' := za H; clear H
 go_enter Try.func37, Try.ntmps37
 go_wp2_with (first | ((with_reducible refine zq (N := 13) rfl ?_); refine zQ (Kd.int .i64) _ 3 ?hg (N := 13) ?hd (xs := ([a1] : List Int)) (inner := [.int .i64 a1]) (ok := fun _ => True) (okp := fun _ => True) ?hr ?hp (fun _ hk => hk) trivial (zs _ _) (zo _) (by simp) ?_; (case hd | hg => rfl); (case hr => exact (qK23)); (case hp => exact (qK46)); intro v446 w4 ho5 hb hg_ hnew_; clear hg_ hnew_; (first | rw [← Ny445.1] at ho5 | (simp only [Int.reduceToNat] at ho5; rw [← Ny445.1] at ho5)); have HO447 := za (qK80 ho5); replace HB := za qK73; clear hb ho5))
 go_loopg [7, 8] k (fun kq v7 v8 w' => ∃ (x7_1 : List Int) (x8_1 : Bool), v8 = .bool x8_1 ∧ Aside0 (spec_l17Cave.l0 kq l0 a2 x7_1 x8_1 = some r) ∧ Aside0 (kq ≤ k) ∧ Aside0 (Kd.R (Kd.int .i64) 3 w' w.heap.size (fun _ => True) v7 x7_1) ∧ Aside0 (Below w.heap.size w w'))
 case atStart => exact ⟨(y445), (true), (qK10), H', ⟨zo _⟩, ⟨(qK1 HO447.1)⟩, ⟨(qK0)⟩⟩
 case round =>
  clear H'; (try clear p2); (try clear c3); obtain ⟨x7_1, x8_1, rfl, HA, HK1, HO_7, HB⟩ := hrel
  cases gk with
  | zero => exact absurd HA.1 (by simp [spec_l17Cave.l0])
  | succ k1 =>
   have H := HA.1; clear HA; simp only [spec_l17Cave.l0] at H
   by_cases c6 : x8_1 = true
   ·subst c6; rw [yb rfl] at H; have H' := za H; clear H
    go_wp2
    repeat (go_quiet (fail); try go_wp2)
    go_loopg [7, 8, 9] k1 (fun kq v7 v8 v9 w' => ∃ (x7_2 : List Int) (x8_2 : Bool) (x9_2 : Int), v8 = .bool x8_2 ∧ v9 = .int .i64 x9_2 ∧ Aside0 (spec_l17Cave.l1 kq l0 a2 x7_2 x8_2 x9_2 = some r) ∧ Aside0 (kq ≤ k1) ∧ Aside0 (Kd.R (Kd.int .i64) 3 w' w.heap.size (fun _ => True) v7 x7_2) ∧ Aside0 (Below w.heap.size w w'))
    case atStart => exact ⟨(x7_1), (false), (0), (qK10), (qK10), H', ⟨zo _⟩, ⟨(qK1 HO_7.1)⟩, ⟨(qK0)⟩⟩
    case round =>
     clear H'; (try clear p2); (try clear c3); (try clear c6); (try clear p2); obtain ⟨x7_2, x8_2, x9_2, rfl, rfl, HA, HK2, HO_7, HB⟩ := hrel
     cases gk with
     | zero => exact absurd HA.1 (by simp [spec_l17Cave.l1])
     | succ k2 =>
      have H := HA.1; clear HA; simp only [spec_l17Cave.l1] at H
      by_cases c7 : x9_2 < (l0.length : Int)
      ·rw [yb c7] at H; have c7b0 : decide (x9_2 < (l0.length : Int)) = true := zc c7; clear c7
       by_cases c8 : 0 ≤ x9_2
       ·rw [yb c8] at H; have c8b0 : decide (0 ≤ x9_2) = true := zc c8; clear c8; have HC9 := za H; clear H; have p448 : 0 ≤ (x9_2 : Int) := zb (qK7); have q448 : x9_2 < (l0.length : Int) := zb (qK7); obtain ⟨ad448, e448, hx448_0, hx448_1, hx448_2, hx448_3, hx448_4⟩ := at_T72 HR0.1 x9_2 p448 q448; cases e448; replace hx448_0 := (HB.1.cell (zd w _ hx448_0)).trans hx448_0; replace hx448_1 := (HB.1.cell (zd w _ hx448_1)).trans hx448_1; replace hx448_2 := (HB.1.cell (zd w _ hx448_2)).trans hx448_2; replace hx448_3 := (HB.1.cell (zd w _ hx448_3)).trans hx448_3; replace hx448_4 := (HB.1.cell (zd w _ hx448_4)).trans hx448_4; replace p448 := zw p448; replace q448 := zw q448; have p449 : 0 ≤ (x9_2 : Int) := zb (qK7); have q449 : x9_2 < (l0.length : Int) := zb (qK7); obtain ⟨ad449, e449, hx449_0, hx449_1, hx449_2, hx449_3, hx449_4⟩ := at_T72 HR0.1 x9_2 p449 q449; obtain rfl : ad448 = ad449 := (by injection e449); replace hx449_0 := (HB.1.cell (zd w _ hx449_0)).trans hx449_0; replace hx449_1 := (HB.1.cell (zd w _ hx449_1)).trans hx449_1; replace hx449_2 := (HB.1.cell (zd w _ hx449_2)).trans hx449_2; replace hx449_3 := (HB.1.cell (zd w _ hx449_3)).trans hx449_3; replace hx449_4 := (HB.1.cell (zd w _ hx449_4)).trans hx449_4
        replace p449 := zw p449; replace q449 := zw q449
        go_upto_region 9 with (fail)
        repeat (go_quiet (fail); go_upto_region 9 with (fail))
        go_cut [47] (fun v47 wc => ∃ (kq : Nat) (x47_8 : Bool), v47 = .bool x47_8 ∧ Aside0 (spec_l17Cave.j2 kq l0 a2 x7_2 x8_2 x9_2 ((rd_T72 l0 x9_2).f0) ((rd_T72 l0 x9_2).f1) x47_8 = some r) ∧ Aside0 (kq ≤ k2) ∧ Aside0 (Kd.R (Kd.int .i64) 3 wc w.heap.size (fun _ => True) u7 x7_2) ∧ Aside0 (Below w.heap.size w wc))
        case first =>
         have H := HC9.1; clear HC9
         by_cases c10 : ((rd_T72 l0 x9_2).f0) = a2
         ·rw [yb c10] at H; have c10b0 : (((rd_T72 l0 x9_2).f0) == a2) = true := zT c10; have c10b1 : (((rd_T72 l0 x9_2).f0) != a2) = false := zy c10; clear c10
          (first | rw [c10b0] | (simp only [i64_w, i32_w]; rw [c10b0]) | skip)
          have H' := za H; clear H
          go_wp2
          repeat (go_quiet (fail); try go_wp2)
          go_meet
          case rel => exact ⟨_, (true), (qK10), H', ⟨by have := HK1.1; have := HK2.1; first | omega | exact zo _⟩, ⟨(qK1 HO_7.1)⟩, ⟨(qK0)⟩⟩
         ·rw [yc c10] at H; have c10b0 : (((rd_T72 l0 x9_2).f0) == a2) = false := zx c10; have c10b1 : (((rd_T72 l0 x9_2).f0) != a2) = true := zU c10
          (first | rw [c10b0] | (simp only [i64_w, i32_w]; rw [c10b0]) | skip)
          by_cases c11 : ((rd_T72 l0 x9_2).f1) = a2
          ·rw [yb c11] at H; have c11b0 : (((rd_T72 l0 x9_2).f1) == a2) = true := zT c11; have c11b1 : (((rd_T72 l0 x9_2).f1) != a2) = false := zy c11; clear c11; have H' := za H; clear H
           go_wp2
           repeat (go_quiet (fail); try go_wp2)
           go_meet
           case rel => exact ⟨_, (true), (qK10), H', ⟨by have := HK1.1; have := HK2.1; first | omega | exact zo _⟩, ⟨(qK1 HO_7.1)⟩, ⟨(qK0)⟩⟩
          ·rw [yc c11] at H; have c11b0 : (((rd_T72 l0 x9_2).f1) == a2) = false := zx c11; have c11b1 : (((rd_T72 l0 x9_2).f1) != a2) = true := zU c11; replace H := bindA H; obtain ⟨t450, A12, H⟩ := H; (try dsimp only at H); replace H := bindA H; obtain ⟨t451, A13, H⟩ := H; (try dsimp only at H); have H' := za H; clear H; obtain ⟨Ao14, co14, eo14⟩ := zI HO_7.1; subst eo14
           go_wp2_with (first | (go_at_call 38; (with_reducible refine (spec_l1Has.calls k2 _ _ x7_2 ((rd_T72 l0 x9_2).f0) t450 _ ?s1 ?s2 A12.1).mono ?_); (case s1 => exact (qK13 HO_7.1)); (case s2 => exact (qK35 HO_7.1)); rintro e w' ⟨rfl, ⟨nd, rfl⟩⟩; (try first | exact ⟨rfl, _, zS _ _ _⟩ | exact ⟨rfl, _, Eq.trans (zS _ _ _) (congrArg (World.drewN _) (Nat.add_assoc _ _ _))⟩)) | (go_at_call 38; (with_reducible refine (spec_l1Has.calls k2 _ _ x7_2 ((rd_T72 l0 x9_2).f1) t451 _ ?s1 ?s2 A13.1).mono ?_); (case s1 => exact (qK13 HO_7.1)); (case s2 => exact (qK35 HO_7.1)); rintro e w' ⟨rfl, ⟨nd, rfl⟩⟩; (try first | exact ⟨rfl, _, zS _ _ _⟩ | exact ⟨rfl, _, Eq.trans (zS _ _ _) (congrArg (World.drewN _) (Nat.add_assoc _ _ _))⟩)))
           go_meet
           case rel => exact ⟨_, ((t450 == t451)), (qK10), H', ⟨by have := HK1.1; have := HK2.1; first | omega | exact zo _⟩, ⟨(qK1 HO_7.1)⟩, ⟨(qK0)⟩⟩
        case rest =>
         clear HC9; (try clear c1); (try clear p2); (try clear c3); (try clear p4); (try clear q4); (try clear hx4); (try clear c6); (try clear c7); (try clear c7b0); (try clear c8); (try clear c8b0); (try clear c10); (try clear c10b0); (try clear c10b1); (try clear c11); (try clear c11b0); (try clear c11b1); (try clear hx448_0); (try clear hx448_1); (try clear hx448_2); (try clear hx448_3); (try clear hx448_4); (try clear hx449_0); (try clear hx449_1); (try clear hx449_2); (try clear hx449_3); (try clear hx449_4); (try clear p2); (try clear p448); (try clear p449); (try clear q448); (try clear q449); obtain ⟨kq, x47_8, rfl, HA, HJ8, HO_7, HB⟩ := hcut
         cases kq with
         | zero => exact absurd HA.1 (by simp [spec_l17Cave.j2])
         | succ kj8 =>
          have H := HA.1; clear HA; simp only [spec_l17Cave.j2] at H
          by_cases c15 : x47_8 = true
          ·subst c15; rw [yb rfl] at H; have H' := za H; clear H
           go_wp2
           repeat (go_quiet (fail); try go_wp2)
           go_roundg kj8
           case measure => have := HK1.1; have := HK2.1; have := HJ8.1; omega
           case rel => exact ⟨(x7_2), (x8_2), (wrap64 (x9_2 + 1)), (qK10), (qK10), H', ⟨by have := HK1.1; have := HK2.1; have := HJ8.1; omega⟩, ⟨(qK1 HO_7.1)⟩, ⟨(qK0)⟩⟩
          ·replace c15 := zn c15; subst c15; rw [yc (show ¬ (false = true) by decide)] at H; replace H := bindA H; obtain ⟨t452, A16, H⟩ := H; (try dsimp only at H); replace H := bindA H; obtain ⟨t455, A17, H⟩ := H; (try dsimp only at H); have H' := za H; clear H; obtain ⟨Ao18, co18, eo18⟩ := zI HO_7.1; subst eo18
           go_wp2_with (first | (go_at_call 60; (with_reducible refine (spec_l1Put.calls kj8 (fun k_ => some k_ = (.slice Ao18 x7_2.length co18 : Value).ownBlock) (.slice Ao18 x7_2.length co18) x7_2 ((rd_T72 l0 x9_2).f0) t452 w _ ?s1 ?s2 A16.1).mono ?_); (case s1 => exact (qK0)); (case s2 => exact Kd.R_tight rfl HO_7.1); rintro e w19 ⟨v453, rfl, ho0, hb, hkp⟩; have HO454 := za (zK (ok' := fun k_ => True) ho0 (fun k_ hk_ => trivial)); replace HB := za hb; clear HO_7; (try clear hb); (try clear hkp); (try clear ho0); obtain ⟨Ao20, co20, eo20⟩ := zI HO454.1; subst eo20) | (go_at_call 60; (with_reducible refine (spec_l1Put.calls kj8 (fun k_ => some k_ = (.slice Ao20 t452.length co20 : Value).ownBlock) (.slice Ao20 t452.length co20) t452 ((rd_T72 l0 x9_2).f1) t455 w _ ?s1 ?s2 A17.1).mono ?_); (case s1 => exact (qK0)); (case s2 => exact (by exact Kd.R_tight rfl HO454.1)); rintro e w21 ⟨v456, rfl, ho0, hb, hkp⟩; have HO457 := za (zK (ok' := fun k_ => True) ho0 (fun k_ hk_ => trivial)); replace HB := za hb; clear HO454; (try clear hb); (try clear hkp); (try clear ho0)))
           go_roundg kj8
           case measure => have := HK1.1; have := HK2.1; have := HJ8.1; omega
           case rel => exact ⟨(t455), (true), (wrap64 (x9_2 + 1)), (qK10), (qK10), H', ⟨by have := HK1.1; have := HK2.1; have := HJ8.1; omega⟩, ⟨(qK1 HO457.1)⟩, ⟨(qK0)⟩⟩
       ·rw [yc c8] at H
        exact absurd H (by simp)
      ·rw [yc c7] at H; have c7b0 : decide (x9_2 < (l0.length : Int)) = false := zv c7; clear c7; have H' := za H; clear H
       go_wp2
       repeat (go_quiet (fail); try go_wp2)
       go_roundg k2
       case measure => have := HK1.1; have := HK2.1; omega
       case rel => exact ⟨(x7_2), (x8_2), (qK10), H', ⟨by have := HK1.1; have := HK2.1; omega⟩, ⟨(qK1 HO_7.1)⟩, ⟨(qK0)⟩⟩
   ·replace c6 := zn c6; subst c6; rw [yc (show ¬ (false = true) by decide)] at H; obtain rfl := zm H
    go_wp2
    repeat (go_quiet (fail); try go_wp2)
    go_ret
    exact ⟨_, (qK11), (qK1 HO_7.1), (qK0)⟩

def spec_l17Used.l0 : Nat → List (S72) → Int → Int → Option (Bool)
 | 0, _, _, _ => none
 | k + 1, x0, x1, x5 => if x5 < (x0.length : Int) then (if 0 ≤ x5 then (if ((rd_T72 x0 x5).f0) = x1 then (some true) else (if ((rd_T72 x0 x5).f1) = x1 then (some true) else (spec_l17Used.l0 k x0 x1 (wrap64 (x5 + 1))))) else (none)) else (some false)
def spec_l17Used.f (k : Nat) (l0 : List (S72)) (a1 : Int) : Option (Bool) := spec_l17Used.l0 k l0 a1 0
theorem spec_l17Used.calls (k : Nat) (A0 : Option Addr) (c0 : Nat) (l0 : List (S72)) (a1 : Int) (r : Bool) (w : World) (hr0 : Kd.C k72 w A0 l0.length l0) (hc0 : l0.length ≤ c0) (h : spec_l17Used.f k l0 a1 = some r) :
  Calls Try.prog 55 #[.slice A0 l0.length c0, .int .i64 a1] w fun e w' => e = .returned (.bool r) ∧ Drawn0 w w' := by
 have HR0 := za hr0; have HC0 := za hc0; clear hr0 hc0; have H : (spec_l17Used.l0 k l0 a1 0) = some r := h; clear h; have H' := za H; clear H
 go_enter Try.func55, Try.ntmps55
 go_wp2
 go_loopg [5] k (fun kq v5 w' => ∃ (x5_1 : Int), v5 = .int .i64 x5_1 ∧ Aside0 (spec_l17Used.l0 kq l0 a1 x5_1 = some r) ∧ Aside0 (kq ≤ k) ∧ Drawn0 w w')
 case atStart => exact ⟨(0), (qK10), H', ⟨zo _⟩, (qK24)⟩
 case round =>
  clear H'; (try clear p2); obtain ⟨x5_1, rfl, HA, HK1, ⟨m1, rfl⟩⟩ := hrel
  cases gk with
  | zero => exact absurd HA.1 (by simp [spec_l17Used.l0])
  | succ k1 =>
   have H := HA.1; clear HA; simp only [spec_l17Used.l0] at H
   by_cases c3 : x5_1 < (l0.length : Int)
   ·rw [yb c3] at H; have c3b0 : decide (x5_1 < (l0.length : Int)) = true := zc c3; clear c3
    by_cases c4 : 0 ≤ x5_1
    ·rw [yb c4] at H; have c4b0 : decide (0 ≤ x5_1) = true := zc c4; clear c4
     by_cases c5 : ((rd_T72 l0 x5_1).f0) = a1
     ·rw [yb c5] at H; have c5b0 : (((rd_T72 l0 x5_1).f0) == a1) = true := zT c5; have c5b1 : (((rd_T72 l0 x5_1).f0) != a1) = false := zy c5; clear c5; obtain rfl := zm H; have p458 : 0 ≤ (x5_1 : Int) := zb (qK7); have q458 : x5_1 < (l0.length : Int) := zb (qK7); obtain ⟨ad458, e458, hx458_0, hx458_1, hx458_2, hx458_3, hx458_4⟩ := at_T72 HR0.1 x5_1 p458 q458; cases e458; replace p458 := zw p458; replace q458 := zw q458
      go_wp2
      go_ret
      exact ⟨(qK10), (qK24)⟩
     ·rw [yc c5] at H; have c5b0 : (((rd_T72 l0 x5_1).f0) == a1) = false := zx c5; have c5b1 : (((rd_T72 l0 x5_1).f0) != a1) = true := zU c5
      by_cases c6 : ((rd_T72 l0 x5_1).f1) = a1
      ·rw [yb c6] at H; have c6b0 : (((rd_T72 l0 x5_1).f1) == a1) = true := zT c6; have c6b1 : (((rd_T72 l0 x5_1).f1) != a1) = false := zy c6; clear c6; obtain rfl := zm H; have p458 : 0 ≤ (x5_1 : Int) := zb (qK7); have q458 : x5_1 < (l0.length : Int) := zb (qK7); obtain ⟨ad458, e458, hx458_0, hx458_1, hx458_2, hx458_3, hx458_4⟩ := at_T72 HR0.1 x5_1 p458 q458; cases e458; replace p458 := zw p458; replace q458 := zw q458; have p459 : 0 ≤ (x5_1 : Int) := zb (qK7); have q459 : x5_1 < (l0.length : Int) := zb (qK7); obtain ⟨ad459, e459, hx459_0, hx459_1, hx459_2, hx459_3, hx459_4⟩ := at_T72 HR0.1 x5_1 p459 q459; obtain rfl : ad458 = ad459 := (by injection e459); replace p459 := zw p459; replace q459 := zw q459
       go_wp2
       go_ret
       exact ⟨(qK10), (qK24)⟩
      ·rw [yc c6] at H; have c6b0 : (((rd_T72 l0 x5_1).f1) == a1) = false := zx c6; have c6b1 : (((rd_T72 l0 x5_1).f1) != a1) = true := zU c6; have H' := za H; clear H; have p458 : 0 ≤ (x5_1 : Int) := zb (qK7); have q458 : x5_1 < (l0.length : Int) := zb (qK7); obtain ⟨ad458, e458, hx458_0, hx458_1, hx458_2, hx458_3, hx458_4⟩ := at_T72 HR0.1 x5_1 p458 q458; cases e458; replace p458 := zw p458; replace q458 := zw q458; have p459 : 0 ≤ (x5_1 : Int) := zb (qK7); have q459 : x5_1 < (l0.length : Int) := zb (qK7); obtain ⟨ad459, e459, hx459_0, hx459_1, hx459_2, hx459_3, hx459_4⟩ := at_T72 HR0.1 x5_1 p459 q459; obtain rfl : ad458 = ad459 := (by injection e459); replace p459 := zw p459; replace q459 := zw q459
       go_wp2
       go_roundg k1
       case measure => have := HK1.1; omega
       case rel => exact ⟨(wrap64 (x5_1 + 1)), (qK10), H', ⟨by have := HK1.1; omega⟩, (qK24)⟩
    ·rw [yc c4] at H
     exact absurd H (by simp)
   ·rw [yc c3] at H; have c3b0 : decide (x5_1 < (l0.length : Int)) = false := zv c3; clear c3; obtain rfl := zm H
    go_wp2
    go_ret
    exact ⟨(qK10), (qK24)⟩

def spec_l17Caves.l0 : Nat → List (S72) → List (List Int) → Int → Option ((List (List Int)))
 | 0, _, _, _ => none
 | k + 1, x0, x3, x4 => if x4 < 8 then ((spec_l17Cave.f k x0 x4 (-1)).bind fun t463 => ((spec_l17Used.f k x0 x4).bind fun t466 => (if t466 = true then (if 0 < (t463.length : Int) then (if (rd t463 0) = x4 then (if x3.length < 5864062014805 then (spec_l17Caves.l0 k x0 (x3 ++ [t463]) (wrap64 (x4 + 1))) else (none)) else (spec_l17Caves.l0 k x0 x3 (wrap64 (x4 + 1)))) else (none)) else (spec_l17Caves.l0 k x0 x3 (wrap64 (x4 + 1)))))) else (some x3)
def spec_l17Caves.f (k : Nat) (l0 : List (S72)) : Option ((List (List Int))) := spec_l17Caves.l0 k l0 (([] : List (List Int))) 0
theorem spec_l17Caves.calls (k : Nat) (A0 : Option Addr) (c0 : Nat) (l0 : List (S72)) (r : List (List Int)) (w : World) (hr0 : Kd.C k72 w A0 l0.length l0) (hc0 : l0.length ≤ c0) (h : spec_l17Caves.f k l0 = some r) :
  Calls Try.prog 28 #[.slice A0 l0.length c0] w fun e w' => ∃ v0_ : Value, e = .returned (v0_) ∧ Kd.S (Kd.slice 3 (Kd.int .i64)) 32 w' w.heap.size (fun _ => True) v0_ r ∧ Below w.heap.size w w' := by
 have HR0 := za hr0; have HC0 := za hc0; clear hr0 hc0; have HB := za (zs w.heap.size w); have H : (spec_l17Caves.l0 k l0 (([] : List (List Int))) 0) = some r := h; clear h; obtain ⟨y460, hy460⟩ : ∃ y_ : List (List Int), y_ = (([] : List (List Int))) := ⟨_, rfl⟩; replace H : (spec_l17Caves.l0 k l0 y460 0) = some r := (qK4 hy460); have Ny460 := za hy460; clear hy460; have H' := za H; clear H
 go_enter Try.func28, Try.ntmps28
 go_wp2_with (first | ((with_reducible refine zq (N := 6) rfl ?_); refine Kd.S_lit (Kd.slice 3 (Kd.int .i64)) _ 32 ?hg (N := 6) ?hd (xs := ([] : List (List Int))) (inner := []) (ok := fun _ => True) (okp := fun _ => True) ?hr ?hp (fun _ hk => hk) trivial (zs _ _) (zo _) (by simp) ?_; (case hd | hg => rfl); (case hr => exact (qK23)); (case hp => exact (zu _ _)); intro v461 w2 ho3 hb hg_ hnew_; clear hg_ hnew_; (first | rw [← Ny460.1] at ho3 | (simp only [Int.reduceToNat] at ho3; rw [← Ny460.1] at ho3)); have HO462 := za (qK115 ho3); replace HB := za qK73; clear hb ho3))
 go_loopg [3, 4] k (fun kq v3 v4 w' => ∃ (x3_1 : List (List Int)) (x4_1 : Int), v4 = .int .i64 x4_1 ∧ Aside0 (spec_l17Caves.l0 kq l0 x3_1 x4_1 = some r) ∧ Aside0 (kq ≤ k) ∧ Aside0 (Kd.S (Kd.slice 3 (Kd.int .i64)) 32 w' w.heap.size (fun _ => True) v3 x3_1) ∧ Aside0 (Below w.heap.size w w'))
 case atStart => exact ⟨(y460), (0), (qK10), H', ⟨zo _⟩, ⟨(qK32 HO462.1)⟩, ⟨(qK0)⟩⟩
 case round =>
  clear H'; (try clear c2); (try clear p2); obtain ⟨x3_1, x4_1, rfl, HA, HK1, HO_3, HB⟩ := hrel
  cases gk with
  | zero => exact absurd HA.1 (by simp [spec_l17Caves.l0])
  | succ k1 =>
   have H := HA.1; clear HA; simp only [spec_l17Caves.l0] at H
   by_cases c4 : x4_1 < 8
   ·rw [yb c4] at H; have c4b0 : decide (x4_1 < 8) = true := zc c4; clear c4; replace H := bindA H; obtain ⟨t463, A5, H⟩ := H; (try dsimp only at H); replace H := bindA H; obtain ⟨t466, A6, H⟩ := H; (try dsimp only at H)
    by_cases c7 : t466 = true
    ·subst c7; rw [yb rfl] at H
     by_cases c8 : 0 < (t463.length : Int)
     ·rw [yb c8] at H; have c8b0 : decide (0 < (t463.length : Int)) = true := zc c8; have c8b1 : decide (0 < t463.length) = true := zc (by omega); clear c8
      by_cases c9 : (rd t463 0) = x4_1
      ·rw [yb c9] at H; have c9b0 : ((rd t463 0) == x4_1) = true := zT c9; have c9b1 : ((rd t463 0) != x4_1) = false := zy c9; clear c9
       by_cases c10 : x3_1.length < 5864062014805
       ·rw [yb c10] at H; have LMc10 := za c10; clear c10; obtain ⟨y468, hy468⟩ : ∃ y_ : List (List Int), y_ = (x3_1 ++ [t463]) := ⟨_, rfl⟩; replace H : (spec_l17Caves.l0 k1 l0 y468 (wrap64 (x4_1 + 1))) = some r := (qK4 hy468); have Ny468 := za hy468; clear hy468; have H' := za H; clear H
        go_wp2_with (first | ((with_reducible refine zp (f := 37) rfl ?_); refine zV (some 13) rfl rfl Try.func37 (qK25) rfl #[.slice A0 l0.length c0, .int .i64 x4_1, .int .i64 (-1)] rfl (qK2) ?_; (with_reducible refine (spec_l17Cave.calls k1 _ _ l0 x4_1 (-1) t463 _ ?s1 ?s2 A5.1).mono ?_); (case s1 => exact (qK9 HR0.1)); (case s2 => exact HC0.1); rintro e w11 ⟨v464, rfl, ho0, hb⟩; refine ⟨_, rfl, ?_⟩; replace HO_3 := za qK108; have HO465 := za (qK80 ho0); replace HB := za qK73; clear hb ho0) | ((with_reducible refine zp (f := 55) rfl ?_); refine zV (some 16) rfl rfl Try.func55 (qK25) rfl #[.slice A0 l0.length c0, .int .i64 x4_1] rfl (qK2) ?_; (with_reducible refine (spec_l17Used.calls k1 _ _ l0 x4_1 true _ ?s1 ?s2 A6.1).mono ?_); (case s1 => exact (qK9 HR0.1)); (case s2 => exact HC0.1); rintro e w' ⟨rfl, ⟨nd, rfl⟩⟩; refine ⟨_, rfl, ?_⟩; obtain ⟨Ao12, co12, eo12⟩ := zI HO465.1; subst eo12; have p467 : 0 ≤ (0 : Int) := (by omega); have q467 : 0 < (t463.length : Int) := zb (qK7); obtain ⟨ad467, e467, hx467_0⟩ := zJ (zH HO465.1).2.2 0 p467 q467; cases e467; have qi467 : (0 < t463.length) = True := zw (by omega); (try rw [show ((0 : Int)).toNat = 0 from rfl] at hx467_0); (try rw [Addr.add_zero'] at hx467_0); replace p467 := zw p467; replace q467 := zw q467) | ((with_reducible refine zr (b := .append) (xs := #[.tmp 24, .tmp 26]) rfl ?_); at_builtin; refine Kd.S_append (Kd.slice 3 (Kd.int .i64)) (w0 := w) w.heap.size rfl (.tmp 24) (.tmp 26) 26 32 (.slice none 0 0) 24 rfl Try.underlying26 info32 rfl (by decide) (by omega) u3 x3_1 t463 [.slice (some ad467) t463.length co12] (fun _ => True) (fun k_ => some k_ = (.slice (some ad467) t463.length co12 : Value).ownBlock) rfl rfl ?aP (fun k_ hk_ => ((zK (ok' := fun k_ => ((fun _ => True)) k_ ∧ some k_ ≠ (u3 : Value).ownBlock) (Kd.R_apart' (HO465.1) (Kd.S_typed HO_3.1) (by decide)) (fun k_ hk => ⟨trivial, hk.2⟩))).1 k_ hk_.symm) ?aF ?aO ?aB ?aS ?aL ?_; (case aP => exact (by exact Kd.M_row (zK (Kd.R_tight rfl (zK (ok' := fun k_ => ((fun _ => True)) k_ ∧ some k_ ≠ (u3 : Value).ownBlock) (Kd.R_apart' (HO465.1) (Kd.S_typed HO_3.1) (by decide)) (fun k_ hk => ⟨trivial, hk.2⟩))) (fun _ h_ => h_)))); (case aB => exact (qK0)); (case aF => exact (fun _ _ => trivial)); (case aO => exact (by (with_reducible repeat (first | apply Kd.S_alloc | apply Kd.S_drewN | apply Kd.S_drew)); exact Kd.S_mono HO_3.1 (fun k_ hk => ⟨trivial, fun e_ => hk.2 e_⟩))); (case aS => exact (qK91)); (case aL => have := LMc10.1; omega); intro v469 w13 ho hb hg hat; rw [← Ny468.1] at ho; replace HB := za hb; have HO470 := za ho; clear HO_3 HO465; clear ho hb hg hat))
        go_roundg k1
        case measure => have := HK1.1; omega
        case rel => exact ⟨(y468), (wrap64 (x4_1 + 1)), (qK10), H', ⟨by have := HK1.1; omega⟩, ⟨(qK32 HO470.1)⟩, ⟨(qK0)⟩⟩
       ·rw [yc c10] at H
        exact absurd H (by simp)
      ·rw [yc c9] at H; have c9b0 : ((rd t463 0) == x4_1) = false := zx c9; have c9b1 : ((rd t463 0) != x4_1) = true := zU c9; have H' := za H; clear H
       go_wp2_with (first | ((with_reducible refine zp (f := 37) rfl ?_); refine zV (some 13) rfl rfl Try.func37 (qK25) rfl #[.slice A0 l0.length c0, .int .i64 x4_1, .int .i64 (-1)] rfl (qK2) ?_; (with_reducible refine (spec_l17Cave.calls k1 _ _ l0 x4_1 (-1) t463 _ ?s1 ?s2 A5.1).mono ?_); (case s1 => exact (qK9 HR0.1)); (case s2 => exact HC0.1); rintro e w14 ⟨v464, rfl, ho0, hb⟩; refine ⟨_, rfl, ?_⟩; replace HO_3 := za qK108; have HO465 := za (qK80 ho0); replace HB := za qK73; clear hb ho0) | ((with_reducible refine zp (f := 55) rfl ?_); refine zV (some 16) rfl rfl Try.func55 (qK25) rfl #[.slice A0 l0.length c0, .int .i64 x4_1] rfl (qK2) ?_; (with_reducible refine (spec_l17Used.calls k1 _ _ l0 x4_1 true _ ?s1 ?s2 A6.1).mono ?_); (case s1 => exact (qK9 HR0.1)); (case s2 => exact HC0.1); rintro e w' ⟨rfl, ⟨nd, rfl⟩⟩; refine ⟨_, rfl, ?_⟩; obtain ⟨Ao15, co15, eo15⟩ := zI HO465.1; subst eo15; have p467 : 0 ≤ (0 : Int) := (by omega); have q467 : 0 < (t463.length : Int) := zb (qK7); obtain ⟨ad467, e467, hx467_0⟩ := zJ (zH HO465.1).2.2 0 p467 q467; cases e467; have qi467 : (0 < t463.length) = True := zw (by omega); (try rw [show ((0 : Int)).toNat = 0 from rfl] at hx467_0); (try rw [Addr.add_zero'] at hx467_0); replace p467 := zw p467; replace q467 := zw q467))
       go_roundg k1
       case measure => have := HK1.1; omega
       case rel => exact ⟨(x3_1), (wrap64 (x4_1 + 1)), (qK10), H', ⟨by have := HK1.1; omega⟩, ⟨(qK63)⟩, ⟨(qK0)⟩⟩
     ·rw [yc c8] at H
      exact absurd H (by simp)
    ·replace c7 := zn c7; subst c7; rw [yc (show ¬ (false = true) by decide)] at H; have H' := za H; clear H
     go_wp2_with (first | ((with_reducible refine zp (f := 37) rfl ?_); refine zV (some 13) rfl rfl Try.func37 (qK25) rfl #[.slice A0 l0.length c0, .int .i64 x4_1, .int .i64 (-1)] rfl (qK2) ?_; (with_reducible refine (spec_l17Cave.calls k1 _ _ l0 x4_1 (-1) t463 _ ?s1 ?s2 A5.1).mono ?_); (case s1 => exact (qK9 HR0.1)); (case s2 => exact HC0.1); rintro e w16 ⟨v464, rfl, ho0, hb⟩; refine ⟨_, rfl, ?_⟩; replace HO_3 := za qK108; have HO465 := za (qK80 ho0); replace HB := za qK73; clear hb ho0) | ((with_reducible refine zp (f := 55) rfl ?_); refine zV (some 16) rfl rfl Try.func55 (qK25) rfl #[.slice A0 l0.length c0, .int .i64 x4_1] rfl (qK2) ?_; (with_reducible refine (spec_l17Used.calls k1 _ _ l0 x4_1 false _ ?s1 ?s2 A6.1).mono ?_); (case s1 => exact (qK9 HR0.1)); (case s2 => exact HC0.1); rintro e w' ⟨rfl, ⟨nd, rfl⟩⟩; refine ⟨_, rfl, ?_⟩))
     go_roundg k1
     case measure => have := HK1.1; omega
     case rel => exact ⟨(x3_1), (wrap64 (x4_1 + 1)), (qK10), H', ⟨by have := HK1.1; omega⟩, ⟨(qK63)⟩, ⟨(qK0)⟩⟩
   ·rw [yc c4] at H; have c4b0 : decide (x4_1 < 8) = false := zv c4; clear c4; obtain rfl := zm H
    go_wp2
    go_ret
    exact ⟨_, (qK11), (qK32 HO_3.1), (qK0)⟩

def spec_CavesOf.f (k : Nat) (l0 : List (S72)) : Option ((List (List Int)) × Bool) := (spec_l4Legs.f k l0).bind fun t471 => (if t471 = true then ((spec_l17Caves.f k l0).bind fun t472 => (some (t472, true))) else (some ((([] : List (List Int))), false)))
theorem spec_CavesOf.calls (k : Nat) (A0 : Option Addr) (c0 : Nat) (l0 : List (S72)) (r1 : List (List Int)) (r2 : Bool) (w : World) (hr0 : Kd.C k72 w A0 l0.length l0) (hc0 : l0.length ≤ c0) (h : spec_CavesOf.f k l0 = some (r1, r2)) :
  Calls Try.prog 7 #[.slice A0 l0.length c0] w fun e w' => ∃ v0_ : Value, e = .returned (.tuple #[v0_, .bool r2]) ∧ Kd.S (Kd.slice 3 (Kd.int .i64)) 32 w' w.heap.size (fun _ => True) v0_ r1 ∧ Below w.heap.size w w' := by
 have HR0 := za hr0; have HC0 := za hc0; clear hr0 hc0; have HB := za (zs w.heap.size w); have H : ((spec_l4Legs.f k l0).bind fun t471 => (if t471 = true then ((spec_l17Caves.f k l0).bind fun t472 => (some (t472, true))) else (some ((([] : List (List Int))), false)))) = some (r1, r2) := h; clear h; replace H := bindA H; obtain ⟨t471, A2, H⟩ := H; (try dsimp only at H)
 by_cases c3 : t471 = true
 ·subst c3; rw [yb rfl] at H; replace H := zC H; obtain ⟨t472, A40, H⟩ := H; replace H : (some (t472, true)) = some (r1, r2) := H; have A4 := za A40; clear A40; simp only [yd, ye] at H; obtain ⟨rfl, rfl⟩ := H
  go_enter Try.func7, Try.ntmps7
  go_wp2_with (first | ((with_reducible refine zp (f := 27) rfl ?_); refine zV (some 5) rfl rfl Try.func27 (qK25) rfl #[.slice A0 l0.length c0] rfl (qK2) ?_; (with_reducible refine (spec_l4Legs.calls k _ _ l0 true _ ?s1 ?s2 A2.1).mono ?_); (case s1 => exact (qK21 HR0.1)); (case s2 => exact HC0.1); rintro e w5 ⟨rfl, hb⟩; refine ⟨_, rfl, ?_⟩; replace HB := za qK73; clear hb) | ((with_reducible refine zp (f := 28) rfl ?_); refine zV (some 9) rfl rfl Try.func28 (qK25) rfl #[.slice A0 l0.length c0] rfl (qK2) ?_; (with_reducible refine (spec_l17Caves.calls k _ _ l0 t472 _ ?s1 ?s2 A4.1).mono ?_); (case s1 => exact (qK9 HR0.1)); (case s2 => exact HC0.1); rintro e w6 ⟨v473, rfl, ho0, hb⟩; refine ⟨_, rfl, ?_⟩; have HO474 := za (qK115 ho0); replace HB := za qK73; clear hb ho0))
  go_ret2
  exact ⟨_, (qK11), (qK32 HO474.1), (qK0)⟩
 ·replace c3 := zn c3; subst c3; rw [yc (show ¬ (false = true) by decide)] at H; obtain ⟨y475, hy475⟩ : ∃ y_ : List (List Int), y_ = (([] : List (List Int))) := ⟨_, rfl⟩; replace H : (some (y475, false)) = some (r1, r2) := (qK4 hy475); have Ny475 := za hy475; clear hy475; simp only [yd, ye] at H; obtain ⟨rfl, rfl⟩ := H
  go_enter Try.func7, Try.ntmps7
  go_wp2_with (first | ((with_reducible refine zp (f := 27) rfl ?_); refine zV (some 5) rfl rfl Try.func27 (qK25) rfl #[.slice A0 l0.length c0] rfl (qK2) ?_; (with_reducible refine (spec_l4Legs.calls k _ _ l0 false _ ?s1 ?s2 A2.1).mono ?_); (case s1 => exact (qK21 HR0.1)); (case s2 => exact HC0.1); rintro e w7 ⟨rfl, hb⟩; refine ⟨_, rfl, ?_⟩; replace HB := za qK73; clear hb) | ((with_reducible refine zq (N := 7) rfl ?_); refine Kd.S_lit (Kd.slice 3 (Kd.int .i64)) _ 32 ?hg (N := 7) ?hd (xs := ([] : List (List Int))) (inner := []) (ok := fun _ => True) (okp := fun _ => True) ?hr ?hp (fun _ hk => hk) trivial (zs _ _) (zo _) (by simp) ?_; (case hd | hg => rfl); (case hr => exact (qK23)); (case hp => exact (zu _ _)); intro v476 w8 ho9 hb hg_ hnew_; clear hg_ hnew_; (first | rw [← Ny475.1] at ho9 | (simp only [Int.reduceToNat] at ho9; rw [← Ny475.1] at ho9)); have HO477 := za (qK115 ho9); replace HB := za qK73; clear hb ho9))
  go_ret2
  exact ⟨_, (qK11), (qK32 HO477.1), (qK0)⟩

def laws_vInts.l0 : Nat → List Int → List Int → Int → Option (Bool)
 | 0, _, _, _ => none
 | k + 1, x0, x1, x5 => if x5 < (x0.length : Int) then (if 0 ≤ x5 then (if x5 < (x1.length : Int) then (if (rd x0 x5) = (rd x1 x5) then (laws_vInts.l0 k x0 x1 (wrap64 (x5 + 1))) else (some false)) else (none)) else (none)) else (some true)
def laws_vInts.f (k : Nat) (l0 : List Int) (l1 : List Int) : Option (Bool) := if (l0.length : Int) = (l1.length : Int) then (laws_vInts.l0 k l0 l1 0) else (some false)
theorem laws_vInts.calls (k : Nat) (A0 : Option Addr) (c0 : Nat) (l0 : List Int) (A1 : Option Addr) (c1 : Nat) (l1 : List Int) (r : Bool) (w : World) (hr0 : Kd.C (Kd.int .i64) w A0 l0.length l0) (hc0 : l0.length ≤ c0) (hr1 : Kd.C (Kd.int .i64) w A1 l1.length l1) (hc1 : l1.length ≤ c1) (h : laws_vInts.f k l0 l1 = some r) :
  Calls Try.prog 29 #[.slice A0 l0.length c0, .slice A1 l1.length c1] w fun e w' => e = .returned (.bool r) ∧ Drawn0 w w' := by
 have HR0 := za hr0; have HC0 := za hc0; clear hr0 hc0; have HR1 := za hr1; have HC1 := za hc1; clear hr1 hc1; have H : (if (l0.length : Int) = (l1.length : Int) then (laws_vInts.l0 k l0 l1 0) else (some false)) = some r := h; clear h
 by_cases c3 : (l0.length : Int) = (l1.length : Int)
 ·rw [yb c3] at H; have c3b0 : ((l0.length : Int) == (l1.length : Int)) = true := zT c3; have c3b1 : ((l0.length : Int) != (l1.length : Int)) = false := zy c3
  have c3b2 : (l0.length == l1.length) = true := by first | simpa using c3 | (simp at c3 ⊢; omega)
  clear c3; have H' := za H; clear H
  go_enter Try.func29, Try.ntmps29
  go_wp2
  repeat (go_quiet (fail); try go_wp2)
  go_loopg [5] k (fun kq v5 w' => ∃ (x5_1 : Int), v5 = .int .i64 x5_1 ∧ Aside0 (laws_vInts.l0 kq l0 l1 x5_1 = some r) ∧ Aside0 (kq ≤ k) ∧ Drawn0 w w')
  case atStart => exact ⟨(0), (qK10), H', ⟨zo _⟩, (qK24)⟩
  case round =>
   clear H'; (try clear c1); (try clear c2); (try clear p2); (try clear c3); (try clear c3b0); (try clear c3b1); (try clear c3b2); obtain ⟨x5_1, rfl, HA, HK1, ⟨m1, rfl⟩⟩ := hrel
   cases gk with
   | zero => exact absurd HA.1 (by simp [laws_vInts.l0])
   | succ k1 =>
    have H := HA.1; clear HA; simp only [laws_vInts.l0] at H
    by_cases c4 : x5_1 < (l0.length : Int)
    ·rw [yb c4] at H; have c4b0 : decide (x5_1 < (l0.length : Int)) = true := zc c4; clear c4
     by_cases c5 : 0 ≤ x5_1
     ·rw [yb c5] at H; have c5b0 : decide (0 ≤ x5_1) = true := zc c5; clear c5
      by_cases c6 : x5_1 < (l1.length : Int)
      ·rw [yb c6] at H; have c6b0 : decide (x5_1 < (l1.length : Int)) = true := zc c6; clear c6
       by_cases c7 : (rd l0 x5_1) = (rd l1 x5_1)
       ·rw [yb c7] at H; have c7b0 : ((rd l0 x5_1) == (rd l1 x5_1)) = true := zT c7; have c7b1 : ((rd l0 x5_1) != (rd l1 x5_1)) = false := zy c7; clear c7; have H' := za H; clear H; have p478 : 0 ≤ (x5_1 : Int) := zb (qK7); have q478 : x5_1 < (l0.length : Int) := zb (qK7); obtain ⟨ad478, e478, hx478_0⟩ := zJ HR0.1 x5_1 p478 q478; cases e478; replace p478 := zw p478; replace q478 := zw q478; have p479 : 0 ≤ (x5_1 : Int) := zb (qK7); have q479 : x5_1 < (l1.length : Int) := zb (qK7); obtain ⟨ad479, e479, hx479_0⟩ := zJ HR1.1 x5_1 p479 q479; cases e479; replace p479 := zw p479; replace q479 := zw q479
        go_wp2
        repeat (go_quiet (fail); try go_wp2)
        go_roundg k1
        case measure => have := HK1.1; omega
        case rel => exact ⟨(wrap64 (x5_1 + 1)), (qK10), H', ⟨by have := HK1.1; omega⟩, (qK24)⟩
       ·rw [yc c7] at H; have c7b0 : ((rd l0 x5_1) == (rd l1 x5_1)) = false := zx c7; have c7b1 : ((rd l0 x5_1) != (rd l1 x5_1)) = true := zU c7; obtain rfl := zm H; have p478 : 0 ≤ (x5_1 : Int) := zb (qK7); have q478 : x5_1 < (l0.length : Int) := zb (qK7); obtain ⟨ad478, e478, hx478_0⟩ := zJ HR0.1 x5_1 p478 q478; cases e478; replace p478 := zw p478; replace q478 := zw q478; have p479 : 0 ≤ (x5_1 : Int) := zb (qK7); have q479 : x5_1 < (l1.length : Int) := zb (qK7); obtain ⟨ad479, e479, hx479_0⟩ := zJ HR1.1 x5_1 p479 q479; cases e479; replace p479 := zw p479; replace q479 := zw q479
        go_wp2
        repeat (go_quiet (fail); try go_wp2)
        go_ret
        exact ⟨(qK10), (qK24)⟩
      ·rw [yc c6] at H
       exact absurd H (by simp)
     ·rw [yc c5] at H
      exact absurd H (by simp)
    ·rw [yc c4] at H; have c4b0 : decide (x5_1 < (l0.length : Int)) = false := zv c4; clear c4; obtain rfl := zm H
     go_wp2
     repeat (go_quiet (fail); try go_wp2)
     go_ret
     exact ⟨(qK10), (qK24)⟩
 ·rw [yc c3] at H; have c3b0 : ((l0.length : Int) == (l1.length : Int)) = false := zx c3; have c3b1 : ((l0.length : Int) != (l1.length : Int)) = true := zU c3
  have c3b2 : (l0.length == l1.length) = false := by first | simpa using c3 | (simp at c3 ⊢; omega)
  obtain rfl := zm H
  go_enter Try.func29, Try.ntmps29
  go_wp2
  repeat (go_quiet (fail); try go_wp2)
  go_ret
  exact ⟨(qK10), (qK24)⟩

def laws_vTable.l0 : Nat → List (List Int) → List (List Int) → Int → Option (Bool)
 | 0, _, _, _ => none
 | k + 1, x0, x1, x5 => if x5 < (x0.length : Int) then (if 0 ≤ x5 then (if x5 < (x1.length : Int) then ((laws_vInts.f k (rd_L5 x0 x5) (rd_L5 x1 x5)).bind fun t482 => (if t482 = true then (laws_vTable.l0 k x0 x1 (wrap64 (x5 + 1))) else (some false))) else (none)) else (none)) else (some true)
def laws_vTable.f (k : Nat) (l0 : List (List Int)) (l1 : List (List Int)) : Option (Bool) := if (l0.length : Int) = (l1.length : Int) then (laws_vTable.l0 k l0 l1 0) else (some false)
theorem laws_vTable.calls (k : Nat) (A0 : Option Addr) (c0 : Nat) (l0 : List (List Int)) (A1 : Option Addr) (c1 : Nat) (l1 : List (List Int)) (r : Bool) (w : World) (hr0 : Kd.C (Kd.slice 3 (Kd.int .i64)) w A0 l0.length l0) (hc0 : l0.length ≤ c0) (hr1 : Kd.C (Kd.slice 3 (Kd.int .i64)) w A1 l1.length l1) (hc1 : l1.length ≤ c1) (h : laws_vTable.f k l0 l1 = some r) :
  Calls Try.prog 8 #[.slice A0 l0.length c0, .slice A1 l1.length c1] w fun e w' => e = .returned (.bool r) ∧ Drawn0 w w' := by
 have HR0 := za hr0; have HC0 := za hc0; clear hr0 hc0; have HR1 := za hr1; have HC1 := za hc1; clear hr1 hc1; have H : (if (l0.length : Int) = (l1.length : Int) then (laws_vTable.l0 k l0 l1 0) else (some false)) = some r := h; clear h
 by_cases c3 : (l0.length : Int) = (l1.length : Int)
 ·rw [yb c3] at H; have c3b0 : ((l0.length : Int) == (l1.length : Int)) = true := zT c3; have c3b1 : ((l0.length : Int) != (l1.length : Int)) = false := zy c3
  have c3b2 : (l0.length == l1.length) = true := by first | simpa using c3 | (simp at c3 ⊢; omega)
  clear c3; have H' := za H; clear H
  go_enter Try.func8, Try.ntmps8
  go_wp2
  repeat (go_quiet (fail); try go_wp2)
  go_loopg [5] k (fun kq v5 w' => ∃ (x5_1 : Int), v5 = .int .i64 x5_1 ∧ Aside0 (laws_vTable.l0 kq l0 l1 x5_1 = some r) ∧ Aside0 (kq ≤ k) ∧ Drawn0 w w')
  case atStart => exact ⟨(0), (qK10), H', ⟨zo _⟩, (qK24)⟩
  case round =>
   clear H'; (try clear c1); (try clear p2); (try clear c3); (try clear c3b0); (try clear c3b1); (try clear c3b2); obtain ⟨x5_1, rfl, HA, HK1, ⟨m1, rfl⟩⟩ := hrel
   cases gk with
   | zero => exact absurd HA.1 (by simp [laws_vTable.l0])
   | succ k1 =>
    have H := HA.1; clear HA; simp only [laws_vTable.l0] at H
    by_cases c4 : x5_1 < (l0.length : Int)
    ·rw [yb c4] at H; have c4b0 : decide (x5_1 < (l0.length : Int)) = true := zc c4; clear c4
     by_cases c5 : 0 ≤ x5_1
     ·rw [yb c5] at H; have c5b0 : decide (0 ≤ x5_1) = true := zc c5; clear c5
      by_cases c6 : x5_1 < (l1.length : Int)
      ·rw [yb c6] at H; have c6b0 : decide (x5_1 < (l1.length : Int)) = true := zc c6; clear c6; replace H := bindA H; obtain ⟨t482, A7, H⟩ := H; (try dsimp only at H)
       by_cases c8 : t482 = true
       ·subst c8; rw [yb rfl] at H; have H' := za H; clear H; have p480 : 0 ≤ (x5_1 : Int) := zb (qK7); have q480 : x5_1 < (l0.length : Int) := zb (qK7); obtain ⟨ad480, A480_0, c480_0, e480, hx480_0, hl480_0, hi480_0⟩ := at_L5 HR0.1 x5_1 p480 q480; cases e480; have HR480_0 := za hi480_0; have HC480_0 := za hl480_0; clear hi480_0 hl480_0; replace p480 := zw p480; replace q480 := zw q480; have p481 : 0 ≤ (x5_1 : Int) := zb (qK7); have q481 : x5_1 < (l1.length : Int) := zb (qK7); obtain ⟨ad481, A481_0, c481_0, e481, hx481_0, hl481_0, hi481_0⟩ := at_L5 HR1.1 x5_1 p481 q481; cases e481; have HR481_0 := za hi481_0; have HC481_0 := za hl481_0; clear hi481_0 hl481_0; replace p481 := zw p481; replace q481 := zw q481
        go_wp2_with (first | (go_at_call 29; (with_reducible refine (laws_vInts.calls k1 _ _ (rd_L5 l0 x5_1) _ _ (rd_L5 l1 x5_1) true _ ?s1 ?s2 ?s3 ?s4 A7.1).mono ?_); (case s1 => exact (qK50)); (case s2 => exact HC480_0.1); (case s3 => exact (qK49)); (case s4 => exact HC481_0.1); rintro e w' ⟨rfl, ⟨nd, rfl⟩⟩; (try first | exact ⟨rfl, _, zS _ _ _⟩ | exact ⟨rfl, _, Eq.trans (zS _ _ _) (congrArg (World.drewN _) (Nat.add_assoc _ _ _))⟩)))
        repeat (go_quiet (first | (go_at_call 29; (with_reducible refine (laws_vInts.calls k1 _ _ (rd_L5 l0 x5_1) _ _ (rd_L5 l1 x5_1) true _ ?s1 ?s2 ?s3 ?s4 A7.1).mono ?_); (case s1 => exact (qK50)); (case s2 => exact HC480_0.1); (case s3 => exact (qK49)); (case s4 => exact HC481_0.1); rintro e w' ⟨rfl, ⟨nd, rfl⟩⟩; (try first | exact ⟨rfl, _, zS _ _ _⟩ | exact ⟨rfl, _, Eq.trans (zS _ _ _) (congrArg (World.drewN _) (Nat.add_assoc _ _ _))⟩))); try go_wp2)
        go_roundg k1
        case measure => have := HK1.1; omega
        case rel => exact ⟨(wrap64 (x5_1 + 1)), (qK10), H', ⟨by have := HK1.1; omega⟩, (qK24)⟩
       ·replace c8 := zn c8; subst c8; rw [yc (show ¬ (false = true) by decide)] at H; obtain rfl := zm H; have p480 : 0 ≤ (x5_1 : Int) := zb (qK7); have q480 : x5_1 < (l0.length : Int) := zb (qK7); obtain ⟨ad480, A480_0, c480_0, e480, hx480_0, hl480_0, hi480_0⟩ := at_L5 HR0.1 x5_1 p480 q480; cases e480; have HR480_0 := za hi480_0; have HC480_0 := za hl480_0; clear hi480_0 hl480_0; replace p480 := zw p480; replace q480 := zw q480; have p481 : 0 ≤ (x5_1 : Int) := zb (qK7); have q481 : x5_1 < (l1.length : Int) := zb (qK7); obtain ⟨ad481, A481_0, c481_0, e481, hx481_0, hl481_0, hi481_0⟩ := at_L5 HR1.1 x5_1 p481 q481; cases e481; have HR481_0 := za hi481_0; have HC481_0 := za hl481_0; clear hi481_0 hl481_0; replace p481 := zw p481; replace q481 := zw q481
        go_wp2_with (first | (go_at_call 29; (with_reducible refine (laws_vInts.calls k1 _ _ (rd_L5 l0 x5_1) _ _ (rd_L5 l1 x5_1) false _ ?s1 ?s2 ?s3 ?s4 A7.1).mono ?_); (case s1 => exact (qK50)); (case s2 => exact HC480_0.1); (case s3 => exact (qK49)); (case s4 => exact HC481_0.1); rintro e w' ⟨rfl, ⟨nd, rfl⟩⟩; (try first | exact ⟨rfl, _, zS _ _ _⟩ | exact ⟨rfl, _, Eq.trans (zS _ _ _) (congrArg (World.drewN _) (Nat.add_assoc _ _ _))⟩)))
        repeat (go_quiet (first | (go_at_call 29; (with_reducible refine (laws_vInts.calls k1 _ _ (rd_L5 l0 x5_1) _ _ (rd_L5 l1 x5_1) false _ ?s1 ?s2 ?s3 ?s4 A7.1).mono ?_); (case s1 => exact (qK50)); (case s2 => exact HC480_0.1); (case s3 => exact (qK49)); (case s4 => exact HC481_0.1); rintro e w' ⟨rfl, ⟨nd, rfl⟩⟩; (try first | exact ⟨rfl, _, zS _ _ _⟩ | exact ⟨rfl, _, Eq.trans (zS _ _ _) (congrArg (World.drewN _) (Nat.add_assoc _ _ _))⟩))); try go_wp2)
        go_ret
        exact ⟨(qK10), (qK24)⟩
      ·rw [yc c6] at H
       exact absurd H (by simp)
     ·rw [yc c5] at H
      exact absurd H (by simp)
    ·rw [yc c4] at H; have c4b0 : decide (x5_1 < (l0.length : Int)) = false := zv c4; clear c4; obtain rfl := zm H
     go_wp2
     repeat (go_quiet (fail); try go_wp2)
     go_ret
     exact ⟨(qK10), (qK24)⟩
 ·rw [yc c3] at H; have c3b0 : ((l0.length : Int) == (l1.length : Int)) = false := zx c3; have c3b1 : ((l0.length : Int) != (l1.length : Int)) = true := zU c3
  have c3b2 : (l0.length == l1.length) = false := by first | simpa using c3 | (simp at c3 ⊢; omega)
  obtain rfl := zm H
  go_enter Try.func8, Try.ntmps8
  go_wp2
  repeat (go_quiet (fail); try go_wp2)
  go_ret
  exact ⟨(qK10), (qK24)⟩

def lengthFrom (l0 : List S72) (B : List Bool) : Nat → Nat → Int → Int
 | 0, _, s => s
 | d + 1, i, s => lengthFrom l0 B d (i + 1) (if B.getD (l0.getD i z72).f0.toNat false = true then wrap64 (s + (l0.getD i z72).f2) else s)
def impl_caveLength.f (l0 : List S72) (a1 : Int) : Option Int := if hangOk l0 a1 = true then some (lengthFrom l0 (hangOf l0 a1) l0.length 0 0) else none
theorem impl_caveLength.calls (A0 : Option Addr) (c0 : Nat) (l0 : List S72) (a1 : Int) (r : Int) (w : World) (hr0 : Kd.C k72 w A0 l0.length l0) (hc0 : l0.length ≤ c0) (h : impl_caveLength.f l0 a1 = some r) :
  Calls Try.prog 31 #[.slice A0 l0.length c0, .int .i64 a1] w fun e w' => e = .returned (.int .i64 r) ∧ Below w.heap.size w w' := by
 have huL := Try.underlying72; have huA := Try.underlying77; have hu4 := Try.underlying4
 unfold impl_caveLength.f at h
 by_cases hok : hangOk l0 a1 = true
 case neg => rw [yc hok] at h; cases h
 rw [yb hok] at h; have hr := zm h; clear h; simp only [hangOk, Bool.and_eq_true, decide_eq_true_eq] at hok; have HOK := za hok; have HR0 := za hr0; have HC0 := za hc0; have HM0 := za hr0.2.1; have H12 : Aside0 (0 ≤ (l0.length : Int) ∧ (l0.length : Int).toNat * 8 ≤ 281474976710656) := ⟨by have := hok.2; omega⟩
 have HALL : Aside0 (∀ i, i < l0.length → 0 ≤ (l0.getD i z72).f0 ∧ (l0.getD i z72).f0 ≤ 7) := ⟨fun i hi => by
  have h1 := hok.1; simp only [reachOk, Bool.and_eq_true, decide_eq_true_eq, List.all_eq_true] at h1; have := (h1.2.2 _ (List.getElem_mem hi)).1
  simpa [List.getD_eq_getElem?_getD, List.getElem?_eq_getElem hi] using this⟩
 have HRES := za hr; clear hr hr0 hc0 hok
 have HCALL : Aside0 (∀ (A1 : Option Addr) (c1 : Nat) (W : World), Below w.heap.size w W → Kd.C (Kd.int .i64) W A1 l0.length (List.replicate l0.length 0) → l0.length ≤ c1 → Calls Try.prog 53 #[.slice A0 l0.length c0, .slice A1 l0.length c1, .int .i64 a1, .int .i64 0] W fun e w' => e = .returned (.agg (arrOf (hangOf l0 a1))) ∧ Below W.heap.size W w') := ⟨fun A1 c1 W hb hC hc => by
  have := impl_reach.calls A0 c0 l0 A1 c1 (List.replicate l0.length 0) a1 0 (hangOf l0 a1) W (zG HR0.1 hb) HC0.1 (by rw [List.length_replicate]; exact hC) (by rw [List.length_replicate]; exact hc) (qK69); rwa [List.length_replicate] at this⟩
 obtain ⟨B, hB⟩ : ∃ B, B = hangOf l0 a1 := ⟨_, rfl⟩
 have h8 : B.length = 8 := by rw [hB]; exact reachOf_length _ _ _ _
 rw [← hB] at HCALL HRES; clear hB
 obtain ⟨b0, b1, b2, b3, b4, b5, b6, b7, hb8⟩ : ∃ b0 b1 b2 b3 b4 b5 b6 b7, B = [b0, b1, b2, b3, b4, b5, b6, b7] := by
  match B, h8 with
  | [b0, b1, b2, b3, b4, b5, b6, b7], _ => exact ⟨_, _, _, _, _, _, _, _, rfl⟩
 have H8 := za h8; have HBB : Aside0 (arrOf B = #[.bool b0, .bool b1, .bool b2, .bool b3, .bool b4, .bool b5, .bool b6, .bool b7]) := ⟨by rw [hb8]; rfl⟩; clear h8 hb8; rw [HBB.1] at HCALL
 go_enter Try.func31, Try.ntmps31
 go_wp2_with (first | ((with_reducible refine zq (N := 12) rfl ?_); refine Kd.R_make (Kd.int .i64) _ 3 rfl (N := 12) rfl 32 _ _ rfl (l0.length : Int) rfl rfl Try.underlying32 (.int .i64 0) 8 info3 rfl (by decide) (by omega) 0 (ok := fun _ => True) (okp := fun _ => True) rfl (fun _ hk => hk) trivial H12.1.1 H12.1.2 (zs _ _) (zo _) ?_; intro v430 w12 ho13 hb hg_ hnew_; clear hg_ hnew_; obtain ⟨A1, c1, hv, hc1, hC⟩ := Kd.R_reads ho13; rw [hv]; clear hv ho13; rw [Int.toNat_natCast, List.length_replicate] at hC hc1; rw [Int.toNat_natCast, List.length_replicate]; have HB := za hb; have HC1 := za hC; have HCC1 := za hc1; clear hb hC hc1) | (go_at_call 53; refine (HCALL.1 _ _ _ HB.1 HC1.1 HCC1.1).mono ?_; rintro e w1 ⟨rfl, hb⟩))
 obtain ⟨g, hg⟩ : ∃ g, g = w1.heap.size := ⟨_, rfl⟩; rw [← hg]; have HW1 : Aside0 (Below w.heap.size w w1) := ⟨HB.1.trans (hb.mono HB.1.size)⟩; have HG : Aside0 (w.heap.size ≤ g) := ⟨by rw [hg]; exact HW1.1.size⟩; have HGS : Aside0 ((w1.alloc (.cells #[.bool b0, .bool b1, .bool b2, .bool b3, .bool b4, .bool b5, .bool b6, .bool b7] 77 (0, 0))).heap[g]? = some (.cells (arrOf B) 77 (0, 0))) := ⟨by rw [hg, HBB.1]; exact blk_new _ _⟩; clear hb hg HCALL
 go_loopg [6, 17] l0.length (fun kq v6 v17 w' => ∃ (s x : Int), v6 = .int .i64 s ∧ v17 = .int .i64 x ∧ Aside0 (0 ≤ x ∧ kq + x.toNat = l0.length ∧ lengthFrom l0 B kq x.toNat s = r) ∧ Aside0 (w'.heap[g]? = some (.cells (arrOf B) 77 (0, 0))) ∧ Aside0 (Below w.heap.size w w'))
 case atStart => exact ⟨0, 0, rfl, rfl, ⟨by omega, by simp, HRES.1⟩, HGS, ⟨zZ HW1.1 _⟩⟩
 case round =>
  obtain ⟨s, x, rfl, rfl, HA, HK, HBR⟩ := hrel
  by_cases hlt : x < (l0.length : Int)
  ·have d0 : decide (x < (l0.length : Int)) = true := zc hlt; have HLT := za hlt; obtain ⟨ad, e, hx0, hx1, hx2, hx3, hx4⟩ := at_T72 (zG HR0.1 HBR.1) x HA.1.1 hlt; cases e; have px := zw HA.1.1; have qx := zw hlt; clear hlt; obtain ⟨k1, rfl⟩ : ∃ k1, gk = k1 + 1 := ⟨gk - 1, by have := HA.1; have := HLT.1; omega⟩; have HXB := za (HALL.1 x.toNat (by have := HA.1; have := HLT.1; omega)); obtain ⟨a, ha⟩ : ∃ a : Int, a = (rd_T72 l0 x).f0 := ⟨_, rfl⟩; rw [← ha] at hx0; have HAB : Aside0 (0 ≤ a ∧ a ≤ 7) := ⟨by rw [ha]; exact HXB.1⟩; have NA := za ha; clear ha; have pa := zw HAB.1.1; have qa : (a < 8) = True := zw (by have := HAB.1; omega); have hgl : g < wr.heap.size := blk_lt HK.1
   have hxw : (wrap64 (x + 1)).toNat = x.toNat + 1 := by have := HA.1; have := HLT.1; have := HM0.1; unfold wrap64; omega
   have HXW := za hxw; clear hxw
   cases hv : B.getD a.toNat false with
   | true =>
    have ha7 : wr.cell? ⟨g, a.toNat, none⟩ = some (.bool true) := (zf HK.1 _).trans ((arrOf_get (by have := HAB.1; have := H8.1; omega)).trans (by rw [hv])); have HV := za hv; clear hv; have AL : ∀ (o : Obj) (p : Addr) (v : Value), wr.cell? p = some v → (wr.alloc o).cell? p = some v := fun o p v h => ((zZ (zs wr.heap.size wr) o).cell (zd wr _ h)).trans h; have ha8 := AL (.cells #[.int .i64 a, .int .i64 (rd_T72 l0 x).f1, .int .i64 (rd_T72 l0 x).f2, .int .i64 (rd_T72 l0 x).f3, .int .i64 (rd_T72 l0 x).f4] 72 (0, 0)) _ _ ha7; clear AL
    go_wp2
    go_roundg k1
    case measure => omega
    case rel => exact ⟨wrap64 (s + (rd_T72 l0 x).f2), wrap64 (x + 1), rfl, rfl, ⟨by have := HA.1; have := HXW.1; have := HLT.1; have := HM0.1; unfold wrap64; omega, by have := HA.1; have := HXW.1; omega, by
     rw [← HA.1.2.2, HXW.1]
     show _ = lengthFrom l0 B k1 (x.toNat + 1) (if B.getD (rd_T72 l0 x).f0.toNat false = true then wrap64 (s + (rd_T72 l0 x).f2) else s)
     rw [← NA.1, yb HV.1]⟩, ⟨zg HK.1 _⟩, ⟨zZ HBR.1 _⟩⟩
   | false =>
    have ha7 : wr.cell? ⟨g, a.toNat, none⟩ = some (.bool false) := (zf HK.1 _).trans ((arrOf_get (by have := HAB.1; have := H8.1; omega)).trans (by rw [hv])); have HV := za hv; clear hv; have AL : ∀ (o : Obj) (p : Addr) (v : Value), wr.cell? p = some v → (wr.alloc o).cell? p = some v := fun o p v h => ((zZ (zs wr.heap.size wr) o).cell (zd wr _ h)).trans h; have ha8 := AL (.cells #[.int .i64 a, .int .i64 (rd_T72 l0 x).f1, .int .i64 (rd_T72 l0 x).f2, .int .i64 (rd_T72 l0 x).f3, .int .i64 (rd_T72 l0 x).f4] 72 (0, 0)) _ _ ha7; clear AL
    go_wp2
    go_roundg k1
    case measure => omega
    case rel => exact ⟨s, wrap64 (x + 1), rfl, rfl, ⟨by have := HA.1; have := HXW.1; have := HLT.1; have := HM0.1; unfold wrap64; omega, by have := HA.1; have := HXW.1; omega, by
     rw [← HA.1.2.2, HXW.1]
     show _ = lengthFrom l0 B k1 (x.toNat + 1) (if B.getD (rd_T72 l0 x).f0.toNat false = true then wrap64 (s + (rd_T72 l0 x).f2) else s)
     rw [← NA.1, yc (by rw [HV.1]; decide)]⟩, ⟨zg HK.1 _⟩, ⟨zZ HBR.1 _⟩⟩
  ·have d0 : decide (x < (l0.length : Int)) = false := zv hlt; have HLT := za hlt; clear hlt
   obtain rfl : gk = 0 := by have := HA.1; have := HLT.1; omega
   go_wp2
   go_ret
   exact ⟨by rw [← HA.1.2.2]; rfl, HBR.1⟩


def impl_CaveLength.f (k : Nat) (l0 : List (S72)) (a1 : Int) : Option (Int × Bool) := (impl_areLegs.f k l0).bind fun t483 => (if t483 = true then ((impl_isStation.f a1).bind fun t484 => (if t484 = true then ((impl_caveLength.f l0 a1).bind fun t485 => (some (t485, true))) else (some (0, false)))) else (some (0, false)))
theorem impl_CaveLength.calls (k : Nat) (A0 : Option Addr) (c0 : Nat) (l0 : List (S72)) (a1 : Int) (r1 : Int) (r2 : Bool) (w : World) (hr0 : Kd.C k72 w A0 l0.length l0) (hc0 : l0.length ≤ c0) (h : impl_CaveLength.f k l0 a1 = some (r1, r2)) :
  Calls Try.prog 9 #[.slice A0 l0.length c0, .int .i64 a1] w fun e w' => e = .returned (.tuple #[.int .i64 r1, .bool r2]) ∧ Below w.heap.size w w' := by
 have HR0 := za hr0; have HC0 := za hc0; clear hr0 hc0; have HB := za (zs w.heap.size w); have H : ((impl_areLegs.f k l0).bind fun t483 => (if t483 = true then ((impl_isStation.f a1).bind fun t484 => (if t484 = true then ((impl_caveLength.f l0 a1).bind fun t485 => (some (t485, true))) else (some (0, false)))) else (some (0, false)))) = some (r1, r2) := h; clear h; replace H := bindA H; obtain ⟨t483, A3, H⟩ := H; (try dsimp only at H)
 by_cases c4 : t483 = true
 ·subst c4; rw [yb rfl] at H; replace H := bindA H; obtain ⟨t484, A5, H⟩ := H; (try dsimp only at H)
  by_cases c6 : t484 = true
  ·subst c6; rw [yb rfl] at H; replace H := zC H; obtain ⟨t485, A70, H⟩ := H; replace H : (some (t485, true)) = some (r1, r2) := H; have A7 := za A70; clear A70; simp only [yd, ye] at H; obtain ⟨rfl, rfl⟩ := H
   go_enter Try.func9, Try.ntmps9
   go_wp2_with (first | ((with_reducible refine zp (f := 25) rfl ?_); refine zV (some 7) rfl rfl Try.func25 (qK25) rfl #[.slice A0 l0.length c0] rfl (qK2) ?_; (with_reducible refine (impl_areLegs.calls k _ _ l0 true _ ?s1 ?s2 A3.1).mono ?_); (case s1 => exact (qK21 HR0.1)); (case s2 => exact HC0.1); rintro e w8 ⟨rfl, hb⟩; refine ⟨_, rfl, ?_⟩; replace HB := za qK73; clear hb) | (go_at_call 30; (with_reducible refine (impl_isStation.calls a1 true _ A5.1).mono ?_); rintro e w' ⟨rfl, ⟨nd, rfl⟩⟩) | ((with_reducible refine zp (f := 31) rfl ?_); refine zV (some 16) rfl rfl Try.func31 (qK25) rfl #[.slice A0 l0.length c0, .int .i64 a1] rfl (qK2) ?_; (with_reducible refine (impl_caveLength.calls _ _ l0 a1 t485 _ ?s1 ?s2 A7.1).mono ?_); (case s1 => exact (qK92)); (case s2 => exact HC0.1); rintro e w9 ⟨rfl, hb⟩; refine ⟨_, rfl, ?_⟩; replace HB := za qK73; clear hb))
   go_ret2
   exact ⟨(qK11), (qK0)⟩
  ·replace c6 := zn c6; subst c6; rw [yc (show ¬ (false = true) by decide)] at H; simp only [yd, ye] at H; obtain ⟨rfl, rfl⟩ := H
   go_enter Try.func9, Try.ntmps9
   go_wp2_with (first | ((with_reducible refine zp (f := 25) rfl ?_); refine zV (some 7) rfl rfl Try.func25 (qK25) rfl #[.slice A0 l0.length c0] rfl (qK2) ?_; (with_reducible refine (impl_areLegs.calls k _ _ l0 true _ ?s1 ?s2 A3.1).mono ?_); (case s1 => exact (qK21 HR0.1)); (case s2 => exact HC0.1); rintro e w10 ⟨rfl, hb⟩; refine ⟨_, rfl, ?_⟩; replace HB := za qK73; clear hb) | (go_at_call 30; (with_reducible refine (impl_isStation.calls a1 false _ A5.1).mono ?_); rintro e w' ⟨rfl, ⟨nd, rfl⟩⟩))
   go_ret2
   exact ⟨(qK11), (qK0)⟩
 ·replace c4 := zn c4; subst c4; rw [yc (show ¬ (false = true) by decide)] at H; simp only [yd, ye] at H; obtain ⟨rfl, rfl⟩ := H
  go_enter Try.func9, Try.ntmps9
  go_wp2_with (first | ((with_reducible refine zp (f := 25) rfl ?_); refine zV (some 7) rfl rfl Try.func25 (qK25) rfl #[.slice A0 l0.length c0] rfl (qK2) ?_; (with_reducible refine (impl_areLegs.calls k _ _ l0 false _ ?s1 ?s2 A3.1).mono ?_); (case s1 => exact (qK21 HR0.1)); (case s2 => exact HC0.1); rintro e w11 ⟨rfl, hb⟩; refine ⟨_, rfl, ?_⟩; replace HB := za qK73; clear hb))
  go_ret2
  exact ⟨(qK11), (qK0)⟩

def impl_legsLength.l0 : Nat → Int → List (S72) → Int → Int → Option (Int)
 | 0, _, _, _, _ => none
 | k + 1, x3, x6, x7, x8 => if x8 < x7 then (if 0 ≤ x8 then (if x8 < (x6.length : Int) then (impl_legsLength.l0 k (wrap64 (x3 + ((rd_T72 x6 x8).f2))) x6 x7 (wrap64 (x8 + 1))) else (none)) else (none)) else (some x3)
def impl_legsLength.f (k : Nat) (l0 : List (S72)) : Option (Int) := impl_legsLength.l0 k 0 l0 (l0.length : Int) 0
theorem impl_legsLength.calls (k : Nat) (A0 : Option Addr) (c0 : Nat) (l0 : List (S72)) (r : Int) (w : World) (hr0 : Kd.C k72 w A0 l0.length l0) (hc0 : l0.length ≤ c0) (h : impl_legsLength.f k l0 = some r) :
  Calls Try.prog 32 #[.slice A0 l0.length c0] w fun e w' => e = .returned (.int .i64 r) ∧ Below w.heap.size w w' := by
 have hu72 := Try.underlying72; have HR0 := za hr0; have HC0 := za hc0; clear hr0 hc0; have HB := za (zs w.heap.size w); have H : (impl_legsLength.l0 k 0 l0 (l0.length : Int) 0) = some r := h; clear h; have H' := za H; clear H
 go_enter Try.func32, Try.ntmps32
 go_wp2
 go_loopg [3, 8] k (fun kq v3 v8 w' => ∃ (x3_1 : Int) (x8_1 : Int), v3 = .int .i64 x3_1 ∧ v8 = .int .i64 x8_1 ∧ Aside0 (impl_legsLength.l0 kq x3_1 l0 (l0.length : Int) x8_1 = some r) ∧ Aside0 (kq ≤ k) ∧ Aside0 (Below w.heap.size w w'))
 case atStart => exact ⟨(0), (0), (qK10), (qK10), H', ⟨zo _⟩, ⟨(qK0)⟩⟩
 case round =>
  clear H'; obtain ⟨x3_1, x8_1, rfl, rfl, HA, HK1, HB⟩ := hrel
  cases gk with
  | zero => exact absurd HA.1 (by simp [impl_legsLength.l0])
  | succ k1 =>
   have H := HA.1; clear HA; simp only [impl_legsLength.l0] at H
   by_cases c2 : x8_1 < (l0.length : Int)
   ·rw [yb c2] at H; have c2b0 : decide (x8_1 < (l0.length : Int)) = true := zc c2; clear c2
    by_cases c3 : 0 ≤ x8_1
    ·rw [yb c3] at H; have c3b0 : decide (0 ≤ x8_1) = true := zc c3; clear c3
     by_cases c4 : x8_1 < (l0.length : Int)
     ·rw [yb c4] at H; have c4b0 : decide (x8_1 < (l0.length : Int)) = true := zc c4; clear c4; have H' := za H; clear H; have p486 : 0 ≤ (x8_1 : Int) := zb (qK7); have q486 : x8_1 < (l0.length : Int) := zb (qK7); obtain ⟨ad486, e486, hx486_0, hx486_1, hx486_2, hx486_3, hx486_4⟩ := at_T72 HR0.1 x8_1 p486 q486; cases e486; replace hx486_0 := (HB.1.cell (zd w _ hx486_0)).trans hx486_0; replace hx486_1 := (HB.1.cell (zd w _ hx486_1)).trans hx486_1; replace hx486_2 := (HB.1.cell (zd w _ hx486_2)).trans hx486_2; replace hx486_3 := (HB.1.cell (zd w _ hx486_3)).trans hx486_3; replace hx486_4 := (HB.1.cell (zd w _ hx486_4)).trans hx486_4; replace p486 := zw p486; replace q486 := zw q486
      go_wp2_with (first | ((with_reducible refine zq (N := 5) rfl ?_); refine zB ?hg (N := 5) ?hd (cs := #[.int .i64 0, .int .i64 0, .int .i64 0, .int .i64 0, .int .i64 0]) (t := 72) ?hr ?_; (case hd | hg => rfl); (case hr => exact (qK23)); intro gb487 hg w5 hbox hb; have BK487 := za hbox; have GW487 := za (by exact (by rw [hg]; exact (zX (qK0)) : w.heap.size ≤ gb487)); have GE487 := za (by exact (by rw [hg]; exact (zX (qK0)) : w.heap.size ≤ gb487)); replace HB := za qK73; clear hb hbox hg; have hcz6_0 : w5.cell? ⟨gb487, 0, none⟩ = some (.int .i64 0) := (zf BK487.1 0).trans rfl; have hcz6_1 : w5.cell? ⟨gb487, 1, none⟩ = some (.int .i64 0) := (zf BK487.1 1).trans rfl; have hcz6_2 : w5.cell? ⟨gb487, 2, none⟩ = some (.int .i64 0) := (zf BK487.1 2).trans rfl; have hcz6_3 : w5.cell? ⟨gb487, 3, none⟩ = some (.int .i64 0) := (zf BK487.1 3).trans rfl; have hcz6_4 : w5.cell? ⟨gb487, 4, none⟩ = some (.int .i64 0) := (zf BK487.1 4).trans rfl; have hfz6_0 := ze BK487.1 0; have hfz6_1 := ze BK487.1 1; have hfz6_2 := ze BK487.1 2; have hfz6_3 := ze BK487.1 3; have hfz6_4 := ze BK487.1 4))
      go_roundg k1
      case measure => have := HK1.1; omega
      case rel => exact ⟨(wrap64 (x3_1 + ((rd_T72 l0 x8_1).f2))), (wrap64 (x8_1 + 1)), (qK10), (qK10), H', ⟨by have := HK1.1; omega⟩, ⟨(qK19 GE487.1)⟩⟩
     ·rw [yc c4] at H
      exact absurd H (by simp)
    ·rw [yc c3] at H
     exact absurd H (by simp)
   ·rw [yc c2] at H; have c2b0 : decide (x8_1 < (l0.length : Int)) = false := zv c2; clear c2; obtain rfl := zm H
    go_wp2
    go_ret
    exact ⟨(qK11), (qK0)⟩

def impl_LegsLength.f (k : Nat) (l0 : List (S72)) : Option (Int × Bool) := (impl_areLegs.f k l0).bind fun t488 => (if t488 = true then ((impl_legsLength.f k l0).bind fun t489 => (some (t489, true))) else (some (0, false)))
theorem impl_LegsLength.calls (k : Nat) (A0 : Option Addr) (c0 : Nat) (l0 : List (S72)) (r1 : Int) (r2 : Bool) (w : World) (hr0 : Kd.C k72 w A0 l0.length l0) (hc0 : l0.length ≤ c0) (h : impl_LegsLength.f k l0 = some (r1, r2)) :
  Calls Try.prog 10 #[.slice A0 l0.length c0] w fun e w' => e = .returned (.tuple #[.int .i64 r1, .bool r2]) ∧ Below w.heap.size w w' := by
 have HR0 := za hr0; have HC0 := za hc0; clear hr0 hc0; have HB := za (zs w.heap.size w); have H : ((impl_areLegs.f k l0).bind fun t488 => (if t488 = true then ((impl_legsLength.f k l0).bind fun t489 => (some (t489, true))) else (some (0, false)))) = some (r1, r2) := h; clear h; replace H := bindA H; obtain ⟨t488, A2, H⟩ := H; (try dsimp only at H)
 by_cases c3 : t488 = true
 ·subst c3; rw [yb rfl] at H; replace H := zC H; obtain ⟨t489, A40, H⟩ := H; replace H : (some (t489, true)) = some (r1, r2) := H; have A4 := za A40; clear A40; simp only [yd, ye] at H; obtain ⟨rfl, rfl⟩ := H
  go_enter Try.func10, Try.ntmps10
  go_wp2_with (first | ((with_reducible refine zp (f := 25) rfl ?_); refine zV (some 5) rfl rfl Try.func25 (qK25) rfl #[.slice A0 l0.length c0] rfl (qK2) ?_; (with_reducible refine (impl_areLegs.calls k _ _ l0 true _ ?s1 ?s2 A2.1).mono ?_); (case s1 => exact (qK21 HR0.1)); (case s2 => exact HC0.1); rintro e w5 ⟨rfl, hb⟩; refine ⟨_, rfl, ?_⟩; replace HB := za qK73; clear hb) | ((with_reducible refine zp (f := 32) rfl ?_); refine zV (some 8) rfl rfl Try.func32 (qK25) rfl #[.slice A0 l0.length c0] rfl (qK2) ?_; (with_reducible refine (impl_legsLength.calls k _ _ l0 t489 _ ?s1 ?s2 A4.1).mono ?_); (case s1 => exact (qK9 HR0.1)); (case s2 => exact HC0.1); rintro e w6 ⟨rfl, hb⟩; refine ⟨_, rfl, ?_⟩; replace HB := za qK73; clear hb))
  go_ret2
  exact ⟨(qK11), (qK0)⟩
 ·replace c3 := zn c3; subst c3; rw [yc (show ¬ (false = true) by decide)] at H; simp only [yd, ye] at H; obtain ⟨rfl, rfl⟩ := H
  go_enter Try.func10, Try.ntmps10
  go_wp2_with (first | ((with_reducible refine zp (f := 25) rfl ?_); refine zV (some 5) rfl rfl Try.func25 (qK25) rfl #[.slice A0 l0.length c0] rfl (qK2) ?_; (with_reducible refine (impl_areLegs.calls k _ _ l0 false _ ?s1 ?s2 A2.1).mono ?_); (case s1 => exact (qK21 HR0.1)); (case s2 => exact HC0.1); rintro e w7 ⟨rfl, hb⟩; refine ⟨_, rfl, ?_⟩; replace HB := za qK73; clear hb))
  go_ret2
  exact ⟨(qK11), (qK0)⟩

def impl_LongestCave.l0 : Nat → List (S72) → Int → Int → List (List Int) → Int → Int → Option (Int × Int × Bool)
 | 0, _, _, _, _, _, _ => none
 | k + 1, x0, x5, x6, x14, x15, x16 => if x16 < x15 then (if 0 ≤ x16 then (if x16 < (x14.length : Int) then (if 0 < ((rd_L5 x14 x16).length : Int) then ((impl_caveLength.f x0 (rd (rd_L5 x14 x16) 0)).bind fun t496 => (if t496 > x6 then (impl_LongestCave.l0 k x0 (rd (rd_L5 x14 x16) 0) t496 x14 x15 (wrap64 (x16 + 1))) else (impl_LongestCave.l0 k x0 x5 x6 x14 x15 (wrap64 (x16 + 1))))) else (none)) else (none)) else (none)) else (some (x5, x6, decide (x6 > 0)))
def impl_LongestCave.f (k : Nat) (l0 : List (S72)) : Option (Int × Int × Bool) := (impl_areLegs.f k l0).bind fun t490 => (if t490 = true then ((impl_caves.f k l0).bind fun t491 => (impl_LongestCave.l0 k l0 0 0 t491 (t491.length : Int) 0)) else (some (0, 0, false)))
set_option maxHeartbeats 8000000 in
set_option maxRecDepth 100000 in
theorem impl_LongestCave.calls (k : Nat) (A0 : Option Addr) (c0 : Nat) (l0 : List (S72)) (r1 : Int) (r2 : Int) (r3 : Bool) (w : World) (hr0 : Kd.C k72 w A0 l0.length l0) (hc0 : l0.length ≤ c0) (h : impl_LongestCave.f k l0 = some (r1, r2, r3)) :
  Calls Try.prog 11 #[.slice A0 l0.length c0] w fun e w' => e = .returned (.tuple #[.int .i64 r1, .int .i64 r2, .bool r3]) ∧ Below w.heap.size w w' := by
 have HR0 := za hr0; have HC0 := za hc0; clear hr0 hc0; have HB := za (zs w.heap.size w); have H : ((impl_areLegs.f k l0).bind fun t490 => (if t490 = true then ((impl_caves.f k l0).bind fun t491 => (impl_LongestCave.l0 k l0 0 0 t491 (t491.length : Int) 0)) else (some (0, 0, false)))) = some (r1, r2, r3) := h; clear h; replace H := bindA H; obtain ⟨t490, A2, H⟩ := H; (try dsimp only at H)
 by_cases c3 : t490 = true
 ·subst c3; rw [yb rfl] at H; replace H := bindA H; obtain ⟨t491, A4, H⟩ := H; (try dsimp only at H); have H' := za H; clear H
  go_enter Try.func11, Try.ntmps11
  go_wp2_with (first | ((with_reducible refine zp (f := 25) rfl ?_); refine zV (some 11) rfl rfl Try.func25 (qK25) rfl #[.slice A0 l0.length c0] rfl (qK2) ?_; (with_reducible refine (impl_areLegs.calls k _ _ l0 true _ ?s1 ?s2 A2.1).mono ?_); (case s1 => exact (qK21 HR0.1)); (case s2 => exact HC0.1); rintro e w5 ⟨rfl, hb⟩; refine ⟨_, rfl, ?_⟩; replace HB := za qK73; clear hb) | ((with_reducible refine zp (f := 26) rfl ?_); refine zV (some 14) rfl rfl Try.func26 (qK25) rfl #[.slice A0 l0.length c0] rfl (qK2) ?_; (with_reducible refine (impl_caves.calls k _ _ l0 t491 _ ?s1 ?s2 A4.1).mono ?_); (case s1 => exact (qK9 HR0.1)); (case s2 => exact HC0.1); rintro e w6 ⟨v492, rfl, ho0, hb⟩; refine ⟨_, rfl, ?_⟩; have HO493 := za (qK115 ho0); replace HB := za qK73; clear hb ho0; obtain ⟨Ao7, co7, eo7⟩ := Kd.S_slice HO493.1; subst eo7))
  go_loopg [5, 6, 16] k (fun kq v5 v6 v16 w' => ∃ (x5_1 : Int) (x6_1 : Int) (x16_1 : Int), v5 = .int .i64 x5_1 ∧ v6 = .int .i64 x6_1 ∧ v16 = .int .i64 x16_1 ∧ Aside0 (impl_LongestCave.l0 kq l0 x5_1 x6_1 t491 (t491.length : Int) x16_1 = some (r1, r2, r3)) ∧ Aside0 (kq ≤ k) ∧ Aside0 (Kd.S (Kd.slice 3 (Kd.int .i64)) 32 w' w.heap.size (fun _ => True) (.slice Ao7 t491.length co7) t491) ∧ Aside0 (Below w.heap.size w w'))
  case atStart => exact ⟨(0), (0), (0), (qK10), (qK10), (qK10), H', ⟨zo _⟩, ⟨(qK32 HO493.1)⟩, ⟨(qK0)⟩⟩
  case round =>
   clear H'; (try clear c1); (try clear c2); (try clear p2); (try clear c3); obtain ⟨x5_1, x6_1, x16_1, rfl, rfl, rfl, HA, HK1, HO_14, HB⟩ := hrel
   cases gk with
   | zero => exact absurd HA.1 (by simp [impl_LongestCave.l0])
   | succ k1 =>
    have H := HA.1; clear HA; simp only [impl_LongestCave.l0] at H
    by_cases c8 : x16_1 < (t491.length : Int)
    ·rw [yb c8] at H; have c8b0 : decide (x16_1 < (t491.length : Int)) = true := zc c8; clear c8
     by_cases c9 : 0 ≤ x16_1
     ·rw [yb c9] at H; have c9b0 : decide (0 ≤ x16_1) = true := zc c9; clear c9
      by_cases c10 : x16_1 < (t491.length : Int)
      ·rw [yb c10] at H; have c10b0 : decide (x16_1 < (t491.length : Int)) = true := zc c10; clear c10
       by_cases c11 : 0 < ((rd_L5 t491 x16_1).length : Int)
       ·rw [yb c11] at H; have c11b0 : decide (0 < ((rd_L5 t491 x16_1).length : Int)) = true := zc c11; have c11b1 : decide (0 < (rd_L5 t491 x16_1).length) = true := zc (by omega); clear c11; replace H := bindA H; obtain ⟨t496, A12, H⟩ := H; (try dsimp only at H)
        by_cases c13 : t496 > x6_1
        ·rw [yb c13] at H; have c13b0 : decide (x6_1 < t496) = true := zc c13; clear c13; have H' := za H; clear H; have p494 : 0 ≤ (x16_1 : Int) := zb (qK7); have q494 : x16_1 < (t491.length : Int) := zb (qK7); obtain ⟨ad494, A494_0, c494_0, e494, hx494_0, hl494_0, hi494_0⟩ := at_L5 (Kd.S_reads' HO_14.1).2.2 x16_1 p494 q494; cases e494; obtain ⟨ce494, hce494, hMe494, hcc494⟩ := Kd.S_get HO_14.1 [] x16_1 p494 (qK109); obtain ⟨ve494_0, rfl, ge494_0⟩ := hMe494; have hv494_0 := hcc494 0 _ rfl; rw [Nat.add_zero, show ((Kd.slice 3 (Kd.int .i64))).sz = 1 from rfl, Nat.mul_one] at hv494_0; replace hv494_0 := zm (hv494_0.symm.trans hx494_0); rw [hv494_0] at ge494_0; have HL494_0 := za (by exact show Kd.R (Kd.int .i64) 3 _ _ _ _ (rd_L5 t491 x16_1) from ge494_0); clear hv494_0 ge494_0; clear hcc494 hce494; have HR494_0 := za hi494_0; have HC494_0 := za hl494_0; clear hi494_0 hl494_0; replace p494 := zw p494; replace q494 := zw q494; have p495 : 0 ≤ (0 : Int) := (by omega); have q495 : 0 < ((rd_L5 t491 x16_1).length : Int) := zb (qK7); obtain ⟨ad495, e495, hx495_0⟩ := zJ (qK36) 0 p495 q495; cases e495; have qi495 : (0 < (rd_L5 t491 x16_1).length) = True := zw (by omega)
         (try rw [show ((0 : Int)).toNat = 0 from rfl] at hx495_0)
         (try rw [Addr.add_zero'] at hx495_0); replace p495 := zw p495; replace q495 := zw q495
         go_wp2_with (first | ((with_reducible refine zp (f := 31) rfl ?_); refine zV (some 24) rfl rfl Try.func31 (qK25) rfl #[.slice A0 l0.length c0, .int .i64 (rd (rd_L5 t491 x16_1) 0)] rfl (qK2) ?_; (with_reducible refine (impl_caveLength.calls _ _ l0 (rd (rd_L5 t491 x16_1) 0) t496 _ ?s1 ?s2 A12.1).mono ?_); (case s1 => exact (qK9 HR0.1)); (case s2 => exact HC0.1); rintro e w14 ⟨rfl, hb⟩; refine ⟨_, rfl, ?_⟩; replace HO_14 := za (by exact Kd.S_below (qK32 HO_14.1) hb); replace HL494_0 := za qK67; replace HR494_0 := za (zG (qK36) hb); replace HB := za qK73; clear hb; have p497 : 0 ≤ (0 : Int) := (by omega); have q497 : 0 < ((rd_L5 t491 x16_1).length : Int) := zb (qK7); obtain ⟨ad497, e497, hx497_0⟩ := zJ (qK36) 0 p497 q497; obtain rfl : ad495 = ad497 := (by injection e497); have qi497 : (0 < (rd_L5 t491 x16_1).length) = True := zw (by omega); (try rw [show ((0 : Int)).toNat = 0 from rfl] at hx497_0); (try rw [Addr.add_zero'] at hx497_0); replace p497 := zw p497; replace q497 := zw q497))
         go_roundg k1
         case measure => have := HK1.1; omega
         case rel => exact ⟨(rd (rd_L5 t491 x16_1) 0), (t496), (wrap64 (x16_1 + 1)), (qK10), (qK10), (qK10), H', ⟨by have := HK1.1; omega⟩, ⟨(qK32 HO_14.1)⟩, ⟨(qK0)⟩⟩
        ·rw [yc c13] at H; have c13b0 : decide (x6_1 < t496) = false := zv c13; clear c13; have H' := za H; clear H; have p494 : 0 ≤ (x16_1 : Int) := zb (qK7); have q494 : x16_1 < (t491.length : Int) := zb (qK7); obtain ⟨ad494, A494_0, c494_0, e494, hx494_0, hl494_0, hi494_0⟩ := at_L5 (Kd.S_reads' HO_14.1).2.2 x16_1 p494 q494; cases e494; obtain ⟨ce494, hce494, hMe494, hcc494⟩ := Kd.S_get HO_14.1 [] x16_1 p494 (qK109); obtain ⟨ve494_0, rfl, ge494_0⟩ := hMe494; have hv494_0 := hcc494 0 _ rfl; rw [Nat.add_zero, show ((Kd.slice 3 (Kd.int .i64))).sz = 1 from rfl, Nat.mul_one] at hv494_0; replace hv494_0 := zm (hv494_0.symm.trans hx494_0); rw [hv494_0] at ge494_0; have HL494_0 := za (by exact show Kd.R (Kd.int .i64) 3 _ _ _ _ (rd_L5 t491 x16_1) from ge494_0); clear hv494_0 ge494_0; clear hcc494 hce494; have HR494_0 := za hi494_0; have HC494_0 := za hl494_0; clear hi494_0 hl494_0; replace p494 := zw p494; replace q494 := zw q494; have p495 : 0 ≤ (0 : Int) := (by omega); have q495 : 0 < ((rd_L5 t491 x16_1).length : Int) := zb (qK7); obtain ⟨ad495, e495, hx495_0⟩ := zJ (qK36) 0 p495 q495; cases e495; have qi495 : (0 < (rd_L5 t491 x16_1).length) = True := zw (by omega)
         (try rw [show ((0 : Int)).toNat = 0 from rfl] at hx495_0)
         (try rw [Addr.add_zero'] at hx495_0); replace p495 := zw p495; replace q495 := zw q495
         go_wp2_with (first | ((with_reducible refine zp (f := 31) rfl ?_); refine zV (some 24) rfl rfl Try.func31 (qK25) rfl #[.slice A0 l0.length c0, .int .i64 (rd (rd_L5 t491 x16_1) 0)] rfl (qK2) ?_; (with_reducible refine (impl_caveLength.calls _ _ l0 (rd (rd_L5 t491 x16_1) 0) t496 _ ?s1 ?s2 A12.1).mono ?_); (case s1 => exact (qK9 HR0.1)); (case s2 => exact HC0.1); rintro e w15 ⟨rfl, hb⟩; refine ⟨_, rfl, ?_⟩; replace HO_14 := za (by exact Kd.S_below (qK32 HO_14.1) hb); replace HL494_0 := za qK67; replace HR494_0 := za (zG (qK36) hb); replace HB := za qK73; clear hb))
         go_roundg k1
         case measure => have := HK1.1; omega
         case rel => exact ⟨(x5_1), (x6_1), (wrap64 (x16_1 + 1)), (qK10), (qK10), (qK10), H', ⟨by have := HK1.1; omega⟩, ⟨(qK32 HO_14.1)⟩, ⟨(qK0)⟩⟩
       ·rw [yc c11] at H
        exact absurd H (by simp)
      ·rw [yc c10] at H
       exact absurd H (by simp)
     ·rw [yc c9] at H
      exact absurd H (by simp)
    ·rw [yc c8] at H; have c8b0 : decide (x16_1 < (t491.length : Int)) = false := zv c8; clear c8; simp only [yd, ye] at H; obtain ⟨rfl, rfl, rfl⟩ := H
     go_wp2
     go_ret3
     exact ⟨(qK11), (qK0)⟩
 ·replace c3 := zn c3; subst c3; rw [yc (show ¬ (false = true) by decide)] at H; simp only [yd, ye] at H; obtain ⟨rfl, rfl, rfl⟩ := H
  go_enter Try.func11, Try.ntmps11
  go_wp2_with (first | ((with_reducible refine zp (f := 25) rfl ?_); refine zV (some 11) rfl rfl Try.func25 (qK25) rfl #[.slice A0 l0.length c0] rfl (qK2) ?_; (with_reducible refine (impl_areLegs.calls k _ _ l0 false _ ?s1 ?s2 A2.1).mono ?_); (case s1 => exact (qK21 HR0.1)); (case s2 => exact HC0.1); rintro e w16 ⟨rfl, hb⟩; refine ⟨_, rfl, ?_⟩; replace HB := za qK73; clear hb))
  go_ret3
  exact ⟨(qK11), (qK0)⟩

def spec_l1Cur_entrances.l0 : Nat → List Int → Int → List Int → Int → Int → Option (List Int × Int × Int)
 | 0, _, _, _, _, _ => none
 | k + 1, x3, x4, x1000, x1001, x1002 => if x4 < 7 then ((spec_l1Cur_one.f x1000 x1001 x1002 3).bind fun bt501 => (if bt501.1 = true then (if x3.length < 17592186044416 then (spec_l1Cur_entrances.l0 k (x3 ++ [x4]) (wrap64 (x4 + 1)) x1000 bt501.2.1 bt501.2.2) else (none)) else (spec_l1Cur_entrances.l0 k x3 (wrap64 (x4 + 1)) x1000 bt501.2.1 bt501.2.2))) else ((spec_l1Cur_one.f x1000 x1001 x1002 24).bind fun bt507 => (if bt507.1 = true then ((spec_l1Cur_among.f x1000 bt507.2.1 bt507.2.2 (([0, 7, 8] : List Int))).bind fun bt513 => (if x3.length < 17592186044416 then (some ((x3 ++ [bt513.1]), bt513.2.1, bt513.2.2)) else (none))) else (some (x3, bt507.2.1, bt507.2.2))))
def spec_l1Cur_entrances.f (k : Nat) (s0_0 : List Int) (s0_1 : Int) (s0_2 : Int) : Option (List Int × Int × Int) := spec_l1Cur_entrances.l0 k (([] : List Int)) 0 s0_0 s0_1 s0_2
set_option maxHeartbeats 8000000 in
set_option maxRecDepth 100000 in
theorem spec_l1Cur_entrances.calls (k : Nat) (g : Nat) (s0_0 : List Int) (s0_1 : Int) (s0_2 : Int) (r1 : List Int) (r2 : Int) (r3 : Int) (w0 w : World) (hI : IsS54 w0 w g s0_0 s0_1 s0_2) (hB : Below w0.heap.size w0 w) (h : spec_l1Cur_entrances.f k s0_0 s0_1 s0_2 = some (r1, r2, r3)) :
  Calls Try.prog 33 #[.pointer (some ⟨g, 0, none⟩)] w fun e w' => ∃ v0_ : Value, e = .returned (v0_) ∧ Kd.R (Kd.int .i64) 3 w' w.heap.size (fun _ => True) v0_ r1 ∧ IsS54 w0 w' g s0_0 r2 r3 ∧ Below w0.heap.size w0 w' ∧ KeepBut w w' g none := by
 have HI0 := za hI; have HK := za (KeepBut.refl w g none); have HL := za hB.size; clear hI; have HW0 := za hB.size; have HB := za hB; clear hB; have H : (spec_l1Cur_entrances.l0 k (([] : List Int)) 0 s0_0 s0_1 s0_2) = some (r1, r2, r3) := h; clear h; obtain ⟨y498, hy498⟩ : ∃ y_ : List Int, y_ = (([] : List Int)) := ⟨_, rfl⟩; replace H : (spec_l1Cur_entrances.l0 k y498 0 s0_0 s0_1 s0_2) = some (r1, r2, r3) := (qK4 hy498); have Ny498 := za hy498; clear hy498; have H' := za H; clear H
 go_enter Try.func33, Try.ntmps33
 go_wp2_with (first | ((with_reducible refine zq (N := 5) rfl ?_); refine zQ (Kd.int .i64) _ 3 ?hg (N := 5) ?hd (xs := ([] : List Int)) (inner := []) (ok := fun _ => True) (okp := fun _ => True) ?hr ?hp (fun _ hk => hk) trivial (zs _ _) (zo _) (by simp) ?_; (case hd | hg => rfl); (case hr => exact (qK23)); (case hp => exact (zu _ _)); intro v499 w2 ho3 hb hg_ hnew_; clear hg_ hnew_; (first | rw [← Ny498.1] at ho3 | (simp only [Int.reduceToNat] at ho3; rw [← Ny498.1] at ho3)); have HO500 := za (qK90 ho3); replace HK := za qK79; replace HB := za (zW (qK6) hb); replace HI0 := za qK93; clear hb ho3))
 go_loopg [3, 4] k (fun kq v3 v4 w' => ∃ (x3_1 : List Int) (x4_1 : Int) (x1001_1 : Int) (x1002_1 : Int), v4 = .int .i64 x4_1 ∧ Aside0 (spec_l1Cur_entrances.l0 kq x3_1 x4_1 s0_0 x1001_1 x1002_1 = some (r1, r2, r3)) ∧ Aside0 (kq ≤ k) ∧ Aside0 (Kd.R (Kd.int .i64) 3 w' w.heap.size (fun _ => True) v3 x3_1) ∧ Aside0 (IsS54 w0 w' g s0_0 x1001_1 x1002_1) ∧ Aside0 (KeepBut w w' g none) ∧ Aside0 (Below w0.heap.size w0 w'))
 case atStart => exact ⟨(y498), (0), (s0_1), (s0_2), (qK10), H', ⟨zo _⟩, ⟨(qK1 HO500.1)⟩, ⟨(qK3)⟩, ⟨(qK5)⟩, ⟨(qK6)⟩⟩
 case round =>
  clear H'; (try clear p2); (try clear c3); obtain ⟨x3_1, x4_1, x1001_1, x1002_1, rfl, HA, HK1, HO_3, HI0, HK, HB⟩ := hrel
  cases gk with
  | zero => exact absurd HA.1 (by simp [spec_l1Cur_entrances.l0])
  | succ k1 =>
   have H := HA.1; clear HA; simp only [spec_l1Cur_entrances.l0] at H
   by_cases c4 : x4_1 < 7
   ·rw [yb c4] at H; have c4b0 : decide (x4_1 < 7) = true := zc c4; clear c4; replace H := bindA H; obtain ⟨⟨t501, t502, t503⟩, A5, H⟩ := H; (try dsimp only at H)
    by_cases c6 : t501 = true
    ·subst c6; rw [yb rfl] at H
     by_cases c7 : x3_1.length < 17592186044416
     ·rw [yb c7] at H; have LMc7 := za c7; clear c7; obtain ⟨y504, hy504⟩ : ∃ y_ : List Int, y_ = (x3_1 ++ [x4_1]) := ⟨_, rfl⟩; replace H : (spec_l1Cur_entrances.l0 k1 y504 (wrap64 (x4_1 + 1)) s0_0 t502 t503) = some (r1, r2, r3) := (qK4 hy504); have Ny504 := za hy504; clear hy504; have H' := za H; clear H
      go_wp2_with (first | ((with_reducible refine zp (f := 47) rfl ?_); refine zV (some 11) rfl rfl Try.func47 (qK25) rfl #[.pointer (some ⟨g, 0, none⟩), .int .i64 3] rfl (qK2) ?_; (with_reducible refine (spec_l1Cur_one.calls g s0_0 x1001_1 x1002_1 3 true t502 t503 w0 _ ?s1 ?s2 A5.1).mono ?_); (case s1 => exact (qK3)); (case s2 => exact (qK6)); rintro e w8 ⟨rfl, hi, hb, hk⟩; refine ⟨_, rfl, ?_⟩; replace HO_3 := za (qK72 HO_3.1); replace HK := za qK77; replace HB := za hb; replace HI0 := za hi; clear hb hk hi) | ((with_reducible refine zr (b := .append) (xs := #[.tmp 12, .tmp 14]) rfl ?_); at_builtin; refine Kd.R_append (Kd.int .i64) w.heap.size rfl (.tmp 12) (.tmp 14) 32 3 (.int .i64 0) 8 rfl Try.underlying32 info3 rfl (by decide) (by omega) u3 x3_1 x4_1 [.int .i64 x4_1] (fun _ => True) (fun _ => False) rfl rfl ?aP (fun _ hk => hk.elim) ?aF ?aO (zs _ _) ?aS ?aL ?_; (case aP => exact rfl); (case aF => exact (fun _ _ => trivial)); (case aO => exact (qK1 HO_3.1)); (case aS => exact (qK96)); (case aL => have := LMc7.1; omega); intro v505 w9 ho hb hg hat; rw [← Ny504.1] at ho; replace HB := za (below_weaken (qK6) HL.1 hb); replace HI0 := za (qK89 HO_3.1); replace HK := za (qK95 HO_3.1); have HO506 := za ho; clear HO_3; clear ho hb hg hat))
      go_roundg k1
      case measure => have := HK1.1; omega
      case rel => exact ⟨(y504), (wrap64 (x4_1 + 1)), (t502), (t503), (qK10), H', ⟨by have := HK1.1; omega⟩, ⟨(qK1 HO506.1)⟩, ⟨(qK3)⟩, ⟨(qK5)⟩, ⟨(qK6)⟩⟩
     ·rw [yc c7] at H
      exact absurd H (by simp)
    ·replace c6 := zn c6; subst c6; rw [yc (show ¬ (false = true) by decide)] at H; have H' := za H; clear H
     go_wp2_with (first | ((with_reducible refine zp (f := 47) rfl ?_); refine zV (some 11) rfl rfl Try.func47 (qK25) rfl #[.pointer (some ⟨g, 0, none⟩), .int .i64 3] rfl (qK2) ?_; (with_reducible refine (spec_l1Cur_one.calls g s0_0 x1001_1 x1002_1 3 false t502 t503 w0 _ ?s1 ?s2 A5.1).mono ?_); (case s1 => exact (qK3)); (case s2 => exact (qK6)); rintro e w10 ⟨rfl, hi, hb, hk⟩; refine ⟨_, rfl, ?_⟩; replace HO_3 := za (qK72 HO_3.1); replace HK := za qK77; replace HB := za hb; replace HI0 := za hi; clear hb hk hi))
     go_roundg k1
     case measure => have := HK1.1; omega
     case rel => exact ⟨(x3_1), (wrap64 (x4_1 + 1)), (t502), (t503), (qK10), H', ⟨by have := HK1.1; omega⟩, ⟨(qK1 HO_3.1)⟩, ⟨(qK3)⟩, ⟨(qK5)⟩, ⟨(qK6)⟩⟩
   ·rw [yc c4] at H; have c4b0 : decide (x4_1 < 7) = false := zv c4; clear c4; replace H := bindA H; obtain ⟨⟨t507, t508, t509⟩, A11, H⟩ := H; (try dsimp only at H)
    by_cases c12 : t507 = true
    ·subst c12; rw [yb rfl] at H; obtain ⟨y510, hy510⟩ : ∃ y_ : List Int, y_ = (([0, 7, 8] : List Int)) := ⟨_, rfl⟩; replace H : ((spec_l1Cur_among.f s0_0 t508 t509 y510).bind fun bt513 => (if x3_1.length < 17592186044416 then (some ((x3_1 ++ [bt513.1]), bt513.2.1, bt513.2.2)) else (none))) = some (r1, r2, r3) := (qK4 hy510); have Ny510 := za hy510; clear hy510; replace H := bindA H; obtain ⟨⟨t513, t514, t515⟩, A13, H⟩ := H; (try dsimp only at H)
     by_cases c14 : x3_1.length < 17592186044416
     ·rw [yb c14] at H; have LMc14 := za c14; clear c14; obtain ⟨y516, hy516⟩ : ∃ y_ : List Int, y_ = (x3_1 ++ [t513]) := ⟨_, rfl⟩; replace H : (some (y516, t514, t515)) = some (r1, r2, r3) := (qK4 hy516); have Ny516 := za hy516; clear hy516; simp only [yd, ye] at H; obtain ⟨rfl, rfl, rfl⟩ := H
      go_wp2_with (first | ((with_reducible refine zp (f := 47) rfl ?_); refine zV (some 17) rfl rfl Try.func47 (qK25) rfl #[.pointer (some ⟨g, 0, none⟩), .int .i64 24] rfl (qK2) ?_; (with_reducible refine (spec_l1Cur_one.calls g s0_0 x1001_1 x1002_1 24 true t508 t509 w0 _ ?s1 ?s2 A11.1).mono ?_); (case s1 => exact (qK3)); (case s2 => exact (qK6)); rintro e w15 ⟨rfl, hi, hb, hk⟩; refine ⟨_, rfl, ?_⟩; replace HO_3 := za (qK72 HO_3.1); replace HK := za qK77; replace HB := za hb; replace HI0 := za hi; clear hb hk hi) | ((with_reducible refine zq (N := 20) rfl ?_); refine zQ (Kd.int .i64) _ 3 ?hg (N := 20) ?hd (xs := ([0, 7, 8] : List Int)) (inner := [.int .i64 0, .int .i64 7, .int .i64 8]) (ok := fun _ => True) (okp := fun _ => True) ?hr ?hp (fun _ hk => hk) trivial (zs _ _) (zo _) (by simp) ?_; (case hd | hg => rfl); (case hr => exact (qK23)); (case hp => exact (by exact (zt (show Kd.M (Kd.int .i64) _ _ _ 0 [.int .i64 0] from rfl) (zt (show Kd.M (Kd.int .i64) _ _ _ 7 [.int .i64 7] from rfl) (zt (show Kd.M (Kd.int .i64) _ _ _ 8 [.int .i64 8] from rfl) (zu _ _)))))); intro v511 w16 ho17 hb hg_ hnew_; clear hg_ hnew_; (first | rw [← Ny510.1] at ho17 | (simp only [Int.reduceToNat] at ho17; rw [← Ny510.1] at ho17)); have HO512 := za (qK99 ho17 HO_3.1); replace HO_3 := za (qK84 HO_3.1 ho17); replace HK := za qK79; replace HB := za (zW (qK6) hb); replace HI0 := za qK93; clear hb ho17; obtain ⟨Ao18, co18, eo18⟩ := zI HO512.1; subst eo18) | ((with_reducible refine zp (f := 57) rfl ?_); refine zV (some 21) rfl rfl Try.func57 (qK25) rfl #[.pointer (some ⟨g, 0, none⟩), .slice Ao18 y510.length co18] rfl (qK2) ?_; (with_reducible refine (spec_l1Cur_among.calls g s0_0 t508 t509 _ _ y510 t513 t514 t515 w0 _ ?s1 ?s2 ?s3 ?s4 ?s5 A13.1).mono ?_); (case s1 => exact (qK3)); (case s2 => exact (qK6)); (case s3 => exact (qK13 HO512.1)); (case s4 => exact (qK35 HO512.1)); (case s5 => exact (qK48 HO512.1)); rintro e w19 ⟨rfl, hi, hb, hk⟩; refine ⟨_, rfl, ?_⟩; replace HO_3 := za (qK72 HO_3.1); replace HO512 := za (qK72 HO512.1); replace HK := za qK77; replace HB := za hb; replace HI0 := za hi; clear hb hk hi) | ((with_reducible refine zr (b := .append) (xs := #[.tmp 18, .tmp 22]) rfl ?_); at_builtin; refine Kd.R_append (Kd.int .i64) w.heap.size rfl (.tmp 18) (.tmp 22) 32 3 (.int .i64 0) 8 rfl Try.underlying32 info3 rfl (by decide) (by omega) u3 x3_1 t513 [.int .i64 t513] (fun k_ => some k_ ≠ (.slice Ao18 y510.length co18 : Value).ownBlock) (fun _ => False) rfl rfl ?aP (fun _ hk => hk.elim) ?aF ?aO (zs _ _) ?aS ?aL ?_; (case aP => exact rfl); (case aF => exact (qK85 HO512.1)); (case aO => exact (qK26 HO_3.1)); (case aS => exact (qK96)); (case aL => have := LMc14.1; omega); intro v517 w20 ho hb hg hat; rw [← Ny516.1] at ho; replace HO512 := za (qK88 HO512.1); replace HB := za (below_weaken (qK6) HL.1 hb); replace HI0 := za (qK89 HO_3.1); replace HK := za (qK95 HO_3.1); have HO518 := za ho; clear HO_3; clear ho hb hg hat))
      go_ret
      exact ⟨_, (qK11), (qK31 HO518.1), (qK3), (qK6), (qK5)⟩
     ·rw [yc c14] at H
      exact absurd H (by simp)
    ·replace c12 := zn c12; subst c12; rw [yc (show ¬ (false = true) by decide)] at H; simp only [yd, ye] at H; obtain ⟨rfl, rfl, rfl⟩ := H
     go_wp2_with (first | ((with_reducible refine zp (f := 47) rfl ?_); refine zV (some 17) rfl rfl Try.func47 (qK25) rfl #[.pointer (some ⟨g, 0, none⟩), .int .i64 24] rfl (qK2) ?_; (with_reducible refine (spec_l1Cur_one.calls g s0_0 x1001_1 x1002_1 24 false t508 t509 w0 _ ?s1 ?s2 A11.1).mono ?_); (case s1 => exact (qK3)); (case s2 => exact (qK6)); rintro e w21 ⟨rfl, hi, hb, hk⟩; refine ⟨_, rfl, ?_⟩; replace HO_3 := za (qK72 HO_3.1); replace HK := za qK77; replace HB := za hb; replace HI0 := za hi; clear hb hk hi))
     go_ret
     exact ⟨_, (qK11), (qK1 HO_3.1), (qK3), (qK6), (qK5)⟩

def spec_DrawThroughTrips.f (k : Nat) (l0 : List Int) : Option ((List (S72)) × List Int) := (spec_l1Cur_caves.f k l0 0 0).bind fun bt520 => ((spec_l1Cur_entrances.f k l0 bt520.2.1 bt520.2.2).bind fun bt525 => (some (bt520.1, bt525.1)))
set_option maxHeartbeats 8000000 in
set_option maxRecDepth 100000 in
theorem spec_DrawThroughTrips.calls (k : Nat) (A0 : Option Addr) (c0 : Nat) (l0 : List Int) (r1 : List (S72)) (r2 : List Int) (w : World) (hr0 : Kd.C (Kd.int .u8) w A0 l0.length l0) (hc0 : l0.length ≤ c0) (h : spec_DrawThroughTrips.f k l0 = some (r1, r2)) :
  Calls Try.prog 12 #[.slice A0 l0.length c0] w fun e w' => ∃ v0_ v1_ : Value, e = .returned (.tuple #[v0_, v1_]) ∧ Kd.R k72 72 w' w.heap.size (fun _ => True) v0_ r1 ∧ Kd.R (Kd.int .i64) 3 w' w.heap.size (fun _ => True) v1_ r2 ∧ Below w.heap.size w w' := by
 have hu54 := Try.underlying54; have HR0 := za hr0; have HC0 := za hc0; clear hr0 hc0; have HB := za (zs w.heap.size w); have H : ((spec_l1Cur_caves.f k l0 0 0).bind fun bt520 => ((spec_l1Cur_entrances.f k l0 bt520.2.1 bt520.2.2).bind fun bt525 => (some (bt520.1, bt525.1)))) = some (r1, r2) := h; clear h; replace H := bindA H; obtain ⟨⟨t520, t523, t524⟩, A2, H⟩ := H; (try dsimp only at H); replace H := zC H; obtain ⟨⟨t525, t528, t529⟩, A30, H⟩ := H; replace H : (some (t520, t525)) = some (r1, r2) := H; have A3 := za A30; clear A30; simp only [yd, ye] at H; obtain ⟨rfl, rfl⟩ := H
 go_enter Try.func12, Try.ntmps12
 go_wp2_with (first | ((with_reducible refine zq (N := 7) rfl ?_); refine zB ?hg (N := 7) ?hd (cs := #[.slice A0 l0.length c0, .int .i64 0, .int .u64 0]) (t := 54) ?hr ?_; (case hd | hg => rfl); (case hr => exact (qK23)); intro gb519 hg w4 hbox hb; have GW519 := za (by exact (by rw [hg]; exact (zX (qK0)) : w.heap.size ≤ gb519)); have GE519 := za (by exact (by rw [hg]; exact (zX (qK0)) : w.heap.size ≤ gb519)); have HI519 := za (by exact (show IsS54 w w4 gb519 l0 0 0 from ⟨_, _, hbox, (qK114), HR0.1⟩)); replace HB := za qK73; clear hb hbox hg) | ((with_reducible refine zp (f := 24) rfl ?_); refine zV (some 9) rfl rfl Try.func24 (qK25) rfl #[.pointer (some ⟨gb519, 0, none⟩)] rfl (qK2) ?_; (with_reducible refine (spec_l1Cur_caves.calls k gb519 l0 0 0 t520 t523 t524 w _ ?s1 ?s2 A2.1).mono ?_); (case s1 => exact (qK57)); (case s2 => exact (qK38)); rintro e w5 ⟨v521, rfl, ho0, hi, hb, hk⟩; refine ⟨_, rfl, ?_⟩; have HO522 := za (zP ho0 (zX (qK38))); replace HB := za hb; replace HI519 := za hi; clear hb hk hi ho0) | ((with_reducible refine zp (f := 33) rfl ?_); refine zV (some 11) rfl rfl Try.func33 (qK25) rfl #[.pointer (some ⟨gb519, 0, none⟩)] rfl (qK2) ?_; (with_reducible refine (spec_l1Cur_entrances.calls k gb519 l0 t523 t524 t525 t528 t529 w _ ?s1 ?s2 A3.1).mono ?_); (case s1 => exact (qK57)); (case s2 => exact (qK38)); rintro e w6 ⟨v526, rfl, ho0, hi, hb, hk⟩; refine ⟨_, rfl, ?_⟩; replace HO522 := za (by exact zK (zN (IsS54.apart (show IsS54 w _ gb519 l0 t523 t524 from (qK57)) (qK1 HO522.1) (by decide)) hk (fun _ h => h.2)) (fun _ h => h.1)); have HO527 := za (zP ho0 (zX (qK38))); replace HB := za hb; replace HI519 := za hi; clear hb hk hi ho0))
 go_ret2
 exact ⟨_, _, (qK11), (qK1 HO522.1), (qK1 HO527.1), (qK38)⟩

end Go.Proofs.Ytkocflfadlempaa.MK
