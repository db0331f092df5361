-- tight2 (a walk)
import Derived.Test.YtkocflfadlempaaMKx0
import Derived.Test.YtkocflfadlempaaMKx3
import Derived.Test.YtkocflfadlempaaMKx7
import Derived.Test.YtkocflfadlempaaMKx8
import Derived.Test.YtkocflfadlempaaMKx9
namespace Go.Proofs.Ytkocflfadlempaa.MK
open Go.RowKit Go.Proofs.YtkocflfadlempaaW.PrintWords Go.Proofs.YtkocflfadlempaaW.PrintLast
set_option maxHeartbeats 8000000
set_option maxRecDepth 100000
theorem qK12_c0 {p : Prop} (h : p := by
  simp only [Act.put, yf, yg, yh, i64_w, i32_w]
  rfl) : p := h
theorem qK12_c1 {p : Prop} (h : p := by
  intro w'
  go_simp
  with_reducible rfl) : p := h
attribute [local go_sem] max2_int min2_int max_two min_two
set_option linter.unusedVariables false
set_option linter.unusedSimpArgs false

attribute [local go_sem high] eqA45
def impl_strictly.l0 : Nat → List Int → Int → Int → List Int → Int → Int → Option (Bool)
 | 0, _, _, _, _, _, _ => none
 | k + 1, x0, x1, x2, x9, x10, x11 => if x11 < x10 then (if 0 ≤ x11 then (if x11 < (x9.length : Int) then ((impl_within.f (rd x9 x11) x1 x2).bind fun t531 => (if t531 = true then (if x11 > 0 then (if 0 ≤ (wrap64 (x11 - 1)) then (if (wrap64 (x11 - 1)) < (x0.length : Int) then (if (rd x0 (wrap64 (x11 - 1))) ≥ (rd x9 x11) then (some false) else (impl_strictly.l0 k x0 x1 x2 x9 x10 (wrap64 (x11 + 1)))) else (none)) else (none)) else (impl_strictly.l0 k x0 x1 x2 x9 x10 (wrap64 (x11 + 1)))) else (some false))) else (none)) else (none)) else (some true)
def impl_strictly.f (k : Nat) (l0 : List Int) (a1 : Int) (a2 : Int) : Option (Bool) := impl_strictly.l0 k l0 a1 a2 l0 (l0.length : Int) 0
theorem impl_strictly.calls (k : Nat) (A0 : Option Addr) (c0 : Nat) (l0 : List Int) (a1 : Int) (a2 : Int) (r : Bool) (w : World) (hr0 : Kd.C (Kd.int .i64) w A0 l0.length l0) (hc0 : l0.length ≤ c0) (h : impl_strictly.f k l0 a1 a2 = some r) :
  Calls Try.prog 58 #[.slice A0 l0.length c0, .int .i64 a1, .int .i64 a2] w fun e w' => e = .returned (.bool r) ∧ Drawn0 w w' := by
 have HR0 := za hr0; have HC0 := za hc0; clear hr0 hc0; have H : (impl_strictly.l0 k l0 a1 a2 l0 (l0.length : Int) 0) = some r := h; clear h; have H' := za H; clear H
 go_enter Try.func58, Try.ntmps58
 go_wp2
 go_loopg [11] k (fun kq v11 w' => ∃ (x11_1 : Int), v11 = .int .i64 x11_1 ∧ Aside0 (impl_strictly.l0 kq l0 a1 a2 l0 (l0.length : Int) x11_1 = some r) ∧ Aside0 (kq ≤ k) ∧ Drawn0 w w')
 case atStart => exact ⟨(0), (qK10), H', ⟨zo _⟩, (qK24)⟩
 case round =>
  clear H'; (try clear p2); obtain ⟨x11_1, rfl, HA, HK1, ⟨m1, rfl⟩⟩ := hrel
  cases gk with
  | zero => exact absurd HA.1 (by simp [impl_strictly.l0])
  | succ k1 =>
   have H := HA.1; clear HA; simp only [impl_strictly.l0] at H
   by_cases c4 : x11_1 < (l0.length : Int)
   ·rw [yb c4] at H; have c4b0 : decide (x11_1 < (l0.length : Int)) = true := zc c4; clear c4
    by_cases c5 : 0 ≤ x11_1
    ·rw [yb c5] at H; have c5b0 : decide (0 ≤ x11_1) = true := zc c5; clear c5
     by_cases c6 : x11_1 < (l0.length : Int)
     ·rw [yb c6] at H; have c6b0 : decide (x11_1 < (l0.length : Int)) = true := zc c6; clear c6; replace H := bindA H; obtain ⟨t531, A7, H⟩ := H; (try dsimp only at H)
      by_cases c8 : t531 = true
      ·subst c8; rw [yb rfl] at H
       by_cases c9 : x11_1 > 0
       ·rw [yb c9] at H; have c9b0 : decide (0 < x11_1) = true := zc c9; clear c9; obtain ⟨ji10, hji10⟩ : ∃ j_ : Int, (wrap64 (x11_1 - 1)) = j_ := ⟨_, rfl⟩
        replace H : (if 0 ≤ (ji10) then (if (ji10) < (l0.length : Int) then (if (rd l0 (ji10)) ≥ (rd l0 x11_1) then (some false) else (impl_strictly.l0 k1 l0 a1 a2 l0 (l0.length : Int) (wrap64 (x11_1 + 1)))) else (none)) else (none)) = some r := by first | (rw [hji10] at H; exact H) | (simp only [hji10] at H ⊢; exact H)
        (try rw [hji10] at A7); have hji10w : (IntKind.i64.wrap (x11_1 - 1)) = ji10 := (i64_w _).trans hji10
        by_cases c11 : 0 ≤ (ji10)
        ·rw [yb c11] at H; have c11b0 : decide (0 ≤ (ji10)) = true := zc c11; clear c11
         by_cases c12 : (ji10) < (l0.length : Int)
         ·rw [yb c12] at H; have c12b0 : decide ((ji10) < (l0.length : Int)) = true := zc c12; clear c12
          by_cases c13 : (rd l0 (ji10)) ≥ (rd l0 x11_1)
          ·rw [yb c13] at H; have c13b0 : decide ((rd l0 x11_1) ≤ (rd l0 (ji10))) = true := zc c13; clear c13; obtain rfl := zm H; have p530 : 0 ≤ (x11_1 : Int) := zb (qK7); have q530 : x11_1 < (l0.length : Int) := zb (qK7); obtain ⟨ad530, e530, hx530_0⟩ := zJ HR0.1 x11_1 p530 q530; cases e530; replace p530 := zw p530; replace q530 := zw q530
           go_wp2_with (first | ((with_reducible refine zp (f := 56) rfl ?_); refine zV (some 19) rfl rfl Try.func56 (qK25) rfl #[.int .i64 (rd l0 x11_1), .int .i64 a1, .int .i64 a2] rfl (qK2) ?_; (with_reducible refine (impl_within.calls (rd l0 x11_1) a1 a2 true _ A7.1).mono ?_); rintro e w' ⟨rfl, ⟨nd, rfl⟩⟩; refine ⟨_, rfl, ?_⟩; have p532 : 0 ≤ ((ji10) : Int) := zb (qK7); have q532 : (ji10) < (l0.length : Int) := zb (qK7); obtain ⟨ad532, e532, hx532_0⟩ := zJ HR0.1 (ji10) p532 q532; obtain rfl : ad530 = ad532 := (by injection e532); replace p532 := zw p532; replace q532 := zw q532))
           go_ret
           exact ⟨(by first | rfl | (simp; done) | (simp only [← hji10] <;> (first | rfl | simp)) | (simp [*]; done)), (qK24)⟩
          ·rw [yc c13] at H; have c13b0 : decide ((rd l0 x11_1) ≤ (rd l0 (ji10))) = false := zv c13; clear c13; have H' := za H; clear H; have p530 : 0 ≤ (x11_1 : Int) := zb (qK7); have q530 : x11_1 < (l0.length : Int) := zb (qK7); obtain ⟨ad530, e530, hx530_0⟩ := zJ HR0.1 x11_1 p530 q530; cases e530; replace p530 := zw p530; replace q530 := zw q530
           go_wp2_with (first | ((with_reducible refine zp (f := 56) rfl ?_); refine zV (some 19) rfl rfl Try.func56 (qK25) rfl #[.int .i64 (rd l0 x11_1), .int .i64 a1, .int .i64 a2] rfl (qK2) ?_; (with_reducible refine (impl_within.calls (rd l0 x11_1) a1 a2 true _ A7.1).mono ?_); rintro e w' ⟨rfl, ⟨nd, rfl⟩⟩; refine ⟨_, rfl, ?_⟩; have p532 : 0 ≤ ((ji10) : Int) := zb (qK7); have q532 : (ji10) < (l0.length : Int) := zb (qK7); obtain ⟨ad532, e532, hx532_0⟩ := zJ HR0.1 (ji10) p532 q532; obtain rfl : ad530 = ad532 := (by injection e532); replace p532 := zw p532; replace q532 := zw q532))
           go_roundg k1
           case measure => have := HK1.1; omega
           case rel => exact ⟨(wrap64 (x11_1 + 1)), (qK10), H', ⟨by have := HK1.1; omega⟩, (qK24)⟩
         ·rw [yc c12] at H
          exact absurd H (by simp)
        ·rw [yc c11] at H
         exact absurd H (by simp)
       ·rw [yc c9] at H; have c9b0 : decide (0 < x11_1) = false := zv c9; clear c9; have H' := za H; clear H; have p530 : 0 ≤ (x11_1 : Int) := zb (qK7); have q530 : x11_1 < (l0.length : Int) := zb (qK7); obtain ⟨ad530, e530, hx530_0⟩ := zJ HR0.1 x11_1 p530 q530; cases e530; replace p530 := zw p530; replace q530 := zw q530
        go_wp2_with (first | ((with_reducible refine zp (f := 56) rfl ?_); refine zV (some 19) rfl rfl Try.func56 (qK25) rfl #[.int .i64 (rd l0 x11_1), .int .i64 a1, .int .i64 a2] rfl (qK2) ?_; (with_reducible refine (impl_within.calls (rd l0 x11_1) a1 a2 true _ A7.1).mono ?_); rintro e w' ⟨rfl, ⟨nd, rfl⟩⟩; refine ⟨_, rfl, ?_⟩))
        go_roundg k1
        case measure => have := HK1.1; omega
        case rel => exact ⟨(wrap64 (x11_1 + 1)), (qK10), H', ⟨by have := HK1.1; omega⟩, (qK24)⟩
      ·replace c8 := zn c8; subst c8; rw [yc (show ¬ (false = true) by decide)] at H; obtain rfl := zm H; have p530 : 0 ≤ (x11_1 : Int) := zb (qK7); have q530 : x11_1 < (l0.length : Int) := zb (qK7); obtain ⟨ad530, e530, hx530_0⟩ := zJ HR0.1 x11_1 p530 q530; cases e530; replace p530 := zw p530; replace q530 := zw q530
       go_wp2_with (first | ((with_reducible refine zp (f := 56) rfl ?_); refine zV (some 19) rfl rfl Try.func56 (qK25) rfl #[.int .i64 (rd l0 x11_1), .int .i64 a1, .int .i64 a2] rfl (qK2) ?_; (with_reducible refine (impl_within.calls (rd l0 x11_1) a1 a2 false _ A7.1).mono ?_); rintro e w' ⟨rfl, ⟨nd, rfl⟩⟩; refine ⟨_, rfl, ?_⟩))
       go_ret
       exact ⟨(qK10), (qK24)⟩
     ·rw [yc c6] at H
      exact absurd H (by simp)
    ·rw [yc c5] at H
     exact absurd H (by simp)
   ·rw [yc c4] at H; have c4b0 : decide (x11_1 < (l0.length : Int)) = false := zv c4; clear c4; obtain rfl := zm H
    go_wp2
    go_ret
    exact ⟨(qK10), (qK24)⟩

def impl_areEntrances.f (k : Nat) (l0 : List (S72)) (l1 : List Int) : Option (Bool) := (impl_areLegs.f k l0).bind fun t533 => (if t533 = true then ((impl_strictly.f k l1 0 7).bind fun t534 => (some t534)) else (some false))
theorem impl_areEntrances.calls (k : Nat) (A0 : Option Addr) (c0 : Nat) (l0 : List (S72)) (A1 : Option Addr) (c1 : Nat) (l1 : List Int) (r : Bool) (w : World) (hr0 : Kd.C k72 w A0 l0.length l0) (hc0 : l0.length ≤ c0) (hr1 : Kd.C (Kd.int .i64) w A1 l1.length l1) (hc1 : l1.length ≤ c1) (h : impl_areEntrances.f k l0 l1 = some r) :
  Calls Try.prog 34 #[.slice A0 l0.length c0, .slice A1 l1.length c1] w fun e w' => e = .returned (.bool r) ∧ Below w.heap.size w w' := by
 have HR0 := za hr0; have HC0 := za hc0; clear hr0 hc0; have HR1 := za hr1; have HC1 := za hc1; clear hr1 hc1; have HB := za (zs w.heap.size w); have H : ((impl_areLegs.f k l0).bind fun t533 => (if t533 = true then ((impl_strictly.f k l1 0 7).bind fun t534 => (some t534)) else (some false))) = some r := h; clear h; replace H := bindA H; obtain ⟨t533, A3, H⟩ := H; (try dsimp only at H)
 by_cases c4 : t533 = true
 ·subst c4; rw [yb rfl] at H; replace H := zC H; obtain ⟨t534, A50, H⟩ := H; replace H : (some t534) = some r := H; have A5 := za A50; clear A50; obtain rfl := zm H
  go_enter Try.func34, Try.ntmps34
  go_wp2_with (first | ((with_reducible refine zp (f := 25) rfl ?_); refine zV (some 6) rfl rfl Try.func25 (qK25) rfl #[.slice A0 l0.length c0] rfl (qK2) ?_; (with_reducible refine (impl_areLegs.calls k _ _ l0 true _ ?s1 ?s2 A3.1).mono ?_); (case s1 => exact (qK21 HR0.1)); (case s2 => exact HC0.1); rintro e w6 ⟨rfl, hb⟩; refine ⟨_, rfl, ?_⟩; replace HB := za qK73; clear hb) | (go_at_call 58; (with_reducible refine (impl_strictly.calls k _ _ l1 0 7 t534 _ ?s1 ?s2 A5.1).mono ?_); (case s1 => exact (qK9 HR1.1)); (case s2 => exact HC1.1); rintro e w' ⟨rfl, ⟨nd, rfl⟩⟩))
  go_ret
  exact ⟨(qK11), (qK0)⟩
 ·replace c4 := zn c4; subst c4; rw [yc (show ¬ (false = true) by decide)] at H; obtain rfl := zm H
  go_enter Try.func34, Try.ntmps34
  go_wp2_with (first | ((with_reducible refine zp (f := 25) rfl ?_); refine zV (some 6) rfl rfl Try.func25 (qK25) rfl #[.slice A0 l0.length c0] rfl (qK2) ?_; (with_reducible refine (impl_areLegs.calls k _ _ l0 false _ ?s1 ?s2 A3.1).mono ?_); (case s1 => exact (qK21 HR0.1)); (case s2 => exact HC0.1); rintro e w7 ⟨rfl, hb⟩; refine ⟨_, rfl, ?_⟩; replace HB := za qK73; clear hb))
  go_ret
  exact ⟨(qK11), (qK0)⟩

def impl_together.f (l0 : List S72) (a1 a2 : Int) : Option Bool := if hangOk l0 a1 = true ∧ 0 ≤ a2 ∧ a2 ≤ 7 then some ((hangOf l0 a1).getD a2.toNat false) else none
theorem impl_together.calls (A0 : Option Addr) (c0 : Nat) (l0 : List S72) (a1 a2 : Int) (r : Bool) (w : World) (hr0 : Kd.C k72 w A0 l0.length l0) (hc0 : l0.length ≤ c0) (h : impl_together.f l0 a1 a2 = some r) :
  Calls Try.prog 35 #[.slice A0 l0.length c0, .int .i64 a1, .int .i64 a2] w fun e w' => e = .returned (.bool r) ∧ Below w.heap.size w w' := by
 unfold impl_together.f at h
 by_cases hok : hangOk l0 a1 = true ∧ 0 ≤ a2 ∧ a2 ≤ 7
 case neg => rw [yc hok] at h; cases h
 rw [yb hok] at h; have hr := zm h; clear h; obtain ⟨hok, h0, h7⟩ := hok; simp only [hangOk, Bool.and_eq_true, decide_eq_true_eq] at hok; have HOK := za hok; have HR0 := za hr0; have HC0 := za hc0; have HM0 := za hr0.2.1; have H12 : Aside0 (0 ≤ (l0.length : Int) ∧ (l0.length : Int).toNat * 8 ≤ 281474976710656) := ⟨by have := hok.2; omega⟩; have hidx := fun w => run_indexA (hangOf l0 a1) (reachOf_length _ _ _ _) a2 h0 h7 w; rw [hr] at hidx; clear hr hr0 hc0 hok h0 h7
 have HCALL : Aside0 (∀ (A1 : Option Addr) (c1 : Nat) (W : World), Below w.heap.size w W → Kd.C (Kd.int .i64) W A1 l0.length (List.replicate l0.length 0) → l0.length ≤ c1 → Calls Try.prog 53 #[.slice A0 l0.length c0, .slice A1 l0.length c1, .int .i64 a1, .int .i64 0] W fun e w' => e = .returned (.agg (arrOf (hangOf l0 a1))) ∧ Below W.heap.size W w') := ⟨fun A1 c1 W hb hC hc => by
  have := impl_reach.calls A0 c0 l0 A1 c1 (List.replicate l0.length 0) a1 0 (hangOf l0 a1) W (zG HR0.1 hb) HC0.1 (by rw [List.length_replicate]; exact hC) (by rw [List.length_replicate]; exact hc) (qK69); rwa [List.length_replicate] at this⟩
 go_enter Try.func35, Try.ntmps35
 go_wp2_with (first | ((with_reducible refine zq (N := 10) rfl ?_); refine Kd.R_make (Kd.int .i64) _ 3 rfl (N := 10) rfl 32 _ _ rfl (l0.length : Int) rfl rfl Try.underlying32 (.int .i64 0) 8 info3 rfl (by decide) (by omega) 0 (ok := fun _ => True) (okp := fun _ => True) rfl (fun _ hk => hk) trivial H12.1.1 H12.1.2 (zs _ _) (zo _) ?_; intro v430 w12 ho13 hb hg_ hnew_; clear hg_ hnew_; obtain ⟨A1, c1, hv, hc1, hC⟩ := Kd.R_reads ho13; rw [hv]; clear hv ho13; rw [Int.toNat_natCast, List.length_replicate] at hC hc1; rw [Int.toNat_natCast, List.length_replicate]; have HB := za hb; have HC1 := za hC; have HCC1 := za hc1; clear hb hC hc1) | (go_at_call 53; refine (HCALL.1 _ _ _ HB.1 HC1.1 HCC1.1).mono ?_; rintro e w1 ⟨rfl, hb⟩))
 go_ret
 exact ⟨rfl, HB.1.trans (hb.mono HB.1.size)⟩


mutual
def impl_ThroughTrips.l0 : Nat → List (S72) → List Int → List (S45) → List Int → Int → Int → Option ((List (S45)) × Bool)
 | 0, _, _, _, _, _, _ => none
 | k + 1, x0, x1, x6, x15, x16, x17 => if x17 < x16 then (if 0 ≤ x17 then (if x17 < (x15.length : Int) then (if 0 ≤ (wrap64 (x17 + 1)) then (if (wrap64 (x17 + 1)) ≤ (x1.length : Int) then (impl_ThroughTrips.l1 k x0 x1 x6 (rd x15 x17) x15 x16 x17 (x1.drop ((wrap64 (x17 + 1)) : Int).toNat) ((x1.drop ((wrap64 (x17 + 1)) : Int).toNat).length : Int) 0) else (none)) else (none)) else (none)) else (none)) else (some (x6, true))
def impl_ThroughTrips.l1 : Nat → List (S72) → List Int → List (S45) → Int → List Int → Int → Int → List Int → Int → Int → Option ((List (S45)) × Bool)
 | 0, _, _, _, _, _, _, _, _, _, _ => none
 | k + 1, x0, x1, x6, x8, x15, x16, x17, x25, x26, x27 => if x27 < x26 then (if 0 ≤ x27 then (if x27 < (x25.length : Int) then ((impl_together.f x0 x8 (rd x25 x27)).bind fun t539 => (if t539 = true then (if x6.length < 8796093022208 then (impl_ThroughTrips.l1 k x0 x1 (x6 ++ [(⟨x8, rd x25 x27⟩ : S45)]) x8 x15 x16 x17 x25 x26 (wrap64 (x27 + 1))) else (none)) else (impl_ThroughTrips.l1 k x0 x1 x6 x8 x15 x16 x17 x25 x26 (wrap64 (x27 + 1))))) else (none)) else (none)) else (impl_ThroughTrips.l0 k x0 x1 x6 x15 x16 (wrap64 (x17 + 1)))
end
def impl_ThroughTrips.f (k : Nat) (l0 : List (S72)) (l1 : List Int) : Option ((List (S45)) × Bool) := (impl_areEntrances.f k l0 l1).bind fun t535 => (if t535 = true then (impl_ThroughTrips.l0 k l0 l1 ([] : List (S45)) l1 (l1.length : Int) 0) else (some (([] : List (S45)), false)))
theorem impl_ThroughTrips.calls (k : Nat) (A0 : Option Addr) (c0 : Nat) (l0 : List (S72)) (A1 : Option Addr) (c1 : Nat) (l1 : List Int) (r1 : List (S45)) (r2 : Bool) (w : World) (hr0 : Kd.C k72 w A0 l0.length l0) (hc0 : l0.length ≤ c0) (hr1 : Kd.C (Kd.int .i64) w A1 l1.length l1) (hc1 : l1.length ≤ c1) (h : impl_ThroughTrips.f k l0 l1 = some (r1, r2)) :
  Calls Try.prog 13 #[.slice A0 l0.length c0, .slice A1 l1.length c1] w fun e w' => ∃ v0_ : Value, e = .returned (.tuple #[v0_, .bool r2]) ∧ Kd.R k45 45 w' w.heap.size (fun _ => True) v0_ r1 ∧ Below w.heap.size w w' := by
 have hu45 := Try.underlying45; have HR0 := za hr0; have HC0 := za hc0; clear hr0 hc0; have HR1 := za hr1; have HC1 := za hc1; clear hr1 hc1; have HB := za (zs w.heap.size w); have H : ((impl_areEntrances.f k l0 l1).bind fun t535 => (if t535 = true then (impl_ThroughTrips.l0 k l0 l1 ([] : List (S45)) l1 (l1.length : Int) 0) else (some (([] : List (S45)), false)))) = some (r1, r2) := h; clear h; replace H := bindA H; obtain ⟨t535, A3, H⟩ := H; (try dsimp only at H)
 by_cases c4 : t535 = true
 ·subst c4; rw [yb rfl] at H; have H' := za H; clear H
  go_enter Try.func13, Try.ntmps13
  go_wp2_with (first | ((with_reducible refine zp (f := 34) rfl ?_); refine zV (some 13) rfl rfl Try.func34 (qK25) rfl #[.slice A0 l0.length c0, .slice A1 l1.length c1] rfl (qK2) ?_; (with_reducible refine (impl_areEntrances.calls k _ _ l0 _ _ l1 true _ ?s1 ?s2 ?s3 ?s4 A3.1).mono ?_); (case s1 => exact (qK21 HR0.1)); (case s2 => exact HC0.1); (case s3 => exact (qK21 HR1.1)); (case s4 => exact HC1.1); rintro e w5 ⟨rfl, hb⟩; refine ⟨_, rfl, ?_⟩; replace HB := za qK73; clear hb))
  go_loopg [6, 17] k (fun kq v6 v17 w' => ∃ (x6_1 : List (S45)) (x17_1 : Int), v17 = .int .i64 x17_1 ∧ Aside0 (impl_ThroughTrips.l0 kq l0 l1 x6_1 l1 (l1.length : Int) x17_1 = some (r1, r2)) ∧ Aside0 (kq ≤ k) ∧ Aside0 (Kd.R k45 45 w' w.heap.size (fun _ => True) v6 x6_1) ∧ Aside0 (Below w.heap.size w w'))
  case atStart => exact ⟨(([] : List (S45))), (0), (qK10), H', ⟨zo _⟩, ⟨by first | exact Kd.R_nil _ _ _ _ _ | exact Kd.N_nil _ _ _ _ _ | exact Kd.V_nil _ _ _ _ _ | exact Kd.Q_nil _ _ _ _ _ | exact Kd.S_nil _ _ _ _ _⟩, ⟨(qK0)⟩⟩
  case round =>
   clear H'; (try clear c1); (try clear p2); (try clear c3); (try clear c4); obtain ⟨x6_1, x17_1, rfl, HA, HK1, HO_6, HB⟩ := hrel
   cases gk with
   | zero => exact absurd HA.1 (by simp [impl_ThroughTrips.l0])
   | succ k1 =>
    have H := HA.1; clear HA; simp only [impl_ThroughTrips.l0] at H
    by_cases c6 : x17_1 < (l1.length : Int)
    ·rw [yb c6] at H; have c6b0 : decide (x17_1 < (l1.length : Int)) = true := zc c6; clear c6
     by_cases c7 : 0 ≤ x17_1
     ·rw [yb c7] at H; have c7b0 : decide (0 ≤ x17_1) = true := zc c7; clear c7
      by_cases c8 : x17_1 < (l1.length : Int)
      ·rw [yb c8] at H; have c8b0 : decide (x17_1 < (l1.length : Int)) = true := zc c8; clear c8; obtain ⟨ji9, hji9⟩ : ∃ j_ : Int, (wrap64 (x17_1 + 1)) = j_ := ⟨_, rfl⟩
       replace H : (if 0 ≤ (ji9) then (if (ji9) ≤ (l1.length : Int) then (impl_ThroughTrips.l1 k1 l0 l1 x6_1 (rd l1 x17_1) l1 (l1.length : Int) x17_1 (l1.drop ((ji9) : Int).toNat) ((l1.drop ((ji9) : Int).toNat).length : Int) 0) else (none)) else (none)) = some (r1, r2) := by first | (rw [hji9] at H; exact H) | (simp only [hji9] at H ⊢; exact H)
       have hji9w : (IntKind.i64.wrap (x17_1 + 1)) = ji9 := (i64_w _).trans hji9
       by_cases c10 : 0 ≤ (ji9)
       ·rw [yb c10] at H; have c10b0 := zw c10; have c10b1 : decide (0 ≤ (ji9)) = true := zc c10; clear c10
        by_cases c11 : (ji9) ≤ (l1.length : Int)
        ·rw [yb c11] at H; have c11b0 := zw c11; have c11b1 : decide ((ji9) ≤ (l1.length : Int)) = true := zc c11; clear c11; have H' := za H; clear H; have p536 : 0 ≤ (x17_1 : Int) := zb (qK7); have q536 : x17_1 < (l1.length : Int) := zb (qK7); obtain ⟨ad536, e536, hx536_0⟩ := zJ HR1.1 x17_1 p536 q536; cases e536; replace hx536_0 := (HB.1.cell (zd w _ hx536_0)).trans hx536_0; replace p536 := zw p536; replace q536 := zw q536; obtain ⟨i012, hi012, _, hsz12, _⟩ := info_parts info3; obtain ⟨A12, hcut12, hA12, hC12⟩ := print_drop_of (P := Try.prog) (Value.int .i64) 0 32 3 .i64 Try.underlying32 hi012 hsz12 (some ad536) c1 l1 (ji9) (zb (qK7)) (zb (qK7)) HC1.1; have HR537 := za (by exact Kd.C_of_reads (h1 := fun _ => rfl) (hA12 _ (Kd.reads_of_C HR1.1))); have HC537 := za hC12; clear hA12 hC12 hi012 hsz12
         go_wp2
         go_loopg [6, 27] k1 (fun kq v6 v27 w' => ∃ (x6_2 : List (S45)) (x27_2 : Int), v27 = .int .i64 x27_2 ∧ Aside0 (impl_ThroughTrips.l1 kq l0 l1 x6_2 (rd l1 x17_1) l1 (l1.length : Int) x17_1 (l1.drop ((ji9) : Int).toNat) ((l1.drop ((ji9) : Int).toNat).length : Int) x27_2 = some (r1, r2)) ∧ Aside0 (kq ≤ k1) ∧ Aside0 (Kd.R k45 45 w' w.heap.size (fun _ => True) v6 x6_2) ∧ Aside0 (Below w.heap.size w w'))
         case atStart => exact ⟨(x6_1), (0), (qK10), H', ⟨zo _⟩, ⟨(qK1 HO_6.1)⟩, ⟨(qK0)⟩⟩
         case round =>
          clear H'; (try clear c1); (try clear p2); (try clear c3); (try clear c4); (try clear p5); (try clear q5); (try clear hx5); (try clear c6); (try clear c6b0); (try clear p6); (try clear c7); (try clear c7b0); (try clear c8); (try clear c8b0); (try clear c10); (try clear c10b0); (try clear c10b1); (try clear c11); (try clear c11b0); (try clear c11b1); (try clear hx536_0); (try clear p2); (try clear p536); (try clear q536); obtain ⟨x6_2, x27_2, rfl, HA, HK2, HO_6, HB⟩ := hrel
          cases gk with
          | zero => exact absurd HA.1 (by simp [impl_ThroughTrips.l1])
          | succ k2 =>
           have H := HA.1; clear HA; simp only [impl_ThroughTrips.l1] at H
           by_cases c13 : x27_2 < ((l1.drop ((ji9) : Int).toNat).length : Int)
           ·rw [yb c13] at H; have c13b0 : decide (x27_2 < ((l1.drop ((ji9) : Int).toNat).length : Int)) = true := zc c13
            have c13b0d : decide (x27_2 < ((l1.length - (ji9 : Int).toNat : Nat) : Int)) = true := by have h_ := c13b0; rw [List.length_drop] at h_; exact h_
            have c13b0q : ((x27_2 : Int) < ((l1.length - (ji9 : Int).toNat : Nat) : Int)) = True := zw (zb c13b0d); clear c13
            by_cases c14 : 0 ≤ x27_2
            ·rw [yb c14] at H; have c14b0 : decide (0 ≤ x27_2) = true := zc c14; clear c14
             by_cases c15 : x27_2 < ((l1.drop ((ji9) : Int).toNat).length : Int)
             ·rw [yb c15] at H; have c15b0 : decide (x27_2 < ((l1.drop ((ji9) : Int).toNat).length : Int)) = true := zc c15
              have c15b0d : decide (x27_2 < ((l1.length - (ji9 : Int).toNat : Nat) : Int)) = true := by have h_ := c15b0; rw [List.length_drop] at h_; exact h_
              have c15b0q : ((x27_2 : Int) < ((l1.length - (ji9 : Int).toNat : Nat) : Int)) = True := zw (zb c15b0d); clear c15; replace H := bindA H; obtain ⟨t539, A16, H⟩ := H; (try dsimp only at H)
              by_cases c17 : t539 = true
              ·subst c17; rw [yb rfl] at H
               by_cases c18 : x6_2.length < 8796093022208
               ·rw [yb c18] at H; have LMc18 := za c18; clear c18; obtain ⟨y540, hy540⟩ : ∃ y_ : List (S45), y_ = (x6_2 ++ [(⟨(rd l1 x17_1), rd (l1.drop ((ji9) : Int).toNat) x27_2⟩ : S45)]) := ⟨_, rfl⟩; replace H : (impl_ThroughTrips.l1 k2 l0 l1 y540 (rd l1 x17_1) l1 (l1.length : Int) x17_1 (l1.drop ((ji9) : Int).toNat) ((l1.drop ((ji9) : Int).toNat).length : Int) (wrap64 (x27_2 + 1))) = some (r1, r2) := (qK4 hy540); have Ny540 := za hy540; clear hy540; have H' := za H; clear H; have p538 : 0 ≤ (x27_2 : Int) := zb (qK7); have q538 : x27_2 < ((l1.drop ((ji9) : Int).toNat).length : Int) := zb (qK7); obtain ⟨ad538, e538, hx538_0⟩ := zJ HR537.1 x27_2 p538 q538; cases e538; replace hx538_0 := (HB.1.cell (zd w _ hx538_0)).trans hx538_0; replace p538 := zw p538; replace q538 := zw q538
                go_wp2_with (first | ((with_reducible refine zp (f := 35) rfl ?_); refine zV (some 34) rfl rfl Try.func35 (qK25) rfl #[.slice A0 l0.length c0, .int .i64 (rd l1 x17_1), .int .i64 (rd (l1.drop ((ji9) : Int).toNat) x27_2)] rfl (qK59) ?_; (with_reducible refine (impl_together.calls _ _ l0 (rd l1 x17_1) (rd (l1.drop ((ji9) : Int).toNat) x27_2) true _ ?s1 ?s2 A16.1).mono ?_); (case s1 => exact (qK9 HR0.1)); (case s2 => exact HC0.1); rintro e w19 ⟨rfl, hb⟩; refine ⟨_, rfl, ?_⟩; replace HO_6 := za (qK75 HO_6.1); replace HB := za qK73; clear hb) | ((with_reducible refine zr (b := .append) (xs := #[.tmp 35, .tmp 39]) rfl ?_); at_builtin; refine Kd.R_append k45 (w0 := w) w.heap.size rfl (.tmp 35) (.tmp 39) 38 45 (.agg #[(.int .i64 0), (.int .i64 0)]) 16 rfl Try.underlying38 info45 rfl (by decide) (by omega) u6 x6_2 (⟨(rd l1 x17_1), rd (l1.drop ((ji9) : Int).toNat) x27_2⟩ : S45) [.int .i64 (rd l1 x17_1), .int .i64 (rd (l1.drop ((ji9) : Int).toNat) x27_2)] (fun _ => True) (fun _ => False) rfl rfl ?aP (fun _ hk => hk.elim) ?aF ?aO ?aB ?aS ?aL ?_; (case aP => exact (by exact k45_mkM _ _ _ (⟨(rd l1 x17_1), rd (l1.drop ((ji9) : Int).toNat) x27_2⟩ : S45))); (case aB => exact (qK0)); (case aF => exact (fun _ _ => trivial)); (case aO => exact (qK1 HO_6.1)); (case aS => exact (qK91)); (case aL => have := LMc18.1; omega); intro v541 w20 ho hb hg hat; rw [← Ny540.1] at ho; replace HB := za hb; have HO542 := za ho; clear HO_6; clear ho hb hg hat))
                go_roundg k2
                case measure => have := HK1.1; have := HK2.1; omega
                case rel => exact ⟨(y540), (wrap64 (x27_2 + 1)), (qK10), H', ⟨by have := HK1.1; have := HK2.1; omega⟩, ⟨(qK1 HO542.1)⟩, ⟨(qK0)⟩⟩
               ·rw [yc c18] at H
                exact absurd H (by simp)
              ·replace c17 := zn c17; subst c17; rw [yc (show ¬ (false = true) by decide)] at H; have H' := za H; clear H; have p538 : 0 ≤ (x27_2 : Int) := zb (qK7); have q538 : x27_2 < ((l1.drop ((ji9) : Int).toNat).length : Int) := zb (qK7); obtain ⟨ad538, e538, hx538_0⟩ := zJ HR537.1 x27_2 p538 q538; cases e538; replace hx538_0 := (HB.1.cell (zd w _ hx538_0)).trans hx538_0; replace p538 := zw p538; replace q538 := zw q538
               go_wp2_with (first | ((with_reducible refine zp (f := 35) rfl ?_); refine zV (some 34) rfl rfl Try.func35 (qK25) rfl #[.slice A0 l0.length c0, .int .i64 (rd l1 x17_1), .int .i64 (rd (l1.drop ((ji9) : Int).toNat) x27_2)] rfl (qK59) ?_; (with_reducible refine (impl_together.calls _ _ l0 (rd l1 x17_1) (rd (l1.drop ((ji9) : Int).toNat) x27_2) false _ ?s1 ?s2 A16.1).mono ?_); (case s1 => exact (qK9 HR0.1)); (case s2 => exact HC0.1); rintro e w21 ⟨rfl, hb⟩; refine ⟨_, rfl, ?_⟩; replace HO_6 := za (qK75 HO_6.1); replace HB := za qK73; clear hb))
               go_roundg k2
               case measure => have := HK1.1; have := HK2.1; omega
               case rel => exact ⟨(x6_2), (wrap64 (x27_2 + 1)), (qK10), H', ⟨by have := HK1.1; have := HK2.1; omega⟩, ⟨(qK1 HO_6.1)⟩, ⟨(qK0)⟩⟩
             ·rw [yc c15] at H
              exact absurd H (by simp)
            ·rw [yc c14] at H
             exact absurd H (by simp)
           ·rw [yc c13] at H; have c13b0 : decide (x27_2 < ((l1.drop ((ji9) : Int).toNat).length : Int)) = false := zv c13
            have c13b0d : decide (x27_2 < ((l1.length - (ji9 : Int).toNat : Nat) : Int)) = false := by have h_ := c13b0; rw [List.length_drop] at h_; exact h_
            clear c13; have H' := za H; clear H
            go_wp2
            go_roundg k2
            case measure => have := HK1.1; have := HK2.1; omega
            case rel => exact ⟨(x6_2), (wrap64 (x17_1 + 1)), (qK10), H', ⟨by have := HK1.1; have := HK2.1; omega⟩, ⟨(qK1 HO_6.1)⟩, ⟨(qK0)⟩⟩
        ·rw [yc c11] at H
         exact absurd H (by simp)
       ·rw [yc c10] at H
        exact absurd H (by simp)
      ·rw [yc c8] at H
       exact absurd H (by simp)
     ·rw [yc c7] at H
      exact absurd H (by simp)
    ·rw [yc c6] at H; have c6b0 : decide (x17_1 < (l1.length : Int)) = false := zv c6; clear c6; simp only [yd, ye] at H; obtain ⟨rfl, rfl⟩ := H
     go_wp2
     go_ret2
     exact ⟨_, (qK11), (qK1 HO_6.1), (qK0)⟩
 ·replace c4 := zn c4; subst c4; rw [yc (show ¬ (false = true) by decide)] at H; simp only [yd, ye] at H; obtain ⟨rfl, rfl⟩ := H
  go_enter Try.func13, Try.ntmps13
  go_wp2_with (first | ((with_reducible refine zp (f := 34) rfl ?_); refine zV (some 13) rfl rfl Try.func34 (qK25) rfl #[.slice A0 l0.length c0, .slice A1 l1.length c1] rfl (qK2) ?_; (with_reducible refine (impl_areEntrances.calls k _ _ l0 _ _ l1 false _ ?s1 ?s2 ?s3 ?s4 A3.1).mono ?_); (case s1 => exact (qK21 HR0.1)); (case s2 => exact HC0.1); (case s3 => exact (qK21 HR1.1)); (case s4 => exact HC1.1); rintro e w22 ⟨rfl, hb⟩; refine ⟨_, rfl, ?_⟩; replace HB := za qK73; clear hb))
  go_ret2
  exact ⟨_, (qK11), by first | exact Kd.R_nil _ _ _ _ _ | exact Kd.N_nil _ _ _ _ _ | exact Kd.V_nil _ _ _ _ _ | exact Kd.Q_nil _ _ _ _ _ | exact Kd.S_nil _ _ _ _ _, (qK0)⟩

def spec_l1Rising.l0 : Nat → List Int → Int → Int → Int → Option (Bool)
 | 0, _, _, _, _ => none
 | k + 1, x0, x1, x2, x7 => if x7 < (x0.length : Int) then (if 0 ≤ x7 then ((spec_l1In.f (rd x0 x7) x1 x2).bind fun t544 => (if t544 = true then (if x7 > 0 then (if 0 ≤ (wrap64 (x7 - 1)) then (if (wrap64 (x7 - 1)) < (x0.length : Int) then (if (rd x0 (wrap64 (x7 - 1))) ≥ (rd x0 x7) then (some false) else (spec_l1Rising.l0 k x0 x1 x2 (wrap64 (x7 + 1)))) else (none)) else (none)) else (spec_l1Rising.l0 k x0 x1 x2 (wrap64 (x7 + 1)))) else (some false))) else (none)) else (some true)
def spec_l1Rising.f (k : Nat) (l0 : List Int) (a1 : Int) (a2 : Int) : Option (Bool) := spec_l1Rising.l0 k l0 a1 a2 0
theorem spec_l1Rising.calls (k : Nat) (A0 : Option Addr) (c0 : Nat) (l0 : List Int) (a1 : Int) (a2 : Int) (r : Bool) (w : World) (hr0 : Kd.C (Kd.int .i64) w A0 l0.length l0) (hc0 : l0.length ≤ c0) (h : spec_l1Rising.f k l0 a1 a2 = some r) :
  Calls Try.prog 59 #[.slice A0 l0.length c0, .int .i64 a1, .int .i64 a2] w fun e w' => e = .returned (.bool r) ∧ Drawn0 w w' := by
 have HR0 := za hr0; have HC0 := za hc0; clear hr0 hc0; have H : (spec_l1Rising.l0 k l0 a1 a2 0) = some r := h; clear h; have H' := za H; clear H
 go_enter Try.func59, Try.ntmps59
 go_wp2
 repeat (go_quiet (fail); try go_wp2)
 go_loopg [7] k (fun kq v7 w' => ∃ (x7_1 : Int), v7 = .int .i64 x7_1 ∧ Aside0 (spec_l1Rising.l0 kq l0 a1 a2 x7_1 = some r) ∧ Aside0 (kq ≤ k) ∧ Drawn0 w w')
 case atStart => exact ⟨(0), (qK10), H', ⟨zo _⟩, (qK24)⟩
 case round =>
  clear H'; (try clear p2); obtain ⟨x7_1, rfl, HA, HK1, ⟨m1, rfl⟩⟩ := hrel
  cases gk with
  | zero => exact absurd HA.1 (by simp [spec_l1Rising.l0])
  | succ k1 =>
   have H := HA.1; clear HA; simp only [spec_l1Rising.l0] at H
   by_cases c4 : x7_1 < (l0.length : Int)
   ·rw [yb c4] at H; have c4b0 : decide (x7_1 < (l0.length : Int)) = true := zc c4; clear c4
    by_cases c5 : 0 ≤ x7_1
    ·rw [yb c5] at H; have c5b0 : decide (0 ≤ x7_1) = true := zc c5; clear c5; replace H := bindA H; obtain ⟨t544, A6, H⟩ := H; (try dsimp only at H)
     by_cases c7 : t544 = true
     ·subst c7; rw [yb rfl] at H
      by_cases c8 : x7_1 > 0
      ·rw [yb c8] at H; have c8b0 : decide (0 < x7_1) = true := zc c8; clear c8; obtain ⟨ji9, hji9⟩ : ∃ j_ : Int, (wrap64 (x7_1 - 1)) = j_ := ⟨_, rfl⟩
       replace H : (if 0 ≤ (ji9) then (if (ji9) < (l0.length : Int) then (if (rd l0 (ji9)) ≥ (rd l0 x7_1) then (some false) else (spec_l1Rising.l0 k1 l0 a1 a2 (wrap64 (x7_1 + 1)))) else (none)) else (none)) = some r := by first | (rw [hji9] at H; exact H) | (simp only [hji9] at H ⊢; exact H)
       (try rw [hji9] at A6); have hji9w : (IntKind.i64.wrap (x7_1 - 1)) = ji9 := (i64_w _).trans hji9
       by_cases c10 : 0 ≤ (ji9)
       ·rw [yb c10] at H; have c10b0 : decide (0 ≤ (ji9)) = true := zc c10; clear c10
        by_cases c11 : (ji9) < (l0.length : Int)
        ·rw [yb c11] at H; have c11b0 : decide ((ji9) < (l0.length : Int)) = true := zc c11; clear c11
         by_cases c12 : (rd l0 (ji9)) ≥ (rd l0 x7_1)
         ·rw [yb c12] at H; have c12b0 : decide ((rd l0 x7_1) ≤ (rd l0 (ji9))) = true := zc c12; clear c12; obtain rfl := zm H; have p543 : 0 ≤ (x7_1 : Int) := zb (qK7); have q543 : x7_1 < (l0.length : Int) := zb (qK7); obtain ⟨ad543, e543, hx543_0⟩ := zJ HR0.1 x7_1 p543 q543; cases e543; replace p543 := zw p543; replace q543 := zw q543
          go_wp2_with (first | (go_at_call 63; (with_reducible refine (spec_l1In.calls (rd l0 x7_1) a1 a2 true _ A6.1).mono ?_); rintro e w' ⟨rfl, ⟨nd, rfl⟩⟩; (try first | exact ⟨rfl, _, zS _ _ _⟩ | exact ⟨rfl, _, Eq.trans (zS _ _ _) (congrArg (World.drewN _) (Nat.add_assoc _ _ _))⟩); have p545 : 0 ≤ ((ji9) : Int) := zb (qK7); have q545 : (ji9) < (l0.length : Int) := zb (qK7); obtain ⟨ad545, e545, hx545_0⟩ := zJ HR0.1 (ji9) p545 q545; obtain rfl : ad543 = ad545 := (by injection e545); replace p545 := zw p545; replace q545 := zw q545; have p546 : 0 ≤ (x7_1 : Int) := zb (qK7); have q546 : x7_1 < (l0.length : Int) := zb (qK7); obtain ⟨ad546, e546, hx546_0⟩ := zJ HR0.1 x7_1 p546 q546; obtain rfl : ad543 = ad546 := (by injection e546); replace p546 := zw p546; replace q546 := zw q546))
          repeat (go_quiet (first | (go_at_call 63; (with_reducible refine (spec_l1In.calls (rd l0 x7_1) a1 a2 true _ A6.1).mono ?_); rintro e w' ⟨rfl, ⟨nd, rfl⟩⟩; (try first | exact ⟨rfl, _, zS _ _ _⟩ | exact ⟨rfl, _, Eq.trans (zS _ _ _) (congrArg (World.drewN _) (Nat.add_assoc _ _ _))⟩); have p545 : 0 ≤ ((ji9) : Int) := zb (qK7); have q545 : (ji9) < (l0.length : Int) := zb (qK7); obtain ⟨ad545, e545, hx545_0⟩ := zJ HR0.1 (ji9) p545 q545; obtain rfl : ad543 = ad545 := (by injection e545); replace p545 := zw p545; replace q545 := zw q545; have p546 : 0 ≤ (x7_1 : Int) := zb (qK7); have q546 : x7_1 < (l0.length : Int) := zb (qK7); obtain ⟨ad546, e546, hx546_0⟩ := zJ HR0.1 x7_1 p546 q546; obtain rfl : ad543 = ad546 := (by injection e546); replace p546 := zw p546; replace q546 := zw q546)); try go_wp2)
          go_ret
          exact ⟨(by first | rfl | (simp; done) | (simp only [← hji9] <;> (first | rfl | simp)) | (simp [*]; done)), (qK24)⟩
         ·rw [yc c12] at H; have c12b0 : decide ((rd l0 x7_1) ≤ (rd l0 (ji9))) = false := zv c12; clear c12; have H' := za H; clear H; have p543 : 0 ≤ (x7_1 : Int) := zb (qK7); have q543 : x7_1 < (l0.length : Int) := zb (qK7); obtain ⟨ad543, e543, hx543_0⟩ := zJ HR0.1 x7_1 p543 q543; cases e543; replace p543 := zw p543; replace q543 := zw q543
          go_wp2_with (first | (go_at_call 63; (with_reducible refine (spec_l1In.calls (rd l0 x7_1) a1 a2 true _ A6.1).mono ?_); rintro e w' ⟨rfl, ⟨nd, rfl⟩⟩; (try first | exact ⟨rfl, _, zS _ _ _⟩ | exact ⟨rfl, _, Eq.trans (zS _ _ _) (congrArg (World.drewN _) (Nat.add_assoc _ _ _))⟩); have p545 : 0 ≤ ((ji9) : Int) := zb (qK7); have q545 : (ji9) < (l0.length : Int) := zb (qK7); obtain ⟨ad545, e545, hx545_0⟩ := zJ HR0.1 (ji9) p545 q545; obtain rfl : ad543 = ad545 := (by injection e545); replace p545 := zw p545; replace q545 := zw q545; have p546 : 0 ≤ (x7_1 : Int) := zb (qK7); have q546 : x7_1 < (l0.length : Int) := zb (qK7); obtain ⟨ad546, e546, hx546_0⟩ := zJ HR0.1 x7_1 p546 q546; obtain rfl : ad543 = ad546 := (by injection e546); replace p546 := zw p546; replace q546 := zw q546))
          repeat (go_quiet (first | (go_at_call 63; (with_reducible refine (spec_l1In.calls (rd l0 x7_1) a1 a2 true _ A6.1).mono ?_); rintro e w' ⟨rfl, ⟨nd, rfl⟩⟩; (try first | exact ⟨rfl, _, zS _ _ _⟩ | exact ⟨rfl, _, Eq.trans (zS _ _ _) (congrArg (World.drewN _) (Nat.add_assoc _ _ _))⟩); have p545 : 0 ≤ ((ji9) : Int) := zb (qK7); have q545 : (ji9) < (l0.length : Int) := zb (qK7); obtain ⟨ad545, e545, hx545_0⟩ := zJ HR0.1 (ji9) p545 q545; obtain rfl : ad543 = ad545 := (by injection e545); replace p545 := zw p545; replace q545 := zw q545; have p546 : 0 ≤ (x7_1 : Int) := zb (qK7); have q546 : x7_1 < (l0.length : Int) := zb (qK7); obtain ⟨ad546, e546, hx546_0⟩ := zJ HR0.1 x7_1 p546 q546; obtain rfl : ad543 = ad546 := (by injection e546); replace p546 := zw p546; replace q546 := zw q546)); try go_wp2)
          go_roundg k1
          case measure => have := HK1.1; omega
          case rel => exact ⟨(wrap64 (x7_1 + 1)), (qK10), H', ⟨by have := HK1.1; omega⟩, (qK24)⟩
        ·rw [yc c11] at H
         exact absurd H (by simp)
       ·rw [yc c10] at H
        exact absurd H (by simp)
      ·rw [yc c8] at H; have c8b0 : decide (0 < x7_1) = false := zv c8; clear c8; have H' := za H; clear H; have p543 : 0 ≤ (x7_1 : Int) := zb (qK7); have q543 : x7_1 < (l0.length : Int) := zb (qK7); obtain ⟨ad543, e543, hx543_0⟩ := zJ HR0.1 x7_1 p543 q543; cases e543; replace p543 := zw p543; replace q543 := zw q543
       go_wp2_with (first | (go_at_call 63; (with_reducible refine (spec_l1In.calls (rd l0 x7_1) a1 a2 true _ A6.1).mono ?_); rintro e w' ⟨rfl, ⟨nd, rfl⟩⟩; (try first | exact ⟨rfl, _, zS _ _ _⟩ | exact ⟨rfl, _, Eq.trans (zS _ _ _) (congrArg (World.drewN _) (Nat.add_assoc _ _ _))⟩)))
       repeat (go_quiet (first | (go_at_call 63; (with_reducible refine (spec_l1In.calls (rd l0 x7_1) a1 a2 true _ A6.1).mono ?_); rintro e w' ⟨rfl, ⟨nd, rfl⟩⟩; (try first | exact ⟨rfl, _, zS _ _ _⟩ | exact ⟨rfl, _, Eq.trans (zS _ _ _) (congrArg (World.drewN _) (Nat.add_assoc _ _ _))⟩))); try go_wp2)
       go_roundg k1
       case measure => have := HK1.1; omega
       case rel => exact ⟨(wrap64 (x7_1 + 1)), (qK10), H', ⟨by have := HK1.1; omega⟩, (qK24)⟩
     ·replace c7 := zn c7; subst c7; rw [yc (show ¬ (false = true) by decide)] at H; obtain rfl := zm H; have p543 : 0 ≤ (x7_1 : Int) := zb (qK7); have q543 : x7_1 < (l0.length : Int) := zb (qK7); obtain ⟨ad543, e543, hx543_0⟩ := zJ HR0.1 x7_1 p543 q543; cases e543; replace p543 := zw p543; replace q543 := zw q543
      go_wp2_with (first | (go_at_call 63; (with_reducible refine (spec_l1In.calls (rd l0 x7_1) a1 a2 false _ A6.1).mono ?_); rintro e w' ⟨rfl, ⟨nd, rfl⟩⟩; (try first | exact ⟨rfl, _, zS _ _ _⟩ | exact ⟨rfl, _, Eq.trans (zS _ _ _) (congrArg (World.drewN _) (Nat.add_assoc _ _ _))⟩)))
      repeat (go_quiet (first | (go_at_call 63; (with_reducible refine (spec_l1In.calls (rd l0 x7_1) a1 a2 false _ A6.1).mono ?_); rintro e w' ⟨rfl, ⟨nd, rfl⟩⟩; (try first | exact ⟨rfl, _, zS _ _ _⟩ | exact ⟨rfl, _, Eq.trans (zS _ _ _) (congrArg (World.drewN _) (Nat.add_assoc _ _ _))⟩))); try go_wp2)
      go_ret
      exact ⟨(qK10), (qK24)⟩
    ·rw [yc c5] at H
     exact absurd H (by simp)
   ·rw [yc c4] at H; have c4b0 : decide (x7_1 < (l0.length : Int)) = false := zv c4; clear c4; obtain rfl := zm H
    go_wp2
    repeat (go_quiet (fail); try go_wp2)
    go_ret
    exact ⟨(qK10), (qK24)⟩

def spec_l17Asked.f (k : Nat) (l0 : List (S72)) (l1 : List Int) : Option (Bool) := (spec_l4Legs.f k l0).bind fun t547 => (if t547 = true then ((spec_l1Rising.f k l1 0 7).bind fun t548 => (some t548)) else (some false))
theorem spec_l17Asked.calls (k : Nat) (A0 : Option Addr) (c0 : Nat) (l0 : List (S72)) (A1 : Option Addr) (c1 : Nat) (l1 : List Int) (r : Bool) (w : World) (hr0 : Kd.C k72 w A0 l0.length l0) (hc0 : l0.length ≤ c0) (hr1 : Kd.C (Kd.int .i64) w A1 l1.length l1) (hc1 : l1.length ≤ c1) (h : spec_l17Asked.f k l0 l1 = some r) :
  Calls Try.prog 36 #[.slice A0 l0.length c0, .slice A1 l1.length c1] w fun e w' => e = .returned (.bool r) ∧ Below w.heap.size w w' := by
 have HR0 := za hr0; have HC0 := za hc0; clear hr0 hc0; have HR1 := za hr1; have HC1 := za hc1; clear hr1 hc1; have HB := za (zs w.heap.size w); have H : ((spec_l4Legs.f k l0).bind fun t547 => (if t547 = true then ((spec_l1Rising.f k l1 0 7).bind fun t548 => (some t548)) else (some false))) = some r := h; clear h; replace H := bindA H; obtain ⟨t547, A3, H⟩ := H; (try dsimp only at H)
 by_cases c4 : t547 = true
 ·subst c4; rw [yb rfl] at H; replace H := zC H; obtain ⟨t548, A50, H⟩ := H; replace H : (some t548) = some r := H; have A5 := za A50; clear A50; obtain rfl := zm H
  go_enter Try.func36, Try.ntmps36
  go_wp2_with (first | ((with_reducible refine zp (f := 27) rfl ?_); refine zV (some 6) rfl rfl Try.func27 (qK25) rfl #[.slice A0 l0.length c0] rfl (qK2) ?_; (with_reducible refine (spec_l4Legs.calls k _ _ l0 true _ ?s1 ?s2 A3.1).mono ?_); (case s1 => exact (qK21 HR0.1)); (case s2 => exact HC0.1); rintro e w6 ⟨rfl, hb⟩; refine ⟨_, rfl, ?_⟩; replace HB := za qK73; clear hb) | (go_at_call 59; (with_reducible refine (spec_l1Rising.calls k _ _ l1 0 7 t548 _ ?s1 ?s2 A5.1).mono ?_); (case s1 => exact (qK9 HR1.1)); (case s2 => exact HC1.1); rintro e w' ⟨rfl, ⟨nd, rfl⟩⟩))
  go_ret
  exact ⟨(qK11), (qK0)⟩
 ·replace c4 := zn c4; subst c4; rw [yc (show ¬ (false = true) by decide)] at H; obtain rfl := zm H
  go_enter Try.func36, Try.ntmps36
  go_wp2_with (first | ((with_reducible refine zp (f := 27) rfl ?_); refine zV (some 6) rfl rfl Try.func27 (qK25) rfl #[.slice A0 l0.length c0] rfl (qK2) ?_; (with_reducible refine (spec_l4Legs.calls k _ _ l0 false _ ?s1 ?s2 A3.1).mono ?_); (case s1 => exact (qK21 HR0.1)); (case s2 => exact HC0.1); rintro e w7 ⟨rfl, hb⟩; refine ⟨_, rfl, ?_⟩; replace HB := za qK73; clear hb))
  go_ret
  exact ⟨(qK11), (qK0)⟩

mutual
def spec_ThroughTrips.l0 : Nat → List (S72) → List Int → List (S45) → Int → Option ((List (S45)) × Bool)
 | 0, _, _, _, _ => none
 | k + 1, x0, x1, x6, x7 => if x7 < (x1.length : Int) then (if 0 ≤ x7 then ((spec_l17Cave.f k x0 (rd x1 x7) (-1)).bind fun t554 => (spec_ThroughTrips.l1 k x0 x1 x6 x7 t554 (wrap64 (x7 + 1)))) else (none)) else (some (x6, true))
def spec_ThroughTrips.l1 : Nat → List (S72) → List Int → List (S45) → Int → List Int → Int → Option ((List (S45)) × Bool)
 | 0, _, _, _, _, _, _ => none
 | k + 1, x0, x1, x6, x7, x8, x9 => if x9 < (x1.length : Int) then (if 0 ≤ x9 then ((spec_l1Has.f k x8 (rd x1 x9)).bind fun t558 => (if t558 = true then (if 0 ≤ x7 then (if x7 < (x1.length : Int) then (if x6.length < 8796093022208 then (spec_ThroughTrips.l1 k x0 x1 (x6 ++ [(⟨rd x1 x7, rd x1 x9⟩ : S45)]) x7 x8 (wrap64 (x9 + 1))) else (none)) else (none)) else (none)) else (spec_ThroughTrips.l1 k x0 x1 x6 x7 x8 (wrap64 (x9 + 1))))) else (none)) else (spec_ThroughTrips.l0 k x0 x1 x6 (wrap64 (x7 + 1)))
end
def spec_ThroughTrips.f (k : Nat) (l0 : List (S72)) (l1 : List Int) : Option ((List (S45)) × Bool) := (some (([] : List (S45)) : List (S45))).bind fun y549 => ((spec_l17Asked.f k l0 l1).bind fun t552 => (if t552 = true then (spec_ThroughTrips.l0 k l0 l1 y549 0) else (some (y549, false))))
def spec_ThroughTrips.T12 : Bool × List (List Nat × List Nat) := (true, [([], []), ([], []), ([], []), ([1, 2], [1, 2]), ([3], [3]), ([], []), ([], []), ([5, 6], [5, 6]), ([7], [7]), ([4, 8], [4, 8]), ([9], [9]), ([0, 10], [0, 10]), ([11, 11, 0, 1, 2, 3, 4, 5, 6, 7, 8, 9, 10, 11], [0, 11])])
def spec_ThroughTrips.B12 : List Nat := [0, 0, 0, 6, 14, 0, 0, 96, 224, 510, 1022, 2047, 4095]
theorem spec_ThroughTrips.tab12 : rtab .any (opsOf Try.f14 12) = spec_ThroughTrips.T12 := by kernel_rfl
theorem spec_ThroughTrips.bits12 : waitsOk spec_ThroughTrips.T12.2 spec_ThroughTrips.B12 = true := by kernel_rfl
theorem spec_ThroughTrips.calls (k : Nat) (A0 : Option Addr) (c0 : Nat) (l0 : List (S72)) (A1 : Option Addr) (c1 : Nat) (l1 : List Int) (r1 : List (S45)) (r2 : Bool) (w : World) (hr0 : Kd.C k72 w A0 l0.length l0) (hc0 : l0.length ≤ c0) (hr1 : Kd.C (Kd.int .i64) w A1 l1.length l1) (hc1 : l1.length ≤ c1) (h : spec_ThroughTrips.f k l0 l1 = some (r1, r2)) :
  Calls Try.prog 14 #[.slice A0 l0.length c0, .slice A1 l1.length c1] w fun e w' => ∃ v0_ : Value, e = .returned (.tuple #[v0_, .bool r2]) ∧ Kd.R k45 45 w' w.heap.size (fun _ => True) v0_ r1 ∧ Below w.heap.size w w' := by
 have hu45 := Try.underlying45; have HR0 := za hr0; have HC0 := za hc0; clear hr0 hc0; have HR1 := za hr1; have HC1 := za hc1; clear hr1 hc1; have HB := za (zs w.heap.size w); have H : ((some (([] : List (S45)) : List (S45))).bind fun y549 => ((spec_l17Asked.f k l0 l1).bind fun t552 => (if t552 = true then (spec_ThroughTrips.l0 k l0 l1 y549 0) else (some (y549, false))))) = some (r1, r2) := h; clear h; obtain ⟨y549, hy549⟩ : ∃ y_ : List (S45), y_ = (([] : List (S45))) := ⟨_, rfl⟩; replace H : ((spec_l17Asked.f k l0 l1).bind fun t552 => (if t552 = true then (spec_ThroughTrips.l0 k l0 l1 y549 0) else (some (y549, false)))) = some (r1, r2) := (qK4 hy549); have Ny549 := za hy549; clear hy549; replace H := bindA H; obtain ⟨t552, A3, H⟩ := H; (try dsimp only at H)
 by_cases c4 : t552 = true
 ·subst c4; rw [yb rfl] at H; have H' := za H; clear H
  go_enter Try.func14, Try.ntmps14
  go_wp2_with (first | ((with_reducible refine zq (N := 10) rfl ?_); refine zQ k45 _ 45 ?hg (N := 10) ?hd (xs := ([] : List (S45))) (inner := []) (ok := fun _ => True) (okp := fun _ => True) ?hr ?hp (fun _ hk => hk) trivial (zs _ _) (zo _) (by simp) ?_; (case hd | hg => rfl); (case hr => exact (qK23)); (case hp => exact (zu _ _)); intro v550 w5 ho6 hb hg_ hnew_; clear hg_ hnew_; (first | rw [← Ny549.1] at ho6 | (simp only [Int.reduceToNat] at ho6; rw [← Ny549.1] at ho6)); have HO551 := za (qK80 ho6); replace HB := za qK73; clear hb ho6) | ((with_reducible refine zp (f := 36) rfl ?_); refine zV (some 13) rfl rfl Try.func36 (qK25) rfl #[.slice A0 l0.length c0, .slice A1 l1.length c1] rfl (qK2) ?_; (with_reducible refine (spec_l17Asked.calls k _ _ l0 _ _ l1 true _ ?s1 ?s2 ?s3 ?s4 A3.1).mono ?_); (case s1 => exact (qK9 HR0.1)); (case s2 => exact HC0.1); (case s3 => exact (qK9 HR1.1)); (case s4 => exact HC1.1); rintro e w7 ⟨rfl, hb⟩; refine ⟨_, rfl, ?_⟩; replace HO551 := za (qK75 HO551.1); replace HB := za qK73; clear hb))
  go_loopg [6, 7] k (fun kq v6 v7 w' => ∃ (x6_1 : List (S45)) (x7_1 : Int), v7 = .int .i64 x7_1 ∧ Aside0 (spec_ThroughTrips.l0 kq l0 l1 x6_1 x7_1 = some (r1, r2)) ∧ Aside0 (kq ≤ k) ∧ Aside0 (Kd.R k45 45 w' w.heap.size (fun _ => True) v6 x6_1) ∧ Aside0 (Below w.heap.size w w'))
  case atStart => exact ⟨(y549), (0), (qK10), H', ⟨zo _⟩, ⟨(qK1 HO551.1)⟩, ⟨(qK0)⟩⟩
  case round =>
   clear H'; (try clear c1); (try clear p2); (try clear c3); (try clear c4); obtain ⟨x6_1, x7_1, rfl, HA, HK1, HO_6, HB⟩ := hrel
   cases gk with
   | zero => exact absurd HA.1 (by simp [spec_ThroughTrips.l0])
   | succ k1 =>
    have H := HA.1; clear HA; simp only [spec_ThroughTrips.l0] at H
    by_cases c8 : x7_1 < (l1.length : Int)
    ·rw [yb c8] at H; have c8b0 : decide (x7_1 < (l1.length : Int)) = true := zc c8; clear c8
     by_cases c9 : 0 ≤ x7_1
     ·rw [yb c9] at H; have c9b0 : decide (0 ≤ x7_1) = true := zc c9; clear c9; replace H := bindA H; obtain ⟨t554, A10, H⟩ := H; (try dsimp only at H); have H' := za H; clear H; have p553 : 0 ≤ (x7_1 : Int) := zb (qK7); have q553 : x7_1 < (l1.length : Int) := zb (qK7); obtain ⟨ad553, e553, hx553_0⟩ := zJ HR1.1 x7_1 p553 q553; cases e553; replace hx553_0 := (HB.1.cell (zd w _ hx553_0)).trans hx553_0; replace p553 := zw p553; replace q553 := zw q553
      go_wp2_with (first | ((with_reducible refine zp (f := 37) rfl ?_); refine zV (some 27) rfl rfl Try.func37 (qK25) rfl #[.slice A0 l0.length c0, .int .i64 (rd l1 x7_1), .int .i64 (-1)] rfl (qK2) ?_; (with_reducible refine (spec_l17Cave.calls k1 _ _ l0 (rd l1 x7_1) (-1) t554 _ ?s1 ?s2 A10.1).mono ?_); (case s1 => exact (qK9 HR0.1)); (case s2 => exact HC0.1); rintro e w11 ⟨v555, rfl, ho0, hb⟩; refine ⟨_, rfl, ?_⟩; replace HO_6 := za (qK75 HO_6.1); have HO556 := za (qK80 ho0); replace HB := za qK73; clear hb ho0))
      go_loopg [6, 9] k1 (fun kq v6 v9 w' => ∃ (x6_2 : List (S45)) (x9_2 : Int), v9 = .int .i64 x9_2 ∧ Aside0 (spec_ThroughTrips.l1 kq l0 l1 x6_2 x7_1 t554 x9_2 = some (r1, r2)) ∧ Aside0 (kq ≤ k1) ∧ Aside0 (Kd.R k45 45 w' w.heap.size (fun _ => True) v6 x6_2) ∧ Aside0 (Kd.R (Kd.int .i64) 3 w' w.heap.size (fun _ => True) v555 t554) ∧ Aside0 (Below w.heap.size w w'))
      case atStart => exact ⟨(x6_1), (wrap64 (x7_1 + 1)), (qK10), H', ⟨zo _⟩, ⟨(qK1 HO_6.1)⟩, ⟨(qK1 HO556.1)⟩, ⟨(qK0)⟩⟩
      case round =>
       clear H'; (try clear c1); (try clear p2); (try clear c3); (try clear c4); (try clear p5); (try clear q5); (try clear hx5); (try clear p6); (try clear c8); (try clear c8b0); (try clear c9); (try clear c9b0); (try clear hx553_0); (try clear p2); (try clear p553); (try clear q553); obtain ⟨x6_2, x9_2, rfl, HA, HK2, HO_6, HO_8, HB⟩ := hrel
       cases gk with
       | zero => exact absurd HA.1 (by simp [spec_ThroughTrips.l1])
       | succ k2 =>
        have H := HA.1; clear HA; simp only [spec_ThroughTrips.l1] at H
        by_cases c12 : x9_2 < (l1.length : Int)
        ·rw [yb c12] at H; have c12b0 : decide (x9_2 < (l1.length : Int)) = true := zc c12; clear c12
         by_cases c13 : 0 ≤ x9_2
         ·rw [yb c13] at H; have c13b0 : decide (0 ≤ x9_2) = true := zc c13; clear c13; replace H := bindA H; obtain ⟨t558, A14, H⟩ := H; (try dsimp only at H)
          by_cases c15 : t558 = true
          ·subst c15; rw [yb rfl] at H
           by_cases c16 : 0 ≤ x7_1
           ·rw [yb c16] at H; have c16b0 : decide (0 ≤ x7_1) = true := zc c16; clear c16
            by_cases c17 : x7_1 < (l1.length : Int)
            ·rw [yb c17] at H; have c17b0 : decide (x7_1 < (l1.length : Int)) = true := zc c17; clear c17
             by_cases c18 : x6_2.length < 8796093022208
             ·rw [yb c18] at H; have LMc18 := za c18; clear c18; obtain ⟨y561, hy561⟩ : ∃ y_ : List (S45), y_ = (x6_2 ++ [(⟨rd l1 x7_1, rd l1 x9_2⟩ : S45)]) := ⟨_, rfl⟩; replace H : (spec_ThroughTrips.l1 k2 l0 l1 y561 x7_1 t554 (wrap64 (x9_2 + 1))) = some (r1, r2) := (qK4 hy561); have Ny561 := za hy561; clear hy561; have H' := za H; clear H; have p557 : 0 ≤ (x9_2 : Int) := zb (qK7); have q557 : x9_2 < (l1.length : Int) := zb (qK7); obtain ⟨ad557, e557, hx557_0⟩ := zJ HR1.1 x9_2 p557 q557; obtain rfl : ad553 = ad557 := (by injection e557); replace hx557_0 := (HB.1.cell (zd w _ hx557_0)).trans hx557_0; replace p557 := zw p557; replace q557 := zw q557; obtain ⟨Ao19, co19, eo19⟩ := zI HO_8.1; subst eo19
              try go_wp2_with (first | ((with_reducible refine zp (f := 38) rfl ?_); refine zV (some 41) rfl rfl Try.func38 (qK25) rfl #[.slice Ao19 t554.length co19, .int .i64 (rd l1 x9_2)] rfl (qK2) ?_; (with_reducible refine (spec_l1Has.calls k2 _ _ t554 (rd l1 x9_2) true _ ?s1 ?s2 A14.1).mono ?_); (case s1 => exact (qK13 HO_8.1)); (case s2 => exact (qK35 HO_8.1)); rintro e w' ⟨rfl, ⟨nd, rfl⟩⟩; refine ⟨_, rfl, ?_⟩))
              (try (rw [drewN_self wr]; generalize hq_ : World.drewN wr _ = wr; replace HO_6 : Aside0 (Kd.R k45 45 wr w.heap.size (fun _ => True) u6 x6_2) := ⟨by rw [← hq_]; exact (qK1 HO_6.1)⟩; replace HO_8 : Aside0 (Kd.R (Kd.int .i64) 3 wr w.heap.size (fun _ => True) (.slice Ao19 t554.length co19) t554) := ⟨by rw [← hq_]; exact (qK1 HO_8.1)⟩; replace HB : Aside0 (Below w.heap.size w wr) := ⟨by rw [← hq_]; exact (qK0)⟩; clear hq_)); replace HO_6 := za (zO HO_6.1); replace HO_8 := za (zO HO_8.1); replace HB := za (below_drew1 HB.1); have p559 : 0 ≤ (x7_1 : Int) := zb (qK7); have q559 : x7_1 < (l1.length : Int) := zb (qK7); obtain ⟨ad559, e559, hx559_0⟩ := zJ HR1.1 x7_1 p559 q559; have hw559_0 := hx559_0; obtain rfl : ad553 = ad559 := (by injection e559); replace hx559_0 := (HB.1.cell (zd w _ hx559_0)).trans hx559_0; replace p559 := zw p559; replace q559 := zw q559; have p560 : 0 ≤ (x9_2 : Int) := zb (qK7); have q560 : x9_2 < (l1.length : Int) := zb (qK7); obtain ⟨ad560, e560, hx560_0⟩ := zJ HR1.1 x9_2 p560 q560; have hw560_0 := hx560_0; obtain rfl : ad553 = ad560 := (by injection e560); replace hx560_0 := (HB.1.cell (zd w _ hx560_0)).trans hx560_0; replace p560 := zw p560; replace q560 := zw q560
              refine start_ (n := 13) (S := fun w' => w'.cell? (ad553.add (x7_1).toNat) = some (.int .i64 (rd l1 x7_1)) ∧ w'.cell? (ad553.add (x9_2).toNat) = some (.int .i64 (rd l1 x9_2))) (ds := []) qKb4 (qK25) rfl rfl ⟨((HB.1.cell (zd w _ hw559_0)).trans hw559_0), ((HB.1.cell (zd w _ hw560_0)).trans hw560_0)⟩ (fun hHeld => ?_); refine with_tabW spec_ThroughTrips.tab12 spec_ThroughTrips.bits12 (fun HT_ HW_ => ?_)
              generalize wr.drew = w20 at HO_6 HO_8 HB hx559_0 hx560_0 hHeld ⊢
              refine pure_ (i := 0) (N := some 42) (v := ?_) (a' := ?_) #[true, false, false, false, false, false, false, false, false, false, false, false, false] rfl rfl (qK76) (fun _ _ _ h => h) (zY ⟨by rfl, ?_⟩) ?_ ?_
              rotate_left; exact qK12_c1; rotate_left; exact qK12_c0
              refine pure_ (i := 1) (N := some 43) (v := ?_) (a' := ?_) #[true, true, false, false, false, false, false, false, false, false, false, false, false] rfl rfl (qK76) (fun _ _ _ h => h) (zY ⟨by rfl, ?_⟩) ?_ ?_
              rotate_left; exact qK12_c1; rotate_left; exact qK12_c0
              refine pure_ (i := 2) (N := some 44) (v := ?_) (a' := ?_) #[true, true, true, false, false, false, false, false, false, false, false, false, false] rfl rfl (qK76) (fun _ _ _ h => h) (zY ⟨by rfl, ?_⟩) ?_ ?_
              rotate_left; exact qK12_c1; rotate_left; exact qK12_c0
              refine pure_ (i := 3) (N := some 45) (v := ?_) (a' := ?_) #[true, true, true, true, false, false, false, false, false, false, false, false, false] rfl rfl (qK76) (fun _ _ _ h => h) (zY ⟨by rfl, ?_⟩) ?_ ?_
              rotate_left; exact qK12_c1; rotate_left; exact qK12_c0
              refine pure_ (i := 5) (N := some 47) (v := ?_) (a' := ?_) #[true, true, true, true, false, true, false, false, false, false, false, false, false] rfl rfl (qK76) (fun _ _ _ h => h) (zY ⟨by rfl, ?_⟩) ?_ ?_
              rotate_left; exact qK12_c1; rotate_left; exact qK12_c0
              refine pure_ (i := 6) (N := some 48) (v := ?_) (a' := ?_) #[true, true, true, true, false, true, true, false, false, false, false, false, false] rfl rfl (qK76) (fun _ _ _ h => h) (zY ⟨by rfl, ?_⟩) ?_ ?_
              rotate_left; exact qK12_c1; rotate_left; exact qK12_c0
              refine pure_ (i := 7) (N := some 49) (v := ?_) (a' := ?_) #[true, true, true, true, false, true, true, true, false, false, false, false, false] rfl rfl (qK76) (fun _ _ _ h => h) (zY ⟨by rfl, ?_⟩) ?_ ?_
              rotate_left; exact qK12_c1; rotate_left; exact qK12_c0
              refine take_ (i := 4) (N := some 46) (v := ?_) (a' := ?_) #[true, true, true, true, true, true, true, true, false, false, false, false, false] rfl rfl (take_ofW HT_.1 HW_.1 (qK25)) (fun _ _ _ h => h) (zY ⟨by rfl, ?_⟩) hHeld ?_ ?_
              rotate_left
              ·rintro w' ⟨s0, s1⟩
               go_simp
               with_reducible rfl
              rotate_left
              ·exact qK12_c0
              refine take_ (i := 8) (N := some 50) (v := ?_) (a' := ?_) #[true, true, true, true, true, true, true, true, true, false, false, false, false] rfl rfl (take_ofW HT_.1 HW_.1 (qK25)) (fun _ _ _ h => h) (zY ⟨by rfl, ?_⟩) hHeld ?_ ?_
              rotate_left
              ·rintro w' ⟨s0, s1⟩
               go_simp
               with_reducible rfl
              rotate_left
              ·exact qK12_c0
              refine pure_ (i := 9) (N := some 51) (v := ?_) (a' := ?_) #[true, true, true, true, true, true, true, true, true, true, false, false, false] rfl rfl (qK76) (fun _ _ _ h => h) (zY ⟨by rfl, ?_⟩) ?_ ?_
              rotate_left; exact qK12_c1; rotate_left; exact qK12_c0
              refine one_ (i := 10) (N := some 52) qKb17 rfl rfl (qK81) (by decide) (fun K hK => ?_)
              refine value_ (w1 := ?_) (v := ?_) (by rfl) rfl ?_ ?_
              rotate_left 2
              ·go_simp
               constructor
               ·rfl
               ·rfl
              refine hK.out _ _ ⟨(World.cell?_alloc_lt _ _ _ (zd _ _ (((HB.1.cell (zd w _ hw559_0)).trans hw559_0)))).trans (((HB.1.cell (zd w _ hw559_0)).trans hw559_0)), (World.cell?_alloc_lt _ _ _ (zd _ _ (((HB.1.cell (zd w _ hw560_0)).trans hw560_0)))).trans (((HB.1.cell (zd w _ hw560_0)).trans hw560_0))⟩ (fun hHeld => ?_)
              clear hK K
              refine norm_ (a' := ?_) ?_ ?_
              rotate_left
              ·show Act.put _ (some 52) _ = _
               simp only [Act.put, yf, yg, yh, i64_w, i32_w]
               rfl
              refine one_ (i := 11) (N := some 53) qKb18 rfl rfl (qK81) (by decide) (fun K hK => ?_)
              refine Kd.R_append_step k45 (w0 := w) w.heap.size (by rfl) (.tmp 42) (.tmp 52) 38 45 (.agg #[(.int .i64 0), (.int .i64 0)]) 16 rfl Try.underlying38 info45 rfl (by decide) (by omega) u6 x6_2 (⟨rd l1 x7_1, rd l1 x9_2⟩ : S45) [.int .i64 (rd l1 x7_1), .int .i64 (rd l1 x9_2)] (fun _ => True) (fun _ => False) rfl rfl ?aP (fun _ hk => hk.elim) ?aF ?aO ?aB ?aS ?aL ?_
              (case aP => exact (by exact k45_mkM _ _ _ (⟨rd l1 x7_1, rd l1 x9_2⟩ : S45)))
              (case aB => exact (qK0))
              (case aF => exact (fun _ _ => trivial))
              (case aO => exact (qK1 HO_6.1))
              (case aS => exact (qK91))
              (case aL => have := LMc18.1; omega)
              intro v562 w21 ho hb hg hat; rw [← Ny561.1] at ho; replace HO_8 := za (qK87 HO_8.1 HO_6.1); replace HB := za hb; have HO563 := za ho; clear HO_6; clear ho hb hg hat
              refine hK.out _ _ ⟨((HB.1.cell (zd w _ hw559_0)).trans hw559_0), ((HB.1.cell (zd w _ hw560_0)).trans hw560_0)⟩ (fun hHeld => ?_)
              clear hK K
              refine norm_ (a' := ?_) ?_ ?_
              rotate_left
              ·show Act.put _ (some 53) _ = _
               simp only [Act.put, yf, yg, yh, i64_w, i32_w]
               rfl
              refine pure_ (i := 12) (N := some 6) (v := ?_) (a' := ?_) qKb19 rfl rfl (qK76) (fun _ _ _ h => h) (zY ⟨by rfl, ?_⟩) ?_ ?_
              rotate_left; exact qK12_c1; rotate_left; exact qK12_c0
              refine done_ (qK102) ?_
              try go_wp2
              go_roundg k2
              case measure => have := HK1.1; have := HK2.1; omega
              case rel => exact ⟨(y561), (wrap64 (x9_2 + 1)), (qK10), H', ⟨by have := HK1.1; have := HK2.1; omega⟩, ⟨(qK1 HO563.1)⟩, ⟨(qK1 HO_8.1)⟩, ⟨(qK0)⟩⟩
             ·rw [yc c18] at H
              exact absurd H (by simp)
            ·rw [yc c17] at H
             exact absurd H (by simp)
           ·rw [yc c16] at H
            exact absurd H (by simp)
          ·replace c15 := zn c15; subst c15; rw [yc (show ¬ (false = true) by decide)] at H; have H' := za H; clear H; have p557 : 0 ≤ (x9_2 : Int) := zb (qK7); have q557 : x9_2 < (l1.length : Int) := zb (qK7); obtain ⟨ad557, e557, hx557_0⟩ := zJ HR1.1 x9_2 p557 q557; obtain rfl : ad553 = ad557 := (by injection e557); replace hx557_0 := (HB.1.cell (zd w _ hx557_0)).trans hx557_0; replace p557 := zw p557; replace q557 := zw q557; obtain ⟨Ao22, co22, eo22⟩ := zI HO_8.1; subst eo22
           go_wp2_with (first | ((with_reducible refine zp (f := 38) rfl ?_); refine zV (some 41) rfl rfl Try.func38 (qK25) rfl #[.slice Ao22 t554.length co22, .int .i64 (rd l1 x9_2)] rfl (qK2) ?_; (with_reducible refine (spec_l1Has.calls k2 _ _ t554 (rd l1 x9_2) false _ ?s1 ?s2 A14.1).mono ?_); (case s1 => exact (qK13 HO_8.1)); (case s2 => exact (qK35 HO_8.1)); rintro e w' ⟨rfl, ⟨nd, rfl⟩⟩; refine ⟨_, rfl, ?_⟩))
           go_roundg k2
           case measure => have := HK1.1; have := HK2.1; omega
           case rel => exact ⟨(x6_2), (wrap64 (x9_2 + 1)), (qK10), H', ⟨by have := HK1.1; have := HK2.1; omega⟩, ⟨(qK1 HO_6.1)⟩, ⟨(qK1 HO_8.1)⟩, ⟨(qK0)⟩⟩
         ·rw [yc c13] at H
          exact absurd H (by simp)
        ·rw [yc c12] at H; have c12b0 : decide (x9_2 < (l1.length : Int)) = false := zv c12; clear c12; have H' := za H; clear H
         go_wp2
         go_roundg k2
         case measure => have := HK1.1; have := HK2.1; omega
         case rel => exact ⟨(x6_2), (wrap64 (x7_1 + 1)), (qK10), H', ⟨by have := HK1.1; have := HK2.1; omega⟩, ⟨(qK1 HO_6.1)⟩, ⟨(qK0)⟩⟩
     ·rw [yc c9] at H
      exact absurd H (by simp)
    ·rw [yc c8] at H; have c8b0 : decide (x7_1 < (l1.length : Int)) = false := zv c8; clear c8; simp only [yd, ye] at H; obtain ⟨rfl, rfl⟩ := H
     go_wp2
     go_ret2
     exact ⟨_, (qK11), (qK1 HO_6.1), (qK0)⟩
 ·replace c4 := zn c4; subst c4; rw [yc (show ¬ (false = true) by decide)] at H; simp only [yd, ye] at H; obtain ⟨rfl, rfl⟩ := H
  go_enter Try.func14, Try.ntmps14
  go_wp2_with (first | ((with_reducible refine zq (N := 10) rfl ?_); refine zQ k45 _ 45 ?hg (N := 10) ?hd (xs := ([] : List (S45))) (inner := []) (ok := fun _ => True) (okp := fun _ => True) ?hr ?hp (fun _ hk => hk) trivial (zs _ _) (zo _) (by simp) ?_; (case hd | hg => rfl); (case hr => exact (qK23)); (case hp => exact (zu _ _)); intro v550 w23 ho24 hb hg_ hnew_; clear hg_ hnew_; (first | rw [← Ny549.1] at ho24 | (simp only [Int.reduceToNat] at ho24; rw [← Ny549.1] at ho24)); have HO551 := za (qK80 ho24); replace HB := za qK73; clear hb ho24) | ((with_reducible refine zp (f := 36) rfl ?_); refine zV (some 13) rfl rfl Try.func36 (qK25) rfl #[.slice A0 l0.length c0, .slice A1 l1.length c1] rfl (qK2) ?_; (with_reducible refine (spec_l17Asked.calls k _ _ l0 _ _ l1 false _ ?s1 ?s2 ?s3 ?s4 A3.1).mono ?_); (case s1 => exact (qK9 HR0.1)); (case s2 => exact HC0.1); (case s3 => exact (qK9 HR1.1)); (case s4 => exact HC1.1); rintro e w25 ⟨rfl, hb⟩; refine ⟨_, rfl, ?_⟩; replace HO551 := za (qK75 HO551.1); replace HB := za qK73; clear hb))
  go_ret2
  exact ⟨_, (qK11), (qK1 HO551.1), (qK0)⟩

def laws_vPairs.l0 : Nat → List (S45) → List (S45) → Int → Option (Bool)
 | 0, _, _, _ => none
 | k + 1, x0, x1, x5 => if x5 < (x0.length : Int) then (if 0 ≤ x5 then (if x5 < (x1.length : Int) then (if (!(((rd_T45 x0 x5).f0) == ((rd_T45 x1 x5).f0)) || (!(((rd_T45 x0 x5).f1) == ((rd_T45 x1 x5).f1)))) = true then (some false) else (laws_vPairs.l0 k x0 x1 (wrap64 (x5 + 1)))) else (none)) else (none)) else (some true)
def laws_vPairs.f (k : Nat) (l0 : List (S45)) (l1 : List (S45)) : Option (Bool) := if (l0.length : Int) = (l1.length : Int) then (laws_vPairs.l0 k l0 l1 0) else (some false)
theorem laws_vPairs.calls (k : Nat) (A0 : Option Addr) (c0 : Nat) (l0 : List (S45)) (A1 : Option Addr) (c1 : Nat) (l1 : List (S45)) (r : Bool) (w : World) (hr0 : Kd.C k45 w A0 l0.length l0) (hc0 : l0.length ≤ c0) (hr1 : Kd.C k45 w A1 l1.length l1) (hc1 : l1.length ≤ c1) (h : laws_vPairs.f k l0 l1 = some r) :
  Calls Try.prog 15 #[.slice A0 l0.length c0, .slice A1 l1.length c1] w fun e w' => e = .returned (.bool r) ∧ Drawn0 w w' := by
 have hu45 := Try.underlying45; have HR0 := za hr0; have HC0 := za hc0; clear hr0 hc0; have HR1 := za hr1; have HC1 := za hc1; clear hr1 hc1; have H : (if (l0.length : Int) = (l1.length : Int) then (laws_vPairs.l0 k l0 l1 0) else (some false)) = some r := h; clear h
 by_cases c3 : (l0.length : Int) = (l1.length : Int)
 ·rw [yb c3] at H; have c3b0 : ((l0.length : Int) == (l1.length : Int)) = true := zT c3; have c3b1 : ((l0.length : Int) != (l1.length : Int)) = false := zy c3
  have c3b2 : (l0.length == l1.length) = true := by first | simpa using c3 | (simp at c3 ⊢; omega)
  clear c3; have H' := za H; clear H
  go_enter Try.func15, Try.ntmps15
  go_wp2
  repeat (go_quiet (fail); try go_wp2)
  go_loopg [5] k (fun kq v5 w' => ∃ (x5_1 : Int), v5 = .int .i64 x5_1 ∧ Aside0 (laws_vPairs.l0 kq l0 l1 x5_1 = some r) ∧ Aside0 (kq ≤ k) ∧ Drawn0 w w')
  case atStart => exact ⟨(0), (qK10), H', ⟨zo _⟩, (qK24)⟩
  case round =>
   clear H'; (try clear c1); (try clear p2); (try clear c3); (try clear c3b0); (try clear c3b1); (try clear c3b2); obtain ⟨x5_1, rfl, HA, HK1, ⟨m1, rfl⟩⟩ := hrel
   cases gk with
   | zero => exact absurd HA.1 (by simp [laws_vPairs.l0])
   | succ k1 =>
    have H := HA.1; clear HA; simp only [laws_vPairs.l0] at H
    by_cases c4 : x5_1 < (l0.length : Int)
    ·rw [yb c4] at H; have c4b0 : decide (x5_1 < (l0.length : Int)) = true := zc c4; clear c4
     by_cases c5 : 0 ≤ x5_1
     ·rw [yb c5] at H; have c5b0 : decide (0 ≤ x5_1) = true := zc c5; clear c5
      by_cases c6 : x5_1 < (l1.length : Int)
      ·rw [yb c6] at H; have c6b0 : decide (x5_1 < (l1.length : Int)) = true := zc c6; clear c6
       by_cases c7 : (!(((rd_T45 l0 x5_1).f0) == ((rd_T45 l1 x5_1).f0)) || (!(((rd_T45 l0 x5_1).f1) == ((rd_T45 l1 x5_1).f1)))) = true
       ·rw [yb c7] at H; have c7b0 : (!(((rd_T45 l0 x5_1).f0) == ((rd_T45 l1 x5_1).f0)) || (!(((rd_T45 l0 x5_1).f1) == ((rd_T45 l1 x5_1).f1)))) = true := c7; clear c7; obtain rfl := zm H; have p564 : 0 ≤ (x5_1 : Int) := zb (qK7); have q564 : x5_1 < (l0.length : Int) := zb (qK7); obtain ⟨ad564, e564, hx564_0, hx564_1⟩ := at_T45 HR0.1 x5_1 p564 q564; cases e564; replace p564 := zw p564; replace q564 := zw q564; have p565 : 0 ≤ (x5_1 : Int) := zb (qK7); have q565 : x5_1 < (l1.length : Int) := zb (qK7); obtain ⟨ad565, e565, hx565_0, hx565_1⟩ := at_T45 HR1.1 x5_1 p565 q565; cases e565; replace p565 := zw p565; replace q565 := zw q565
        go_wp2
        repeat (go_quiet (fail); try go_wp2)
        go_ret
        exact ⟨(qK10), (qK24)⟩
       ·rw [yc c7] at H
        have c7b0 : (!(((rd_T45 l0 x5_1).f0) == ((rd_T45 l1 x5_1).f0)) || (!(((rd_T45 l0 x5_1).f1) == ((rd_T45 l1 x5_1).f1)))) = false := by simpa using c7
        clear c7; have H' := za H; clear H; have p564 : 0 ≤ (x5_1 : Int) := zb (qK7); have q564 : x5_1 < (l0.length : Int) := zb (qK7); obtain ⟨ad564, e564, hx564_0, hx564_1⟩ := at_T45 HR0.1 x5_1 p564 q564; cases e564; replace p564 := zw p564; replace q564 := zw q564; have p565 : 0 ≤ (x5_1 : Int) := zb (qK7); have q565 : x5_1 < (l1.length : Int) := zb (qK7); obtain ⟨ad565, e565, hx565_0, hx565_1⟩ := at_T45 HR1.1 x5_1 p565 q565; cases e565; replace p565 := zw p565; replace q565 := zw q565
        go_wp2
        repeat (go_quiet (fail); try go_wp2)
        go_roundg k1
        case measure => have := HK1.1; omega
        case rel => exact ⟨(wrap64 (x5_1 + 1)), (qK10), H', ⟨by have := HK1.1; omega⟩, (qK24)⟩
      ·rw [yc c6] at H
       exact absurd H (by simp)
     ·rw [yc c5] at H
      exact absurd H (by simp)
    ·rw [yc c4] at H; have c4b0 : decide (x5_1 < (l0.length : Int)) = false := zv c4; clear c4; obtain rfl := zm H
     go_wp2
     repeat (go_quiet (fail); try go_wp2)
     go_ret
     exact ⟨(qK10), (qK24)⟩
 ·rw [yc c3] at H; have c3b0 : ((l0.length : Int) == (l1.length : Int)) = false := zx c3; have c3b1 : ((l0.length : Int) != (l1.length : Int)) = true := zU c3
  have c3b2 : (l0.length == l1.length) = false := by first | simpa using c3 | (simp at c3 ⊢; omega)
  obtain rfl := zm H
  go_enter Try.func15, Try.ntmps15
  go_wp2
  repeat (go_quiet (fail); try go_wp2)
  go_ret
  exact ⟨(qK10), (qK24)⟩

-- NOT PRINTED: function 61 (slices_IndexFunc_int_int_61)

-- NOT PRINTED: function 39 (slices_ContainsFunc_int_int_39)

-- NOT PRINTED: function 40 (impl_CavesWithout_1)

end Go.Proofs.Ytkocflfadlempaa.MK
