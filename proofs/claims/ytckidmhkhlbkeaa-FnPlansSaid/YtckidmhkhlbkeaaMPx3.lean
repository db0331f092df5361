-- tight2 (a walk)
import Derived.Test.YtckidmhkhlbkeaaStr
import Derived.Test.YtckidmhkhlbkeaaMPx0
import Derived.Test.YtckidmhkhlbkeaaMPx2
namespace Go.Proofs.Ytckidmhkhlbkeaa.MP
open Go.RowKit Go.Proofs.YtckidmhkhlbkeaaW.PrintWords Go.Proofs.YtckidmhkhlbkeaaW.PrintLast
set_option maxHeartbeats 8000000
set_option maxRecDepth 100000
attribute [local go_sem] max2_int min2_int max_two min_two
set_option linter.unusedVariables false
set_option linter.unusedSimpArgs false

def spec_l13Fits.f (k : Nat) (l0 : List (S44)) (a1 : Int) : Option (Bool) := (spec_l13Good.f k l0).bind fun t119 => (if t119 = true then ((spec_l1In.f a1 1 500).bind fun t120 => (if t120 = true then (if (l0.length : Int) = 0 then (some false) else ((spec_l13Bounds.f k l0 a1).bind fun bt121 => (if (wrap64 (bt121.2.1 - bt121.1)) < 20 then (some (decide ((wrap64 (bt121.2.2.2 - bt121.2.2.1)) < 20))) else (some false)))) else (some false))) else (some false))
theorem spec_l13Fits.calls (k : Nat) (A0 : Option Addr) (c0 : Nat) (l0 : List (S44)) (a1 : Int) (r : Bool) (w : World) (hr0 : Kd.C k44 w A0 l0.length l0) (hc0 : l0.length ≤ c0) (h : spec_l13Fits.f k l0 a1 = some r) :
  Calls Try.prog 44 #[.slice A0 l0.length c0, .int .i64 a1] w fun e w' => e = .returned (.bool r) ∧ Below w.heap.size w w' := by
 have HR0 := za hr0; have HC0 := za hc0; clear hr0 hc0; have HB := za (zp w.heap.size w); have H : ((spec_l13Good.f k l0).bind fun t119 => (if t119 = true then ((spec_l1In.f a1 1 500).bind fun t120 => (if t120 = true then (if (l0.length : Int) = 0 then (some false) else ((spec_l13Bounds.f k l0 a1).bind fun bt121 => (if (wrap64 (bt121.2.1 - bt121.1)) < 20 then (some (decide ((wrap64 (bt121.2.2.2 - bt121.2.2.1)) < 20))) else (some false)))) else (some false))) else (some false))) = some r := h; clear h; replace H := bindA H; obtain ⟨t119, A3, H⟩ := H; (try dsimp only at H)
 by_cases c4 : t119 = true
 ·subst c4; rw [zU rfl] at H; replace H := bindA H; obtain ⟨t120, A5, H⟩ := H; (try dsimp only at H)
  by_cases c6 : t120 = true
  ·subst c6; rw [zU rfl] at H
   by_cases c7 : (l0.length : Int) = 0
   ·rw [zU c7] at H; have c7b0 : ((l0.length : Int) == 0) = true := zM c7; have c7b1 : ((l0.length : Int) != 0) = false := zv c7; clear c7; obtain rfl := zk H
    go_enter Try.func44, Try.ntmps44
    go_wp2_with (first | ((with_reducible refine zn (f := 63) rfl ?_); refine zO (some 10) rfl rfl Try.func63 (qP22) rfl #[.slice A0 l0.length c0] rfl (qP5) ?_; (with_reducible refine (spec_l13Good.calls k _ _ l0 true _ ?s1 ?s2 A3.1).mono ?_); (case s1 => exact (qP20)); (case s2 => exact HC0.1); rintro e w8 ⟨rfl, hb⟩; refine ⟨_, rfl, ?_⟩; replace HB := za qP64; clear hb) | (go_at_call 64; (with_reducible refine (spec_l1In.calls a1 1 500 true _ A5.1).mono ?_); rintro e w' ⟨rfl, ⟨nd, rfl⟩⟩))
    go_ret
    exact ⟨(qP19), (qP1)⟩
   ·rw [zV c7] at H; have c7b0 : ((l0.length : Int) == 0) = false := zu c7; have c7b1 : ((l0.length : Int) != 0) = true := zN c7; have c7b2 : ¬ (l0 = []) := fun h_ => c7 (by rw [h_]; rfl); replace H := bindA H; obtain ⟨⟨t121, t122, t123, t124⟩, A9, H⟩ := H; (try dsimp only at H)
    by_cases c10 : (wrap64 (t122 - t121)) < 20
    ·rw [zU c10] at H; have c10b0 : decide ((wrap64 (t122 - t121)) < 20) = true := zc c10; clear c10; obtain rfl := zk H
     go_enter Try.func44, Try.ntmps44
     go_wp2_with (first | ((with_reducible refine zn (f := 63) rfl ?_); refine zO (some 10) rfl rfl Try.func63 (qP22) rfl #[.slice A0 l0.length c0] rfl (qP5) ?_; (with_reducible refine (spec_l13Good.calls k _ _ l0 true _ ?s1 ?s2 A3.1).mono ?_); (case s1 => exact (qP20)); (case s2 => exact HC0.1); rintro e w11 ⟨rfl, hb⟩; refine ⟨_, rfl, ?_⟩; replace HB := za qP64; clear hb) | (go_at_call 64; (with_reducible refine (spec_l1In.calls a1 1 500 true _ A5.1).mono ?_); rintro e w' ⟨rfl, ⟨nd, rfl⟩⟩) | ((with_reducible refine zn (f := 45) rfl ?_); refine zO (some 25) rfl rfl Try.func45 (qP22) rfl #[.slice A0 l0.length c0, .int .i64 a1] rfl (qP5) ?_; (with_reducible refine (spec_l13Bounds.calls k _ _ l0 a1 t121 t122 t123 t124 _ ?s1 ?s2 A9.1).mono ?_); (case s1 => exact (qP90)); (case s2 => exact HC0.1); rintro e w' ⟨rfl, ⟨nd, rfl⟩⟩; refine ⟨_, rfl, ?_⟩))
     go_ret
     exact ⟨(qP19), (qP1)⟩
    ·rw [zV c10] at H; have c10b0 : decide ((wrap64 (t122 - t121)) < 20) = false := zs c10; clear c10; obtain rfl := zk H
     go_enter Try.func44, Try.ntmps44
     go_wp2_with (first | ((with_reducible refine zn (f := 63) rfl ?_); refine zO (some 10) rfl rfl Try.func63 (qP22) rfl #[.slice A0 l0.length c0] rfl (qP5) ?_; (with_reducible refine (spec_l13Good.calls k _ _ l0 true _ ?s1 ?s2 A3.1).mono ?_); (case s1 => exact (qP20)); (case s2 => exact HC0.1); rintro e w12 ⟨rfl, hb⟩; refine ⟨_, rfl, ?_⟩; replace HB := za qP64; clear hb) | (go_at_call 64; (with_reducible refine (spec_l1In.calls a1 1 500 true _ A5.1).mono ?_); rintro e w' ⟨rfl, ⟨nd, rfl⟩⟩) | ((with_reducible refine zn (f := 45) rfl ?_); refine zO (some 25) rfl rfl Try.func45 (qP22) rfl #[.slice A0 l0.length c0, .int .i64 a1] rfl (qP5) ?_; (with_reducible refine (spec_l13Bounds.calls k _ _ l0 a1 t121 t122 t123 t124 _ ?s1 ?s2 A9.1).mono ?_); (case s1 => exact (qP90)); (case s2 => exact HC0.1); rintro e w' ⟨rfl, ⟨nd, rfl⟩⟩; refine ⟨_, rfl, ?_⟩))
     go_ret
     exact ⟨(qP19), (qP1)⟩
  ·replace c6 := zl c6; subst c6; rw [zV (show ¬ (false = true) by decide)] at H; obtain rfl := zk H
   go_enter Try.func44, Try.ntmps44
   go_wp2_with (first | ((with_reducible refine zn (f := 63) rfl ?_); refine zO (some 10) rfl rfl Try.func63 (qP22) rfl #[.slice A0 l0.length c0] rfl (qP5) ?_; (with_reducible refine (spec_l13Good.calls k _ _ l0 true _ ?s1 ?s2 A3.1).mono ?_); (case s1 => exact (qP20)); (case s2 => exact HC0.1); rintro e w13 ⟨rfl, hb⟩; refine ⟨_, rfl, ?_⟩; replace HB := za qP64; clear hb) | (go_at_call 64; (with_reducible refine (spec_l1In.calls a1 1 500 false _ A5.1).mono ?_); rintro e w' ⟨rfl, ⟨nd, rfl⟩⟩))
   go_ret
   exact ⟨(qP19), (qP1)⟩
 ·replace c4 := zl c4; subst c4; rw [zV (show ¬ (false = true) by decide)] at H; obtain rfl := zk H
  go_enter Try.func44, Try.ntmps44
  go_wp2_with (first | ((with_reducible refine zn (f := 63) rfl ?_); refine zO (some 10) rfl rfl Try.func63 (qP22) rfl #[.slice A0 l0.length c0] rfl (qP5) ?_; (with_reducible refine (spec_l13Good.calls k _ _ l0 false _ ?s1 ?s2 A3.1).mono ?_); (case s1 => exact (qP20)); (case s2 => exact HC0.1); rintro e w14 ⟨rfl, hb⟩; refine ⟨_, rfl, ?_⟩; replace HB := za qP64; clear hb))
  go_ret
  exact ⟨(qP19), (qP1)⟩

def spec_l13At.l0 : Nat → List (S44) → Int → Int → Int → Int → Option (ByteArray)
 | 0, _, _, _, _, _ => none
 | k + 1, x0, x1, x2, x3, x9 => if x9 < (x0.length : Int) then (if 0 ≤ x9 then ((spec_l13Square.f ((rd_T44 x0 x9).f1) x1).bind fun t126 => (if t126 = x2 then ((spec_l13Square.f ((rd_T44 x0 x9).f2) x1).bind fun t128 => (if t128 = x3 then (some ((rd_T44 x0 x9).f0)) else (spec_l13At.l0 k x0 x1 x2 x3 (wrap64 (x9 + 1))))) else (spec_l13At.l0 k x0 x1 x2 x3 (wrap64 (x9 + 1))))) else (none)) else (some (⟨#[46]⟩ : ByteArray))
def spec_l13At.f (k : Nat) (l0 : List (S44)) (a1 : Int) (a2 : Int) (a3 : Int) : Option (ByteArray) := spec_l13At.l0 k l0 a1 a2 a3 0
theorem spec_l13At.calls (k : Nat) (A0 : Option Addr) (c0 : Nat) (l0 : List (S44)) (a1 : Int) (a2 : Int) (a3 : Int) (r : ByteArray) (w : World) (hr0 : Kd.C k44 w A0 l0.length l0) (hc0 : l0.length ≤ c0) (h : spec_l13At.f k l0 a1 a2 a3 = some r) :
  Calls Try.prog 46 #[.slice A0 l0.length c0, .int .i64 a1, .int .i64 a2, .int .i64 a3] w fun e w' => e = .returned (.string r) ∧ Drawn0 w w' := by
 have HR0 := za hr0; have HC0 := za hc0; clear hr0 hc0; have H : (spec_l13At.l0 k l0 a1 a2 a3 0) = some r := h; clear h; have H' := za H; clear H
 go_enter Try.func46, Try.ntmps46
 go_wp2
 go_loopg [9] k (fun kq v9 w' => ∃ (x9_1 : Int), v9 = .int .i64 x9_1 ∧ Aside0 (spec_l13At.l0 kq l0 a1 a2 a3 x9_1 = some r) ∧ Aside0 (kq ≤ k) ∧ Drawn0 w w')
 case atStart => exact ⟨(0), (qP17), H', ⟨zm _⟩, (qP31)⟩
 case round =>
  clear H'; obtain ⟨x9_1, rfl, HA, HK1, ⟨m1, rfl⟩⟩ := hrel
  cases gk with
  | zero => exact zJ HA.1 (by simp [spec_l13At.l0])
  | succ k1 =>
   have H := HA.1; clear HA; simp only [spec_l13At.l0] at H
   by_cases c5 : x9_1 < (l0.length : Int)
   ·rw [zU c5] at H; have c5b0 : decide (x9_1 < (l0.length : Int)) = true := zc c5; clear c5
    by_cases c6 : 0 ≤ x9_1
    ·rw [zU c6] at H; have c6b0 : decide (0 ≤ x9_1) = true := zc c6; clear c6; replace H := bindA H; obtain ⟨t126, A7, H⟩ := H; (try dsimp only at H)
     by_cases c8 : t126 = a2
     ·rw [zU c8] at H; have c8b0 : (t126 == a2) = true := zM c8; have c8b1 : (t126 != a2) = false := zv c8; clear c8; replace H := bindA H; obtain ⟨t128, A9, H⟩ := H; (try dsimp only at H)
      by_cases c10 : t128 = a3
      ·rw [zU c10] at H; have c10b0 : (t128 == a3) = true := zM c10; have c10b1 : (t128 != a3) = false := zv c10; clear c10; obtain rfl := zk H; have p125 : 0 ≤ (x9_1 : Int) := zb (qP9); have q125 : x9_1 < (l0.length : Int) := zb (qP9); obtain ⟨ad125, e125, hx125_0, hx125_1, hx125_2⟩ := at_T44 HR0.1 x9_1 p125 q125; cases e125; replace p125 := zt p125; replace q125 := zt q125
       go_wp2_with (first | ((with_reducible refine zn (f := 51) rfl ?_); refine zO (some 22) rfl rfl Try.func51 (qP22) rfl #[.int .i64 ((rd_T44 l0 x9_1).f1), .int .i64 a1] rfl (qP5) ?_; (with_reducible refine (spec_l13Square.calls ((rd_T44 l0 x9_1).f1) a1 t126 _ A7.1).mono ?_); rintro e w' ⟨rfl, ⟨nd, rfl⟩⟩; refine ⟨_, rfl, ?_⟩; have p127 : 0 ≤ (x9_1 : Int) := zb (qP9); have q127 : x9_1 < (l0.length : Int) := zb (qP9); obtain ⟨ad127, e127, hx127_0, hx127_1, hx127_2⟩ := at_T44 HR0.1 x9_1 p127 q127; obtain rfl : ad125 = ad127 := (by injection e127); replace p127 := zt p127; replace q127 := zt q127) | (go_at_call 51; (with_reducible refine (spec_l13Square.calls ((rd_T44 l0 x9_1).f2) a1 t128 _ A9.1).mono ?_); rintro e w' ⟨rfl, ⟨nd, rfl⟩⟩; have p129 : 0 ≤ (x9_1 : Int) := zb (qP9); have q129 : x9_1 < (l0.length : Int) := zb (qP9); obtain ⟨ad129, e129, hx129_0, hx129_1, hx129_2⟩ := at_T44 HR0.1 x9_1 p129 q129; obtain rfl : ad125 = ad129 := (by injection e129); replace p129 := zt p129; replace q129 := zt q129))
       go_ret
       exact ⟨(qP17), (qP31)⟩
      ·rw [zV c10] at H; have c10b0 : (t128 == a3) = false := zu c10; have c10b1 : (t128 != a3) = true := zN c10; have H' := za H; clear H; have p125 : 0 ≤ (x9_1 : Int) := zb (qP9); have q125 : x9_1 < (l0.length : Int) := zb (qP9); obtain ⟨ad125, e125, hx125_0, hx125_1, hx125_2⟩ := at_T44 HR0.1 x9_1 p125 q125; cases e125; replace p125 := zt p125; replace q125 := zt q125
       go_wp2_with (first | ((with_reducible refine zn (f := 51) rfl ?_); refine zO (some 22) rfl rfl Try.func51 (qP22) rfl #[.int .i64 ((rd_T44 l0 x9_1).f1), .int .i64 a1] rfl (qP5) ?_; (with_reducible refine (spec_l13Square.calls ((rd_T44 l0 x9_1).f1) a1 t126 _ A7.1).mono ?_); rintro e w' ⟨rfl, ⟨nd, rfl⟩⟩; refine ⟨_, rfl, ?_⟩; have p127 : 0 ≤ (x9_1 : Int) := zb (qP9); have q127 : x9_1 < (l0.length : Int) := zb (qP9); obtain ⟨ad127, e127, hx127_0, hx127_1, hx127_2⟩ := at_T44 HR0.1 x9_1 p127 q127; obtain rfl : ad125 = ad127 := (by injection e127); replace p127 := zt p127; replace q127 := zt q127) | (go_at_call 51; (with_reducible refine (spec_l13Square.calls ((rd_T44 l0 x9_1).f2) a1 t128 _ A9.1).mono ?_); rintro e w' ⟨rfl, ⟨nd, rfl⟩⟩))
       go_roundg k1
       case measure => have := HK1.1; omega
       case rel => exact ⟨(wrap64 (x9_1 + 1)), (qP17), H', ⟨by have := HK1.1; omega⟩, (qP31)⟩
     ·rw [zV c8] at H; have c8b0 : (t126 == a2) = false := zu c8; have c8b1 : (t126 != a2) = true := zN c8; have H' := za H; clear H; have p125 : 0 ≤ (x9_1 : Int) := zb (qP9); have q125 : x9_1 < (l0.length : Int) := zb (qP9); obtain ⟨ad125, e125, hx125_0, hx125_1, hx125_2⟩ := at_T44 HR0.1 x9_1 p125 q125; cases e125; replace p125 := zt p125; replace q125 := zt q125
      go_wp2_with (first | ((with_reducible refine zn (f := 51) rfl ?_); refine zO (some 22) rfl rfl Try.func51 (qP22) rfl #[.int .i64 ((rd_T44 l0 x9_1).f1), .int .i64 a1] rfl (qP5) ?_; (with_reducible refine (spec_l13Square.calls ((rd_T44 l0 x9_1).f1) a1 t126 _ A7.1).mono ?_); rintro e w' ⟨rfl, ⟨nd, rfl⟩⟩; refine ⟨_, rfl, ?_⟩))
      go_roundg k1
      case measure => have := HK1.1; omega
      case rel => exact ⟨(wrap64 (x9_1 + 1)), (qP17), H', ⟨by have := HK1.1; omega⟩, (qP31)⟩
    ·rw [zV c6] at H
     exact zJ H (by simp)
   ·rw [zV c5] at H; have c5b0 : decide (x9_1 < (l0.length : Int)) = false := zs c5; clear c5; obtain rfl := zk H
    go_wp2
    go_ret
    exact ⟨(qP17), (qP31)⟩

mutual
def spec_PlanText.l0 : Nat → List (S44) → Int → Int → Int → Int → ByteArray → Int → Option (ByteArray × Bool)
 | 0, _, _, _, _, _, _, _ => none
 | k + 1, x0, x1, x6, x7, x8, x10, x11 => if x11 ≥ x8 then (spec_PlanText.l1 k x0 x1 x6 x7 x8 x10 x11 x6) else (some (x10, true))
def spec_PlanText.l1 : Nat → List (S44) → Int → Int → Int → Int → ByteArray → Int → Int → Option (ByteArray × Bool)
 | 0, _, _, _, _, _, _, _, _ => none
 | k + 1, x0, x1, x6, x7, x8, x10, x11, x12 => if x12 ≤ x7 then ((spec_l13At.f k x0 x1 x12 x11).bind fun t135 => (if x10.size + t135.size ≤ 9223372036854775807 then (spec_PlanText.l1 k x0 x1 x6 x7 x8 (x10 ++ t135) x11 (wrap64 (x12 + 1))) else (none))) else (if x10.size + 1 ≤ 9223372036854775807 then (spec_PlanText.l0 k x0 x1 x6 x7 x8 (x10 ++ (⟨#[10]⟩ : ByteArray)) (wrap64 (x11 - 1))) else (none))
end
def spec_PlanText.f (k : Nat) (l0 : List (S44)) (a1 : Int) : Option (ByteArray × Bool) := (spec_l13Fits.f k l0 a1).bind fun t130 => (if t130 = true then ((spec_l13Bounds.f k l0 a1).bind fun bt131 => (spec_PlanText.l0 k l0 a1 bt131.1 bt131.2.1 bt131.2.2.1 (⟨#[]⟩ : ByteArray) bt131.2.2.2)) else (some ((⟨#[]⟩ : ByteArray), false)))
theorem spec_PlanText.calls (k : Nat) (A0 : Option Addr) (c0 : Nat) (l0 : List (S44)) (a1 : Int) (r1 : ByteArray) (r2 : Bool) (w : World) (hr0 : Kd.C k44 w A0 l0.length l0) (hc0 : l0.length ≤ c0) (h : spec_PlanText.f k l0 a1 = some (r1, r2)) :
  Calls Try.prog 9 #[.slice A0 l0.length c0, .int .i64 a1] w fun e w' => e = .returned (.tuple #[.string r1, .bool r2]) ∧ Below w.heap.size w w' := by
 have HR0 := za hr0; have HC0 := za hc0; clear hr0 hc0; have HB := za (zp w.heap.size w); have H : ((spec_l13Fits.f k l0 a1).bind fun t130 => (if t130 = true then ((spec_l13Bounds.f k l0 a1).bind fun bt131 => (spec_PlanText.l0 k l0 a1 bt131.1 bt131.2.1 bt131.2.2.1 (⟨#[]⟩ : ByteArray) bt131.2.2.2)) else (some ((⟨#[]⟩ : ByteArray), false)))) = some (r1, r2) := h; clear h; replace H := bindA H; obtain ⟨t130, A3, H⟩ := H; (try dsimp only at H)
 by_cases c4 : t130 = true
 ·subst c4; rw [zU rfl] at H; replace H := bindA H; obtain ⟨⟨t131, t132, t133, t134⟩, A5, H⟩ := H; (try dsimp only at H); have H' := za H; clear H
  go_enter Try.func9, Try.ntmps9
  go_wp2_with (first | ((with_reducible refine zn (f := 44) rfl ?_); refine zO (some 15) rfl rfl Try.func44 (qP22) rfl #[.slice A0 l0.length c0, .int .i64 a1] rfl (qP5) ?_; (with_reducible refine (spec_l13Fits.calls k _ _ l0 a1 true _ ?s1 ?s2 A3.1).mono ?_); (case s1 => exact (qP20)); (case s2 => exact HC0.1); rintro e w6 ⟨rfl, hb⟩; refine ⟨_, rfl, ?_⟩; replace HB := za qP64; clear hb) | ((with_reducible refine zn (f := 45) rfl ?_); refine zO (some 20) rfl rfl Try.func45 (qP22) rfl #[.slice A0 l0.length c0, .int .i64 a1] rfl (qP5) ?_; (with_reducible refine (spec_l13Bounds.calls k _ _ l0 a1 t131 t132 t133 t134 _ ?s1 ?s2 A5.1).mono ?_); (case s1 => exact (qP11)); (case s2 => exact HC0.1); rintro e w' ⟨rfl, ⟨nd, rfl⟩⟩; refine ⟨_, rfl, ?_⟩))
  go_loopg [10, 11] k (fun kq v10 v11 w' => ∃ (x10_1 : ByteArray) (x11_1 : Int), v10 = .string x10_1 ∧ v11 = .int .i64 x11_1 ∧ Aside0 (spec_PlanText.l0 kq l0 a1 t131 t132 t133 x10_1 x11_1 = some (r1, r2)) ∧ Aside0 (kq ≤ k) ∧ Aside0 (Below w.heap.size w w'))
  case atStart => exact ⟨((⟨#[]⟩ : ByteArray)), (t134), (qP17), (qP17), H', ⟨zm _⟩, ⟨(qP1)⟩⟩
  case round =>
   clear H'; (try clear c4); obtain ⟨x10_1, x11_1, rfl, rfl, HA, HK1, HB⟩ := hrel
   cases gk with
   | zero => exact zJ HA.1 (by simp [spec_PlanText.l0])
   | succ k1 =>
    have H := HA.1; clear HA; simp only [spec_PlanText.l0] at H
    by_cases c7 : x11_1 ≥ t133
    ·rw [zU c7] at H; have c7b0 : decide (t133 ≤ x11_1) = true := zc c7; clear c7; have H' := za H; clear H
     go_wp2
     go_loopg [10, 12] k1 (fun kq v10 v12 w' => ∃ (x10_2 : ByteArray) (x12_2 : Int), v10 = .string x10_2 ∧ v12 = .int .i64 x12_2 ∧ Aside0 (spec_PlanText.l1 kq l0 a1 t131 t132 t133 x10_2 x11_1 x12_2 = some (r1, r2)) ∧ Aside0 (kq ≤ k1) ∧ Aside0 (Below w.heap.size w w'))
     case atStart => exact ⟨(x10_1), (t131), (qP17), (qP17), H', ⟨zm _⟩, ⟨(qP1)⟩⟩
     case round =>
      clear H'; (try clear c7b0); obtain ⟨x10_2, x12_2, rfl, rfl, HA, HK2, HB⟩ := hrel
      cases gk with
      | zero => exact zJ HA.1 (by simp [spec_PlanText.l1])
      | succ k2 =>
       have H := HA.1; clear HA; simp only [spec_PlanText.l1] at H
       by_cases c8 : x12_2 ≤ t132
       ·rw [zU c8] at H; have c8b0 : decide (x12_2 ≤ t132) = true := zc c8; clear c8; replace H := bindA H; obtain ⟨t135, A9, H⟩ := H; (try dsimp only at H)
        by_cases c10 : x10_2.size + t135.size ≤ 9223372036854775807
        ·rw [zU c10] at H; have c10b0 := zt c10; have c10b1 : decide (x10_2.size + t135.size ≤ 9223372036854775807) = true := zc c10
         try have c10b2 : (9223372036854775807 < x10_2.size + t135.size) = False := eq_false (Nat.not_lt.2 c10)
         have H' := za H; clear H
         go_wp2_with (first | ((with_reducible refine zn (f := 46) rfl ?_); refine zO (some 42) rfl rfl Try.func46 (qP22) rfl #[.slice A0 l0.length c0, .int .i64 a1, .int .i64 x12_2, .int .i64 x11_1] rfl (qP5) ?_; (with_reducible refine (spec_l13At.calls k2 _ _ l0 a1 x12_2 x11_1 t135 _ ?s1 ?s2 A9.1).mono ?_); (case s1 => exact (qP11)); (case s2 => exact HC0.1); rintro e w' ⟨rfl, ⟨nd, rfl⟩⟩; refine ⟨_, rfl, ?_⟩))
         go_roundg k2
         case measure => have := HK1.1; have := HK2.1; omega
         case rel => exact ⟨(x10_2 ++ t135), (wrap64 (x12_2 + 1)), (qP17), (qP17), H', ⟨by have := HK1.1; have := HK2.1; omega⟩, ⟨(qP1)⟩⟩
        ·rw [zV c10] at H
         exact zJ H (by simp)
       ·rw [zV c8] at H; have c8b0 : decide (x12_2 ≤ t132) = false := zs c8; clear c8
        by_cases c11 : x10_2.size + 1 ≤ 9223372036854775807
        ·rw [zU c11] at H; have c11b0 := zt c11; have c11b1 : decide (x10_2.size + 1 ≤ 9223372036854775807) = true := zc c11
         try have c11b2 : (9223372036854775807 < x10_2.size + 1) = False := eq_false (Nat.not_lt.2 c11)
         have H' := za H; clear H
         go_wp2
         go_roundg k2
         case measure => have := HK1.1; have := HK2.1; omega
         case rel => exact ⟨(x10_2 ++ (⟨#[10]⟩ : ByteArray)), (wrap64 (x11_1 - 1)), (qP17), (qP17), H', ⟨by have := HK1.1; have := HK2.1; omega⟩, ⟨(qP1)⟩⟩
        ·rw [zV c11] at H
         exact zJ H (by simp)
    ·rw [zV c7] at H; have c7b0 : decide (t133 ≤ x11_1) = false := zs c7; clear c7; simp only [zW, zX] at H; obtain ⟨rfl, rfl⟩ := H
     go_wp2
     go_ret2
     exact ⟨(qP19), (qP1)⟩
 ·replace c4 := zl c4; subst c4; rw [zV (show ¬ (false = true) by decide)] at H; simp only [zW, zX] at H; obtain ⟨rfl, rfl⟩ := H
  go_enter Try.func9, Try.ntmps9
  go_wp2_with (first | ((with_reducible refine zn (f := 44) rfl ?_); refine zO (some 15) rfl rfl Try.func44 (qP22) rfl #[.slice A0 l0.length c0, .int .i64 a1] rfl (qP5) ?_; (with_reducible refine (spec_l13Fits.calls k _ _ l0 a1 false _ ?s1 ?s2 A3.1).mono ?_); (case s1 => exact (qP20)); (case s2 => exact HC0.1); rintro e w12 ⟨rfl, hb⟩; refine ⟨_, rfl, ?_⟩; replace HB := za qP64; clear hb))
  go_ret2
  exact ⟨(qP19), (qP1)⟩

def impl_within.f (a0 : Int) (a1 : Int) (a2 : Int) : Option (Bool) := if a0 ≥ a1 then (some (decide (a0 ≤ a2))) else (some false)
theorem impl_within.calls (a0 : Int) (a1 : Int) (a2 : Int) (r : Bool) (w : World) (h : impl_within.f a0 a1 a2 = some r) :
  Calls Try.prog 61 #[.int .i64 a0, .int .i64 a1, .int .i64 a2] w fun e w' => e = .returned (.bool r) ∧ Drawn0 w w' := by
 have H : (if a0 ≥ a1 then (some (decide (a0 ≤ a2))) else (some false)) = some r := h; clear h
 by_cases c4 : a0 ≥ a1
 ·rw [zU c4] at H; have c4b0 : decide (a1 ≤ a0) = true := zc c4; clear c4; obtain rfl := zk H
  go_enter Try.func61, Try.ntmps61
  go_wp2
  go_ret
  exact ⟨(qP17), (qP31)⟩
 ·rw [zV c4] at H; have c4b0 : decide (a1 ≤ a0) = false := zs c4; clear c4; obtain rfl := zk H
  go_enter Try.func61, Try.ntmps61
  go_wp2
  go_ret
  exact ⟨(qP17), (qP31)⟩

mutual
def impl_AreMarks.l0 : Nat → List (S44) → List (S44) → Int → Int → Option (Bool)
 | 0, _, _, _, _ => none
 | k + 1, x0, x5, x6, x7 => if x7 < x6 then (if 0 ≤ x7 then (if x7 < (x5.length : Int) then (if (((rd_T44 x5 x7).f0).size : Int) = 1 then (if (Op.bytesLess (((rd_T44 x5 x7).f0).toList) ([65] : List UInt8)) = true then (impl_AreMarks.j1 k x0 x7 x5 x6 x7 true ((rd_T44 x5 x7).f0) ((rd_T44 x5 x7).f1) ((rd_T44 x5 x7).f2)) else (if (Op.bytesLess ([90] : List UInt8) (((rd_T44 x5 x7).f0).toList)) = true then (impl_AreMarks.j1 k x0 x7 x5 x6 x7 true ((rd_T44 x5 x7).f0) ((rd_T44 x5 x7).f1) ((rd_T44 x5 x7).f2)) else ((impl_within.f ((rd_T44 x5 x7).f1) (-1000) 1000).bind fun t138 => (if t138 = true then ((impl_within.f ((rd_T44 x5 x7).f2) (-1000) 1000).bind fun t139 => (impl_AreMarks.j1 k x0 x7 x5 x6 x7 (!t139) ((rd_T44 x5 x7).f0) ((rd_T44 x5 x7).f1) ((rd_T44 x5 x7).f2))) else (impl_AreMarks.j1 k x0 x7 x5 x6 x7 true ((rd_T44 x5 x7).f0) ((rd_T44 x5 x7).f1) ((rd_T44 x5 x7).f2)))))) else (impl_AreMarks.j1 k x0 x7 x5 x6 x7 true ((rd_T44 x5 x7).f0) ((rd_T44 x5 x7).f1) ((rd_T44 x5 x7).f2))) else (none)) else (none)) else (some (decide ((x0.length : Int) ≤ 12)))
def impl_AreMarks.j1 : Nat → List (S44) → Int → List (S44) → Int → Int → Bool → ByteArray → Int → Int → Option (Bool)
 | 0, _, _, _, _, _, _, _, _, _ => none
 | k + 1, x0, x3, x5, x6, x7, x37, x138000, x138001, x138002 => if x37 = true then (some false) else (if x3 > 0 then (if 0 ≤ (wrap64 (x3 - 1)) then (if (wrap64 (x3 - 1)) < (x0.length : Int) then (if ((Op.bytesLess (((rd_T44 x0 (wrap64 (x3 - 1))).f0).toList) x138000.toList) = true) then (impl_AreMarks.l0 k x0 x5 x6 (wrap64 (x7 + 1))) else (some false)) else (none)) else (none)) else (impl_AreMarks.l0 k x0 x5 x6 (wrap64 (x7 + 1))))
end
def impl_AreMarks.f (k : Nat) (l0 : List (S44)) : Option (Bool) := impl_AreMarks.l0 k l0 l0 (l0.length : Int) 0
theorem impl_AreMarks.calls (k : Nat) (A0 : Option Addr) (c0 : Nat) (l0 : List (S44)) (r : Bool) (w : World) (hr0 : Kd.C k44 w A0 l0.length l0) (hc0 : l0.length ≤ c0) (h : impl_AreMarks.f k l0 = some r) :
  Calls Try.prog 36 #[.slice A0 l0.length c0] w fun e w' => e = .returned (.bool r) ∧ Below w.heap.size w w' := by
 have hu44 := Try.underlying44; have HR0 := za hr0; have HC0 := za hc0; clear hr0 hc0; have HB := za (zp w.heap.size w); have H : (impl_AreMarks.l0 k l0 l0 (l0.length : Int) 0) = some r := h; clear h; have H' := za H; clear H
 go_enter Try.func36, Try.ntmps36
 go_wp2
 repeat (go_quiet (fail); try go_wp2)
 go_loopg [7] k (fun kq v7 w' => ∃ (x7_1 : Int), v7 = .int .i64 x7_1 ∧ Aside0 (impl_AreMarks.l0 kq l0 l0 (l0.length : Int) x7_1 = some r) ∧ Aside0 (kq ≤ k) ∧ Aside0 (Below w.heap.size w w'))
 case atStart => exact ⟨(0), (qP17), H', ⟨zm _⟩, ⟨(qP1)⟩⟩
 case round =>
  clear H'; obtain ⟨x7_1, rfl, HA, HK1, HB⟩ := hrel
  cases gk with
  | zero => exact zJ HA.1 (by simp [impl_AreMarks.l0])
  | succ k1 =>
   have H := HA.1; clear HA; simp only [impl_AreMarks.l0] at H
   by_cases c2 : x7_1 < (l0.length : Int)
   ·rw [zU c2] at H; have c2b0 : decide (x7_1 < (l0.length : Int)) = true := zc c2; clear c2
    by_cases c3 : 0 ≤ x7_1
    ·rw [zU c3] at H; have c3b0 : decide (0 ≤ x7_1) = true := zc c3; clear c3
     by_cases c4 : x7_1 < (l0.length : Int)
     ·rw [zU c4] at H; have c4b0 : decide (x7_1 < (l0.length : Int)) = true := zc c4; clear c4; have HC5 := za H; clear H; have p136 : 0 ≤ (x7_1 : Int) := zb (qP9); have q136 : x7_1 < (l0.length : Int) := zb (qP9); obtain ⟨ad136, e136, hx136_0, hx136_1, hx136_2⟩ := at_T44 HR0.1 x7_1 p136 q136; cases e136; replace hx136_0 := (HB.1.cell (zd w _ hx136_0)).trans hx136_0; replace hx136_1 := (HB.1.cell (zd w _ hx136_1)).trans hx136_1; replace hx136_2 := (HB.1.cell (zd w _ hx136_2)).trans hx136_2; replace p136 := zt p136; replace q136 := zt q136
      go_upto_region 4 with (first | ((with_reducible refine zo (N := 4) rfl ?_); refine zy ?hg (N := 4) ?hd (cs := #[.string (⟨#[]⟩ : ByteArray), .int .i64 0, .int .i64 0]) (t := 44) ?hr ?_; (case hd | hg => rfl); (case hr => exact (qP24)); intro gb137 hg w6 hbox hb; have BK137 := za hbox; have GW137 := za qP80; have GE137 := za qP80; replace HB := za qP64; clear hb hbox hg; have hcz7_0 : w6.cell? ⟨gb137, 0, none⟩ = some (.string (⟨#[]⟩ : ByteArray)) := (blk_cell BK137.1 0).trans rfl; have hcz7_1 : w6.cell? ⟨gb137, 1, none⟩ = some (.int .i64 0) := (blk_cell BK137.1 1).trans rfl; have hcz7_2 : w6.cell? ⟨gb137, 2, none⟩ = some (.int .i64 0) := (blk_cell BK137.1 2).trans rfl; have hfz7_0 := ze BK137.1 0; have hfz7_1 := ze BK137.1 1; have hfz7_2 := ze BK137.1 2))
      repeat (go_quiet (first | ((with_reducible refine zo (N := 4) rfl ?_); refine zy ?hg (N := 4) ?hd (cs := #[.string (⟨#[]⟩ : ByteArray), .int .i64 0, .int .i64 0]) (t := 44) ?hr ?_; (case hd | hg => rfl); (case hr => exact (qP24)); intro gb137 hg w6 hbox hb; have BK137 := za hbox; have GW137 := za qP80; have GE137 := za qP80; replace HB := za qP64; clear hb hbox hg; have hcz7_0 : w6.cell? ⟨gb137, 0, none⟩ = some (.string (⟨#[]⟩ : ByteArray)) := (blk_cell BK137.1 0).trans rfl; have hcz7_1 : w6.cell? ⟨gb137, 1, none⟩ = some (.int .i64 0) := (blk_cell BK137.1 1).trans rfl; have hcz7_2 : w6.cell? ⟨gb137, 2, none⟩ = some (.int .i64 0) := (blk_cell BK137.1 2).trans rfl; have hfz7_0 := ze BK137.1 0; have hfz7_1 := ze BK137.1 1; have hfz7_2 := ze BK137.1 2)); go_upto_region 4 with (first | ((with_reducible refine zo (N := 4) rfl ?_); refine zy ?hg (N := 4) ?hd (cs := #[.string (⟨#[]⟩ : ByteArray), .int .i64 0, .int .i64 0]) (t := 44) ?hr ?_; (case hd | hg => rfl); (case hr => exact (qP24)); intro gb137 hg w6 hbox hb; have BK137 := za hbox; have GW137 := za qP80; have GE137 := za qP80; replace HB := za qP64; clear hb hbox hg; have hcz7_0 : w6.cell? ⟨gb137, 0, none⟩ = some (.string (⟨#[]⟩ : ByteArray)) := (blk_cell BK137.1 0).trans rfl; have hcz7_1 : w6.cell? ⟨gb137, 1, none⟩ = some (.int .i64 0) := (blk_cell BK137.1 1).trans rfl; have hcz7_2 : w6.cell? ⟨gb137, 2, none⟩ = some (.int .i64 0) := (blk_cell BK137.1 2).trans rfl; have hfz7_0 := ze BK137.1 0; have hfz7_1 := ze BK137.1 1; have hfz7_2 := ze BK137.1 2)))
      (try simp only [Act.put, zY, zZ, ya])
      go_cut [37] (fun v37 wc => ∃ (kq : Nat) (x37_4 : Bool), v37 = .bool x37_4 ∧ Aside0 (impl_AreMarks.j1 kq l0 x7_1 l0 (l0.length : Int) x7_1 x37_4 ((rd_T44 l0 x7_1).f0) ((rd_T44 l0 x7_1).f1) ((rd_T44 l0 x7_1).f2) = some r) ∧ Aside0 (kq ≤ k1) ∧ Aside0 (wc.heap[gb137]? = some (.cells #[.string ((rd_T44 l0 x7_1).f0), .int .i64 ((rd_T44 l0 x7_1).f1), .int .i64 ((rd_T44 l0 x7_1).f2)] 44 (0, 0))) ∧ Aside0 (Below w.heap.size w wc))
      case first =>
       have H := HC5.1; clear HC5
       by_cases c8 : (((rd_T44 l0 x7_1).f0).size : Int) = 1
       ·rw [zU c8] at H; have c8b0 : ((((rd_T44 l0 x7_1).f0).size : Int) == 1) = true := zM c8; have c8b1 : ((((rd_T44 l0 x7_1).f0).size : Int) != 1) = false := zv c8; clear c8
        (first | rw [c8b0] | (simp only [i64_w, i32_w]; rw [c8b0]) | skip)
        by_cases c9 : (Op.bytesLess (((rd_T44 l0 x7_1).f0).toList) ([65] : List UInt8)) = true
        ·rw [zU c9] at H; have c9b0 : (Op.bytesLess (((rd_T44 l0 x7_1).f0).toList) ([65] : List UInt8)) = true := c9; clear c9; have H' := za H; clear H; have hcz10_0 : w6.cell? ⟨gb137, 0, none⟩ = some (.string (⟨#[]⟩ : ByteArray)) := (blk_cell BK137.1 0).trans rfl; have hcz10_1 : w6.cell? ⟨gb137, 1, none⟩ = some (.int .i64 0) := (blk_cell BK137.1 1).trans rfl; have hcz10_2 : w6.cell? ⟨gb137, 2, none⟩ = some (.int .i64 0) := (blk_cell BK137.1 2).trans rfl; have hfz10_0 := ze BK137.1 0; have hfz10_1 := ze BK137.1 1; have hfz10_2 := ze BK137.1 2
         go_wp2
         repeat (go_quiet (fail); try go_wp2)
         go_meet
         case rel => exact ⟨_, (true), (qP17), H', ⟨by have := HK1.1; first | omega | exact zm _⟩, ⟨(qP16 BK137.1)⟩, ⟨(qP14 GE137.1)⟩⟩
        ·rw [zV c9] at H
         have c9b0 : (Op.bytesLess (((rd_T44 l0 x7_1).f0).toList) ([65] : List UInt8)) = false := by simpa using c9
         clear c9
         by_cases c11 : (Op.bytesLess ([90] : List UInt8) (((rd_T44 l0 x7_1).f0).toList)) = true
         ·rw [zU c11] at H; have c11b0 : (Op.bytesLess ([90] : List UInt8) (((rd_T44 l0 x7_1).f0).toList)) = true := c11; clear c11; have H' := za H; clear H; have hcz12_0 : w6.cell? ⟨gb137, 0, none⟩ = some (.string (⟨#[]⟩ : ByteArray)) := (blk_cell BK137.1 0).trans rfl; have hcz12_1 : w6.cell? ⟨gb137, 1, none⟩ = some (.int .i64 0) := (blk_cell BK137.1 1).trans rfl; have hcz12_2 : w6.cell? ⟨gb137, 2, none⟩ = some (.int .i64 0) := (blk_cell BK137.1 2).trans rfl; have hfz12_0 := ze BK137.1 0; have hfz12_1 := ze BK137.1 1; have hfz12_2 := ze BK137.1 2
          go_wp2
          repeat (go_quiet (fail); try go_wp2)
          go_meet
          case rel => exact ⟨_, (true), (qP17), H', ⟨by have := HK1.1; first | omega | exact zm _⟩, ⟨(qP16 BK137.1)⟩, ⟨(qP14 GE137.1)⟩⟩
         ·rw [zV c11] at H
          have c11b0 : (Op.bytesLess ([90] : List UInt8) (((rd_T44 l0 x7_1).f0).toList)) = false := by simpa using c11
          clear c11; replace H := bindA H; obtain ⟨t138, A13, H⟩ := H; (try dsimp only at H)
          by_cases c14 : t138 = true
          ·subst c14; rw [zU rfl] at H; replace H := bindA H; obtain ⟨t139, A15, H⟩ := H; (try dsimp only at H); have H' := za H; clear H; have hcz16_0 : w6.cell? ⟨gb137, 0, none⟩ = some (.string (⟨#[]⟩ : ByteArray)) := (blk_cell BK137.1 0).trans rfl; have hcz16_1 : w6.cell? ⟨gb137, 1, none⟩ = some (.int .i64 0) := (blk_cell BK137.1 1).trans rfl; have hcz16_2 : w6.cell? ⟨gb137, 2, none⟩ = some (.int .i64 0) := (blk_cell BK137.1 2).trans rfl; have hfz16_0 := ze BK137.1 0; have hfz16_1 := ze BK137.1 1; have hfz16_2 := ze BK137.1 2
           go_wp2_with (first | (go_at_call 61; (with_reducible refine (impl_within.calls ((rd_T44 l0 x7_1).f1) (-1000) 1000 true _ A13.1).mono ?_); rintro e w' ⟨rfl, ⟨nd, rfl⟩⟩; (try first | exact ⟨rfl, _, zL _ _ _⟩ | exact ⟨rfl, _, Eq.trans (zL _ _ _) (congrArg (World.drewN _) (Nat.add_assoc _ _ _))⟩)) | (go_at_call 61; (with_reducible refine (impl_within.calls ((rd_T44 l0 x7_1).f2) (-1000) 1000 t139 _ A15.1).mono ?_); rintro e w' ⟨rfl, ⟨nd, rfl⟩⟩; (try first | exact ⟨rfl, _, zL _ _ _⟩ | exact ⟨rfl, _, Eq.trans (zL _ _ _) (congrArg (World.drewN _) (Nat.add_assoc _ _ _))⟩)))
           repeat (go_quiet (first | (go_at_call 61; (with_reducible refine (impl_within.calls ((rd_T44 l0 x7_1).f1) (-1000) 1000 true _ A13.1).mono ?_); rintro e w' ⟨rfl, ⟨nd, rfl⟩⟩; (try first | exact ⟨rfl, _, zL _ _ _⟩ | exact ⟨rfl, _, Eq.trans (zL _ _ _) (congrArg (World.drewN _) (Nat.add_assoc _ _ _))⟩)) | (go_at_call 61; (with_reducible refine (impl_within.calls ((rd_T44 l0 x7_1).f2) (-1000) 1000 t139 _ A15.1).mono ?_); rintro e w' ⟨rfl, ⟨nd, rfl⟩⟩; (try first | exact ⟨rfl, _, zL _ _ _⟩ | exact ⟨rfl, _, Eq.trans (zL _ _ _) (congrArg (World.drewN _) (Nat.add_assoc _ _ _))⟩))); try go_wp2_with (first | (go_at_call 61; (with_reducible refine (impl_within.calls ((rd_T44 l0 x7_1).f1) (-1000) 1000 true _ A13.1).mono ?_); rintro e w' ⟨rfl, ⟨nd, rfl⟩⟩; (try first | exact ⟨rfl, _, zL _ _ _⟩ | exact ⟨rfl, _, Eq.trans (zL _ _ _) (congrArg (World.drewN _) (Nat.add_assoc _ _ _))⟩)) | (go_at_call 61; (with_reducible refine (impl_within.calls ((rd_T44 l0 x7_1).f2) (-1000) 1000 t139 _ A15.1).mono ?_); rintro e w' ⟨rfl, ⟨nd, rfl⟩⟩; (try first | exact ⟨rfl, _, zL _ _ _⟩ | exact ⟨rfl, _, Eq.trans (zL _ _ _) (congrArg (World.drewN _) (Nat.add_assoc _ _ _))⟩))))
           go_meet
           case rel => exact ⟨_, (!t139), (qP17), H', ⟨by have := HK1.1; first | omega | exact zm _⟩, ⟨(qP16 BK137.1)⟩, ⟨(qP14 GE137.1)⟩⟩
          ·replace c14 := zl c14; subst c14; rw [zV (show ¬ (false = true) by decide)] at H; have H' := za H; clear H; have hcz17_0 : w6.cell? ⟨gb137, 0, none⟩ = some (.string (⟨#[]⟩ : ByteArray)) := (blk_cell BK137.1 0).trans rfl; have hcz17_1 : w6.cell? ⟨gb137, 1, none⟩ = some (.int .i64 0) := (blk_cell BK137.1 1).trans rfl; have hcz17_2 : w6.cell? ⟨gb137, 2, none⟩ = some (.int .i64 0) := (blk_cell BK137.1 2).trans rfl; have hfz17_0 := ze BK137.1 0; have hfz17_1 := ze BK137.1 1; have hfz17_2 := ze BK137.1 2
           go_wp2_with (first | (go_at_call 61; (with_reducible refine (impl_within.calls ((rd_T44 l0 x7_1).f1) (-1000) 1000 false _ A13.1).mono ?_); rintro e w' ⟨rfl, ⟨nd, rfl⟩⟩; (try first | exact ⟨rfl, _, zL _ _ _⟩ | exact ⟨rfl, _, Eq.trans (zL _ _ _) (congrArg (World.drewN _) (Nat.add_assoc _ _ _))⟩)))
           repeat (go_quiet (first | (go_at_call 61; (with_reducible refine (impl_within.calls ((rd_T44 l0 x7_1).f1) (-1000) 1000 false _ A13.1).mono ?_); rintro e w' ⟨rfl, ⟨nd, rfl⟩⟩; (try first | exact ⟨rfl, _, zL _ _ _⟩ | exact ⟨rfl, _, Eq.trans (zL _ _ _) (congrArg (World.drewN _) (Nat.add_assoc _ _ _))⟩))); try go_wp2_with (first | (go_at_call 61; (with_reducible refine (impl_within.calls ((rd_T44 l0 x7_1).f1) (-1000) 1000 false _ A13.1).mono ?_); rintro e w' ⟨rfl, ⟨nd, rfl⟩⟩; (try first | exact ⟨rfl, _, zL _ _ _⟩ | exact ⟨rfl, _, Eq.trans (zL _ _ _) (congrArg (World.drewN _) (Nat.add_assoc _ _ _))⟩))))
           go_meet
           case rel => exact ⟨_, (true), (qP17), H', ⟨by have := HK1.1; first | omega | exact zm _⟩, ⟨(qP16 BK137.1)⟩, ⟨(qP14 GE137.1)⟩⟩
       ·rw [zV c8] at H; have c8b0 : ((((rd_T44 l0 x7_1).f0).size : Int) == 1) = false := zu c8; have c8b1 : ((((rd_T44 l0 x7_1).f0).size : Int) != 1) = true := zN c8
        (first | rw [c8b0] | (simp only [i64_w, i32_w]; rw [c8b0]) | skip)
        have H' := za H; clear H; have hcz18_0 : w6.cell? ⟨gb137, 0, none⟩ = some (.string (⟨#[]⟩ : ByteArray)) := (blk_cell BK137.1 0).trans rfl; have hcz18_1 : w6.cell? ⟨gb137, 1, none⟩ = some (.int .i64 0) := (blk_cell BK137.1 1).trans rfl; have hcz18_2 : w6.cell? ⟨gb137, 2, none⟩ = some (.int .i64 0) := (blk_cell BK137.1 2).trans rfl; have hfz18_0 := ze BK137.1 0; have hfz18_1 := ze BK137.1 1; have hfz18_2 := ze BK137.1 2
        go_wp2
        repeat (go_quiet (fail); try go_wp2)
        go_meet
        case rel => exact ⟨_, (true), (qP17), H', ⟨by have := HK1.1; first | omega | exact zm _⟩, ⟨(qP16 BK137.1)⟩, ⟨(qP14 GE137.1)⟩⟩
      case rest =>
       clear HC5; (try clear c2b0); (try clear c3b0); (try clear c4b0); (try clear hcz7_0); (try clear hcz7_1); (try clear hcz7_2); (try clear hfz7_0); (try clear hfz7_1); (try clear hfz7_2); (try clear hx136_0); (try clear hx136_1); (try clear hx136_2); (try clear p136); (try clear q136); obtain ⟨kq, x37_4, rfl, HA, HJ4, BK137, HB⟩ := hcut
       cases kq with
       | zero => exact zJ HA.1 (by simp [impl_AreMarks.j1])
       | succ kj4 =>
        have H := HA.1; clear HA; simp only [impl_AreMarks.j1] at H
        by_cases c19 : x37_4 = true
        ·subst c19; rw [zU rfl] at H; obtain rfl := zk H
         go_wp2
         repeat (go_quiet (fail); try go_wp2)
         go_ret
         exact ⟨(qP19), (qP14 GE137.1)⟩
        ·replace c19 := zl c19; subst c19; rw [zV (show ¬ (false = true) by decide)] at H
         by_cases c20 : x7_1 > 0
         ·rw [zU c20] at H; have c20b0 : decide (0 < x7_1) = true := zc c20; clear c20; obtain ⟨ji21, hji21⟩ : ∃ j_ : Int, (wrap64 (x7_1 - 1)) = j_ := ⟨_, rfl⟩
          replace H : (if 0 ≤ (ji21) then (if (ji21) < (l0.length : Int) then (if ((Op.bytesLess (((rd_T44 l0 (ji21)).f0).toList) ((rd_T44 l0 x7_1).f0).toList) = true) then (impl_AreMarks.l0 kj4 l0 l0 (l0.length : Int) (wrap64 (x7_1 + 1))) else (some false)) else (none)) else (none)) = some r := by first | (rw [hji21] at H; exact H) | (simp only [hji21] at H ⊢; exact H)
          have hji21w : (IntKind.i64.wrap (x7_1 - 1)) = ji21 := (i64_w _).trans hji21
          by_cases c22 : 0 ≤ (ji21)
          ·rw [zU c22] at H; have c22b0 : decide (0 ≤ (ji21)) = true := zc c22; clear c22
           by_cases c23 : (ji21) < (l0.length : Int)
           ·rw [zU c23] at H; have c23b0 : decide ((ji21) < (l0.length : Int)) = true := zc c23; clear c23
            by_cases c24 : ((Op.bytesLess (((rd_T44 l0 (ji21)).f0).toList) ((rd_T44 l0 x7_1).f0).toList) = true)
            ·rw [zU c24] at H; have c24b0 : (Op.bytesLess (((rd_T44 l0 (ji21)).f0).toList) ((rd_T44 l0 x7_1).f0).toList) = true := c24; clear c24; have H' := za H; clear H; have p140 : 0 ≤ ((ji21) : Int) := zb (qP9); have q140 : (ji21) < (l0.length : Int) := zb (qP9); obtain ⟨ad140, e140, hx140_0, hx140_1, hx140_2⟩ := at_T44 HR0.1 (ji21) p140 q140; obtain rfl : ad136 = ad140 := (by injection e140); replace hx140_0 := (HB.1.cell (zd w _ hx140_0)).trans hx140_0; replace hx140_1 := (HB.1.cell (zd w _ hx140_1)).trans hx140_1; replace hx140_2 := (HB.1.cell (zd w _ hx140_2)).trans hx140_2; replace p140 := zt p140; replace q140 := zt q140; have hcz25_0 : wc.cell? ⟨gb137, 0, none⟩ = some (.string ((rd_T44 l0 x7_1).f0)) := (blk_cell BK137.1 0).trans rfl; have hcz25_1 : wc.cell? ⟨gb137, 1, none⟩ = some (.int .i64 ((rd_T44 l0 x7_1).f1)) := (blk_cell BK137.1 1).trans rfl; have hcz25_2 : wc.cell? ⟨gb137, 2, none⟩ = some (.int .i64 ((rd_T44 l0 x7_1).f2)) := (blk_cell BK137.1 2).trans rfl; have hfz25_0 := ze BK137.1 0; have hfz25_1 := ze BK137.1 1; have hfz25_2 := ze BK137.1 2
             go_wp2
             repeat (go_quiet (fail); try go_wp2)
             go_roundg kj4
             case measure => have := HK1.1; have := HJ4.1; omega
             case rel => exact ⟨(wrap64 (x7_1 + 1)), (qP17), H', ⟨by have := HK1.1; have := HJ4.1; omega⟩, ⟨(qP14 GE137.1)⟩⟩
            ·rw [zV c24] at H
             have c24b0 : (Op.bytesLess (((rd_T44 l0 (ji21)).f0).toList) ((rd_T44 l0 x7_1).f0).toList) = false := by simpa using c24
             clear c24; obtain rfl := zk H; have p140 : 0 ≤ ((ji21) : Int) := zb (qP9); have q140 : (ji21) < (l0.length : Int) := zb (qP9); obtain ⟨ad140, e140, hx140_0, hx140_1, hx140_2⟩ := at_T44 HR0.1 (ji21) p140 q140; obtain rfl : ad136 = ad140 := (by injection e140); replace hx140_0 := (HB.1.cell (zd w _ hx140_0)).trans hx140_0; replace hx140_1 := (HB.1.cell (zd w _ hx140_1)).trans hx140_1; replace hx140_2 := (HB.1.cell (zd w _ hx140_2)).trans hx140_2; replace p140 := zt p140; replace q140 := zt q140; have hcz26_0 : wc.cell? ⟨gb137, 0, none⟩ = some (.string ((rd_T44 l0 x7_1).f0)) := (blk_cell BK137.1 0).trans rfl; have hcz26_1 : wc.cell? ⟨gb137, 1, none⟩ = some (.int .i64 ((rd_T44 l0 x7_1).f1)) := (blk_cell BK137.1 1).trans rfl; have hcz26_2 : wc.cell? ⟨gb137, 2, none⟩ = some (.int .i64 ((rd_T44 l0 x7_1).f2)) := (blk_cell BK137.1 2).trans rfl; have hfz26_0 := ze BK137.1 0; have hfz26_1 := ze BK137.1 1; have hfz26_2 := ze BK137.1 2
             go_wp2
             repeat (go_quiet (fail); try go_wp2)
             go_ret
             exact ⟨(by first | rfl | (simp [errW_none, errW_some] <;> rfl) | (simp only [← hji21]; first | rfl | (simp [errW_none, errW_some] <;> rfl)) | (simp [*, errW_none, errW_some] <;> rfl)), (qP14 GE137.1)⟩
           ·rw [zV c23] at H
            exact zJ H (by simp)
          ·rw [zV c22] at H
           exact zJ H (by simp)
         ·rw [zV c20] at H; have c20b0 : decide (0 < x7_1) = false := zs c20; clear c20; have H' := za H; clear H
          go_wp2
          repeat (go_quiet (fail); try go_wp2)
          go_roundg kj4
          case measure => have := HK1.1; have := HJ4.1; omega
          case rel => exact ⟨(wrap64 (x7_1 + 1)), (qP17), H', ⟨by have := HK1.1; have := HJ4.1; omega⟩, ⟨(qP14 GE137.1)⟩⟩
     ·rw [zV c4] at H
      exact zJ H (by simp)
    ·rw [zV c3] at H
     exact zJ H (by simp)
   ·rw [zV c2] at H; have c2b0 : decide (x7_1 < (l0.length : Int)) = false := zs c2; clear c2; obtain rfl := zk H
    go_wp2
    repeat (go_quiet (fail); try go_wp2)
    go_ret
    exact ⟨(qP19), (qP1)⟩

def impl_modulo.f (a0 : Int) (a1 : Int) : Option (Int) := if a1 = 0 then (none) else (some (Int.tmod (wrap64 ((Int.tmod a0 a1) + a1)) a1))
theorem impl_modulo.calls (a0 : Int) (a1 : Int) (r : Int) (w : World) (h : impl_modulo.f a0 a1 = some r) :
  Calls Try.prog 95 #[.int .i64 a0, .int .i64 a1] w fun e w' => e = .returned (.int .i64 r) ∧ Drawn0 w w' := by
 have H : (if a1 = 0 then (none) else (some (Int.tmod (wrap64 ((Int.tmod a0 a1) + a1)) a1))) = some r := h; clear h
 by_cases c3 : a1 = 0
 ·rw [zU c3] at H
  exact zJ H (by simp)
 ·rw [zV c3] at H; have c3b0 : (a1 == 0) = false := zu c3; have c3b1 : (a1 != 0) = true := zN c3; obtain rfl := zk H
  go_enter Try.func95, Try.ntmps95
  go_wp2
  go_ret
  exact ⟨(qP17), (qP31)⟩

def impl_floorDiv.f (a0 : Int) (a1 : Int) : Option (Int) := (impl_modulo.f a0 a1).bind fun t141 => (if a1 = 0 then (none) else (some (wrap64 (Int.tdiv (wrap64 (a0 - t141)) a1))))
theorem impl_floorDiv.calls (a0 : Int) (a1 : Int) (r : Int) (w : World) (h : impl_floorDiv.f a0 a1 = some r) :
  Calls Try.prog 82 #[.int .i64 a0, .int .i64 a1] w fun e w' => e = .returned (.int .i64 r) ∧ Drawn0 w w' := by
 have H : ((impl_modulo.f a0 a1).bind fun t141 => (if a1 = 0 then (none) else (some (wrap64 (Int.tdiv (wrap64 (a0 - t141)) a1))))) = some r := h; clear h; replace H := bindA H; obtain ⟨t141, A3, H⟩ := H; (try dsimp only at H)
 by_cases c4 : a1 = 0
 ·rw [zU c4] at H
  exact zJ H (by simp)
 ·rw [zV c4] at H; have c4b0 : (a1 == 0) = false := zu c4; have c4b1 : (a1 != 0) = true := zN c4; obtain rfl := zk H
  go_enter Try.func82, Try.ntmps82
  go_wp2_with (first | ((with_reducible refine zn (f := 95) rfl ?_); refine zO (some 8) rfl rfl Try.func95 (qP22) rfl #[.int .i64 a0, .int .i64 a1] rfl (qP5) ?_; (with_reducible refine (impl_modulo.calls a0 a1 t141 _ A3.1).mono ?_); rintro e w' ⟨rfl, ⟨nd, rfl⟩⟩; refine ⟨_, rfl, ?_⟩))
  go_ret
  exact ⟨(qP17), (qP31)⟩

end Go.Proofs.Ytckidmhkhlbkeaa.MP
