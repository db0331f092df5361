-- tight2 (a walk)
import Derived.Shelf.RegionOpenPlain
import Derived.Test.YtoljdjgndogegaaMSx0
import Derived.Test.YtoljdjgndogegaaMSx2
import Derived.Test.YtoljdjgndogegaaMSx4
namespace Go.Proofs.Ytoljdjgndogegaa.MS
open Go.RowKit Go.Proofs.YtoljdjgndogegaaW.PrintWords Go.Proofs.YtoljdjgndogegaaW.PrintLast
set_option maxHeartbeats 8000000
set_option maxRecDepth 100000
attribute [local go_sem] max2_int min2_int max_two min_two
set_option linter.unusedVariables false
set_option linter.unusedSimpArgs false

def impl_strictly.l0 : Nat → List Int → Int → Int → List Int → Int → Int → Option (Bool)
 | 0, _, _, _, _, _, _ => none
 | k + 1, x0, x1, x2, x9, x10, x11 => if x11 < x10 then (if 0 ≤ x11 then (if x11 < (x9.length : Int) then ((impl_within.f (rd x9 x11) x1 x2).bind fun t602 => (if t602 = true then (if x11 > 0 then (if 0 ≤ (wrap64 (x11 - 1)) then (if (wrap64 (x11 - 1)) < (x0.length : Int) then (if (rd x0 (wrap64 (x11 - 1))) ≥ (rd x9 x11) then (some false) else (impl_strictly.l0 k x0 x1 x2 x9 x10 (wrap64 (x11 + 1)))) else (none)) else (none)) else (impl_strictly.l0 k x0 x1 x2 x9 x10 (wrap64 (x11 + 1)))) else (some false))) else (none)) else (none)) else (some true)
def impl_strictly.f (k : Nat) (l0 : List Int) (a1 : Int) (a2 : Int) : Option (Bool) := impl_strictly.l0 k l0 a1 a2 l0 (l0.length : Int) 0
theorem impl_strictly.calls (k : Nat) (A0 : Option Addr) (c0 : Nat) (l0 : List Int) (a1 : Int) (a2 : Int) (r : Bool) (w : World) (hr0 : Kd.C (Kd.int .i64) w A0 l0.length l0) (hc0 : l0.length ≤ c0) (h : impl_strictly.f k l0 a1 a2 = some r) :
  Calls Try.prog 57 #[.slice A0 l0.length c0, .int .i64 a1, .int .i64 a2] w fun e w' => e = .returned (.bool r) ∧ Drawn0 w w' := by
 have HR0 := za hr0; have HC0 := za hc0; clear hr0 hc0; have H : (impl_strictly.l0 k l0 a1 a2 l0 (l0.length : Int) 0) = some r := h; clear h; have H' := za H; clear H
 go_enter Try.func57, Try.ntmps57
 go_wp2
 go_loopg [11] k (fun kq v11 w' => ∃ (x11_1 : Int), v11 = .int .i64 x11_1 ∧ Aside0 (impl_strictly.l0 kq l0 a1 a2 l0 (l0.length : Int) x11_1 = some r) ∧ Aside0 (kq ≤ k) ∧ Drawn0 w w')
 case atStart => exact ⟨(0), (qS16), H', ⟨zo _⟩, (qS30)⟩
 case round =>
  clear H'; (try clear p2); obtain ⟨x11_1, rfl, HA, HK1, ⟨m1, rfl⟩⟩ := hrel
  cases gk with
  | zero => exact absurd HA.1 (by simp [impl_strictly.l0])
  | succ k1 =>
   have H := HA.1; clear HA; simp only [impl_strictly.l0] at H
   by_cases c4 : x11_1 < (l0.length : Int)
   ·rw [yb c4] at H; have c4b0 : decide (x11_1 < (l0.length : Int)) = true := zc c4; clear c4
    by_cases c5 : 0 ≤ x11_1
    ·rw [yb c5] at H; have c5b0 : decide (0 ≤ x11_1) = true := zc c5; clear c5
     by_cases c6 : x11_1 < (l0.length : Int)
     ·rw [yb c6] at H; have c6b0 : decide (x11_1 < (l0.length : Int)) = true := zc c6; clear c6; replace H := bindA H; obtain ⟨t602, A7, H⟩ := H; (try dsimp only at H)
      by_cases c8 : t602 = true
      ·subst c8; rw [yb rfl] at H
       by_cases c9 : x11_1 > 0
       ·rw [yb c9] at H; have c9b0 : decide (0 < x11_1) = true := zc c9; clear c9; obtain ⟨ji10, hji10⟩ : ∃ j_ : Int, (wrap64 (x11_1 - 1)) = j_ := ⟨_, rfl⟩
        replace H : (if 0 ≤ (ji10) then (if (ji10) < (l0.length : Int) then (if (rd l0 (ji10)) ≥ (rd l0 x11_1) then (some false) else (impl_strictly.l0 k1 l0 a1 a2 l0 (l0.length : Int) (wrap64 (x11_1 + 1)))) else (none)) else (none)) = some r := by first | (rw [hji10] at H; exact H) | (simp only [hji10] at H ⊢; exact H)
        (try rw [hji10] at A7); have hji10w : (IntKind.i64.wrap (x11_1 - 1)) = ji10 := (i64_w _).trans hji10
        by_cases c11 : 0 ≤ (ji10)
        ·rw [yb c11] at H; have c11b0 : decide (0 ≤ (ji10)) = true := zc c11; clear c11
         by_cases c12 : (ji10) < (l0.length : Int)
         ·rw [yb c12] at H; have c12b0 : decide ((ji10) < (l0.length : Int)) = true := zc c12; clear c12
          by_cases c13 : (rd l0 (ji10)) ≥ (rd l0 x11_1)
          ·rw [yb c13] at H; have c13b0 : decide ((rd l0 x11_1) ≤ (rd l0 (ji10))) = true := zc c13; clear c13; obtain rfl := zm H; have p601 : 0 ≤ (x11_1 : Int) := zb (qS8); have q601 : x11_1 < (l0.length : Int) := zb (qS8); obtain ⟨ad601, e601, hx601_0⟩ := zJ HR0.1 x11_1 p601 q601; cases e601; replace p601 := zw p601; replace q601 := zw q601
           go_wp2_with (first | ((with_reducible refine zp (f := 34) rfl ?_); refine zV (some 19) rfl rfl Try.func34 (qS27) rfl #[.int .i64 (rd l0 x11_1), .int .i64 a1, .int .i64 a2] rfl (qS2) ?_; (with_reducible refine (impl_within.calls (rd l0 x11_1) a1 a2 true _ A7.1).mono ?_); rintro e w' ⟨rfl, ⟨nd, rfl⟩⟩; refine ⟨_, rfl, ?_⟩; have p603 : 0 ≤ ((ji10) : Int) := zb (qS8); have q603 : (ji10) < (l0.length : Int) := zb (qS8); obtain ⟨ad603, e603, hx603_0⟩ := zJ HR0.1 (ji10) p603 q603; obtain rfl : ad601 = ad603 := (by injection e603); replace p603 := zw p603; replace q603 := zw q603))
           go_ret
           exact ⟨(by first | rfl | (simp; done) | (simp only [← hji10] <;> (first | rfl | simp)) | (simp [*]; done)), (qS30)⟩
          ·rw [yc c13] at H; have c13b0 : decide ((rd l0 x11_1) ≤ (rd l0 (ji10))) = false := zv c13; clear c13; have H' := za H; clear H; have p601 : 0 ≤ (x11_1 : Int) := zb (qS8); have q601 : x11_1 < (l0.length : Int) := zb (qS8); obtain ⟨ad601, e601, hx601_0⟩ := zJ HR0.1 x11_1 p601 q601; cases e601; replace p601 := zw p601; replace q601 := zw q601
           go_wp2_with (first | ((with_reducible refine zp (f := 34) rfl ?_); refine zV (some 19) rfl rfl Try.func34 (qS27) rfl #[.int .i64 (rd l0 x11_1), .int .i64 a1, .int .i64 a2] rfl (qS2) ?_; (with_reducible refine (impl_within.calls (rd l0 x11_1) a1 a2 true _ A7.1).mono ?_); rintro e w' ⟨rfl, ⟨nd, rfl⟩⟩; refine ⟨_, rfl, ?_⟩; have p603 : 0 ≤ ((ji10) : Int) := zb (qS8); have q603 : (ji10) < (l0.length : Int) := zb (qS8); obtain ⟨ad603, e603, hx603_0⟩ := zJ HR0.1 (ji10) p603 q603; obtain rfl : ad601 = ad603 := (by injection e603); replace p603 := zw p603; replace q603 := zw q603))
           go_roundg k1
           case measure => have := HK1.1; omega
           case rel => exact ⟨(wrap64 (x11_1 + 1)), (qS16), H', ⟨by have := HK1.1; omega⟩, (qS30)⟩
         ·rw [yc c12] at H
          exact absurd H (by simp)
        ·rw [yc c11] at H
         exact absurd H (by simp)
       ·rw [yc c9] at H; have c9b0 : decide (0 < x11_1) = false := zv c9; clear c9; have H' := za H; clear H; have p601 : 0 ≤ (x11_1 : Int) := zb (qS8); have q601 : x11_1 < (l0.length : Int) := zb (qS8); obtain ⟨ad601, e601, hx601_0⟩ := zJ HR0.1 x11_1 p601 q601; cases e601; replace p601 := zw p601; replace q601 := zw q601
        go_wp2_with (first | ((with_reducible refine zp (f := 34) rfl ?_); refine zV (some 19) rfl rfl Try.func34 (qS27) rfl #[.int .i64 (rd l0 x11_1), .int .i64 a1, .int .i64 a2] rfl (qS2) ?_; (with_reducible refine (impl_within.calls (rd l0 x11_1) a1 a2 true _ A7.1).mono ?_); rintro e w' ⟨rfl, ⟨nd, rfl⟩⟩; refine ⟨_, rfl, ?_⟩))
        go_roundg k1
        case measure => have := HK1.1; omega
        case rel => exact ⟨(wrap64 (x11_1 + 1)), (qS16), H', ⟨by have := HK1.1; omega⟩, (qS30)⟩
      ·replace c8 := zn c8; subst c8; rw [yc (show ¬ (false = true) by decide)] at H; obtain rfl := zm H; have p601 : 0 ≤ (x11_1 : Int) := zb (qS8); have q601 : x11_1 < (l0.length : Int) := zb (qS8); obtain ⟨ad601, e601, hx601_0⟩ := zJ HR0.1 x11_1 p601 q601; cases e601; replace p601 := zw p601; replace q601 := zw q601
       go_wp2_with (first | ((with_reducible refine zp (f := 34) rfl ?_); refine zV (some 19) rfl rfl Try.func34 (qS27) rfl #[.int .i64 (rd l0 x11_1), .int .i64 a1, .int .i64 a2] rfl (qS2) ?_; (with_reducible refine (impl_within.calls (rd l0 x11_1) a1 a2 false _ A7.1).mono ?_); rintro e w' ⟨rfl, ⟨nd, rfl⟩⟩; refine ⟨_, rfl, ?_⟩))
       go_ret
       exact ⟨(qS16), (qS30)⟩
     ·rw [yc c6] at H
      exact absurd H (by simp)
    ·rw [yc c5] at H
     exact absurd H (by simp)
   ·rw [yc c4] at H; have c4b0 : decide (x11_1 < (l0.length : Int)) = false := zv c4; clear c4; obtain rfl := zm H
    go_wp2
    go_ret
    exact ⟨(qS16), (qS30)⟩

-- NOT PRINTED: function 92 (slices_insertionSortCmpFunc_int)

-- NOT PRINTED: function 101 (slices_swapRangeCmpFunc_int)

-- NOT PRINTED: function 99 (slices_rotateCmpFunc_int)

-- NOT PRINTED: function 93 (slices_symMergeCmpFunc_int)

-- NOT PRINTED: function 80 (slices_stableCmpFunc_int)

-- NOT PRINTED: function 58 (slices_SortStableFunc_int_int)

def cmp_isNaN_int.f (a0 : Int) : Option (Bool) := some (a0 != a0)
theorem cmp_isNaN_int.calls (a0 : Int) (r : Bool) (w : World) (h : cmp_isNaN_int.f a0 = some r) :
  Calls Try.prog 81 #[.int .i64 a0] w fun e w' => e = .returned (.bool r) ∧ Drawn0 w w' := by
 have H : (some (a0 != a0)) = some r := h; clear h; obtain rfl := zm H
 go_enter Try.func81, Try.ntmps81
 go_wp2
 go_ret
 exact ⟨(qS16), (qS30)⟩

def cmp_Compare_int.f (a0 : Int) (a1 : Int) : Option (Int) := (cmp_isNaN_int.f a0).bind fun t604 => ((cmp_isNaN_int.f a1).bind fun t605 => (if t604 = true then (if t605 = true then (some 0) else (some (-1))) else (if t605 = true then (some 1) else (if a0 < a1 then (some (-1)) else (if a0 > a1 then (some 1) else (some 0))))))
theorem cmp_Compare_int.calls (a0 : Int) (a1 : Int) (r : Int) (w : World) (h : cmp_Compare_int.f a0 a1 = some r) :
  Calls Try.prog 60 #[.int .i64 a0, .int .i64 a1] w fun e w' => e = .returned (.int .i64 r) ∧ Drawn0 w w' := by
 have H : ((cmp_isNaN_int.f a0).bind fun t604 => ((cmp_isNaN_int.f a1).bind fun t605 => (if t604 = true then (if t605 = true then (some 0) else (some (-1))) else (if t605 = true then (some 1) else (if a0 < a1 then (some (-1)) else (if a0 > a1 then (some 1) else (some 0))))))) = some r := h; clear h; replace H := bindA H; obtain ⟨t604, A3, H⟩ := H; (try dsimp only at H); replace H := bindA H; obtain ⟨t605, A4, H⟩ := H; (try dsimp only at H)
 by_cases c5 : t604 = true
 ·subst c5; rw [yb rfl] at H
  by_cases c6 : t605 = true
  ·subst c6; rw [yb rfl] at H; obtain rfl := zm H
   go_enter Try.func60, Try.ntmps60
   go_wp2_with (first | ((with_reducible refine zp (f := 81) rfl ?_); refine zV (some 8) rfl rfl Try.func81 (qS27) rfl #[.int .i64 a0] rfl (qS2) ?_; (with_reducible refine (cmp_isNaN_int.calls a0 true _ A3.1).mono ?_); rintro e w' ⟨rfl, ⟨nd, rfl⟩⟩; refine ⟨_, rfl, ?_⟩) | ((with_reducible refine zp (f := 81) rfl ?_); refine zV (some 10) rfl rfl Try.func81 (qS27) rfl #[.int .i64 a1] rfl (qS2) ?_; (with_reducible refine (cmp_isNaN_int.calls a1 true _ A4.1).mono ?_); rintro e w' ⟨rfl, ⟨nd, rfl⟩⟩; refine ⟨_, rfl, ?_⟩))
   go_ret
   exact ⟨(qS16), (qS30)⟩
  ·replace c6 := zn c6; subst c6; rw [yc (show ¬ (false = true) by decide)] at H; obtain rfl := zm H
   go_enter Try.func60, Try.ntmps60
   go_wp2_with (first | ((with_reducible refine zp (f := 81) rfl ?_); refine zV (some 8) rfl rfl Try.func81 (qS27) rfl #[.int .i64 a0] rfl (qS2) ?_; (with_reducible refine (cmp_isNaN_int.calls a0 true _ A3.1).mono ?_); rintro e w' ⟨rfl, ⟨nd, rfl⟩⟩; refine ⟨_, rfl, ?_⟩) | ((with_reducible refine zp (f := 81) rfl ?_); refine zV (some 10) rfl rfl Try.func81 (qS27) rfl #[.int .i64 a1] rfl (qS2) ?_; (with_reducible refine (cmp_isNaN_int.calls a1 false _ A4.1).mono ?_); rintro e w' ⟨rfl, ⟨nd, rfl⟩⟩; refine ⟨_, rfl, ?_⟩))
   go_ret
   exact ⟨(qS16), (qS30)⟩
 ·replace c5 := zn c5; subst c5; rw [yc (show ¬ (false = true) by decide)] at H
  by_cases c7 : t605 = true
  ·subst c7; rw [yb rfl] at H; obtain rfl := zm H
   go_enter Try.func60, Try.ntmps60
   go_wp2_with (first | ((with_reducible refine zp (f := 81) rfl ?_); refine zV (some 8) rfl rfl Try.func81 (qS27) rfl #[.int .i64 a0] rfl (qS2) ?_; (with_reducible refine (cmp_isNaN_int.calls a0 false _ A3.1).mono ?_); rintro e w' ⟨rfl, ⟨nd, rfl⟩⟩; refine ⟨_, rfl, ?_⟩) | ((with_reducible refine zp (f := 81) rfl ?_); refine zV (some 10) rfl rfl Try.func81 (qS27) rfl #[.int .i64 a1] rfl (qS2) ?_; (with_reducible refine (cmp_isNaN_int.calls a1 true _ A4.1).mono ?_); rintro e w' ⟨rfl, ⟨nd, rfl⟩⟩; refine ⟨_, rfl, ?_⟩))
   go_ret
   exact ⟨(qS16), (qS30)⟩
  ·replace c7 := zn c7; subst c7; rw [yc (show ¬ (false = true) by decide)] at H
   by_cases c8 : a0 < a1
   ·rw [yb c8] at H; have c8b0 : decide (a0 < a1) = true := zc c8; clear c8; obtain rfl := zm H
    go_enter Try.func60, Try.ntmps60
    go_wp2_with (first | ((with_reducible refine zp (f := 81) rfl ?_); refine zV (some 8) rfl rfl Try.func81 (qS27) rfl #[.int .i64 a0] rfl (qS2) ?_; (with_reducible refine (cmp_isNaN_int.calls a0 false _ A3.1).mono ?_); rintro e w' ⟨rfl, ⟨nd, rfl⟩⟩; refine ⟨_, rfl, ?_⟩) | ((with_reducible refine zp (f := 81) rfl ?_); refine zV (some 10) rfl rfl Try.func81 (qS27) rfl #[.int .i64 a1] rfl (qS2) ?_; (with_reducible refine (cmp_isNaN_int.calls a1 false _ A4.1).mono ?_); rintro e w' ⟨rfl, ⟨nd, rfl⟩⟩; refine ⟨_, rfl, ?_⟩))
    go_ret
    exact ⟨(qS16), (qS30)⟩
   ·rw [yc c8] at H; have c8b0 : decide (a0 < a1) = false := zv c8; clear c8
    by_cases c9 : a0 > a1
    ·rw [yb c9] at H; have c9b0 : decide (a1 < a0) = true := zc c9; clear c9; obtain rfl := zm H
     go_enter Try.func60, Try.ntmps60
     go_wp2_with (first | ((with_reducible refine zp (f := 81) rfl ?_); refine zV (some 8) rfl rfl Try.func81 (qS27) rfl #[.int .i64 a0] rfl (qS2) ?_; (with_reducible refine (cmp_isNaN_int.calls a0 false _ A3.1).mono ?_); rintro e w' ⟨rfl, ⟨nd, rfl⟩⟩; refine ⟨_, rfl, ?_⟩) | ((with_reducible refine zp (f := 81) rfl ?_); refine zV (some 10) rfl rfl Try.func81 (qS27) rfl #[.int .i64 a1] rfl (qS2) ?_; (with_reducible refine (cmp_isNaN_int.calls a1 false _ A4.1).mono ?_); rintro e w' ⟨rfl, ⟨nd, rfl⟩⟩; refine ⟨_, rfl, ?_⟩))
     go_ret
     exact ⟨(qS16), (qS30)⟩
    ·rw [yc c9] at H; have c9b0 : decide (a1 < a0) = false := zv c9; clear c9; obtain rfl := zm H
     go_enter Try.func60, Try.ntmps60
     go_wp2_with (first | ((with_reducible refine zp (f := 81) rfl ?_); refine zV (some 8) rfl rfl Try.func81 (qS27) rfl #[.int .i64 a0] rfl (qS2) ?_; (with_reducible refine (cmp_isNaN_int.calls a0 false _ A3.1).mono ?_); rintro e w' ⟨rfl, ⟨nd, rfl⟩⟩; refine ⟨_, rfl, ?_⟩) | ((with_reducible refine zp (f := 81) rfl ?_); refine zV (some 10) rfl rfl Try.func81 (qS27) rfl #[.int .i64 a1] rfl (qS2) ?_; (with_reducible refine (cmp_isNaN_int.calls a1 false _ A4.1).mono ?_); rintro e w' ⟨rfl, ⟨nd, rfl⟩⟩; refine ⟨_, rfl, ?_⟩))
     go_ret
     exact ⟨(qS16), (qS30)⟩

-- NOT PRINTED: function 59 (impl_RescueOrder_1)

/-- The row that is sorted lies in block g; the rest of w stands. -/
def SortS (w0 w W : World) (b0 : Nat) (okp : Nat → Prop) (g n c : Nat) (xs : List Int) : Prop := Kd.R (Kd.int .i64) 3 W b0 okp (.slice (some ⟨g, 0, none⟩) n c) xs ∧ KeepBut w W g none ∧ Below b0 w0 W ∧ b0 ≤ g ∧ b0 ≤ w.heap.size
theorem SortS.below {w0 w W W' : World} {b0 : Nat} {okp : Nat → Prop} {g n c : Nat} {xs : List Int} (h : SortS w0 w W b0 okp g n c xs) (hb : Below W.heap.size W W') : SortS w0 w W' b0 okp g n c xs :=
 ⟨Kd.R_below h.1 hb, h.2.1.trans (zR hb g none) (.inl rfl), h.2.2.1.trans (hb.mono (Nat.le_trans h.2.2.2.2 h.2.1.1)), h.2.2.2⟩
theorem SortS.drew {w0 w W : World} {b0 : Nat} {okp : Nat → Prop} {g n c : Nat} {xs : List Int} (h : SortS w0 w W b0 okp g n c xs) : SortS w0 w W.drew b0 okp g n c xs :=
 h.below (below_drew1 (zs _ _))
theorem SortS.put {w0 w W : World} {b0 : Nat} {okp : Nat → Prop} {g n c : Nat} {xs : List Int} (h : SortS w0 w W b0 okp g n c xs) (j : Nat) (x : Int) : SortS w0 w (W.setCell ⟨g, j, none⟩ (.int .i64 x)) b0 okp g n c (xs.set j x) := by
 have hp := Kd.R_putg h.1 (j : Int) x; rw [Int.toNat_natCast] at hp
 exact ⟨hp.1, h.2.1.set_ j _, h.2.2.1.setCell h.2.2.2.1 _, h.2.2.2⟩
theorem SortS.cell {w0 w W : World} {b0 : Nat} {okp : Nat → Prop} {g n c : Nat} {xs : List Int} (h : SortS w0 w W b0 okp g n c xs) {j : Nat} (hj : j < n) : W.cell? ⟨g, j, none⟩ = some (.int .i64 (xs.getD j 0)) ∧ W.frozen? ⟨g, j, none⟩ = false := by
 have hc := Kd.R_celln 0 h.1 (j : Int) (Int.natCast_nonneg _) (by omega); rw [Int.toNat_natCast] at hc
 exact ⟨by rw [hc.1]; simp [rdOf], hc.2⟩
def insIn (cf : Int → Int → Int) : Nat → List Int → List Int
 | 0, l => l
 | j + 1, l => if cf (l.getD (j + 1) 0) (l.getD j 0) < 0 then insIn cf j ((l.set (j + 1) (l.getD j 0)).set j (l.getD (j + 1) 0)) else l
def insOut (cf : Int → Int → Int) : Nat → Nat → List Int → List Int
 | 0, _, l => l
 | d + 1, i, l => insOut cf d (i + 1) (insIn cf i l)
theorem sortIns.calls (cf : Int → Int → Int) (P : Int → Prop) (caps : Array Value) (w0 w : World) (b0 : Nat) (okp : Nat → Prop) (g n c : Nat) (xs : List Int) (hn : 1 ≤ n) (hm : n ≤ 1000) (hx : xs.length = n) (hS : SortS w0 w w b0 okp g n c xs)
  (hP : ∀ z ∈ xs, P z) (hp : ∀ x y W, P x → P y → KeepBut w W g none → Below b0 w0 W → Calls Try.prog 59 (#[.int .i64 x, .int .i64 y] ++ caps) W fun e W' => e = .returned (.int .i64 (cf x y)) ∧ Below W.heap.size W W') :
  Calls Try.prog 92 #[.slice (some ⟨g, 0, none⟩) n c, .int .i64 0, .int .i64 n, .func (.func 59) #[] caps] w fun e w' => e = .returned (.tuple #[]) ∧ SortS w0 w w' b0 okp g n c (insOut cf (n - 1) 1 xs) := by
 obtain ⟨res, hres⟩ : ∃ res, insOut cf (n - 1) 1 xs = res := ⟨_, rfl⟩; rw [hres]; have HRES := za hres; have HM := za hm; have HX := za hx; have HS := za hS; have HP := za hp; have HQ := za hP; have HN := za hn; clear hres hm hx hS hp hn hP
 have mixed : Try.prog.follows Departure.mixedOrders = true := by kernel_rfl
 go_enter Try.func92, Try.ntmps92
 go_wp2
 go_loopg [8] (n - 1) (fun kq v8 w' => ∃ (i : Nat) (l : List Int), v8 = .int .i64 (i : Int) ∧ Aside0 (kq + i = n ∧ 1 ≤ i ∧ l.length = n ∧ insOut cf kq i l = res) ∧ Aside0 (∀ z ∈ l, P z) ∧ Aside0 (SortS w0 w w' b0 okp g n c l))
 case atStart => exact ⟨1, xs, rfl, ⟨by have := HN.1; omega, by omega, HX.1, HRES.1⟩, HQ, HS⟩
 case round =>
  clear HS HRES HX HQ; obtain ⟨i, l, rfl, HA, HQ, HS⟩ := hrel
  by_cases hlt : i < n
  ·obtain ⟨k1, rfl⟩ : ∃ k1, gk = k1 + 1 := ⟨gk - 1, by have := HA.1.1; omega⟩; have dlt : decide ((i : Int) < (n : Int)) = true := zc (by omega); have dlt2 : decide (i < n) = true := zc hlt; have HLT := za hlt; have HGO : Aside0 (insOut cf k1 (i + 1) (insIn cf i l) = res) := ⟨HA.1.2.2.2⟩; have HWI : Aside0 (wrap64 ((i : Int) + 1) = ((i + 1 : Nat) : Int)) := ⟨by have := HM.1; unfold wrap64; omega⟩; have HKI := za HA.1.1; have HLEN := za HA.1.2.2.1; clear hlt HA
   go_wp2
   go_loopg [9] i (fun kj v9 w' => ∃ (l' : List Int), v9 = .int .i64 (kj : Int) ∧ Aside0 (kj ≤ i ∧ l'.length = n ∧ insIn cf kj l' = insIn cf i l) ∧ Aside0 (∀ z ∈ l', P z) ∧ Aside0 (SortS w0 w w' b0 okp g n c l'))
   case atStart => exact ⟨l, rfl, ⟨zo _, HLEN.1, rfl⟩, HQ, HS⟩
   case round =>
    clear HS HQ; obtain ⟨l', rfl, HJ, HQ, HS⟩ := hrel
    cases gk with
    | zero =>
     have hdj : decide (((0 : Nat) : Int) > (0 : Int)) = false := rfl; have HE : Aside0 (insOut cf k1 (i + 1) l' = res) := ⟨by rw [← HGO.1, ← HJ.1.2.2]; rfl⟩
     go_wp2_with fail
     go_big_region_o
     have HS2 := za HS.1.drew; clear HS
     generalize wr.drew = w2 at HS2 ⊢
     go_wp2
     go_roundg k1
     case measure => omega
     case rel => exact ⟨i + 1, l', by rw [HWI.1], ⟨by have := HKI.1; omega, by omega, HJ.1.2.1, HE.1⟩, HQ, HS2⟩
    | succ j =>
     have hdj : decide (((j + 1 : Nat) : Int) > (0 : Int)) = true := zc (by omega); have hdj2 : decide ((j : Int) + 1 > (0 : Int)) = true := zc (by omega)
     have hjn : j + 1 < n := by have := HJ.1.1; have := HLT.1; omega
     have ej1 : ((j : Int) + 1).toNat = j + 1 := by omega
     have ej0 : ((j : Int)).toNat = j := by omega
     have p1 : (0 : Int) ≤ (j : Int) + 1 := by omega
     have q1 : (j : Int) + 1 < (n : Int) := by omega
     have p0 : (0 : Int) ≤ (j : Int) := by omega
     have q0 : (j : Int) < (n : Int) := by omega
     have wj : wrap64 ((j : Int) + 1 - 1) = (j : Int) := by have := HM.1; unfold wrap64; omega
     have wj2 : wrap64 (j : Int) = (j : Int) := by have := HM.1; unfold wrap64; omega
     have ij : IntKind.i64.wrap ((j : Int)) = (j : Int) := (i64_w _).trans wj2; have ij2 : IntKind.i64.wrap ((j : Int) + 1 - 1) = (j : Int) := (i64_w _).trans wj; obtain ⟨x, hx⟩ : ∃ x, x = l'.getD (j + 1) 0 := ⟨_, rfl⟩; obtain ⟨y, hy⟩ : ∃ y, y = l'.getD j 0 := ⟨_, rfl⟩; have ⟨l1a, f1a⟩ := HS.1.cell hjn; have ⟨l1b, f1b⟩ := HS.1.cell (show j < n by omega); rw [← hx] at l1a; rw [← hy] at l1b; have HJN := za hjn; have HXX := za hx; have HYY := za hy; clear hx hy; have HPX : Aside0 (P x) := ⟨HQ.1 x (by rw [HXX.1, List.getD_eq_getElem?_getD, List.getElem?_eq_getElem (by rw [HJ.1.2.1]; exact HJN.1)]; exact List.getElem_mem _)⟩; have HPY : Aside0 (P y) := ⟨HQ.1 y (by rw [HYY.1, List.getD_eq_getElem?_getD, List.getElem?_eq_getElem (by rw [HJ.1.2.1]; exact Nat.lt_of_succ_lt HJN.1)]; exact List.getElem_mem _)⟩
     by_cases hv : cf x y < 0
     ·have hd : decide (cf x y < 0) = true := zc hv; have HSd := za HS.1.drew; have HV := za hv; clear HS hv
      go_wp2_with fail
      go_region_held3 (fun W' => SortS w0 w W' b0 okp g n c l' ∧ W'.cell? ⟨g, j + 1, none⟩ = some (.int .i64 x) ∧ W'.cell? ⟨g, j, none⟩ = some (.int .i64 y)) ((first | exact ⟨HSd.1, l1a, l1b⟩ | exact ⟨SortS.below HSd.1 hb, by rw [HXX.1]; exact (SortS.cell (SortS.below HSd.1 hb) HJN.1).1, by rw [HYY.1]; exact (SortS.cell (SortS.below HSd.1 hb) (Nat.lt_of_succ_lt HJN.1)).1⟩)) ((go_at_call 59; refine (HP.1 x y _ HPX.1 HPY.1 HSd.1.2.1 HSd.1.2.2.1).mono ?_; rintro e w2 ⟨rfl, hb⟩))
      have HS2 := za (SortS.below HSd.1 hb); clear HSd hb l1a l1b f1a f1b; have ⟨m1a, n1a⟩ := HS2.1.cell HJN.1; have ⟨m1b, n1b⟩ := HS2.1.cell (show j < n by have := HJN.1; omega); rw [← HXX.1] at m1a; rw [← HYY.1] at m1b
      have HQ2 : Aside0 (∀ z ∈ (l'.set (j + 1) y).set j x, P z) := ⟨fun z hz => by
       rcases List.mem_or_eq_of_mem_set hz with hz | rfl
       ·rcases List.mem_or_eq_of_mem_set hz with hz | rfl
        ·exact HQ.1 z hz
        ·exact HPY.1
       ·exact HPX.1⟩
      have HS3 : Aside0 (SortS w0 w ((w2.setCell ⟨g, j + 1, none⟩ (.int .i64 y)).setCell ⟨g, j, none⟩ (.int .i64 x)).drew b0 okp g n c ((l'.set (j + 1) y).set j x)) := ⟨((HS2.1.put (j + 1) y).put j x).drew⟩; have ⟨m2b, n2b⟩ := (HS2.1.put (j + 1) y).cell (show j < n by have := HJN.1; omega)
      have m2b' : (w2.setCell ⟨g, j + 1, none⟩ (.int .i64 y)).cell? ⟨g, j, none⟩ = some (.int .i64 y) := by rw [m2b, HYY.1]; congr 2; simp [List.getD_eq_getElem?_getD, List.getElem?_set]
      clear m2b HS2
      go_wp2_with fail
      go_big_region_o
      clear m1a n1a m1b n1b m2b' n2b
      generalize ((w2.setCell ⟨g, j + 1, none⟩ (.int .i64 y)).setCell ⟨g, j, none⟩ (.int .i64 x)).drew = w3 at HS3 ⊢
      go_wp2
      go_roundg j
      case measure => omega
      case rel => exact ⟨(l'.set (j + 1) y).set j x, (by first | rfl | (congr 1)), ⟨by have := HJ.1.1; omega, by rw [List.length_set, List.length_set]; exact HJ.1.2.1, by rw [← HJ.1.2.2]; simp only [insIn]; rw [← HXX.1, ← HYY.1, yb HV.1]⟩, HQ2, HS3⟩
     ·have hd : decide (cf x y < 0) = false := zv hv; have HSd := za HS.1.drew; have HV := za hv; clear HS hv; have HE : Aside0 (insOut cf k1 (i + 1) l' = res) := ⟨by rw [← HGO.1, ← HJ.1.2.2]; simp only [insIn]; rw [← HXX.1, ← HYY.1, yc HV.1]⟩
      go_wp2_with fail
      go_region_held3 (fun W' => SortS w0 w W' b0 okp g n c l' ∧ W'.cell? ⟨g, j + 1, none⟩ = some (.int .i64 x) ∧ W'.cell? ⟨g, j, none⟩ = some (.int .i64 y)) ((first | exact ⟨HSd.1, l1a, l1b⟩ | exact ⟨SortS.below HSd.1 hb, by rw [HXX.1]; exact (SortS.cell (SortS.below HSd.1 hb) HJN.1).1, by rw [HYY.1]; exact (SortS.cell (SortS.below HSd.1 hb) (Nat.lt_of_succ_lt HJN.1)).1⟩)) ((go_at_call 59; refine (HP.1 x y _ HPX.1 HPY.1 HSd.1.2.1 HSd.1.2.2.1).mono ?_; rintro e w2 ⟨rfl, hb⟩))
      have HS2 := za (SortS.below HSd.1 hb); clear HSd hb l1a l1b f1a f1b
      go_wp2
      go_roundg k1
      case measure => omega
      case rel => exact ⟨i + 1, l', by rw [HWI.1], ⟨by have := HKI.1; omega, by omega, HJ.1.2.1, HE.1⟩, HQ, HS2⟩
  ·have dlt : decide ((i : Int) < (n : Int)) = false := zv (by omega); have dlt2 : decide (i < n) = false := zv hlt
   obtain rfl : gk = 0 := by have := HA.1.1; omega
   have HE := za (show l = res from HA.1.2.2.2); clear hlt
   go_wp2
   go_end0
   exact ⟨rfl, by rw [← HE.1]; exact HS.1⟩
theorem sortStable.calls (cf : Int → Int → Int) (P : Int → Prop) (caps : Array Value) (w0 w : World) (b0 : Nat) (okp : Nat → Prop) (g n c : Nat) (xs : List Int) (hn : 1 ≤ n) (hm : n < 20) (hx : xs.length = n) (hS : SortS w0 w w b0 okp g n c xs)
  (hP : ∀ z ∈ xs, P z) (hp : ∀ x y W, P x → P y → KeepBut w W g none → Below b0 w0 W → Calls Try.prog 59 (#[.int .i64 x, .int .i64 y] ++ caps) W fun e W' => e = .returned (.int .i64 (cf x y)) ∧ Below W.heap.size W W') :
  Calls Try.prog 80 #[.slice (some ⟨g, 0, none⟩) n c, .int .i64 n, .func (.func 59) #[] caps] w fun e w' => e = .returned (.tuple #[]) ∧ SortS w0 w w' b0 okp g n c (insOut cf (n - 1) 1 xs) := by
 have HI := za (by exact sortIns.calls cf P caps w0 w b0 okp g n c xs hn (by omega) hx hS hP hp); have d1 : decide ((20 : Int) ≤ (n : Int)) = false := zv (by omega); have d2 : decide ((20 : Int) < (n : Int)) = false := zv (by omega)
 have d3 : ¬ ((20 : Int) ≤ (n : Int)) := by omega
 have d4 : ¬ ((20 : Int) < (n : Int)) := by omega
 clear hn hm hx hS hP hp
 go_enter Try.func80, Try.ntmps80
 go_wp2
 go_loopg [7, 8] 1 (fun kq v7 v8 w' => v7 = .int .i64 0 ∧ v8 = .int .i64 20 ∧ w' = w)
 case atStart => exact ⟨rfl, rfl, rfl⟩
 case round =>
  obtain ⟨rfl, rfl, rfl⟩ := hrel
  go_wp2_with (go_at_call 92; refine HI.1.mono ?_; rintro e w1 ⟨rfl, hs⟩; have HS1 := za hs; clear hs)
  go_loopg [6] 1 (fun kq v6 w' => v6 = .int .i64 20 ∧ w' = w1)
  case atStart => exact ⟨rfl, rfl⟩
  case round =>
   obtain ⟨rfl, rfl⟩ := hrel
   go_wp2
   go_end0
   exact ⟨rfl, HS1.1⟩
theorem sortRow.calls (cf : Int → Int → Int) (P : Int → Prop) (caps : Array Value) (w0 w : World) (b0 : Nat) (okp : Nat → Prop) (g n c : Nat) (xs : List Int) (hn : 1 ≤ n) (hm : n < 20) (hx : xs.length = n) (hS : SortS w0 w w b0 okp g n c xs)
  (hP : ∀ z ∈ xs, P z) (hp : ∀ x y W, P x → P y → KeepBut w W g none → Below b0 w0 W → Calls Try.prog 59 (#[.int .i64 x, .int .i64 y] ++ caps) W fun e W' => e = .returned (.int .i64 (cf x y)) ∧ Below W.heap.size W W') :
  Calls Try.prog 58 #[.slice (some ⟨g, 0, none⟩) n c, .func (.func 59) #[] caps] w fun e w' => e = .returned (.tuple #[]) ∧ SortS w0 w w' b0 okp g n c (insOut cf (n - 1) 1 xs) := by
 have HI := za (by exact sortStable.calls cf P caps w0 w b0 okp g n c xs hn hm hx hS hP hp); clear hn hm hx hS hP hp
 go_enter Try.func58, Try.ntmps58
 go_wp2_with (go_at_call 80; refine HI.1.mono ?_; rintro e w1 ⟨rfl, hs⟩; have HS1 := za hs; clear hs)
 go_end0
 exact ⟨rfl, HS1.1⟩
theorem sortIns0.calls (caps : Array Value) (A : Option Addr) (c : Nat) (w : World) :
  Calls Try.prog 92 #[.slice A 0 c, .int .i64 0, .int .i64 0, .func (.func 59) #[] caps] w fun e w' => e = .returned (.tuple #[]) ∧ w' = w := by
 go_enter Try.func92, Try.ntmps92
 go_wp2
 go_loopg [8] 1 (fun kq v8 w' => v8 = .int .i64 1 ∧ w' = w)
 case atStart => exact ⟨rfl, rfl⟩
 case round =>
  obtain ⟨rfl, rfl⟩ := hrel
  go_wp2
  go_end0
  exact ⟨rfl, rfl⟩
theorem sortStable0.calls (caps : Array Value) (A : Option Addr) (c : Nat) (w : World) :
  Calls Try.prog 80 #[.slice A 0 c, .int .i64 0, .func (.func 59) #[] caps] w fun e w' => e = .returned (.tuple #[]) ∧ w' = w := by
 go_enter Try.func80, Try.ntmps80
 go_wp2
 go_loopg [7, 8] 1 (fun kq v7 v8 w' => v7 = .int .i64 0 ∧ v8 = .int .i64 20 ∧ Aside0 (w' = w))
 case atStart => exact ⟨rfl, rfl, ⟨rfl⟩⟩
 case round =>
  obtain ⟨rfl, rfl, HW⟩ := hrel
  go_wp2_with (go_at_call 92; refine (sortIns0.calls caps A c _).mono ?_; rintro e w1 ⟨rfl, hw1⟩; have HW1 := za (hw1.trans HW.1); clear hw1)
  go_loopg [6] 1 (fun kq v6 w' => v6 = .int .i64 20 ∧ Aside0 (w' = w))
  case atStart => exact ⟨rfl, HW1⟩
  case round =>
   obtain ⟨rfl, HW2⟩ := hrel
   go_wp2
   go_end0
   exact ⟨rfl, HW2.1⟩
theorem sortRow0.calls (caps : Array Value) (A : Option Addr) (c : Nat) (w : World) :
  Calls Try.prog 58 #[.slice A 0 c, .func (.func 59) #[] caps] w fun e w' => e = .returned (.tuple #[]) ∧ w' = w := by
 go_enter Try.func58, Try.ntmps58
 go_wp2_with (go_at_call 80; refine (sortStable0.calls caps A c _).mono ?_; rintro e w1 ⟨rfl, rfl⟩)
 go_end0
 exact ⟨rfl, rfl⟩
def cmpOf (a b : Int) : Int := if a < b then -1 else if a > b then 1 else 0
theorem cmpOf_eq (a b : Int) : cmp_Compare_int.f a b = some (cmpOf a b) := by
 simp only [cmp_Compare_int.f, cmp_isNaN_int.f, cmpOf, Option.bind_some, bne_self_eq_false, Bool.false_eq_true, if_false]
 split
 ·rfl
 ·split <;> rfl
/-- The order of the rescue: what the closure answers. -/
def rescueCf (l0 : List S58) (l1 : List Int) (from_ : Int) (a b : Int) : Int := cmpOf (greatestDown l0 l1 from_ b 201) (greatestDown l0 l1 from_ a 201)
theorem impl_RescueOrder_1.calls (l0 : List S58) (l1 : List Int) (from_ : Int) (A0 : Option Addr) (c0 : Nat) (A1 : Option Addr) (c1 : Nat) (g1 g2 g3 : Nat) (a b : Int) (W : World) (hr0 : Kd.C k58 W A0 l0.length l0) (hc0 : l0.length ≤ c0) (hr1 : Kd.C (Kd.int .i64) W A1 l1.length l1) (hc1 : l1.length ≤ c1)
  (h1 : W.heap[g1]? = some (.cells #[.slice A0 l0.length c0] 24 (0, 0))) (h2 : W.heap[g2]? = some (.cells #[.slice A1 l1.length c1] 25 (0, 0))) (h3 : W.heap[g3]? = some (.cells #[.int .i64 from_] 3 (0, 0)))
  (hreach : reachOk l0 l1 from_ = true) (ha : 0 ≤ a ∧ a ≤ 7) (hb : 0 ≤ b ∧ b ≤ 7) :
  Calls Try.prog 59 (#[.int .i64 a, .int .i64 b] ++ #[.pointer (some ⟨g1, 0, none⟩), .pointer (some ⟨g2, 0, none⟩), .pointer (some ⟨g3, 0, none⟩)]) W fun e W' => e = .returned (.int .i64 (rescueCf l0 l1 from_ a b)) ∧ Below W.heap.size W W' := by
 have HG : Aside0 (∀ x W', 0 ≤ x ∧ x ≤ 7 → Below W.heap.size W W' → Calls Try.prog 46 #[.slice A0 l0.length c0, .slice A1 l1.length c1, .int .i64 from_, .int .i64 x] W' fun e W'' => e = .returned (.int .i64 (greatestDown l0 l1 from_ x 201)) ∧ Below W.heap.size W W'') := ⟨fun x W' hx hbw =>
  (impl_greatest.calls A0 c0 l0 A1 c1 l1 from_ x _ W' (zG hr0 hbw) hc0 (zG hr1 hbw) hc1 (by unfold impl_greatest.f; rw [yb ⟨hreach, hx.1, hx.2⟩])).mono (fun e w'' h_ => ⟨h_.1, zW hbw h_.2⟩)⟩
 have HK1 := za h1; have HK2 := za h2; have HK3 := za h3; have HPA := za ha; have HPB := za hb; have hbd : Below W.heap.size W W.drew := below_drew1 (zs _ _); have HBd := za hbd; have hz1 : W.cell? ⟨g1, 0, none⟩ = some (.slice A0 l0.length c0) := (zf h1 0).trans rfl; have hz2 : W.cell? ⟨g2, 0, none⟩ = some (.slice A1 l1.length c1) := (zf h2 0).trans rfl; have hz3 : W.cell? ⟨g3, 0, none⟩ = some (.int .i64 from_) := (zf h3 0).trans rfl; clear hr0 hc0 hr1 hc1 h1 h2 h3 hreach ha hb hbd; have hcmp : Aside0 (∀ w', Calls Try.prog 60 #[.int .i64 (greatestDown l0 l1 from_ b 201), .int .i64 (greatestDown l0 l1 from_ a 201)] w' fun e w'' => e = .returned (.int .i64 (rescueCf l0 l1 from_ a b)) ∧ Drawn0 w' w'') := ⟨fun w' => cmp_Compare_int.calls _ _ _ w' (cmpOf_eq _ _)⟩
 go_enter Try.func59, Try.ntmps59
 go_wp2_with fail
 go_region_held3 (fun W' => Below W.heap.size W W' ∧ W'.cell? ⟨g1, 0, none⟩ = some (.slice A0 l0.length c0) ∧ W'.cell? ⟨g2, 0, none⟩ = some (.slice A1 l1.length c1) ∧ W'.cell? ⟨g3, 0, none⟩ = some (.int .i64 from_)) ((first | exact ⟨hb, (zf (zl HK1.1 hb) 0).trans rfl, (zf (zl HK2.1 hb) 0).trans rfl, (zf (zl HK3.1 hb) 0).trans rfl⟩ | exact ⟨HBd.1, hz1, hz2, hz3⟩ | exact ⟨by assumption, by assumption, by assumption, by assumption⟩)) ((first | (go_at_call 46; refine (HG.1 _ _ ?hx ?hb).mono ?_; (case hx => exact (by first | exact HPA.1 | exact HPB.1)); (case hb => exact (by first | exact hb | exact HBd.1 | assumption)); rintro e w2 ⟨rfl, hb⟩) | (go_at_call 60; refine (hcmp.out _).mono ?_; rintro e w3 ⟨rfl, ⟨nd, rfl⟩⟩; replace hb := pw_below_drewN hb nd)))
 go_wp2
 go_ret
 exact ⟨rfl, hb⟩
/-- The stations to which there is a route. -/
def reachable (l0 : List S58) (l1 : List Int) (from_ : Int) (s : Int) : Bool := greatestDown l0 l1 from_ s 201 != -1
def impl_RescueOrder.f (k : Nat) (l0 : List S58) (l1 : List Int) (a2 : Int) (l3 : List Int) : Option (List Int × Bool) := (impl_areEnds.f k l0 l1 a2 a2).bind fun t => if t = true then ((impl_strictly.f k l3 0 7).bind fun t2 => if t2 = true then (if reachOk l0 l1 a2 = true ∧ (∀ z ∈ l3, 0 ≤ z ∧ z ≤ 7) ∧ l3.length ≤ 19 then some (insOut (rescueCf l0 l1 a2) ((l3.filter (reachable l0 l1 a2)).length - 1) 1 (l3.filter (reachable l0 l1 a2)), true) else none) else some ([], false)) else some ([], false)
theorem filter_take1 (p : Int → Bool) (xs : List Int) (i : Nat) (h : i < xs.length) : (xs.take (i + 1)).filter p = (xs.take i).filter p ++ (if p (xs.getD i 0) = true then [xs.getD i 0] else []) := by
 rw [List.take_succ_eq_append_getElem h, List.filter_append, List.getD_eq_getElem?_getD, List.getElem?_eq_getElem h]
 simp [List.filter_cons]
theorem impl_RescueOrder.calls (k : Nat) (A0 : Option Addr) (c0 : Nat) (l0 : List S58) (A1 : Option Addr) (c1 : Nat) (l1 : List Int) (a2 : Int) (A3 : Option Addr) (c3 : Nat) (l3 : List Int) (r1 : List Int) (r2 : Bool) (w : World) (hr0 : Kd.C k58 w A0 l0.length l0) (hc0 : l0.length ≤ c0) (hr1 : Kd.C (Kd.int .i64) w A1 l1.length l1) (hc1 : l1.length ≤ c1) (hr3 : Kd.C (Kd.int .i64) w A3 l3.length l3) (hc3 : l3.length ≤ c3) (h : impl_RescueOrder.f k l0 l1 a2 l3 = some (r1, r2)) :
  Calls Try.prog 23 #[.slice A0 l0.length c0, .slice A1 l1.length c1, .int .i64 a2, .slice A3 l3.length c3] w fun e w' => ∃ v0_ : Value, e = .returned (.tuple #[v0_, .bool r2]) ∧ Kd.R (Kd.int .i64) 3 w' w.heap.size (fun _ => True) v0_ r1 ∧ Below w.heap.size w w' := by
 obtain ⟨t, ht, h⟩ := zC h; have HE : Aside0 (∀ W, Below w.heap.size w W → Calls Try.prog 33 #[.slice A0 l0.length c0, .slice A1 l1.length c1, .int .i64 a2, .int .i64 a2] W fun e w' => e = .returned (.bool t) ∧ Below W.heap.size W w') := ⟨fun W hb => (impl_areEnds.calls k A0 c0 l0 A1 c1 l1 a2 a2 t W (zG hr0 hb) hc0 (zG hr1 hb) hc1 ht).mono (fun e w' h_ => ⟨h_.1, h_.2⟩)⟩; have HR0 := za hr0; have HC0 := za hc0; have HR1 := za hr1; have HC1 := za hc1; have HR3 := za hr3; have HC3 := za hc3; have HB := za (zs w.heap.size w); clear hr0 hc0 hr1 hc1 hr3 hc3 ht
 cases t with
 | false =>
  simp only [Bool.false_eq_true, if_false, yd, ye] at h; obtain ⟨rfl, rfl⟩ := h
  go_enter Try.func23, Try.ntmps23
  go_wp2_with (first | ((with_reducible refine zq (N := 4) rfl ?_); refine zB ?hg (N := 4) ?hd (cs := #[.slice A0 l0.length c0]) (t := 24) ?hr ?_; (case hd | hg => rfl); (case hr => exact (qS26)); intro g1 hg wb1 hbox hb; have BK1 := za hbox; have GE1 : Aside0 (w.heap.size ≤ g1) := ⟨by rw [hg]; exact HB.1.size⟩; have GL1 : Aside0 (g1 < wb1.heap.size) := ⟨blk_lt hbox⟩; have n_ := za (zW HB.1 hb); clear HB; have HB := n_; clear n_; clear hbox hb hg) | ((with_reducible refine zq (N := 5) rfl ?_); refine zB ?hg (N := 5) ?hd (cs := #[.slice A1 l1.length c1]) (t := 25) ?hr ?_; (case hd | hg => rfl); (case hr => exact (qS26)); intro g2 hg wb2 hbox hb; have BK2 := za hbox; have GE2 : Aside0 (w.heap.size ≤ g2) := ⟨by rw [hg]; exact HB.1.size⟩; have GL2 : Aside0 (g2 < wb2.heap.size) := ⟨blk_lt hbox⟩; have m1_ := za (zl BK1.1 hb); clear BK1; have BK1 := m1_; clear m1_; have n_ := za (zW HB.1 hb); clear HB; have HB := n_; clear n_; clear hbox hb hg) | ((with_reducible refine zq (N := 6) rfl ?_); refine zB ?hg (N := 6) ?hd (cs := #[.int .i64 a2]) (t := 3) ?hr ?_; (case hd | hg => rfl); (case hr => exact (qS26)); intro g3 hg wb3 hbox hb; have BK3 := za hbox; have GE3 : Aside0 (w.heap.size ≤ g3) := ⟨by rw [hg]; exact HB.1.size⟩; have GL3 : Aside0 (g3 < wb3.heap.size) := ⟨blk_lt hbox⟩; have m1_ := za (zl BK1.1 hb); clear BK1; have BK1 := m1_; clear m1_; have m2_ := za (zl BK2.1 hb); clear BK2; have BK2 := m2_; clear m2_; have n_ := za (zW HB.1 hb); clear HB; have HB := n_; clear n_; clear hbox hb hg; have hz1 := (zf BK1.1 0).trans rfl; have hz2 := (zf BK2.1 0).trans rfl; have hz3 := (zf BK3.1 0).trans rfl; have W3 := za (zs wb3.heap.size wb3); have HB3 := HB) | (go_at_call 33; refine (HE.1 _ HB.1).mono ?_; rintro e w8 ⟨rfl, hb⟩; have n1_ := za (zW HB.1 hb); have n2_ := za (zW W3.1 hb); clear HB W3 hb; have HB := n1_; have W3 := n2_; clear n1_ n2_))
  go_ret2
  exact ⟨_, rfl, Kd.R_nil _ _ _ _ _, HB.1⟩
 | true =>
  rw [yb rfl] at h; obtain ⟨t2, ht2, h⟩ := zC h; have HS2 : Aside0 (∀ W, Below w.heap.size w W → Calls Try.prog 57 #[.slice A3 l3.length c3, .int .i64 0, .int .i64 7] W fun e w' => e = .returned (.bool t2) ∧ Below W.heap.size W w') := ⟨fun W hb => (impl_strictly.calls k A3 c3 l3 0 7 t2 W (zG HR3.1 hb) HC3.1 ht2).mono (fun e w' h_ => ⟨h_.1, by obtain ⟨n_, e_⟩ := h_.2; rw [e_]; exact pw_below_drewN (zs _ _) _⟩)⟩; clear ht2
  cases t2 with
  | false =>
   simp only [Bool.false_eq_true, if_false, yd, ye] at h; obtain ⟨rfl, rfl⟩ := h
   go_enter Try.func23, Try.ntmps23
   go_wp2_with (first | ((with_reducible refine zq (N := 4) rfl ?_); refine zB ?hg (N := 4) ?hd (cs := #[.slice A0 l0.length c0]) (t := 24) ?hr ?_; (case hd | hg => rfl); (case hr => exact (qS26)); intro g1 hg wb1 hbox hb; have BK1 := za hbox; have GE1 : Aside0 (w.heap.size ≤ g1) := ⟨by rw [hg]; exact HB.1.size⟩; have GL1 : Aside0 (g1 < wb1.heap.size) := ⟨blk_lt hbox⟩; have n_ := za (zW HB.1 hb); clear HB; have HB := n_; clear n_; clear hbox hb hg) | ((with_reducible refine zq (N := 5) rfl ?_); refine zB ?hg (N := 5) ?hd (cs := #[.slice A1 l1.length c1]) (t := 25) ?hr ?_; (case hd | hg => rfl); (case hr => exact (qS26)); intro g2 hg wb2 hbox hb; have BK2 := za hbox; have GE2 : Aside0 (w.heap.size ≤ g2) := ⟨by rw [hg]; exact HB.1.size⟩; have GL2 : Aside0 (g2 < wb2.heap.size) := ⟨blk_lt hbox⟩; have m1_ := za (zl BK1.1 hb); clear BK1; have BK1 := m1_; clear m1_; have n_ := za (zW HB.1 hb); clear HB; have HB := n_; clear n_; clear hbox hb hg) | ((with_reducible refine zq (N := 6) rfl ?_); refine zB ?hg (N := 6) ?hd (cs := #[.int .i64 a2]) (t := 3) ?hr ?_; (case hd | hg => rfl); (case hr => exact (qS26)); intro g3 hg wb3 hbox hb; have BK3 := za hbox; have GE3 : Aside0 (w.heap.size ≤ g3) := ⟨by rw [hg]; exact HB.1.size⟩; have GL3 : Aside0 (g3 < wb3.heap.size) := ⟨blk_lt hbox⟩; have m1_ := za (zl BK1.1 hb); clear BK1; have BK1 := m1_; clear m1_; have m2_ := za (zl BK2.1 hb); clear BK2; have BK2 := m2_; clear m2_; have n_ := za (zW HB.1 hb); clear HB; have HB := n_; clear n_; clear hbox hb hg; have hz1 := (zf BK1.1 0).trans rfl; have hz2 := (zf BK2.1 0).trans rfl; have hz3 := (zf BK3.1 0).trans rfl; have W3 := za (zs wb3.heap.size wb3); have HB3 := HB) | (go_at_call 33; refine (HE.1 _ HB.1).mono ?_; rintro e w8 ⟨rfl, hb⟩; have n1_ := za (zW HB.1 hb); have n2_ := za (zW W3.1 hb); clear HB W3 hb; have HB := n1_; have W3 := n2_; clear n1_ n2_) | (go_at_call 57; refine (HS2.1 _ HB.1).mono ?_; rintro e w9 ⟨rfl, hb⟩; have n1_ := za (zW HB.1 hb); have n2_ := za (zW W3.1 hb); clear HB W3 hb; have HB := n1_; have W3 := n2_; clear n1_ n2_))
   go_ret2
   exact ⟨_, rfl, Kd.R_nil _ _ _ _ _, HB.1⟩
  | true =>
   rw [yb rfl] at h
   split at h
   case isFalse => cases h
   rename_i hall
   simp only [yd, ye] at h; obtain ⟨hres, rfl⟩ := h; have HALL := za hall; have HRES := za hres; clear hall hres
   go_enter Try.func23, Try.ntmps23
   go_wp2_with (first | ((with_reducible refine zq (N := 4) rfl ?_); refine zB ?hg (N := 4) ?hd (cs := #[.slice A0 l0.length c0]) (t := 24) ?hr ?_; (case hd | hg => rfl); (case hr => exact (qS26)); intro g1 hg wb1 hbox hb; have BK1 := za hbox; have GE1 : Aside0 (w.heap.size ≤ g1) := ⟨by rw [hg]; exact HB.1.size⟩; have GL1 : Aside0 (g1 < wb1.heap.size) := ⟨blk_lt hbox⟩; have n_ := za (zW HB.1 hb); clear HB; have HB := n_; clear n_; clear hbox hb hg) | ((with_reducible refine zq (N := 5) rfl ?_); refine zB ?hg (N := 5) ?hd (cs := #[.slice A1 l1.length c1]) (t := 25) ?hr ?_; (case hd | hg => rfl); (case hr => exact (qS26)); intro g2 hg wb2 hbox hb; have BK2 := za hbox; have GE2 : Aside0 (w.heap.size ≤ g2) := ⟨by rw [hg]; exact HB.1.size⟩; have GL2 : Aside0 (g2 < wb2.heap.size) := ⟨blk_lt hbox⟩; have m1_ := za (zl BK1.1 hb); clear BK1; have BK1 := m1_; clear m1_; have n_ := za (zW HB.1 hb); clear HB; have HB := n_; clear n_; clear hbox hb hg) | ((with_reducible refine zq (N := 6) rfl ?_); refine zB ?hg (N := 6) ?hd (cs := #[.int .i64 a2]) (t := 3) ?hr ?_; (case hd | hg => rfl); (case hr => exact (qS26)); intro g3 hg wb3 hbox hb; have BK3 := za hbox; have GE3 : Aside0 (w.heap.size ≤ g3) := ⟨by rw [hg]; exact HB.1.size⟩; have GL3 : Aside0 (g3 < wb3.heap.size) := ⟨blk_lt hbox⟩; have m1_ := za (zl BK1.1 hb); clear BK1; have BK1 := m1_; clear m1_; have m2_ := za (zl BK2.1 hb); clear BK2; have BK2 := m2_; clear m2_; have n_ := za (zW HB.1 hb); clear HB; have HB := n_; clear n_; clear hbox hb hg; have hz1 := (zf BK1.1 0).trans rfl; have hz2 := (zf BK2.1 0).trans rfl; have hz3 := (zf BK3.1 0).trans rfl; have W3 := za (zs wb3.heap.size wb3); have HB3 := HB) | (go_at_call 33; refine (HE.1 _ HB.1).mono ?_; rintro e w8 ⟨rfl, hb⟩; have n1_ := za (zW HB.1 hb); have n2_ := za (zW W3.1 hb); clear HB W3 hb; have HB := n1_; have W3 := n2_; clear n1_ n2_) | (go_at_call 57; refine (HS2.1 _ HB.1).mono ?_; rintro e w9 ⟨rfl, hb⟩; have n1_ := za (zW HB.1 hb); have n2_ := za (zW W3.1 hb); clear HB W3 hb; have HB := n1_; have W3 := n2_; clear n1_ n2_))
   clear hz1 hz2 hz3 HB HE HS2
   go_loopg [10, 26] l3.length (fun kq v10 v26 w' => ∃ (i : Nat) (out : List Int), v26 = .int .i64 (i : Int) ∧ Aside0 (kq + i = l3.length ∧ out = (l3.take i).filter (reachable l0 l1 a2)) ∧ Aside0 (Kd.R (Kd.int .i64) 3 w' wb3.heap.size (fun _ => True) v10 out) ∧ Aside0 (Below wb3.heap.size wb3 w'))
   case atStart => exact ⟨0, [], rfl, ⟨by omega, by simp⟩, ⟨Kd.R_nil _ _ _ _ _⟩, W3⟩
   case round =>
    clear W3; obtain ⟨i, out, rfl, HX, HO, HW⟩ := hrel; have HBW := za (by exact HB3.1.trans (HW.1.mono HB3.1.size))
    by_cases hlt : i < l3.length
    ·obtain ⟨k1, rfl⟩ : ∃ k1, gk = k1 + 1 := ⟨gk - 1, by have := HX.1.1; omega⟩; have dlt : decide ((i : Int) < (l3.length : Int)) = true := zc (by omega); have dlt2 : decide (i < l3.length) = true := zc hlt; have p5 : (0 : Int) ≤ (i : Int) := Int.natCast_nonneg _
     have q5 : (i : Int) < (l3.length : Int) := by omega
     obtain ⟨ad, ead, hx0⟩ := zJ (zG HR3.1 HBW.1) (i : Int) p5 q5; cases ead; obtain ⟨s, hs⟩ : ∃ s, s = rd l3 (i : Int) := ⟨_, rfl⟩; rw [← hs, Int.toNat_natCast] at hx0
     have hs2 : s = l3.getD i 0 := by rw [hs]; simp [rd]
     have hsm : s ∈ l3 := by rw [hs2, List.getD_eq_getElem?_getD, List.getElem?_eq_getElem hlt]; exact List.getElem_mem _
     have HS2 := za hs2; have HLT := za hlt; have HWI : Aside0 (wrap64 ((i : Int) + 1) = ((i + 1 : Nat) : Int)) := ⟨by have := HALL.1.2.2; unfold wrap64; omega⟩; have HKI := za HX.1.1; have HFT := za (by exact filter_take1 (reachable l0 l1 a2) l3 i hlt); have hz1 : wr.cell? ⟨g1, 0, none⟩ = some (.slice A0 l0.length c0) := (zf (zl BK1.1 HW.1) 0).trans rfl; have hz2 : wr.cell? ⟨g2, 0, none⟩ = some (.slice A1 l1.length c1) := (zf (zl BK2.1 HW.1) 0).trans rfl; have hz3 : wr.cell? ⟨g3, 0, none⟩ = some (.int .i64 a2) := (zf (zl BK3.1 HW.1) 0).trans rfl; have HGS := za (by exact impl_greatest.calls A0 c0 l0 A1 c1 l1 a2 s (greatestDown l0 l1 a2 s 201) wr (zG HR0.1 HBW.1) HC0.1 (zG HR1.1 HBW.1) HC1.1 (by unfold impl_greatest.f; rw [yb ⟨HALL.1.1, HALL.1.2.1 s hsm⟩])); have HLO : Aside0 (out.length ≤ 19) := ⟨by rw [HX.1.2]; have h1_ := List.length_filter_le (reachable l0 l1 a2) (l3.take i); have h2_ := List.length_take_le i l3; have := HALL.1.2.2; omega⟩; clear hs hs2 hsm hlt
     by_cases hq : greatestDown l0 l1 a2 s 201 = -1
     ·have dq : (greatestDown l0 l1 a2 s 201 == -1) = true := beq_iff_eq.2 hq; have dq2 : (greatestDown l0 l1 a2 s 201 != -1) = false := bne_eq_false_iff_eq.2 hq; have HQ := za dq2; clear hq
      go_wp2_with (go_at_call 46; refine HGS.1.mono ?_; rintro e w8 ⟨rfl, hb⟩; have HO2 := za (Kd.R_below HO.1 hb); have HW2 := za (zW HW.1 hb); clear hb)
      go_roundg k1
      case measure => omega
      case rel => exact ⟨i + 1, out, (by first | rfl | rw [HWI.1]), ⟨by have := HKI.1; omega, by rw [HFT.1, ← HX.1.2, ← HS2.1, show reachable l0 l1 a2 s = false from HQ.1]; simp⟩, HO2, HW2⟩
     ·have dq : (greatestDown l0 l1 a2 s 201 == -1) = false := beq_eq_false_iff_ne.2 hq; have dq2 : (greatestDown l0 l1 a2 s 201 != -1) = true := bne_iff_ne.2 hq; have HQ := za dq2; clear hq
      go_wp2_with (first | (go_at_call 46; refine HGS.1.mono ?_; rintro e w8 ⟨rfl, hb⟩; have HO2 := za (Kd.R_below HO.1 hb); have HW2 := za (zW HW.1 hb); clear hb) | ((with_reducible refine zr (b := .append) (xs := #[.tmp 36, .tmp 38]) rfl ?_); at_builtin; refine Kd.R_append (Kd.int .i64) (w0 := wb3) wb3.heap.size rfl (.tmp 36) (.tmp 38) 25 3 (.int .i64 0) 8 rfl Try.underlying25 info3 rfl (by decide) (by omega) u10 out s [.int .i64 s] (fun _ => True) (fun _ => False) rfl rfl ?aP (fun _ hk => hk.elim) ?aF ?aO ?aB ?aS ?aL ?_; (case aP => exact rfl); (case aB => exact HW2.1); (case aF => exact (fun _ _ => trivial)); (case aO => exact HO2.1); (case aS => exact HW2.1.size); (case aL => have := HLO.1; omega); intro v212 w22 ho hb hg hat; have HO3 := za ho; have HW3 := za hb; clear ho hb hg hat))
      go_roundg k1
      case measure => omega
      case rel => exact ⟨i + 1, out ++ [s], (by first | rfl | rw [HWI.1]), ⟨by have := HKI.1; omega, by rw [HFT.1, ← HX.1.2, ← HS2.1, show reachable l0 l1 a2 s = true from HQ.1]; simp⟩, HO3, HW3⟩
    ·have dlt : decide ((i : Int) < (l3.length : Int)) = false := zv (by omega); have dlt2 : decide (i < l3.length) = false := zv hlt
     have ho_ : out = l3.filter (reachable l0 l1 a2) := by rw [HX.1.2, List.take_of_length_le (by omega)]
     have hr_ : insOut (rescueCf l0 l1 a2) (out.length - 1) 1 out = r1 := by rw [ho_]; exact HRES.1
     have HR := za hr_; have HP : Aside0 (∀ z ∈ out, 0 ≤ z ∧ z ≤ 7) := ⟨fun z hz => HALL.1.2.1 z (by rw [ho_] at hz; exact (List.mem_filter.1 hz).1)⟩; have HLO : Aside0 (out.length ≤ 19) := ⟨by rw [ho_]; have h1_ := List.length_filter_le (reachable l0 l1 a2) l3; have := HALL.1.2.2; omega⟩; clear ho_ hr_ hlt
     rcases Nat.eq_zero_or_pos out.length with hn0 | hn0
     ·obtain rfl := List.length_eq_zero_iff.1 hn0; obtain ⟨A9, c9, e9⟩ := zI HO.1; subst e9; clear hn0
      go_wp2_with (go_at_call 58; refine (sortRow0.calls _ A9 c9 _).mono ?_; rintro e w8 ⟨rfl, hw8⟩; have HW8 := za hw8; clear hw8)
      go_ret2
      exact ⟨_, rfl, by rw [← HR.1, HW8.1]; exact zP HO.1 HB3.1.size, by rw [HW8.1]; exact HBW.1⟩
     ·obtain ⟨g, c9, e9, hgb, hgl, cells9, hc9⟩ := Kd.R_form HO.1 hn0; subst e9; have HSR := za (sortRow.calls (rescueCf l0 l1 a2) (fun z => 0 ≤ z ∧ z ≤ 7) #[.pointer (some ⟨g1, 0, none⟩), .pointer (some ⟨g2, 0, none⟩), .pointer (some ⟨g3, 0, none⟩)] wb3 wr wb3.heap.size (fun _ => True) g out.length c9 out hn0 (by have := HLO.1; omega) rfl ⟨HO.1, KeepBut.refl _ _ _, HW.1, hgb, HW.1.size⟩ HP.1 (fun x y W hx hy hk hb => impl_RescueOrder_1.calls l0 l1 a2 A0 c0 A1 c1 g1 g2 g3 x y W (zG HR0.1 (HB3.1.trans (hb.mono HB3.1.size))) HC0.1 (zG HR1.1 (HB3.1.trans (hb.mono HB3.1.size))) HC1.1 (zl BK1.1 hb) (zl BK2.1 hb) (zl BK3.1 hb) HALL.1.1 hx hy)); clear hn0 hgb hgl hc9
      go_wp2_with (go_at_call 58; refine HSR.1.mono ?_; rintro e w8 ⟨rfl, hs⟩; have HSS := za hs; clear hs)
      go_ret2
      exact ⟨_, rfl, by rw [← HR.1]; exact zP HSS.1.1 HB3.1.size, HB3.1.trans (HSS.1.2.2.1.mono HB3.1.size)⟩


def spec_l1Rising.l0 : Nat → List Int → Int → Int → Int → Option (Bool)
 | 0, _, _, _, _ => none
 | k + 1, x0, x1, x2, x7 => if x7 < (x0.length : Int) then (if 0 ≤ x7 then ((spec_l1In.f (rd x0 x7) x1 x2).bind fun t607 => (if t607 = true then (if x7 > 0 then (if 0 ≤ (wrap64 (x7 - 1)) then (if (wrap64 (x7 - 1)) < (x0.length : Int) then (if (rd x0 (wrap64 (x7 - 1))) ≥ (rd x0 x7) then (some false) else (spec_l1Rising.l0 k x0 x1 x2 (wrap64 (x7 + 1)))) else (none)) else (none)) else (spec_l1Rising.l0 k x0 x1 x2 (wrap64 (x7 + 1)))) else (some false))) else (none)) else (some true)
def spec_l1Rising.f (k : Nat) (l0 : List Int) (a1 : Int) (a2 : Int) : Option (Bool) := spec_l1Rising.l0 k l0 a1 a2 0
theorem spec_l1Rising.calls (k : Nat) (A0 : Option Addr) (c0 : Nat) (l0 : List Int) (a1 : Int) (a2 : Int) (r : Bool) (w : World) (hr0 : Kd.C (Kd.int .i64) w A0 l0.length l0) (hc0 : l0.length ≤ c0) (h : spec_l1Rising.f k l0 a1 a2 = some r) :
  Calls Try.prog 61 #[.slice A0 l0.length c0, .int .i64 a1, .int .i64 a2] w fun e w' => e = .returned (.bool r) ∧ Drawn0 w w' := by
 have HR0 := za hr0; have HC0 := za hc0; clear hr0 hc0; have H : (spec_l1Rising.l0 k l0 a1 a2 0) = some r := h; clear h; have H' := za H; clear H
 go_enter Try.func61, Try.ntmps61
 go_wp2
 repeat (go_quiet (fail); try go_wp2)
 go_loopg [7] k (fun kq v7 w' => ∃ (x7_1 : Int), v7 = .int .i64 x7_1 ∧ Aside0 (spec_l1Rising.l0 kq l0 a1 a2 x7_1 = some r) ∧ Aside0 (kq ≤ k) ∧ Drawn0 w w')
 case atStart => exact ⟨(0), (qS16), H', ⟨zo _⟩, (qS30)⟩
 case round =>
  clear H'; (try clear p2); obtain ⟨x7_1, rfl, HA, HK1, ⟨m1, rfl⟩⟩ := hrel
  cases gk with
  | zero => exact absurd HA.1 (by simp [spec_l1Rising.l0])
  | succ k1 =>
   have H := HA.1; clear HA; simp only [spec_l1Rising.l0] at H
   by_cases c4 : x7_1 < (l0.length : Int)
   ·rw [yb c4] at H; have c4b0 : decide (x7_1 < (l0.length : Int)) = true := zc c4; clear c4
    by_cases c5 : 0 ≤ x7_1
    ·rw [yb c5] at H; have c5b0 : decide (0 ≤ x7_1) = true := zc c5; clear c5; replace H := bindA H; obtain ⟨t607, A6, H⟩ := H; (try dsimp only at H)
     by_cases c7 : t607 = true
     ·subst c7; rw [yb rfl] at H
      by_cases c8 : x7_1 > 0
      ·rw [yb c8] at H; have c8b0 : decide (0 < x7_1) = true := zc c8; clear c8; obtain ⟨ji9, hji9⟩ : ∃ j_ : Int, (wrap64 (x7_1 - 1)) = j_ := ⟨_, rfl⟩
       replace H : (if 0 ≤ (ji9) then (if (ji9) < (l0.length : Int) then (if (rd l0 (ji9)) ≥ (rd l0 x7_1) then (some false) else (spec_l1Rising.l0 k1 l0 a1 a2 (wrap64 (x7_1 + 1)))) else (none)) else (none)) = some r := by first | (rw [hji9] at H; exact H) | (simp only [hji9] at H ⊢; exact H)
       (try rw [hji9] at A6); have hji9w : (IntKind.i64.wrap (x7_1 - 1)) = ji9 := (i64_w _).trans hji9
       by_cases c10 : 0 ≤ (ji9)
       ·rw [yb c10] at H; have c10b0 : decide (0 ≤ (ji9)) = true := zc c10; clear c10
        by_cases c11 : (ji9) < (l0.length : Int)
        ·rw [yb c11] at H; have c11b0 : decide ((ji9) < (l0.length : Int)) = true := zc c11; clear c11
         by_cases c12 : (rd l0 (ji9)) ≥ (rd l0 x7_1)
         ·rw [yb c12] at H; have c12b0 : decide ((rd l0 x7_1) ≤ (rd l0 (ji9))) = true := zc c12; clear c12; obtain rfl := zm H; have p606 : 0 ≤ (x7_1 : Int) := zb (qS8); have q606 : x7_1 < (l0.length : Int) := zb (qS8); obtain ⟨ad606, e606, hx606_0⟩ := zJ HR0.1 x7_1 p606 q606; cases e606; replace p606 := zw p606; replace q606 := zw q606
          go_wp2_with (first | (go_at_call 69; (with_reducible refine (spec_l1In.calls (rd l0 x7_1) a1 a2 true _ A6.1).mono ?_); rintro e w' ⟨rfl, ⟨nd, rfl⟩⟩; (try first | exact ⟨rfl, _, zS _ _ _⟩ | exact ⟨rfl, _, Eq.trans (zS _ _ _) (congrArg (World.drewN _) (Nat.add_assoc _ _ _))⟩); have p608 : 0 ≤ ((ji9) : Int) := zb (qS8); have q608 : (ji9) < (l0.length : Int) := zb (qS8); obtain ⟨ad608, e608, hx608_0⟩ := zJ HR0.1 (ji9) p608 q608; obtain rfl : ad606 = ad608 := (by injection e608); replace p608 := zw p608; replace q608 := zw q608; have p609 : 0 ≤ (x7_1 : Int) := zb (qS8); have q609 : x7_1 < (l0.length : Int) := zb (qS8); obtain ⟨ad609, e609, hx609_0⟩ := zJ HR0.1 x7_1 p609 q609; obtain rfl : ad606 = ad609 := (by injection e609); replace p609 := zw p609; replace q609 := zw q609))
          repeat (go_quiet (first | (go_at_call 69; (with_reducible refine (spec_l1In.calls (rd l0 x7_1) a1 a2 true _ A6.1).mono ?_); rintro e w' ⟨rfl, ⟨nd, rfl⟩⟩; (try first | exact ⟨rfl, _, zS _ _ _⟩ | exact ⟨rfl, _, Eq.trans (zS _ _ _) (congrArg (World.drewN _) (Nat.add_assoc _ _ _))⟩); have p608 : 0 ≤ ((ji9) : Int) := zb (qS8); have q608 : (ji9) < (l0.length : Int) := zb (qS8); obtain ⟨ad608, e608, hx608_0⟩ := zJ HR0.1 (ji9) p608 q608; obtain rfl : ad606 = ad608 := (by injection e608); replace p608 := zw p608; replace q608 := zw q608; have p609 : 0 ≤ (x7_1 : Int) := zb (qS8); have q609 : x7_1 < (l0.length : Int) := zb (qS8); obtain ⟨ad609, e609, hx609_0⟩ := zJ HR0.1 x7_1 p609 q609; obtain rfl : ad606 = ad609 := (by injection e609); replace p609 := zw p609; replace q609 := zw q609)); try go_wp2)
          go_ret
          exact ⟨(by first | rfl | (simp; done) | (simp only [← hji9] <;> (first | rfl | simp)) | (simp [*]; done)), (qS30)⟩
         ·rw [yc c12] at H; have c12b0 : decide ((rd l0 x7_1) ≤ (rd l0 (ji9))) = false := zv c12; clear c12; have H' := za H; clear H; have p606 : 0 ≤ (x7_1 : Int) := zb (qS8); have q606 : x7_1 < (l0.length : Int) := zb (qS8); obtain ⟨ad606, e606, hx606_0⟩ := zJ HR0.1 x7_1 p606 q606; cases e606; replace p606 := zw p606; replace q606 := zw q606
          go_wp2_with (first | (go_at_call 69; (with_reducible refine (spec_l1In.calls (rd l0 x7_1) a1 a2 true _ A6.1).mono ?_); rintro e w' ⟨rfl, ⟨nd, rfl⟩⟩; (try first | exact ⟨rfl, _, zS _ _ _⟩ | exact ⟨rfl, _, Eq.trans (zS _ _ _) (congrArg (World.drewN _) (Nat.add_assoc _ _ _))⟩); have p608 : 0 ≤ ((ji9) : Int) := zb (qS8); have q608 : (ji9) < (l0.length : Int) := zb (qS8); obtain ⟨ad608, e608, hx608_0⟩ := zJ HR0.1 (ji9) p608 q608; obtain rfl : ad606 = ad608 := (by injection e608); replace p608 := zw p608; replace q608 := zw q608; have p609 : 0 ≤ (x7_1 : Int) := zb (qS8); have q609 : x7_1 < (l0.length : Int) := zb (qS8); obtain ⟨ad609, e609, hx609_0⟩ := zJ HR0.1 x7_1 p609 q609; obtain rfl : ad606 = ad609 := (by injection e609); replace p609 := zw p609; replace q609 := zw q609))
          repeat (go_quiet (first | (go_at_call 69; (with_reducible refine (spec_l1In.calls (rd l0 x7_1) a1 a2 true _ A6.1).mono ?_); rintro e w' ⟨rfl, ⟨nd, rfl⟩⟩; (try first | exact ⟨rfl, _, zS _ _ _⟩ | exact ⟨rfl, _, Eq.trans (zS _ _ _) (congrArg (World.drewN _) (Nat.add_assoc _ _ _))⟩); have p608 : 0 ≤ ((ji9) : Int) := zb (qS8); have q608 : (ji9) < (l0.length : Int) := zb (qS8); obtain ⟨ad608, e608, hx608_0⟩ := zJ HR0.1 (ji9) p608 q608; obtain rfl : ad606 = ad608 := (by injection e608); replace p608 := zw p608; replace q608 := zw q608; have p609 : 0 ≤ (x7_1 : Int) := zb (qS8); have q609 : x7_1 < (l0.length : Int) := zb (qS8); obtain ⟨ad609, e609, hx609_0⟩ := zJ HR0.1 x7_1 p609 q609; obtain rfl : ad606 = ad609 := (by injection e609); replace p609 := zw p609; replace q609 := zw q609)); try go_wp2)
          go_roundg k1
          case measure => have := HK1.1; omega
          case rel => exact ⟨(wrap64 (x7_1 + 1)), (qS16), H', ⟨by have := HK1.1; omega⟩, (qS30)⟩
        ·rw [yc c11] at H
         exact absurd H (by simp)
       ·rw [yc c10] at H
        exact absurd H (by simp)
      ·rw [yc c8] at H; have c8b0 : decide (0 < x7_1) = false := zv c8; clear c8; have H' := za H; clear H; have p606 : 0 ≤ (x7_1 : Int) := zb (qS8); have q606 : x7_1 < (l0.length : Int) := zb (qS8); obtain ⟨ad606, e606, hx606_0⟩ := zJ HR0.1 x7_1 p606 q606; cases e606; replace p606 := zw p606; replace q606 := zw q606
       go_wp2_with (first | (go_at_call 69; (with_reducible refine (spec_l1In.calls (rd l0 x7_1) a1 a2 true _ A6.1).mono ?_); rintro e w' ⟨rfl, ⟨nd, rfl⟩⟩; (try first | exact ⟨rfl, _, zS _ _ _⟩ | exact ⟨rfl, _, Eq.trans (zS _ _ _) (congrArg (World.drewN _) (Nat.add_assoc _ _ _))⟩)))
       repeat (go_quiet (first | (go_at_call 69; (with_reducible refine (spec_l1In.calls (rd l0 x7_1) a1 a2 true _ A6.1).mono ?_); rintro e w' ⟨rfl, ⟨nd, rfl⟩⟩; (try first | exact ⟨rfl, _, zS _ _ _⟩ | exact ⟨rfl, _, Eq.trans (zS _ _ _) (congrArg (World.drewN _) (Nat.add_assoc _ _ _))⟩))); try go_wp2)
       go_roundg k1
       case measure => have := HK1.1; omega
       case rel => exact ⟨(wrap64 (x7_1 + 1)), (qS16), H', ⟨by have := HK1.1; omega⟩, (qS30)⟩
     ·replace c7 := zn c7; subst c7; rw [yc (show ¬ (false = true) by decide)] at H; obtain rfl := zm H; have p606 : 0 ≤ (x7_1 : Int) := zb (qS8); have q606 : x7_1 < (l0.length : Int) := zb (qS8); obtain ⟨ad606, e606, hx606_0⟩ := zJ HR0.1 x7_1 p606 q606; cases e606; replace p606 := zw p606; replace q606 := zw q606
      go_wp2_with (first | (go_at_call 69; (with_reducible refine (spec_l1In.calls (rd l0 x7_1) a1 a2 false _ A6.1).mono ?_); rintro e w' ⟨rfl, ⟨nd, rfl⟩⟩; (try first | exact ⟨rfl, _, zS _ _ _⟩ | exact ⟨rfl, _, Eq.trans (zS _ _ _) (congrArg (World.drewN _) (Nat.add_assoc _ _ _))⟩)))
      repeat (go_quiet (first | (go_at_call 69; (with_reducible refine (spec_l1In.calls (rd l0 x7_1) a1 a2 false _ A6.1).mono ?_); rintro e w' ⟨rfl, ⟨nd, rfl⟩⟩; (try first | exact ⟨rfl, _, zS _ _ _⟩ | exact ⟨rfl, _, Eq.trans (zS _ _ _) (congrArg (World.drewN _) (Nat.add_assoc _ _ _))⟩))); try go_wp2)
      go_ret
      exact ⟨(qS16), (qS30)⟩
    ·rw [yc c5] at H
     exact absurd H (by simp)
   ·rw [yc c4] at H; have c4b0 : decide (x7_1 < (l0.length : Int)) = false := zv c4; clear c4; obtain rfl := zm H
    go_wp2
    repeat (go_quiet (fail); try go_wp2)
    go_ret
    exact ⟨(qS16), (qS30)⟩

end Go.Proofs.Ytoljdjgndogegaa.MS
