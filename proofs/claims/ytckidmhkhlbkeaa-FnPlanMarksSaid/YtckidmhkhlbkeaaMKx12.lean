-- tight2 (a walk)
import Derived.Test.YtckidmhkhlbkeaaMKx0
import Derived.Test.YtckidmhkhlbkeaaMKx6
import Derived.Test.YtckidmhkhlbkeaaMKx9
import Derived.Test.YtckidmhkhlbkeaaMKx11
import Derived.Test.YtckidmhkhlbkeaaMKx2
namespace Go.Proofs.Ytckidmhkhlbkeaa.MK
open Go.RowKit Go.Proofs.YtckidmhkhlbkeaaW.PrintWords Go.Proofs.YtckidmhkhlbkeaaW.PrintLast
set_option maxHeartbeats 8000000
set_option maxRecDepth 100000
attribute [local go_sem] max2_int min2_int max_two min_two
set_option linter.unusedVariables false
set_option linter.unusedSimpArgs false

def spec_l1Cur_one.f (s0_0 : List Int) (s0_1 : Int) (s0_2 : Int) (a1 : Int) : Option (Bool × Int × Int) := (spec_l1Cur_pick.f s0_0 s0_1 s0_2 a1).bind fun bt316 => (some ((bt316.1 == 0), bt316.2.1, bt316.2.2))
theorem spec_l1Cur_one.calls (g : Nat) (s0_0 : List Int) (s0_1 : Int) (s0_2 : Int) (a1 : Int) (r1 : Bool) (r2 : Int) (r3 : Int) (w0 w : World) (hI : IsS85 w0 w g s0_0 s0_1 s0_2) (hB : Below w0.heap.size w0 w) (h : spec_l1Cur_one.f s0_0 s0_1 s0_2 a1 = some (r1, r2, r3)) :
  Calls Try.prog 73 #[.pointer (some ⟨g, 0, none⟩), .int .i64 a1] w fun e w' => e = .returned (.bool r1) ∧ IsS85 w0 w' g s0_0 r2 r3 ∧ Below w0.heap.size w0 w' ∧ KeepBut w w' g none := by
 have HI0 := za hI; have HK := za (KeepBut.refl w g none); have HL := za hB.size; clear hI; have HW0 := za hB.size; have HB := za hB; clear hB; have H : ((spec_l1Cur_pick.f s0_0 s0_1 s0_2 a1).bind fun bt316 => (some ((bt316.1 == 0), bt316.2.1, bt316.2.2))) = some (r1, r2, r3) := h; clear h; replace H := zB H; obtain ⟨⟨t316, t317, t318⟩, A30, H⟩ := H; replace H : (some ((t316 == 0), t317, t318)) = some (r1, r2, r3) := H; have A3 := za A30; clear A30; simp only [zZ, ya] at H; obtain ⟨rfl, rfl, rfl⟩ := H
 go_enter Try.func73, Try.ntmps73
 go_wp2_with (first | ((with_reducible refine zo (f := 60) rfl ?_); refine zR (some 7) rfl rfl Try.func60 (qK18) rfl #[.pointer (some ⟨g, 0, none⟩), .int .i64 a1] rfl (qK5) ?_; (with_reducible refine (spec_l1Cur_pick.calls g s0_0 s0_1 s0_2 a1 t316 t317 t318 w0 _ ?s1 ?s2 A3.1).mono ?_); (case s1 => exact (qK1)); (case s2 => exact (qK4)); rintro e w4 ⟨rfl, hi, hb, hk⟩; refine ⟨_, rfl, ?_⟩; replace HK := za qK84; replace HB := za hb; replace HI0 := za hi; clear hb hk hi))
 go_ret
 exact ⟨(qK15), (qK1), (qK4), (qK3)⟩

def spec_l1Cur_spoilt.f (s0_0 : List Int) (s0_1 : Int) (s0_2 : Int) (a1 : ByteArray) (a2 : ByteArray) : Option (ByteArray × Int × Int) := if a1.toList = ([] : List UInt8) then (if 0 ≤ 1 then (if 1 ≤ (a2.size : Int) then (some (a2.extract 0 1, s0_1, s0_2)) else (none)) else (none)) else ((spec_l1Cur_pick.f s0_0 s0_1 s0_2 (a1.size : Int)).bind fun bt319 => ((spec_l1Cur_pick.f s0_0 bt319.2.1 bt319.2.2 (a2.size : Int)).bind fun bt322 => (if 0 ≤ bt322.1 then (if bt322.1 ≤ (a2.size : Int) then (if 0 ≤ 1 then (if 1 ≤ ((a2.extract (bt322.1 : Int).toNat a2.size).size : Int) then ((spec_l1Cur_pick.f s0_0 bt322.2.1 bt322.2.2 3).bind fun bt325 => (if bt325.1 = 0 then (if 0 ≤ bt319.1 then (if bt319.1 ≤ (a1.size : Int) then (if (a1.extract 0 (bt319.1 : Int).toNat).size + ((a2.extract (bt322.1 : Int).toNat a2.size).extract 0 1).size ≤ 9223372036854775807 then (if ((a1.extract 0 (bt319.1 : Int).toNat) ++ ((a2.extract (bt322.1 : Int).toNat a2.size).extract 0 1)).size + (a1.extract (bt319.1 : Int).toNat a1.size).size ≤ 9223372036854775807 then (some (((a1.extract 0 (bt319.1 : Int).toNat) ++ ((a2.extract (bt322.1 : Int).toNat a2.size).extract 0 1)) ++ (a1.extract (bt319.1 : Int).toNat a1.size), bt325.2.1, bt325.2.2)) else (none)) else (none)) else (none)) else (none)) else (if bt325.1 = 1 then (if 0 ≤ bt319.1 then (if bt319.1 ≤ (a1.size : Int) then (if (a1.extract 0 (bt319.1 : Int).toNat).size + ((a2.extract (bt322.1 : Int).toNat a2.size).extract 0 1).size ≤ 9223372036854775807 then (if 0 ≤ (wrap64 (bt319.1 + 1)) then (if (wrap64 (bt319.1 + 1)) ≤ (a1.size : Int) then (if ((a1.extract 0 (bt319.1 : Int).toNat) ++ ((a2.extract (bt322.1 : Int).toNat a2.size).extract 0 1)).size + (a1.extract ((wrap64 (bt319.1 + 1)) : Int).toNat a1.size).size ≤ 9223372036854775807 then (some (((a1.extract 0 (bt319.1 : Int).toNat) ++ ((a2.extract (bt322.1 : Int).toNat a2.size).extract 0 1)) ++ (a1.extract ((wrap64 (bt319.1 + 1)) : Int).toNat a1.size), bt325.2.1, bt325.2.2)) else (none)) else (none)) else (none)) else (none)) else (none)) else (none)) else (if 0 ≤ bt319.1 then (if bt319.1 ≤ (a1.size : Int) then (if 0 ≤ (wrap64 (bt319.1 + 1)) then (if (wrap64 (bt319.1 + 1)) ≤ (a1.size : Int) then (if (a1.extract 0 (bt319.1 : Int).toNat).size + (a1.extract ((wrap64 (bt319.1 + 1)) : Int).toNat a1.size).size ≤ 9223372036854775807 then (some ((a1.extract 0 (bt319.1 : Int).toNat) ++ (a1.extract ((wrap64 (bt319.1 + 1)) : Int).toNat a1.size), bt325.2.1, bt325.2.2)) else (none)) else (none)) else (none)) else (none)) else (none))))) else (none)) else (none)) else (none)) else (none))))
theorem spec_l1Cur_spoilt.calls (g : Nat) (s0_0 : List Int) (s0_1 : Int) (s0_2 : Int) (a1 : ByteArray) (a2 : ByteArray) (r1 : ByteArray) (r2 : Int) (r3 : Int) (w0 w : World) (hI : IsS85 w0 w g s0_0 s0_1 s0_2) (hB : Below w0.heap.size w0 w) (h : spec_l1Cur_spoilt.f s0_0 s0_1 s0_2 a1 a2 = some (r1, r2, r3)) :
  Calls Try.prog 74 #[.pointer (some ⟨g, 0, none⟩), .string a1, .string a2] w fun e w' => e = .returned (.string r1) ∧ IsS85 w0 w' g s0_0 r2 r3 ∧ Below w0.heap.size w0 w' ∧ KeepBut w w' g none := by
 have HI0 := za hI; have HK := za (KeepBut.refl w g none); have HL := za hB.size; clear hI; have HW0 := za hB.size; have HB := za hB; clear hB; have H : (if a1.toList = ([] : List UInt8) then (if 0 ≤ 1 then (if 1 ≤ (a2.size : Int) then (some (a2.extract 0 1, s0_1, s0_2)) else (none)) else (none)) else ((spec_l1Cur_pick.f s0_0 s0_1 s0_2 (a1.size : Int)).bind fun bt319 => ((spec_l1Cur_pick.f s0_0 bt319.2.1 bt319.2.2 (a2.size : Int)).bind fun bt322 => (if 0 ≤ bt322.1 then (if bt322.1 ≤ (a2.size : Int) then (if 0 ≤ 1 then (if 1 ≤ ((a2.extract (bt322.1 : Int).toNat a2.size).size : Int) then ((spec_l1Cur_pick.f s0_0 bt322.2.1 bt322.2.2 3).bind fun bt325 => (if bt325.1 = 0 then (if 0 ≤ bt319.1 then (if bt319.1 ≤ (a1.size : Int) then (if (a1.extract 0 (bt319.1 : Int).toNat).size + ((a2.extract (bt322.1 : Int).toNat a2.size).extract 0 1).size ≤ 9223372036854775807 then (if ((a1.extract 0 (bt319.1 : Int).toNat) ++ ((a2.extract (bt322.1 : Int).toNat a2.size).extract 0 1)).size + (a1.extract (bt319.1 : Int).toNat a1.size).size ≤ 9223372036854775807 then (some (((a1.extract 0 (bt319.1 : Int).toNat) ++ ((a2.extract (bt322.1 : Int).toNat a2.size).extract 0 1)) ++ (a1.extract (bt319.1 : Int).toNat a1.size), bt325.2.1, bt325.2.2)) else (none)) else (none)) else (none)) else (none)) else (if bt325.1 = 1 then (if 0 ≤ bt319.1 then (if bt319.1 ≤ (a1.size : Int) then (if (a1.extract 0 (bt319.1 : Int).toNat).size + ((a2.extract (bt322.1 : Int).toNat a2.size).extract 0 1).size ≤ 9223372036854775807 then (if 0 ≤ (wrap64 (bt319.1 + 1)) then (if (wrap64 (bt319.1 + 1)) ≤ (a1.size : Int) then (if ((a1.extract 0 (bt319.1 : Int).toNat) ++ ((a2.extract (bt322.1 : Int).toNat a2.size).extract 0 1)).size + (a1.extract ((wrap64 (bt319.1 + 1)) : Int).toNat a1.size).size ≤ 9223372036854775807 then (some (((a1.extract 0 (bt319.1 : Int).toNat) ++ ((a2.extract (bt322.1 : Int).toNat a2.size).extract 0 1)) ++ (a1.extract ((wrap64 (bt319.1 + 1)) : Int).toNat a1.size), bt325.2.1, bt325.2.2)) else (none)) else (none)) else (none)) else (none)) else (none)) else (none)) else (if 0 ≤ bt319.1 then (if bt319.1 ≤ (a1.size : Int) then (if 0 ≤ (wrap64 (bt319.1 + 1)) then (if (wrap64 (bt319.1 + 1)) ≤ (a1.size : Int) then (if (a1.extract 0 (bt319.1 : Int).toNat).size + (a1.extract ((wrap64 (bt319.1 + 1)) : Int).toNat a1.size).size ≤ 9223372036854775807 then (some ((a1.extract 0 (bt319.1 : Int).toNat) ++ (a1.extract ((wrap64 (bt319.1 + 1)) : Int).toNat a1.size), bt325.2.1, bt325.2.2)) else (none)) else (none)) else (none)) else (none)) else (none))))) else (none)) else (none)) else (none)) else (none))))) = some (r1, r2, r3) := h
 clear h
 by_cases c4 : a1.toList = ([] : List UInt8)
 ·rw [zX c4] at H; have c4b0 : (a1.toList == ([] : List UInt8)) = true := zP c4; have c4b1 : (a1.toList != ([] : List UInt8)) = false := zx c4; clear c4
  by_cases c5 : 0 ≤ 1
  ·rw [zX c5] at H; have c5b0 := zv c5; have c5b1 : decide (0 ≤ 1) = true := zc c5; clear c5
   by_cases c6 : 1 ≤ (a2.size : Int)
   ·rw [zX c6] at H; have c6b0 := zv c6; have c6b1 : decide (1 ≤ (a2.size : Int)) = true := zc c6; clear c6; simp only [zZ, ya] at H; obtain ⟨rfl, rfl, rfl⟩ := H
    go_enter Try.func74, Try.ntmps74
    go_wp2
    repeat (go_quiet (fail); try go_wp2)
    go_ret
    exact ⟨(qK15), (qK1), (qK4), (qK3)⟩
   ·rw [zY c6] at H
    exact zM H (by simp)
  ·rw [zY c5] at H
   exact zM H (by simp)
 ·rw [zY c4] at H; have c4b0 : (a1.toList == ([] : List UInt8)) = false := zw c4; have c4b1 : (a1.toList != ([] : List UInt8)) = true := zQ c4; replace H := bindA H; obtain ⟨⟨t319, t320, t321⟩, A7, H⟩ := H; (try dsimp only at H); replace H := bindA H; obtain ⟨⟨t322, t323, t324⟩, A8, H⟩ := H; (try dsimp only at H)
  by_cases c9 : 0 ≤ t322
  ·rw [zX c9] at H; have c9b0 := zv c9; have c9b1 : decide (0 ≤ t322) = true := zc c9; clear c9
   by_cases c10 : t322 ≤ (a2.size : Int)
   ·rw [zX c10] at H; have c10b0 := zv c10; have c10b1 : decide (t322 ≤ (a2.size : Int)) = true := zc c10; clear c10
    by_cases c11 : 0 ≤ 1
    ·rw [zX c11] at H; have c11b0 := zv c11; have c11b1 : decide (0 ≤ 1) = true := zc c11; clear c11
     by_cases c12 : 1 ≤ ((a2.extract (t322 : Int).toNat a2.size).size : Int)
     ·rw [zX c12] at H; have c12b0 := zv c12; have c12b1 : decide (1 ≤ ((a2.extract (t322 : Int).toNat a2.size).size : Int)) = true := zc c12; clear c12; replace H := bindA H; obtain ⟨⟨t325, t326, t327⟩, A13, H⟩ := H; (try dsimp only at H)
      by_cases c14 : t325 = 0
      ·rw [zX c14] at H; have c14b0 : (t325 == 0) = true := zP c14; have c14b1 : (t325 != 0) = false := zx c14; clear c14
       by_cases c15 : 0 ≤ t319
       ·rw [zX c15] at H; have c15b0 := zv c15; have c15b1 : decide (0 ≤ t319) = true := zc c15; clear c15
        by_cases c16 : t319 ≤ (a1.size : Int)
        ·rw [zX c16] at H; have c16b0 := zv c16; have c16b1 : decide (t319 ≤ (a1.size : Int)) = true := zc c16; clear c16
         by_cases c17 : (a1.extract 0 (t319 : Int).toNat).size + ((a2.extract (t322 : Int).toNat a2.size).extract 0 1).size ≤ 9223372036854775807
         ·rw [zX c17] at H; have c17b0 := zv c17; have c17b1 : decide ((a1.extract 0 (t319 : Int).toNat).size + ((a2.extract (t322 : Int).toNat a2.size).extract 0 1).size ≤ 9223372036854775807) = true := zc c17
          try have c17b2 : (9223372036854775807 < (a1.extract 0 (t319 : Int).toNat).size + ((a2.extract (t322 : Int).toNat a2.size).extract 0 1).size) = False := eq_false (Nat.not_lt.2 c17)
          have c18b0 := zv (zb (qK12) : 0 ≤ t319); have c19b0 := zv (zb (qK12) : t319 ≤ (a1.size : Int))
          by_cases c20 : ((a1.extract 0 (t319 : Int).toNat) ++ ((a2.extract (t322 : Int).toNat a2.size).extract 0 1)).size + (a1.extract (t319 : Int).toNat a1.size).size ≤ 9223372036854775807
          ·rw [zX c20] at H; have c20b0 := zv c20; have c20b1 : decide (((a1.extract 0 (t319 : Int).toNat) ++ ((a2.extract (t322 : Int).toNat a2.size).extract 0 1)).size + (a1.extract (t319 : Int).toNat a1.size).size ≤ 9223372036854775807) = true := zc c20
           try have c20b2 : (9223372036854775807 < ((a1.extract 0 (t319 : Int).toNat) ++ ((a2.extract (t322 : Int).toNat a2.size).extract 0 1)).size + (a1.extract (t319 : Int).toNat a1.size).size) = False := eq_false (Nat.not_lt.2 c20)
           simp only [zZ, ya] at H; obtain ⟨rfl, rfl, rfl⟩ := H; have zq0_ : ((a1.extract 0 (t319 : Int).toNat) ++ ((a2.extract (t322 : Int).toNat a2.size).extract 0 1)).size + (a1.extract (t319 : Int).toNat a1.size).size ≤ 9223372036854775807 := zb c20b1; have zq1_ : (a1.extract 0 (t319 : Int).toNat).size + ((a2.extract (t322 : Int).toNat a2.size).extract 0 1).size ≤ 9223372036854775807 := zb c17b1; have zq2_ : t319 ≤ (a1.size : Int) := zb c16b1; have zq3_ : 0 ≤ t319 := zb c15b1; have zq4_ : 1 ≤ ((a2.extract (t322 : Int).toNat a2.size).size : Int) := zb c12b1; have zq5_ : 0 ≤ 1 := zb c11b1; have zq6_ : t322 ≤ (a2.size : Int) := zb c10b1; have zq7_ : 0 ≤ t322 := zb c9b1; obtain ⟨n1, rfl⟩ : ∃ n : Nat, t319 = (n : Int) := ⟨(t319 : Int).toNat, by omega⟩; obtain ⟨n2, rfl⟩ : ∃ n : Nat, t322 = (n : Int) := ⟨(t322 : Int).toNat, by omega⟩
           try simp only [Int.toNat_natCast, ByteArray.size_extract, ByteArray.size_append] at zq0_
           try simp only [Int.toNat_natCast, ByteArray.size_extract, ByteArray.size_append] at zq1_
           try simp only [Int.toNat_natCast, ByteArray.size_extract, ByteArray.size_append] at zq2_
           try simp only [Int.toNat_natCast, ByteArray.size_extract, ByteArray.size_append] at zq3_
           try simp only [Int.toNat_natCast, ByteArray.size_extract, ByteArray.size_append] at zq4_
           try simp only [Int.toNat_natCast, ByteArray.size_extract, ByteArray.size_append] at zq5_
           try simp only [Int.toNat_natCast, ByteArray.size_extract, ByteArray.size_append] at zq6_
           try simp only [Int.toNat_natCast, ByteArray.size_extract, ByteArray.size_append] at zq7_
           have y1_ : n1 ≤ a1.size := by omega
           have y2_ : n2 ≤ a2.size := by omega
           have y3_ : n2 + 1 ≤ a2.size := by omega
           try have y4_ : n1 + 1 ≤ a1.size := by omega
           first | have y5_ : a1.size + 1 ≤ 9223372036854775807 := by omega | have y5_ : a1.size ≤ 9223372036854775807 := by omega | have y5_ : a1.size ≤ 9223372036854775808 := by omega
           (try clear c20b2); (try clear c20b1); (try clear c19b0); (try clear c18b0); (try clear c17b2); (try clear c17b1); (try clear c16b1); (try clear c15b1); (try clear c12b1); (try clear c11b1); (try clear c10b1); (try clear c9b1); (try clear c17); (try clear c20); (try clear zq0_); (try clear zq1_); (try clear zq2_); (try clear zq3_); (try clear zq4_); (try clear zq5_); (try clear zq6_); (try clear zq7_); (try clear c20b0); (try clear c17b0); (try clear c16b0); (try clear c15b0); (try clear c12b0); (try clear c11b0); (try clear c10b0); (try clear c9b0)
           go_enter Try.func74, Try.ntmps74
           go_wp2_with (first | (go_at_call 60; (with_reducible refine (spec_l1Cur_pick.calls g s0_0 s0_1 s0_2 (a1.size : Int) (n1 : Int) t320 t321 w0 _ ?s1 ?s2 A7.1).mono ?_); (case s1 => exact (qK1)); (case s2 => exact (qK4)); rintro e w21 ⟨rfl, hi, hb, hk⟩; replace HK := za qK84; replace HB := za hb; replace HI0 := za hi; clear hb hk hi) | (go_at_call 60; (with_reducible refine (spec_l1Cur_pick.calls g s0_0 t320 t321 (a2.size : Int) (n2 : Int) t323 t324 w0 _ ?s1 ?s2 A8.1).mono ?_); (case s1 => exact (qK1)); (case s2 => exact (qK4)); rintro e w22 ⟨rfl, hi, hb, hk⟩; replace HK := za qK84; replace HB := za hb; replace HI0 := za hi; clear hb hk hi) | (go_at_call 60; (with_reducible refine (spec_l1Cur_pick.calls g s0_0 t323 t324 3 t325 t326 t327 w0 _ ?s1 ?s2 A13.1).mono ?_); (case s1 => exact (qK1)); (case s2 => exact (qK4)); rintro e w23 ⟨rfl, hi, hb, hk⟩; replace HK := za qK84; replace HB := za hb; replace HI0 := za hi; clear hb hk hi))
           repeat (go_quiet (first | (go_at_call 60; (with_reducible refine (spec_l1Cur_pick.calls g s0_0 s0_1 s0_2 (a1.size : Int) (n1 : Int) t320 t321 w0 _ ?s1 ?s2 A7.1).mono ?_); (case s1 => exact (qK1)); (case s2 => exact (qK4)); rintro e w21 ⟨rfl, hi, hb, hk⟩; replace HK := za qK84; replace HB := za hb; replace HI0 := za hi; clear hb hk hi) | (go_at_call 60; (with_reducible refine (spec_l1Cur_pick.calls g s0_0 t320 t321 (a2.size : Int) (n2 : Int) t323 t324 w0 _ ?s1 ?s2 A8.1).mono ?_); (case s1 => exact (qK1)); (case s2 => exact (qK4)); rintro e w22 ⟨rfl, hi, hb, hk⟩; replace HK := za qK84; replace HB := za hb; replace HI0 := za hi; clear hb hk hi) | (go_at_call 60; (with_reducible refine (spec_l1Cur_pick.calls g s0_0 t323 t324 3 t325 t326 t327 w0 _ ?s1 ?s2 A13.1).mono ?_); (case s1 => exact (qK1)); (case s2 => exact (qK4)); rintro e w23 ⟨rfl, hi, hb, hk⟩; replace HK := za qK84; replace HB := za hb; replace HI0 := za hi; clear hb hk hi)); try go_wp2_with (first | (go_at_call 60; (with_reducible refine (spec_l1Cur_pick.calls g s0_0 s0_1 s0_2 (a1.size : Int) (n1 : Int) t320 t321 w0 _ ?s1 ?s2 A7.1).mono ?_); (case s1 => exact (qK1)); (case s2 => exact (qK4)); rintro e w21 ⟨rfl, hi, hb, hk⟩; replace HK := za qK84; replace HB := za hb; replace HI0 := za hi; clear hb hk hi) | (go_at_call 60; (with_reducible refine (spec_l1Cur_pick.calls g s0_0 t320 t321 (a2.size : Int) (n2 : Int) t323 t324 w0 _ ?s1 ?s2 A8.1).mono ?_); (case s1 => exact (qK1)); (case s2 => exact (qK4)); rintro e w22 ⟨rfl, hi, hb, hk⟩; replace HK := za qK84; replace HB := za hb; replace HI0 := za hi; clear hb hk hi) | (go_at_call 60; (with_reducible refine (spec_l1Cur_pick.calls g s0_0 t323 t324 3 t325 t326 t327 w0 _ ?s1 ?s2 A13.1).mono ?_); (case s1 => exact (qK1)); (case s2 => exact (qK4)); rintro e w23 ⟨rfl, hi, hb, hk⟩; replace HK := za qK84; replace HB := za hb; replace HI0 := za hi; clear hb hk hi)))
           go_ret
           exact ⟨(qK15), (qK1), (qK4), (qK3)⟩
          ·rw [zY c20] at H
           exact zM H (by simp)
         ·rw [zY c17] at H
          exact zM H (by simp)
        ·rw [zY c16] at H
         exact zM H (by simp)
       ·rw [zY c15] at H
        exact zM H (by simp)
      ·rw [zY c14] at H; have c14b0 : (t325 == 0) = false := zw c14; have c14b1 : (t325 != 0) = true := zQ c14
       by_cases c24 : t325 = 1
       ·rw [zX c24] at H; have c24b0 : (t325 == 1) = true := zP c24; have c24b1 : (t325 != 1) = false := zx c24; clear c24
        by_cases c25 : 0 ≤ t319
        ·rw [zX c25] at H; have c25b0 := zv c25; have c25b1 : decide (0 ≤ t319) = true := zc c25; clear c25
         by_cases c26 : t319 ≤ (a1.size : Int)
         ·rw [zX c26] at H; have c26b0 := zv c26; have c26b1 : decide (t319 ≤ (a1.size : Int)) = true := zc c26; clear c26
          by_cases c27 : (a1.extract 0 (t319 : Int).toNat).size + ((a2.extract (t322 : Int).toNat a2.size).extract 0 1).size ≤ 9223372036854775807
          ·rw [zX c27] at H; have c27b0 := zv c27; have c27b1 : decide ((a1.extract 0 (t319 : Int).toNat).size + ((a2.extract (t322 : Int).toNat a2.size).extract 0 1).size ≤ 9223372036854775807) = true := zc c27
           try have c27b2 : (9223372036854775807 < (a1.extract 0 (t319 : Int).toNat).size + ((a2.extract (t322 : Int).toNat a2.size).extract 0 1).size) = False := eq_false (Nat.not_lt.2 c27)
           obtain ⟨ji28, hji28⟩ : ∃ j_ : Int, (wrap64 (t319 + 1)) = j_ := ⟨_, rfl⟩
           replace H : (if 0 ≤ (ji28) then (if (ji28) ≤ (a1.size : Int) then (if ((a1.extract 0 (t319 : Int).toNat) ++ ((a2.extract (t322 : Int).toNat a2.size).extract 0 1)).size + (a1.extract ((ji28) : Int).toNat a1.size).size ≤ 9223372036854775807 then (some (((a1.extract 0 (t319 : Int).toNat) ++ ((a2.extract (t322 : Int).toNat a2.size).extract 0 1)) ++ (a1.extract ((ji28) : Int).toNat a1.size), t326, t327)) else (none)) else (none)) else (none)) = some (r1, r2, r3) := by first | (rw [hji28] at H; exact H) | (simp only [hji28] at H ⊢; exact H)
           (try rw [hji28] at A7)
           (try rw [hji28] at A8)
           (try rw [hji28] at A13); have hji28w : (IntKind.i64.wrap (t319 + 1)) = ji28 := (i64_w _).trans hji28
           by_cases c29 : 0 ≤ (ji28)
           ·rw [zX c29] at H; have c29b0 := zv c29; have c29b1 : decide (0 ≤ (ji28)) = true := zc c29; clear c29
            by_cases c30 : (ji28) ≤ (a1.size : Int)
            ·rw [zX c30] at H; have c30b0 := zv c30; have c30b1 : decide ((ji28) ≤ (a1.size : Int)) = true := zc c30; clear c30
             by_cases c31 : ((a1.extract 0 (t319 : Int).toNat) ++ ((a2.extract (t322 : Int).toNat a2.size).extract 0 1)).size + (a1.extract ((ji28) : Int).toNat a1.size).size ≤ 9223372036854775807
             ·rw [zX c31] at H; have c31b0 := zv c31; have c31b1 : decide (((a1.extract 0 (t319 : Int).toNat) ++ ((a2.extract (t322 : Int).toNat a2.size).extract 0 1)).size + (a1.extract ((ji28) : Int).toNat a1.size).size ≤ 9223372036854775807) = true := zc c31
              try have c31b2 : (9223372036854775807 < ((a1.extract 0 (t319 : Int).toNat) ++ ((a2.extract (t322 : Int).toNat a2.size).extract 0 1)).size + (a1.extract ((ji28) : Int).toNat a1.size).size) = False := eq_false (Nat.not_lt.2 c31)
              simp only [zZ, ya] at H; obtain ⟨rfl, rfl, rfl⟩ := H; have zq0_ : ((a1.extract 0 (t319 : Int).toNat) ++ ((a2.extract (t322 : Int).toNat a2.size).extract 0 1)).size + (a1.extract ((ji28) : Int).toNat a1.size).size ≤ 9223372036854775807 := zb c31b1; have zq1_ : (ji28) ≤ (a1.size : Int) := zb c30b1; have zq2_ : 0 ≤ (ji28) := zb c29b1; have zq3_ : (a1.extract 0 (t319 : Int).toNat).size + ((a2.extract (t322 : Int).toNat a2.size).extract 0 1).size ≤ 9223372036854775807 := zb c27b1; have zq4_ : t319 ≤ (a1.size : Int) := zb c26b1; have zq5_ : 0 ≤ t319 := zb c25b1; have zq6_ : 1 ≤ ((a2.extract (t322 : Int).toNat a2.size).size : Int) := zb c12b1; have zq7_ : 0 ≤ 1 := zb c11b1; have zq8_ : t322 ≤ (a2.size : Int) := zb c10b1; have zq9_ : 0 ≤ t322 := zb c9b1; obtain ⟨n1, rfl⟩ : ∃ n : Nat, t319 = (n : Int) := ⟨(t319 : Int).toNat, by omega⟩; obtain ⟨n2, rfl⟩ : ∃ n : Nat, t322 = (n : Int) := ⟨(t322 : Int).toNat, by omega⟩
              try simp only [Int.toNat_natCast, ByteArray.size_extract, ByteArray.size_append] at zq0_
              try simp only [Int.toNat_natCast, ByteArray.size_extract, ByteArray.size_append] at zq1_
              try simp only [Int.toNat_natCast, ByteArray.size_extract, ByteArray.size_append] at zq2_
              try simp only [Int.toNat_natCast, ByteArray.size_extract, ByteArray.size_append] at zq3_
              try simp only [Int.toNat_natCast, ByteArray.size_extract, ByteArray.size_append] at zq4_
              try simp only [Int.toNat_natCast, ByteArray.size_extract, ByteArray.size_append] at zq5_
              try simp only [Int.toNat_natCast, ByteArray.size_extract, ByteArray.size_append] at zq6_
              try simp only [Int.toNat_natCast, ByteArray.size_extract, ByteArray.size_append] at zq7_
              try simp only [Int.toNat_natCast, ByteArray.size_extract, ByteArray.size_append] at zq8_
              try simp only [Int.toNat_natCast, ByteArray.size_extract, ByteArray.size_append] at zq9_
              have hwn_ : ji28 = ((n1 + 1 : Nat) : Int) := by unfold wrap64 at hji28; omega
              subst hwn_
              try simp only [Int.toNat_natCast, ByteArray.size_extract, ByteArray.size_append] at zq0_
              try simp only [Int.toNat_natCast, ByteArray.size_extract, ByteArray.size_append] at zq1_
              try simp only [Int.toNat_natCast, ByteArray.size_extract, ByteArray.size_append] at zq2_
              try simp only [Int.toNat_natCast, ByteArray.size_extract, ByteArray.size_append] at zq3_
              try simp only [Int.toNat_natCast, ByteArray.size_extract, ByteArray.size_append] at zq4_
              try simp only [Int.toNat_natCast, ByteArray.size_extract, ByteArray.size_append] at zq5_
              try simp only [Int.toNat_natCast, ByteArray.size_extract, ByteArray.size_append] at zq6_
              try simp only [Int.toNat_natCast, ByteArray.size_extract, ByteArray.size_append] at zq7_
              try simp only [Int.toNat_natCast, ByteArray.size_extract, ByteArray.size_append] at zq8_
              try simp only [Int.toNat_natCast, ByteArray.size_extract, ByteArray.size_append] at zq9_
              have y1_ : n1 ≤ a1.size := by omega
              have y2_ : n2 ≤ a2.size := by omega
              have y3_ : n2 + 1 ≤ a2.size := by omega
              try have y4_ : n1 + 1 ≤ a1.size := by omega
              first | have y5_ : a1.size + 1 ≤ 9223372036854775807 := by omega | have y5_ : a1.size ≤ 9223372036854775807 := by omega | have y5_ : a1.size ≤ 9223372036854775808 := by omega
              (try clear c31b2); (try clear c31b1); (try clear c30b1); (try clear c29b1); (try clear c27b2); (try clear c27b1); (try clear c26b1); (try clear c25b1); (try clear c27); (try clear c31); (try clear zq0_); (try clear zq1_); (try clear zq2_); (try clear zq3_); (try clear zq4_); (try clear zq5_); (try clear zq6_); (try clear zq7_); (try clear zq8_); (try clear zq9_); (try clear c31b0); (try clear c30b0); (try clear c29b0); (try clear c27b0); (try clear c26b0); (try clear c25b0)
              go_enter Try.func74, Try.ntmps74
              go_wp2_with (first | (go_at_call 60; (with_reducible refine (spec_l1Cur_pick.calls g s0_0 s0_1 s0_2 (a1.size : Int) (n1 : Int) t320 t321 w0 _ ?s1 ?s2 A7.1).mono ?_); (case s1 => exact (qK1)); (case s2 => exact (qK4)); rintro e w32 ⟨rfl, hi, hb, hk⟩; replace HK := za qK84; replace HB := za hb; replace HI0 := za hi; clear hb hk hi) | (go_at_call 60; (with_reducible refine (spec_l1Cur_pick.calls g s0_0 t320 t321 (a2.size : Int) (n2 : Int) t323 t324 w0 _ ?s1 ?s2 A8.1).mono ?_); (case s1 => exact (qK1)); (case s2 => exact (qK4)); rintro e w33 ⟨rfl, hi, hb, hk⟩; replace HK := za qK84; replace HB := za hb; replace HI0 := za hi; clear hb hk hi) | (go_at_call 60; (with_reducible refine (spec_l1Cur_pick.calls g s0_0 t323 t324 3 t325 t326 t327 w0 _ ?s1 ?s2 A13.1).mono ?_); (case s1 => exact (qK1)); (case s2 => exact (qK4)); rintro e w34 ⟨rfl, hi, hb, hk⟩; replace HK := za qK84; replace HB := za hb; replace HI0 := za hi; clear hb hk hi))
              repeat (go_quiet (first | (go_at_call 60; (with_reducible refine (spec_l1Cur_pick.calls g s0_0 s0_1 s0_2 (a1.size : Int) (n1 : Int) t320 t321 w0 _ ?s1 ?s2 A7.1).mono ?_); (case s1 => exact (qK1)); (case s2 => exact (qK4)); rintro e w32 ⟨rfl, hi, hb, hk⟩; replace HK := za qK84; replace HB := za hb; replace HI0 := za hi; clear hb hk hi) | (go_at_call 60; (with_reducible refine (spec_l1Cur_pick.calls g s0_0 t320 t321 (a2.size : Int) (n2 : Int) t323 t324 w0 _ ?s1 ?s2 A8.1).mono ?_); (case s1 => exact (qK1)); (case s2 => exact (qK4)); rintro e w33 ⟨rfl, hi, hb, hk⟩; replace HK := za qK84; replace HB := za hb; replace HI0 := za hi; clear hb hk hi) | (go_at_call 60; (with_reducible refine (spec_l1Cur_pick.calls g s0_0 t323 t324 3 t325 t326 t327 w0 _ ?s1 ?s2 A13.1).mono ?_); (case s1 => exact (qK1)); (case s2 => exact (qK4)); rintro e w34 ⟨rfl, hi, hb, hk⟩; replace HK := za qK84; replace HB := za hb; replace HI0 := za hi; clear hb hk hi)); try go_wp2_with (first | (go_at_call 60; (with_reducible refine (spec_l1Cur_pick.calls g s0_0 s0_1 s0_2 (a1.size : Int) (n1 : Int) t320 t321 w0 _ ?s1 ?s2 A7.1).mono ?_); (case s1 => exact (qK1)); (case s2 => exact (qK4)); rintro e w32 ⟨rfl, hi, hb, hk⟩; replace HK := za qK84; replace HB := za hb; replace HI0 := za hi; clear hb hk hi) | (go_at_call 60; (with_reducible refine (spec_l1Cur_pick.calls g s0_0 t320 t321 (a2.size : Int) (n2 : Int) t323 t324 w0 _ ?s1 ?s2 A8.1).mono ?_); (case s1 => exact (qK1)); (case s2 => exact (qK4)); rintro e w33 ⟨rfl, hi, hb, hk⟩; replace HK := za qK84; replace HB := za hb; replace HI0 := za hi; clear hb hk hi) | (go_at_call 60; (with_reducible refine (spec_l1Cur_pick.calls g s0_0 t323 t324 3 t325 t326 t327 w0 _ ?s1 ?s2 A13.1).mono ?_); (case s1 => exact (qK1)); (case s2 => exact (qK4)); rintro e w34 ⟨rfl, hi, hb, hk⟩; replace HK := za qK84; replace HB := za hb; replace HI0 := za hi; clear hb hk hi)))
              go_ret
              exact ⟨(by first | rfl | (simp [errW_none, errW_some] <;> rfl) | (simp only [← hji28]; first | rfl | (simp [errW_none, errW_some] <;> rfl)) | (simp [*, errW_none, errW_some] <;> rfl)), (qK1), (qK4), (qK3)⟩
             ·rw [zY c31] at H
              exact zM H (by simp)
            ·rw [zY c30] at H
             exact zM H (by simp)
           ·rw [zY c29] at H
            exact zM H (by simp)
          ·rw [zY c27] at H
           exact zM H (by simp)
         ·rw [zY c26] at H
          exact zM H (by simp)
        ·rw [zY c25] at H
         exact zM H (by simp)
       ·rw [zY c24] at H; have c24b0 : (t325 == 1) = false := zw c24; have c24b1 : (t325 != 1) = true := zQ c24
        by_cases c35 : 0 ≤ t319
        ·rw [zX c35] at H; have c35b0 := zv c35; have c35b1 : decide (0 ≤ t319) = true := zc c35; clear c35
         by_cases c36 : t319 ≤ (a1.size : Int)
         ·rw [zX c36] at H; have c36b0 := zv c36; have c36b1 : decide (t319 ≤ (a1.size : Int)) = true := zc c36; clear c36; obtain ⟨ji37, hji37⟩ : ∃ j_ : Int, (wrap64 (t319 + 1)) = j_ := ⟨_, rfl⟩
          replace H : (if 0 ≤ (ji37) then (if (ji37) ≤ (a1.size : Int) then (if (a1.extract 0 (t319 : Int).toNat).size + (a1.extract ((ji37) : Int).toNat a1.size).size ≤ 9223372036854775807 then (some ((a1.extract 0 (t319 : Int).toNat) ++ (a1.extract ((ji37) : Int).toNat a1.size), t326, t327)) else (none)) else (none)) else (none)) = some (r1, r2, r3) := by first | (rw [hji37] at H; exact H) | (simp only [hji37] at H ⊢; exact H)
          (try rw [hji37] at A7)
          (try rw [hji37] at A8)
          (try rw [hji37] at A13); have hji37w : (IntKind.i64.wrap (t319 + 1)) = ji37 := (i64_w _).trans hji37
          by_cases c38 : 0 ≤ (ji37)
          ·rw [zX c38] at H; have c38b0 := zv c38; have c38b1 : decide (0 ≤ (ji37)) = true := zc c38; clear c38
           by_cases c39 : (ji37) ≤ (a1.size : Int)
           ·rw [zX c39] at H; have c39b0 := zv c39; have c39b1 : decide ((ji37) ≤ (a1.size : Int)) = true := zc c39; clear c39
            by_cases c40 : (a1.extract 0 (t319 : Int).toNat).size + (a1.extract ((ji37) : Int).toNat a1.size).size ≤ 9223372036854775807
            ·rw [zX c40] at H; have c40b0 := zv c40; have c40b1 : decide ((a1.extract 0 (t319 : Int).toNat).size + (a1.extract ((ji37) : Int).toNat a1.size).size ≤ 9223372036854775807) = true := zc c40
             try have c40b2 : (9223372036854775807 < (a1.extract 0 (t319 : Int).toNat).size + (a1.extract ((ji37) : Int).toNat a1.size).size) = False := eq_false (Nat.not_lt.2 c40)
             simp only [zZ, ya] at H; obtain ⟨rfl, rfl, rfl⟩ := H; have zq0_ : (a1.extract 0 (t319 : Int).toNat).size + (a1.extract ((ji37) : Int).toNat a1.size).size ≤ 9223372036854775807 := zb c40b1; have zq1_ : (ji37) ≤ (a1.size : Int) := zb c39b1; have zq2_ : 0 ≤ (ji37) := zb c38b1; have zq3_ : t319 ≤ (a1.size : Int) := zb c36b1; have zq4_ : 0 ≤ t319 := zb c35b1; have zq5_ : 1 ≤ ((a2.extract (t322 : Int).toNat a2.size).size : Int) := zb c12b1; have zq6_ : 0 ≤ 1 := zb c11b1; have zq7_ : t322 ≤ (a2.size : Int) := zb c10b1; have zq8_ : 0 ≤ t322 := zb c9b1; obtain ⟨n1, rfl⟩ : ∃ n : Nat, t319 = (n : Int) := ⟨(t319 : Int).toNat, by omega⟩; obtain ⟨n2, rfl⟩ : ∃ n : Nat, t322 = (n : Int) := ⟨(t322 : Int).toNat, by omega⟩
             try simp only [Int.toNat_natCast, ByteArray.size_extract, ByteArray.size_append] at zq0_
             try simp only [Int.toNat_natCast, ByteArray.size_extract, ByteArray.size_append] at zq1_
             try simp only [Int.toNat_natCast, ByteArray.size_extract, ByteArray.size_append] at zq2_
             try simp only [Int.toNat_natCast, ByteArray.size_extract, ByteArray.size_append] at zq3_
             try simp only [Int.toNat_natCast, ByteArray.size_extract, ByteArray.size_append] at zq4_
             try simp only [Int.toNat_natCast, ByteArray.size_extract, ByteArray.size_append] at zq5_
             try simp only [Int.toNat_natCast, ByteArray.size_extract, ByteArray.size_append] at zq6_
             try simp only [Int.toNat_natCast, ByteArray.size_extract, ByteArray.size_append] at zq7_
             try simp only [Int.toNat_natCast, ByteArray.size_extract, ByteArray.size_append] at zq8_
             have hwn_ : ji37 = ((n1 + 1 : Nat) : Int) := by unfold wrap64 at hji37; omega
             subst hwn_
             try simp only [Int.toNat_natCast, ByteArray.size_extract, ByteArray.size_append] at zq0_
             try simp only [Int.toNat_natCast, ByteArray.size_extract, ByteArray.size_append] at zq1_
             try simp only [Int.toNat_natCast, ByteArray.size_extract, ByteArray.size_append] at zq2_
             try simp only [Int.toNat_natCast, ByteArray.size_extract, ByteArray.size_append] at zq3_
             try simp only [Int.toNat_natCast, ByteArray.size_extract, ByteArray.size_append] at zq4_
             try simp only [Int.toNat_natCast, ByteArray.size_extract, ByteArray.size_append] at zq5_
             try simp only [Int.toNat_natCast, ByteArray.size_extract, ByteArray.size_append] at zq6_
             try simp only [Int.toNat_natCast, ByteArray.size_extract, ByteArray.size_append] at zq7_
             try simp only [Int.toNat_natCast, ByteArray.size_extract, ByteArray.size_append] at zq8_
             have y1_ : n1 ≤ a1.size := by omega
             have y2_ : n2 ≤ a2.size := by omega
             have y3_ : n2 + 1 ≤ a2.size := by omega
             try have y4_ : n1 + 1 ≤ a1.size := by omega
             first | have y5_ : a1.size + 1 ≤ 9223372036854775807 := by omega | have y5_ : a1.size ≤ 9223372036854775807 := by omega | have y5_ : a1.size ≤ 9223372036854775808 := by omega
             (try clear c40b2); (try clear c40b1); (try clear c39b1); (try clear c38b1); (try clear c36b1); (try clear c35b1); (try clear c40); (try clear zq0_); (try clear zq1_); (try clear zq2_); (try clear zq3_); (try clear zq4_); (try clear zq5_); (try clear zq6_); (try clear zq7_); (try clear zq8_); (try clear c40b0); (try clear c39b0); (try clear c38b0); (try clear c36b0); (try clear c35b0)
             go_enter Try.func74, Try.ntmps74
             go_wp2_with (first | (go_at_call 60; (with_reducible refine (spec_l1Cur_pick.calls g s0_0 s0_1 s0_2 (a1.size : Int) (n1 : Int) t320 t321 w0 _ ?s1 ?s2 A7.1).mono ?_); (case s1 => exact (qK1)); (case s2 => exact (qK4)); rintro e w41 ⟨rfl, hi, hb, hk⟩; replace HK := za qK84; replace HB := za hb; replace HI0 := za hi; clear hb hk hi) | (go_at_call 60; (with_reducible refine (spec_l1Cur_pick.calls g s0_0 t320 t321 (a2.size : Int) (n2 : Int) t323 t324 w0 _ ?s1 ?s2 A8.1).mono ?_); (case s1 => exact (qK1)); (case s2 => exact (qK4)); rintro e w42 ⟨rfl, hi, hb, hk⟩; replace HK := za qK84; replace HB := za hb; replace HI0 := za hi; clear hb hk hi) | (go_at_call 60; (with_reducible refine (spec_l1Cur_pick.calls g s0_0 t323 t324 3 t325 t326 t327 w0 _ ?s1 ?s2 A13.1).mono ?_); (case s1 => exact (qK1)); (case s2 => exact (qK4)); rintro e w43 ⟨rfl, hi, hb, hk⟩; replace HK := za qK84; replace HB := za hb; replace HI0 := za hi; clear hb hk hi))
             repeat (go_quiet (first | (go_at_call 60; (with_reducible refine (spec_l1Cur_pick.calls g s0_0 s0_1 s0_2 (a1.size : Int) (n1 : Int) t320 t321 w0 _ ?s1 ?s2 A7.1).mono ?_); (case s1 => exact (qK1)); (case s2 => exact (qK4)); rintro e w41 ⟨rfl, hi, hb, hk⟩; replace HK := za qK84; replace HB := za hb; replace HI0 := za hi; clear hb hk hi) | (go_at_call 60; (with_reducible refine (spec_l1Cur_pick.calls g s0_0 t320 t321 (a2.size : Int) (n2 : Int) t323 t324 w0 _ ?s1 ?s2 A8.1).mono ?_); (case s1 => exact (qK1)); (case s2 => exact (qK4)); rintro e w42 ⟨rfl, hi, hb, hk⟩; replace HK := za qK84; replace HB := za hb; replace HI0 := za hi; clear hb hk hi) | (go_at_call 60; (with_reducible refine (spec_l1Cur_pick.calls g s0_0 t323 t324 3 t325 t326 t327 w0 _ ?s1 ?s2 A13.1).mono ?_); (case s1 => exact (qK1)); (case s2 => exact (qK4)); rintro e w43 ⟨rfl, hi, hb, hk⟩; replace HK := za qK84; replace HB := za hb; replace HI0 := za hi; clear hb hk hi)); try go_wp2_with (first | (go_at_call 60; (with_reducible refine (spec_l1Cur_pick.calls g s0_0 s0_1 s0_2 (a1.size : Int) (n1 : Int) t320 t321 w0 _ ?s1 ?s2 A7.1).mono ?_); (case s1 => exact (qK1)); (case s2 => exact (qK4)); rintro e w41 ⟨rfl, hi, hb, hk⟩; replace HK := za qK84; replace HB := za hb; replace HI0 := za hi; clear hb hk hi) | (go_at_call 60; (with_reducible refine (spec_l1Cur_pick.calls g s0_0 t320 t321 (a2.size : Int) (n2 : Int) t323 t324 w0 _ ?s1 ?s2 A8.1).mono ?_); (case s1 => exact (qK1)); (case s2 => exact (qK4)); rintro e w42 ⟨rfl, hi, hb, hk⟩; replace HK := za qK84; replace HB := za hb; replace HI0 := za hi; clear hb hk hi) | (go_at_call 60; (with_reducible refine (spec_l1Cur_pick.calls g s0_0 t323 t324 3 t325 t326 t327 w0 _ ?s1 ?s2 A13.1).mono ?_); (case s1 => exact (qK1)); (case s2 => exact (qK4)); rintro e w43 ⟨rfl, hi, hb, hk⟩; replace HK := za qK84; replace HB := za hb; replace HI0 := za hi; clear hb hk hi)))
             go_ret
             exact ⟨(by first | rfl | (simp [errW_none, errW_some] <;> rfl) | (simp only [← hji37]; first | rfl | (simp [errW_none, errW_some] <;> rfl)) | (simp [*, errW_none, errW_some] <;> rfl)), (qK1), (qK4), (qK3)⟩
            ·rw [zY c40] at H
             exact zM H (by simp)
           ·rw [zY c39] at H
            exact zM H (by simp)
          ·rw [zY c38] at H
           exact zM H (by simp)
         ·rw [zY c36] at H
          exact zM H (by simp)
        ·rw [zY c35] at H
         exact zM H (by simp)
     ·rw [zY c12] at H
      exact zM H (by simp)
    ·rw [zY c11] at H
     exact zM H (by simp)
   ·rw [zY c10] at H
    exact zM H (by simp)
  ·rw [zY c9] at H
   exact zM H (by simp)

def spec_DrawReadPlan.f (k : Nat) (l0 : List Int) : Option (ByteArray) := (spec_l1Cur_marks13.f k l0 0 0).bind fun bt329 => ((spec_l1Cur_among.f l0 bt329.2.1 bt329.2.2 (([3, 5, 10, 60] : List Int))).bind fun bt337 => ((spec_PlanText.f k bt329.1 bt337.1).bind fun bt340 => ((spec_l1Cur_one.f l0 bt337.2.1 bt337.2.2 4).bind fun bt342 => (if bt342.1 = true then ((spec_l1Cur_spoilt.f l0 bt342.2.1 bt342.2.2 bt340.1 (⟨#[46, 65, 90, 97]⟩ : ByteArray)).bind fun bt345 => (some bt345.1)) else (some bt340.1)))))
theorem spec_DrawReadPlan.calls (k : Nat) (A0 : Option Addr) (c0 : Nat) (l0 : List Int) (r : ByteArray) (w : World) (hr0 : Kd.C (Kd.int .u8) w A0 l0.length l0) (hc0 : l0.length ≤ c0) (h : spec_DrawReadPlan.f k l0 = some r) :
  Calls Try.prog 34 #[.slice A0 l0.length c0] w fun e w' => e = .returned (.string r) ∧ Below w.heap.size w w' := by
 have hu85 := Try.underlying85; have HR0 := za hr0; have HC0 := za hc0; clear hr0 hc0; have HB := za (zr w.heap.size w); have H : ((spec_l1Cur_marks13.f k l0 0 0).bind fun bt329 => ((spec_l1Cur_among.f l0 bt329.2.1 bt329.2.2 (([3, 5, 10, 60] : List Int))).bind fun bt337 => ((spec_PlanText.f k bt329.1 bt337.1).bind fun bt340 => ((spec_l1Cur_one.f l0 bt337.2.1 bt337.2.2 4).bind fun bt342 => (if bt342.1 = true then ((spec_l1Cur_spoilt.f l0 bt342.2.1 bt342.2.2 bt340.1 (⟨#[46, 65, 90, 97]⟩ : ByteArray)).bind fun bt345 => (some bt345.1)) else (some bt340.1)))))) = some r := h; clear h; replace H := bindA H; obtain ⟨⟨t329, t332, t333⟩, A2, H⟩ := H; (try dsimp only at H); obtain ⟨y334, hy334⟩ : ∃ y_ : List Int, y_ = (([3, 5, 10, 60] : List Int)) := ⟨_, rfl⟩; replace H : ((spec_l1Cur_among.f l0 t332 t333 y334).bind fun bt337 => ((spec_PlanText.f k t329 bt337.1).bind fun bt340 => ((spec_l1Cur_one.f l0 bt337.2.1 bt337.2.2 4).bind fun bt342 => (if bt342.1 = true then ((spec_l1Cur_spoilt.f l0 bt342.2.1 bt342.2.2 bt340.1 (⟨#[46, 65, 90, 97]⟩ : ByteArray)).bind fun bt345 => (some bt345.1)) else (some bt340.1))))) = some r := (qK7 hy334); have Ny334 := za hy334; clear hy334; replace H := bindA H; obtain ⟨⟨t337, t338, t339⟩, A3, H⟩ := H; (try dsimp only at H); replace H := bindA H; obtain ⟨⟨t340, t341⟩, A4, H⟩ := H; (try dsimp only at H); replace H := bindA H; obtain ⟨⟨t342, t343, t344⟩, A5, H⟩ := H; (try dsimp only at H)
 by_cases c6 : t342 = true
 ·subst c6; rw [zX rfl] at H; replace H := zB H; obtain ⟨⟨t345, t346, t347⟩, A70, H⟩ := H; replace H : (some t345) = some r := H; have A7 := za A70; clear A70; obtain rfl := zl H
  go_enter Try.func34, Try.ntmps34
  go_wp2_with (first | ((with_reducible refine zp (N := 9) rfl ?_); refine zA ?hg (N := 9) ?hd (cs := #[.slice A0 l0.length c0, .int .i64 0, .int .u64 0]) (t := 85) ?hr ?_; (case hd | hg => rfl); (case hr => exact (qK21)); intro gb328 hg w8 hbox hb; have GW328 := za qK111; have GE328 := za qK111; have HI328 := za (by exact (show IsS85 w w8 gb328 l0 0 0 from ⟨_, _, hbox, (qK116), HR0.1⟩)); replace HB := za qK85; clear hb hbox hg) | ((with_reducible refine zo (f := 58) rfl ?_); refine zR (some 11) rfl rfl Try.func58 (qK18) rfl #[.pointer (some ⟨gb328, 0, none⟩)] rfl (qK5) ?_; (with_reducible refine (spec_l1Cur_marks13.calls k gb328 l0 0 0 t329 t332 t333 w _ ?s1 ?s2 A2.1).mono ?_); (case s1 => exact (qK22)); (case s2 => exact (qK27)); rintro e w9 ⟨v330, rfl, ho0, hi, hb, hk⟩; refine ⟨_, rfl, ?_⟩; have HO331 := za (zK ho0 (zT (qK27))); replace HB := za hb; replace HI328 := za hi; clear hb hk hi ho0) | ((with_reducible refine zp (N := 15) rfl ?_); refine zL (Kd.int .i64) _ 3 ?hg (N := 15) ?hd (xs := ([3, 5, 10, 60] : List Int)) (inner := [.int .i64 3, .int .i64 5, .int .i64 10, .int .i64 60]) (ok := fun _ => True) (okp := fun _ => True) ?hr ?hp (fun _ hk => hk) trivial (zr _ _) (zn _) (by simp) ?_; (case hd | hg => rfl); (case hr => exact (qK21)); (case hp => exact (qK60)); intro v335 w10 ho11 hb hg_ hnew_; clear hg_ hnew_; (first | rw [← Ny334.1] at ho11 | (simp only [Int.reduceToNat] at ho11; rw [← Ny334.1] at ho11)); replace HO331 := za (qK83 HO331.1); have HO336 := za (zK ho11 (zT (qK27))); replace HB := za (zS (qK27) hb); replace HI328 := za qK121; clear hb ho11; obtain ⟨Ao12, co12, eo12⟩ := zE HO336.1; subst eo12) | ((with_reducible refine zo (f := 59) rfl ?_); refine zR (some 16) rfl rfl Try.func59 (qK18) rfl #[.pointer (some ⟨gb328, 0, none⟩), .slice Ao12 y334.length co12] rfl (qK5) ?_; (with_reducible refine (spec_l1Cur_among.calls gb328 l0 t332 t333 _ _ y334 t337 t338 t339 w _ ?s1 ?s2 ?s3 ?s4 ?s5 A3.1).mono ?_); (case s1 => exact (qK22)); (case s2 => exact (qK27)); (case s3 => exact (qK11 HO336.1)); (case s4 => exact (qK42 HO336.1)); (case s5 => exact (by exact far_slice (IsS85.own_ne HI328.1 HO336.1 (by decide)))); rintro e w13 ⟨rfl, hi, hb, hk⟩; refine ⟨_, rfl, ?_⟩; replace HO331 := za (qK100 HO331.1); replace HO336 := za (qK100 HO336.1); replace HB := za hb; replace HI328 := za hi; clear hb hk hi; obtain ⟨Ao14, co14, eo14⟩ := zE HO331.1; subst eo14) | ((with_reducible refine zo (f := 9) rfl ?_); refine zR (some 17) rfl rfl Try.func9 (qK18) rfl #[.slice Ao14 t329.length co14, .int .i64 t337] rfl (qK5) ?_; (with_reducible refine (spec_PlanText.calls k _ _ t329 t337 t340 t341 _ ?s1 ?s2 A4.1).mono ?_); (case s1 => exact (qK11 HO331.1)); (case s2 => exact (qK42 HO331.1)); rintro e w15 ⟨rfl, hb⟩; refine ⟨_, rfl, ?_⟩; replace HO331 := za (qK83 HO331.1); replace HO336 := za (qK83 HO336.1); replace HB := za (zS (qK27) hb); replace HI328 := za qK121; clear hb) | ((with_reducible refine zo (f := 73) rfl ?_); refine zR (some 21) rfl rfl Try.func73 (qK18) rfl #[.pointer (some ⟨gb328, 0, none⟩), .int .i64 4] rfl (qK5) ?_; (with_reducible refine (spec_l1Cur_one.calls gb328 l0 t338 t339 4 true t343 t344 w _ ?s1 ?s2 A5.1).mono ?_); (case s1 => exact (qK22)); (case s2 => exact (qK27)); rintro e w16 ⟨rfl, hi, hb, hk⟩; refine ⟨_, rfl, ?_⟩; replace HO331 := za (qK99 HO331.1); replace HO336 := za (qK99 HO336.1); replace HB := za hb; replace HI328 := za hi; clear hb hk hi) | ((with_reducible refine zo (f := 74) rfl ?_); refine zR (some 24) rfl rfl Try.func74 (qK18) rfl #[.pointer (some ⟨gb328, 0, none⟩), .string t340, .string (⟨#[46, 65, 90, 97]⟩ : ByteArray)] rfl (qK5) ?_; (with_reducible refine (spec_l1Cur_spoilt.calls gb328 l0 t343 t344 t340 (⟨#[46, 65, 90, 97]⟩ : ByteArray) t345 t346 t347 w _ ?s1 ?s2 A7.1).mono ?_); (case s1 => exact (qK22)); (case s2 => exact (qK27)); rintro e w17 ⟨rfl, hi, hb, hk⟩; refine ⟨_, rfl, ?_⟩; replace HO331 := za (qK119 HO331.1); replace HO336 := za (qK119 HO336.1); replace HB := za hb; replace HI328 := za hi; clear hb hk hi))
  go_ret
  exact ⟨(qK15), (qK27)⟩
 ·replace c6 := zm c6; subst c6; rw [zY (show ¬ (false = true) by decide)] at H; obtain rfl := zl H
  go_enter Try.func34, Try.ntmps34
  go_wp2_with (first | ((with_reducible refine zp (N := 9) rfl ?_); refine zA ?hg (N := 9) ?hd (cs := #[.slice A0 l0.length c0, .int .i64 0, .int .u64 0]) (t := 85) ?hr ?_; (case hd | hg => rfl); (case hr => exact (qK21)); intro gb328 hg w18 hbox hb; have GW328 := za qK111; have GE328 := za qK111; have HI328 := za (by exact (show IsS85 w w18 gb328 l0 0 0 from ⟨_, _, hbox, (qK116), HR0.1⟩)); replace HB := za qK85; clear hb hbox hg) | ((with_reducible refine zo (f := 58) rfl ?_); refine zR (some 11) rfl rfl Try.func58 (qK18) rfl #[.pointer (some ⟨gb328, 0, none⟩)] rfl (qK5) ?_; (with_reducible refine (spec_l1Cur_marks13.calls k gb328 l0 0 0 t329 t332 t333 w _ ?s1 ?s2 A2.1).mono ?_); (case s1 => exact (qK22)); (case s2 => exact (qK27)); rintro e w19 ⟨v330, rfl, ho0, hi, hb, hk⟩; refine ⟨_, rfl, ?_⟩; have HO331 := za (zK ho0 (zT (qK27))); replace HB := za hb; replace HI328 := za hi; clear hb hk hi ho0) | ((with_reducible refine zp (N := 15) rfl ?_); refine zL (Kd.int .i64) _ 3 ?hg (N := 15) ?hd (xs := ([3, 5, 10, 60] : List Int)) (inner := [.int .i64 3, .int .i64 5, .int .i64 10, .int .i64 60]) (ok := fun _ => True) (okp := fun _ => True) ?hr ?hp (fun _ hk => hk) trivial (zr _ _) (zn _) (by simp) ?_; (case hd | hg => rfl); (case hr => exact (qK21)); (case hp => exact (qK60)); intro v335 w20 ho21 hb hg_ hnew_; clear hg_ hnew_; (first | rw [← Ny334.1] at ho21 | (simp only [Int.reduceToNat] at ho21; rw [← Ny334.1] at ho21)); replace HO331 := za (qK83 HO331.1); have HO336 := za (zK ho21 (zT (qK27))); replace HB := za (zS (qK27) hb); replace HI328 := za qK121; clear hb ho21; obtain ⟨Ao22, co22, eo22⟩ := zE HO336.1; subst eo22) | ((with_reducible refine zo (f := 59) rfl ?_); refine zR (some 16) rfl rfl Try.func59 (qK18) rfl #[.pointer (some ⟨gb328, 0, none⟩), .slice Ao22 y334.length co22] rfl (qK5) ?_; (with_reducible refine (spec_l1Cur_among.calls gb328 l0 t332 t333 _ _ y334 t337 t338 t339 w _ ?s1 ?s2 ?s3 ?s4 ?s5 A3.1).mono ?_); (case s1 => exact (qK22)); (case s2 => exact (qK27)); (case s3 => exact (qK11 HO336.1)); (case s4 => exact (qK42 HO336.1)); (case s5 => exact (by exact far_slice (IsS85.own_ne HI328.1 HO336.1 (by decide)))); rintro e w23 ⟨rfl, hi, hb, hk⟩; refine ⟨_, rfl, ?_⟩; replace HO331 := za (qK100 HO331.1); replace HO336 := za (qK100 HO336.1); replace HB := za hb; replace HI328 := za hi; clear hb hk hi; obtain ⟨Ao24, co24, eo24⟩ := zE HO331.1; subst eo24) | ((with_reducible refine zo (f := 9) rfl ?_); refine zR (some 17) rfl rfl Try.func9 (qK18) rfl #[.slice Ao24 t329.length co24, .int .i64 t337] rfl (qK5) ?_; (with_reducible refine (spec_PlanText.calls k _ _ t329 t337 t340 t341 _ ?s1 ?s2 A4.1).mono ?_); (case s1 => exact (qK11 HO331.1)); (case s2 => exact (qK42 HO331.1)); rintro e w25 ⟨rfl, hb⟩; refine ⟨_, rfl, ?_⟩; replace HO331 := za (qK83 HO331.1); replace HO336 := za (qK83 HO336.1); replace HB := za (zS (qK27) hb); replace HI328 := za qK121; clear hb) | ((with_reducible refine zo (f := 73) rfl ?_); refine zR (some 21) rfl rfl Try.func73 (qK18) rfl #[.pointer (some ⟨gb328, 0, none⟩), .int .i64 4] rfl (qK5) ?_; (with_reducible refine (spec_l1Cur_one.calls gb328 l0 t338 t339 4 false t343 t344 w _ ?s1 ?s2 A5.1).mono ?_); (case s1 => exact (qK22)); (case s2 => exact (qK27)); rintro e w26 ⟨rfl, hi, hb, hk⟩; refine ⟨_, rfl, ?_⟩; replace HO331 := za (qK99 HO331.1); replace HO336 := za (qK99 HO336.1); replace HB := za hb; replace HI328 := za hi; clear hb hk hi))
  go_ret
  exact ⟨(qK15), (qK27)⟩

attribute [local go_sem high] eqA44
def laws_rMarks.l0 : Nat → List (S44) → List (S44) → Int → Option (Bool)
 | 0, _, _, _ => none
 | k + 1, x0, x1, x5 => if x5 < (x0.length : Int) then (if 0 ≤ x5 then (if x5 < (x1.length : Int) then (if (!((((rd_T44 x0 x5).f0).toList) == (((rd_T44 x1 x5).f0).toList)) || (!(((rd_T44 x0 x5).f1) == ((rd_T44 x1 x5).f1)) || (!(((rd_T44 x0 x5).f2) == ((rd_T44 x1 x5).f2))))) = true then (some false) else (laws_rMarks.l0 k x0 x1 (wrap64 (x5 + 1)))) else (none)) else (none)) else (some true)
def laws_rMarks.f (k : Nat) (l0 : List (S44)) (l1 : List (S44)) : Option (Bool) := if (l0.length : Int) = (l1.length : Int) then (laws_rMarks.l0 k l0 l1 0) else (some false)
set_option maxHeartbeats 8000000 in
set_option maxRecDepth 100000 in
theorem laws_rMarks.calls (k : Nat) (A0 : Option Addr) (c0 : Nat) (l0 : List (S44)) (A1 : Option Addr) (c1 : Nat) (l1 : List (S44)) (r : Bool) (w : World) (hr0 : Kd.C k44 w A0 l0.length l0) (hc0 : l0.length ≤ c0) (hr1 : Kd.C k44 w A1 l1.length l1) (hc1 : l1.length ≤ c1) (h : laws_rMarks.f k l0 l1 = some r) :
  Calls Try.prog 35 #[.slice A0 l0.length c0, .slice A1 l1.length c1] w fun e w' => e = .returned (.bool r) ∧ Drawn0 w w' := by
 have hu44 := Try.underlying44; have HR0 := za hr0; have HC0 := za hc0; clear hr0 hc0; have HR1 := za hr1; have HC1 := za hc1; clear hr1 hc1; have H : (if (l0.length : Int) = (l1.length : Int) then (laws_rMarks.l0 k l0 l1 0) else (some false)) = some r := h; clear h
 by_cases c3 : (l0.length : Int) = (l1.length : Int)
 ·rw [zX c3] at H; have c3b0 : ((l0.length : Int) == (l1.length : Int)) = true := zP c3; have c3b1 : ((l0.length : Int) != (l1.length : Int)) = false := zx c3
  have c3b2 : (l0.length == l1.length) = true := by first | simpa using c3 | (simp at c3 ⊢; omega)
  clear c3; have H' := za H; clear H
  go_enter Try.func35, Try.ntmps35
  go_wp2
  repeat (go_quiet (fail); try go_wp2)
  go_loopg [5] k (fun kq v5 w' => ∃ (x5_1 : Int), v5 = .int .i64 x5_1 ∧ Aside0 (laws_rMarks.l0 kq l0 l1 x5_1 = some r) ∧ Aside0 (kq ≤ k) ∧ Drawn0 w w')
  case atStart => exact ⟨(0), (qK17), H', ⟨zn _⟩, (qK35)⟩
  case round =>
   clear H'; (try clear c3b0); (try clear c3b1); (try clear c3b2); obtain ⟨x5_1, rfl, HA, HK1, ⟨m1, rfl⟩⟩ := hrel
   cases gk with
   | zero => exact zM HA.1 (by simp [laws_rMarks.l0])
   | succ k1 =>
    have H := HA.1; clear HA; simp only [laws_rMarks.l0] at H
    by_cases c4 : x5_1 < (l0.length : Int)
    ·rw [zX c4] at H; have c4b0 : decide (x5_1 < (l0.length : Int)) = true := zc c4; clear c4
     by_cases c5 : 0 ≤ x5_1
     ·rw [zX c5] at H; have c5b0 : decide (0 ≤ x5_1) = true := zc c5; clear c5
      by_cases c6 : x5_1 < (l1.length : Int)
      ·rw [zX c6] at H; have c6b0 : decide (x5_1 < (l1.length : Int)) = true := zc c6; clear c6
       by_cases c7 : (!((((rd_T44 l0 x5_1).f0).toList) == (((rd_T44 l1 x5_1).f0).toList)) || (!(((rd_T44 l0 x5_1).f1) == ((rd_T44 l1 x5_1).f1)) || (!(((rd_T44 l0 x5_1).f2) == ((rd_T44 l1 x5_1).f2))))) = true
       ·rw [zX c7] at H; have c7b0 : (!((((rd_T44 l0 x5_1).f0).toList) == (((rd_T44 l1 x5_1).f0).toList)) || (!(((rd_T44 l0 x5_1).f1) == ((rd_T44 l1 x5_1).f1)) || (!(((rd_T44 l0 x5_1).f2) == ((rd_T44 l1 x5_1).f2))))) = true := c7; clear c7; obtain rfl := zl H; have p348 : 0 ≤ (x5_1 : Int) := zb (qK12); have q348 : x5_1 < (l0.length : Int) := zb (qK12); obtain ⟨ad348, e348, hx348_0, hx348_1, hx348_2⟩ := at_T44 HR0.1 x5_1 p348 q348; cases e348; replace p348 := zv p348; replace q348 := zv q348; have p349 : 0 ≤ (x5_1 : Int) := zb (qK12); have q349 : x5_1 < (l1.length : Int) := zb (qK12); obtain ⟨ad349, e349, hx349_0, hx349_1, hx349_2⟩ := at_T44 HR1.1 x5_1 p349 q349; cases e349; replace p349 := zv p349; replace q349 := zv q349
        go_wp2
        repeat (go_quiet (fail); try go_wp2)
        go_ret
        exact ⟨(qK17), (qK35)⟩
       ·rw [zY c7] at H
        have c7b0 : (!((((rd_T44 l0 x5_1).f0).toList) == (((rd_T44 l1 x5_1).f0).toList)) || (!(((rd_T44 l0 x5_1).f1) == ((rd_T44 l1 x5_1).f1)) || (!(((rd_T44 l0 x5_1).f2) == ((rd_T44 l1 x5_1).f2))))) = false := by simpa using c7
        clear c7; have H' := za H; clear H; have p348 : 0 ≤ (x5_1 : Int) := zb (qK12); have q348 : x5_1 < (l0.length : Int) := zb (qK12); obtain ⟨ad348, e348, hx348_0, hx348_1, hx348_2⟩ := at_T44 HR0.1 x5_1 p348 q348; cases e348; replace p348 := zv p348; replace q348 := zv q348; have p349 : 0 ≤ (x5_1 : Int) := zb (qK12); have q349 : x5_1 < (l1.length : Int) := zb (qK12); obtain ⟨ad349, e349, hx349_0, hx349_1, hx349_2⟩ := at_T44 HR1.1 x5_1 p349 q349; cases e349; replace p349 := zv p349; replace q349 := zv q349
        go_wp2
        repeat (go_quiet (fail); try go_wp2)
        go_roundg k1
        case measure => have := HK1.1; omega
        case rel => exact ⟨(wrap64 (x5_1 + 1)), (qK17), H', ⟨by have := HK1.1; omega⟩, (qK35)⟩
      ·rw [zY c6] at H
       exact zM H (by simp)
     ·rw [zY c5] at H
      exact zM H (by simp)
    ·rw [zY c4] at H; have c4b0 : decide (x5_1 < (l0.length : Int)) = false := zu c4; clear c4; obtain rfl := zl H
     go_wp2
     repeat (go_quiet (fail); try go_wp2)
     go_ret
     exact ⟨(qK17), (qK35)⟩
 ·rw [zY c3] at H; have c3b0 : ((l0.length : Int) == (l1.length : Int)) = false := zw c3; have c3b1 : ((l0.length : Int) != (l1.length : Int)) = true := zQ c3
  have c3b2 : (l0.length == l1.length) = false := by first | simpa using c3 | (simp at c3 ⊢; omega)
  obtain rfl := zl H
  go_enter Try.func35, Try.ntmps35
  go_wp2
  repeat (go_quiet (fail); try go_wp2)
  go_ret
  exact ⟨(qK17), (qK35)⟩

def spec_DrawAreMarks.f (k : Nat) (l0 : List Int) : Option ((List (S44))) := (spec_l1Cur_marks13.f k l0 0 0).bind fun bt351 => (some bt351.1)
set_option maxHeartbeats 8000000 in
set_option maxRecDepth 100000 in
theorem spec_DrawAreMarks.calls (k : Nat) (A0 : Option Addr) (c0 : Nat) (l0 : List Int) (r : List (S44)) (w : World) (hr0 : Kd.C (Kd.int .u8) w A0 l0.length l0) (hc0 : l0.length ≤ c0) (h : spec_DrawAreMarks.f k l0 = some r) :
  Calls Try.prog 75 #[.slice A0 l0.length c0] w fun e w' => ∃ v0_ : Value, e = .returned (v0_) ∧ Kd.R k44 44 w' w.heap.size (fun _ => True) v0_ r ∧ Below w.heap.size w w' := by
 have hu85 := Try.underlying85; have HR0 := za hr0; have HC0 := za hc0; clear hr0 hc0; have HB := za (zr w.heap.size w); have H : ((spec_l1Cur_marks13.f k l0 0 0).bind fun bt351 => (some bt351.1)) = some r := h; clear h; replace H := zB H; obtain ⟨⟨t351, t354, t355⟩, A20, H⟩ := H; replace H : (some t351) = some r := H; have A2 := za A20; clear A20; obtain rfl := zl H
 go_enter Try.func75, Try.ntmps75
 go_wp2_with (first | ((with_reducible refine zp (N := 6) rfl ?_); refine zA ?hg (N := 6) ?hd (cs := #[.slice A0 l0.length c0, .int .i64 0, .int .u64 0]) (t := 85) ?hr ?_; (case hd | hg => rfl); (case hr => exact (qK21)); intro gb350 hg w3 hbox hb; have GW350 := za (by exact (by rw [hg]; exact (zT (qK2)) : w.heap.size ≤ gb350)); have GE350 := za (by exact (by rw [hg]; exact (zT (qK2)) : w.heap.size ≤ gb350)); have HI350 := za (by exact (show IsS85 w w3 gb350 l0 0 0 from ⟨_, _, hbox, (qK116), HR0.1⟩)); replace HB := za qK85; clear hb hbox hg) | ((with_reducible refine zo (f := 58) rfl ?_); refine zR (some 8) rfl rfl Try.func58 (qK18) rfl #[.pointer (some ⟨gb350, 0, none⟩)] rfl (qK5) ?_; (with_reducible refine (spec_l1Cur_marks13.calls k gb350 l0 0 0 t351 t354 t355 w _ ?s1 ?s2 A2.1).mono ?_); (case s1 => exact (by repeat (first | (with_reducible first | exact HI350.1 | apply IsS85.alloc | apply IsS85.drewN | apply IsS85.drew | apply IsS85.set_1 | apply IsS85.set_2) | exact HI350.1))); (case s2 => exact (qK58)); rintro e w4 ⟨v352, rfl, ho0, hi, hb, hk⟩; refine ⟨_, rfl, ?_⟩; have HO353 := za (zK ho0 (zT (qK58))); replace HB := za hb; replace HI350 := za hi; clear hb hk hi ho0))
 go_ret
 exact ⟨_, (qK15), (qK0 HO353.1), (qK58)⟩

def spec_DrawTurnMarks.f (k : Nat) (l0 : List Int) : Option ((List (S44))) := (spec_DrawAreMarks.f k l0).bind fun t356 => (some t356)
set_option maxHeartbeats 8000000 in
set_option maxRecDepth 100000 in
theorem spec_DrawTurnMarks.calls (k : Nat) (A0 : Option Addr) (c0 : Nat) (l0 : List Int) (r : List (S44)) (w : World) (hr0 : Kd.C (Kd.int .u8) w A0 l0.length l0) (hc0 : l0.length ≤ c0) (h : spec_DrawTurnMarks.f k l0 = some r) :
  Calls Try.prog 37 #[.slice A0 l0.length c0] w fun e w' => ∃ v0_ : Value, e = .returned (v0_) ∧ Kd.R k44 44 w' w.heap.size (fun _ => True) v0_ r ∧ Below w.heap.size w w' := by
 have HR0 := za hr0; have HC0 := za hc0; clear hr0 hc0; have HB := za (zr w.heap.size w); have H : ((spec_DrawAreMarks.f k l0).bind fun t356 => (some t356)) = some r := h; clear h; replace H := zB H; obtain ⟨t356, A20, H⟩ := H; replace H : (some t356) = some r := H; have A2 := za A20; clear A20; obtain rfl := zl H
 go_enter Try.func37, Try.ntmps37
 go_wp2_with (first | ((with_reducible refine zo (f := 75) rfl ?_); refine zR (some 4) rfl rfl Try.func75 (qK18) rfl #[.slice A0 l0.length c0] rfl (qK5) ?_; (with_reducible refine (spec_DrawAreMarks.calls k _ _ l0 t356 _ ?s1 ?s2 A2.1).mono ?_); (case s1 => exact (qK32)); (case s2 => exact HC0.1); rintro e w3 ⟨v357, rfl, ho0, hb⟩; refine ⟨_, rfl, ?_⟩; have HO358 := za (qK106 ho0); replace HB := za qK85; clear hb ho0))
 go_ret
 exact ⟨_, (qK15), (qK0 HO358.1), (qK2)⟩

def impl_TurnMarks.l0 : Nat → List (S44) → List (S44) → Int → Int → Option ((List (S44)) × Bool)
 | 0, _, _, _, _ => none
 | k + 1, x4, x10, x11, x12 => if x12 < x11 then (if 0 ≤ x12 then (if x12 < (x10.length : Int) then (if x4.length < 4398046511104 then (impl_TurnMarks.l0 k (x4 ++ [(⟨(rd_T44 x10 x12).f0, (rd_T44 x10 x12).f2, wrap64 (-((rd_T44 x10 x12).f1))⟩ : S44)]) x10 x11 (wrap64 (x12 + 1))) else (none)) else (none)) else (none)) else (some (x4, true))
def impl_TurnMarks.f (k : Nat) (l0 : List (S44)) : Option ((List (S44)) × Bool) := (impl_AreMarks.f k l0).bind fun t359 => (if t359 = true then (impl_TurnMarks.l0 k ([] : List (S44)) l0 (l0.length : Int) 0) else (some (([] : List (S44)), false)))
set_option maxHeartbeats 8000000 in
set_option maxRecDepth 100000 in
theorem impl_TurnMarks.calls (k : Nat) (A0 : Option Addr) (c0 : Nat) (l0 : List (S44)) (r1 : List (S44)) (r2 : Bool) (w : World) (hr0 : Kd.C k44 w A0 l0.length l0) (hc0 : l0.length ≤ c0) (h : impl_TurnMarks.f k l0 = some (r1, r2)) :
  Calls Try.prog 38 #[.slice A0 l0.length c0] w fun e w' => ∃ v0_ : Value, e = .returned (.tuple #[v0_, .bool r2]) ∧ Kd.R k44 44 w' w.heap.size (fun _ => True) v0_ r1 ∧ Below w.heap.size w w' := by
 have hu44 := Try.underlying44; have HR0 := za hr0; have HC0 := za hc0; clear hr0 hc0; have HB := za (zr w.heap.size w); have H : ((impl_AreMarks.f k l0).bind fun t359 => (if t359 = true then (impl_TurnMarks.l0 k ([] : List (S44)) l0 (l0.length : Int) 0) else (some (([] : List (S44)), false)))) = some (r1, r2) := h; clear h; replace H := bindA H; obtain ⟨t359, A2, H⟩ := H; (try dsimp only at H)
 by_cases c3 : t359 = true
 ·subst c3; rw [zX rfl] at H; have H' := za H; clear H
  go_enter Try.func38, Try.ntmps38
  go_wp2_with (first | ((with_reducible refine zo (f := 36) rfl ?_); refine zR (some 8) rfl rfl Try.func36 (qK18) rfl #[.slice A0 l0.length c0] rfl (qK5) ?_; (with_reducible refine (impl_AreMarks.calls k _ _ l0 true _ ?s1 ?s2 A2.1).mono ?_); (case s1 => exact (qK32)); (case s2 => exact HC0.1); rintro e w4 ⟨rfl, hb⟩; refine ⟨_, rfl, ?_⟩; replace HB := za qK85; clear hb))
  go_loopg [4, 12] k (fun kq v4 v12 w' => ∃ (x4_1 : List (S44)) (x12_1 : Int), v12 = .int .i64 x12_1 ∧ Aside0 (impl_TurnMarks.l0 kq x4_1 l0 (l0.length : Int) x12_1 = some (r1, r2)) ∧ Aside0 (kq ≤ k) ∧ Aside0 (Kd.R k44 44 w' w.heap.size (fun _ => True) v4 x4_1) ∧ Aside0 (Below w.heap.size w w'))
  case atStart => exact ⟨(([] : List (S44))), (0), (qK17), H', ⟨zn _⟩, ⟨by first | exact Kd.R_nil _ _ _ _ _ | exact Kd.N_nil _ _ _ _ _ | exact Kd.V_nil _ _ _ _ _ | exact Kd.Q_nil _ _ _ _ _ | exact Kd.S_nil _ _ _ _ _⟩, ⟨(qK2)⟩⟩
  case round =>
   clear H'; (try clear c3); obtain ⟨x4_1, x12_1, rfl, HA, HK1, HO_4, HB⟩ := hrel
   cases gk with
   | zero => exact zM HA.1 (by simp [impl_TurnMarks.l0])
   | succ k1 =>
    have H := HA.1; clear HA; simp only [impl_TurnMarks.l0] at H
    by_cases c5 : x12_1 < (l0.length : Int)
    ·rw [zX c5] at H; have c5b0 : decide (x12_1 < (l0.length : Int)) = true := zc c5; clear c5
     by_cases c6 : 0 ≤ x12_1
     ·rw [zX c6] at H; have c6b0 : decide (0 ≤ x12_1) = true := zc c6; clear c6
      by_cases c7 : x12_1 < (l0.length : Int)
      ·rw [zX c7] at H; have c7b0 : decide (x12_1 < (l0.length : Int)) = true := zc c7; clear c7
       by_cases c8 : x4_1.length < 4398046511104
       ·rw [zX c8] at H; have LMc8 := za c8; clear c8; obtain ⟨y362, hy362⟩ : ∃ y_ : List (S44), y_ = (x4_1 ++ [(⟨(rd_T44 l0 x12_1).f0, (rd_T44 l0 x12_1).f2, wrap64 (-((rd_T44 l0 x12_1).f1))⟩ : S44)]) := ⟨_, rfl⟩; replace H : (impl_TurnMarks.l0 k1 y362 l0 (l0.length : Int) (wrap64 (x12_1 + 1))) = some (r1, r2) := (qK7 hy362); have Ny362 := za hy362; clear hy362; have H' := za H; clear H; have p360 : 0 ≤ (x12_1 : Int) := zb (qK12); have q360 : x12_1 < (l0.length : Int) := zb (qK12); obtain ⟨ad360, e360, hx360_0, hx360_1, hx360_2⟩ := at_T44 HR0.1 x12_1 p360 q360; cases e360; replace hx360_0 := (HB.1.cell (zd w _ hx360_0)).trans hx360_0; replace hx360_1 := (HB.1.cell (zd w _ hx360_1)).trans hx360_1; replace hx360_2 := (HB.1.cell (zd w _ hx360_2)).trans hx360_2; replace p360 := zv p360; replace q360 := zv q360
        go_wp2_with (first | ((with_reducible refine zp (N := 6) rfl ?_); refine zA ?hg (N := 6) ?hd (cs := #[.string (⟨#[]⟩ : ByteArray), .int .i64 0, .int .i64 0]) (t := 44) ?hr ?_; (case hd | hg => rfl); (case hr => exact (qK21)); intro gb361 hg w9 hbox hb; replace HO_4 := za (by exact Kd.R_below (Kd.R_elderB (qK0 HO_4.1) gb361 (Nat.le_of_eq hg.symm)) hb); have BK361 := za hbox; have GW361 := za (by exact (by rw [hg]; exact (zT (qK2)) : w.heap.size ≤ gb361)); have GE361 := za (by exact (by rw [hg]; exact (zT (qK2)) : w.heap.size ≤ gb361)); replace HB := za qK85; clear hb hbox hg; have hcz10_0 : w9.cell? ⟨gb361, 0, none⟩ = some (.string (⟨#[]⟩ : ByteArray)) := (blk_cell BK361.1 0).trans rfl; have hcz10_1 : w9.cell? ⟨gb361, 1, none⟩ = some (.int .i64 0) := (blk_cell BK361.1 1).trans rfl; have hcz10_2 : w9.cell? ⟨gb361, 2, none⟩ = some (.int .i64 0) := (blk_cell BK361.1 2).trans rfl; have hfz10_0 := ze BK361.1 0; have hfz10_1 := ze BK361.1 1; have hfz10_2 := ze BK361.1 2) | ((with_reducible refine zq (b := .append) (xs := #[.tmp 16, .tmp 25]) rfl ?_); at_builtin; refine Kd.R_append k44 (w0 := w) w.heap.size rfl (.tmp 16) (.tmp 25) 26 44 (.agg #[(.string ⟨#[]⟩), (.int .i64 0), (.int .i64 0)]) 32 rfl Try.underlying26 info44 rfl (by decide) (by omega) u4 x4_1 (⟨(rd_T44 l0 x12_1).f0, (rd_T44 l0 x12_1).f2, wrap64 (-((rd_T44 l0 x12_1).f1))⟩ : S44) [.string ((rd_T44 l0 x12_1).f0), .int .i64 ((rd_T44 l0 x12_1).f2), .int .i64 (wrap64 (-((rd_T44 l0 x12_1).f1)))] (fun k_ => k_ ≠ gb361) (fun _ => False) rfl (qK21) ?aP (fun _ hk => hk.elim) ?aF ?aO ?aB ?aS ?aL ?_; (case aP => exact (by exact k44_mkM _ _ _ (⟨(rd_T44 l0 x12_1).f0, (rd_T44 l0 x12_1).f2, wrap64 (-((rd_T44 l0 x12_1).f1))⟩ : S44))); (case aB => exact (qK6 GE361.1)); (case aF => exact (by exact (fun k_ hk => Kd.freshB (g := gb361) (o := .cells #[.string ((rd_T44 l0 x12_1).f0), .int .i64 ((rd_T44 l0 x12_1).f1), .int .i64 ((rd_T44 l0 x12_1).f2)] 44 (0, 0)) (qK47) k_ hk))); (case aO => exact (by (with_reducible repeat (first | apply Kd.R_alloc | apply Kd.R_drewN | apply zJ)); exact zF (zG (p := ⟨gb361, 2, none⟩) (zG (p := ⟨gb361, 1, none⟩) (zG (p := ⟨gb361, 0, none⟩) (zF HO_4.1 (fun k_ hk => (⟨hk, hk.2⟩ : _ ∧ k_ ≠ gb361))) (fun _ hk => hk.2) (.string ((rd_T44 l0 x12_1).f0))) (fun _ hk => hk.2) (.int .i64 ((rd_T44 l0 x12_1).f1))) (fun _ hk => hk.2) (.int .i64 ((rd_T44 l0 x12_1).f2))) (fun _ hk => hk.1.2))); (case aS => exact (by exact (zT (qK6 GE361.1)))); (case aL => have := LMc8.1; omega); intro v363 w11 ho hb hg hat; rw [← Ny362.1] at ho; replace BK361 := za (blk_grown (g := gb361) (o := .cells #[.string ((rd_T44 l0 x12_1).f0), .int .i64 ((rd_T44 l0 x12_1).f1), .int .i64 ((rd_T44 l0 x12_1).f2)] 44 (0, 0)) (qK47) hg (Kd.R_away HO_4.1 (fun _ hk => hk.2))); replace HB := za hb; have HO364 := za ho; clear HO_4; clear ho hb hg hat))
        go_roundg k1
        case measure => have := HK1.1; omega
        case rel => exact ⟨(y362), (wrap64 (x12_1 + 1)), (qK17), H', ⟨by have := HK1.1; omega⟩, ⟨(qK33 HO364.1)⟩, ⟨(qK6 GE361.1)⟩⟩
       ·rw [zY c8] at H
        exact zM H (by simp)
      ·rw [zY c7] at H
       exact zM H (by simp)
     ·rw [zY c6] at H
      exact zM H (by simp)
    ·rw [zY c5] at H; have c5b0 : decide (x12_1 < (l0.length : Int)) = false := zu c5; clear c5; simp only [zZ, ya] at H; obtain ⟨rfl, rfl⟩ := H
     go_wp2
     go_ret2
     exact ⟨_, (qK15), (qK0 HO_4.1), (qK2)⟩
 ·replace c3 := zm c3; subst c3; rw [zY (show ¬ (false = true) by decide)] at H; simp only [zZ, ya] at H; obtain ⟨rfl, rfl⟩ := H
  go_enter Try.func38, Try.ntmps38
  go_wp2_with (first | ((with_reducible refine zo (f := 36) rfl ?_); refine zR (some 8) rfl rfl Try.func36 (qK18) rfl #[.slice A0 l0.length c0] rfl (qK5) ?_; (with_reducible refine (impl_AreMarks.calls k _ _ l0 false _ ?s1 ?s2 A2.1).mono ?_); (case s1 => exact (qK32)); (case s2 => exact HC0.1); rintro e w12 ⟨rfl, hb⟩; refine ⟨_, rfl, ?_⟩; replace HB := za qK85; clear hb))
  go_ret2
  exact ⟨_, (qK15), by first | exact Kd.R_nil _ _ _ _ _ | exact Kd.N_nil _ _ _ _ _ | exact Kd.V_nil _ _ _ _ _ | exact Kd.Q_nil _ _ _ _ _ | exact Kd.S_nil _ _ _ _ _, (qK2)⟩

def spec_TurnMarks.l0 : Nat → List (S44) → List (S44) → Int → Option ((List (S44)) × Bool)
 | 0, _, _, _ => none
 | k + 1, x0, x4, x5 => if x5 < (x0.length : Int) then (if 0 ≤ x5 then (if x4.length < 4398046511104 then (spec_TurnMarks.l0 k x0 (x4 ++ [(⟨(rd_T44 x0 x5).f0, (rd_T44 x0 x5).f2, wrap64 (-((rd_T44 x0 x5).f1))⟩ : S44)]) (wrap64 (x5 + 1))) else (none)) else (none)) else (some (x4, true))
def spec_TurnMarks.f (k : Nat) (l0 : List (S44)) : Option ((List (S44)) × Bool) := (some (([] : List (S44)) : List (S44))).bind fun y365 => ((spec_l13Good.f k l0).bind fun t368 => (if t368 = true then (spec_TurnMarks.l0 k l0 y365 0) else (some (y365, false))))
set_option maxHeartbeats 8000000 in
set_option maxRecDepth 100000 in
theorem spec_TurnMarks.calls (k : Nat) (A0 : Option Addr) (c0 : Nat) (l0 : List (S44)) (r1 : List (S44)) (r2 : Bool) (w : World) (hr0 : Kd.C k44 w A0 l0.length l0) (hc0 : l0.length ≤ c0) (h : spec_TurnMarks.f k l0 = some (r1, r2)) :
  Calls Try.prog 39 #[.slice A0 l0.length c0] w fun e w' => ∃ v0_ : Value, e = .returned (.tuple #[v0_, .bool r2]) ∧ Kd.R k44 44 w' w.heap.size (fun _ => True) v0_ r1 ∧ Below w.heap.size w w' := by
 have hu44 := Try.underlying44; have HR0 := za hr0; have HC0 := za hc0; clear hr0 hc0; have HB := za (zr w.heap.size w); have H : ((some (([] : List (S44)) : List (S44))).bind fun y365 => ((spec_l13Good.f k l0).bind fun t368 => (if t368 = true then (spec_TurnMarks.l0 k l0 y365 0) else (some (y365, false))))) = some (r1, r2) := h; clear h; obtain ⟨y365, hy365⟩ : ∃ y_ : List (S44), y_ = (([] : List (S44))) := ⟨_, rfl⟩; replace H : ((spec_l13Good.f k l0).bind fun t368 => (if t368 = true then (spec_TurnMarks.l0 k l0 y365 0) else (some (y365, false)))) = some (r1, r2) := (qK7 hy365); have Ny365 := za hy365; clear hy365; replace H := bindA H; obtain ⟨t368, A2, H⟩ := H; (try dsimp only at H)
 by_cases c3 : t368 = true
 ·subst c3; rw [zX rfl] at H; have H' := za H; clear H
  go_enter Try.func39, Try.ntmps39
  go_wp2_with (first | ((with_reducible refine zp (N := 7) rfl ?_); refine zL k44 _ 44 ?hg (N := 7) ?hd (xs := ([] : List (S44))) (inner := []) (ok := fun _ => True) (okp := fun _ => True) ?hr ?hp (fun _ hk => hk) trivial (zr _ _) (zn _) (by simp) ?_; (case hd | hg => rfl); (case hr => exact (qK21)); (case hp => exact (zt _ _)); intro v366 w4 ho5 hb hg_ hnew_; clear hg_ hnew_; (first | rw [← Ny365.1] at ho5 | (simp only [Int.reduceToNat] at ho5; rw [← Ny365.1] at ho5)); have HO367 := za (qK106 ho5); replace HB := za qK85; clear hb ho5) | ((with_reducible refine zo (f := 63) rfl ?_); refine zR (some 9) rfl rfl Try.func63 (qK18) rfl #[.slice A0 l0.length c0] rfl (qK5) ?_; (with_reducible refine (spec_l13Good.calls k _ _ l0 true _ ?s1 ?s2 A2.1).mono ?_); (case s1 => exact (qK25)); (case s2 => exact HC0.1); rintro e w6 ⟨rfl, hb⟩; refine ⟨_, rfl, ?_⟩; replace HO367 := za (qK83 HO367.1); replace HB := za qK85; clear hb))
  go_loopg [4, 5] k (fun kq v4 v5 w' => ∃ (x4_1 : List (S44)) (x5_1 : Int), v5 = .int .i64 x5_1 ∧ Aside0 (spec_TurnMarks.l0 kq l0 x4_1 x5_1 = some (r1, r2)) ∧ Aside0 (kq ≤ k) ∧ Aside0 (Kd.R k44 44 w' w.heap.size (fun _ => True) v4 x4_1) ∧ Aside0 (Below w.heap.size w w'))
  case atStart => exact ⟨(y365), (0), (qK17), H', ⟨zn _⟩, ⟨(qK0 HO367.1)⟩, ⟨(qK2)⟩⟩
  case round =>
   clear H'; (try clear c3); obtain ⟨x4_1, x5_1, rfl, HA, HK1, HO_4, HB⟩ := hrel
   cases gk with
   | zero => exact zM HA.1 (by simp [spec_TurnMarks.l0])
   | succ k1 =>
    have H := HA.1; clear HA; simp only [spec_TurnMarks.l0] at H
    by_cases c7 : x5_1 < (l0.length : Int)
    ·rw [zX c7] at H; have c7b0 : decide (x5_1 < (l0.length : Int)) = true := zc c7; clear c7
     by_cases c8 : 0 ≤ x5_1
     ·rw [zX c8] at H; have c8b0 : decide (0 ≤ x5_1) = true := zc c8; clear c8
      by_cases c9 : x4_1.length < 4398046511104
      ·rw [zX c9] at H; have LMc9 := za c9; clear c9; obtain ⟨y371, hy371⟩ : ∃ y_ : List (S44), y_ = (x4_1 ++ [(⟨(rd_T44 l0 x5_1).f0, (rd_T44 l0 x5_1).f2, wrap64 (-((rd_T44 l0 x5_1).f1))⟩ : S44)]) := ⟨_, rfl⟩; replace H : (spec_TurnMarks.l0 k1 l0 y371 (wrap64 (x5_1 + 1))) = some (r1, r2) := (qK7 hy371); have Ny371 := za hy371; clear hy371; have H' := za H; clear H; have p369 : 0 ≤ (x5_1 : Int) := zb (qK12); have q369 : x5_1 < (l0.length : Int) := zb (qK12); obtain ⟨ad369, e369, hx369_0, hx369_1, hx369_2⟩ := at_T44 HR0.1 x5_1 p369 q369; cases e369; replace hx369_0 := (HB.1.cell (zd w _ hx369_0)).trans hx369_0; replace hx369_1 := (HB.1.cell (zd w _ hx369_1)).trans hx369_1; replace hx369_2 := (HB.1.cell (zd w _ hx369_2)).trans hx369_2; replace p369 := zv p369; replace q369 := zv q369
       go_wp2_with (first | ((with_reducible refine zp (N := 6) rfl ?_); refine zA ?hg (N := 6) ?hd (cs := #[.string (⟨#[]⟩ : ByteArray), .int .i64 0, .int .i64 0]) (t := 44) ?hr ?_; (case hd | hg => rfl); (case hr => exact (qK21)); intro gb370 hg w10 hbox hb; replace HO_4 := za (by exact Kd.R_below (Kd.R_elderB (qK0 HO_4.1) gb370 (Nat.le_of_eq hg.symm)) hb); have BK370 := za hbox; have GW370 := za (by exact (by rw [hg]; exact (zT (qK2)) : w.heap.size ≤ gb370)); have GE370 := za (by exact (by rw [hg]; exact (zT (qK2)) : w.heap.size ≤ gb370)); replace HB := za qK85; clear hb hbox hg; have hcz11_0 : w10.cell? ⟨gb370, 0, none⟩ = some (.string (⟨#[]⟩ : ByteArray)) := (blk_cell BK370.1 0).trans rfl; have hcz11_1 : w10.cell? ⟨gb370, 1, none⟩ = some (.int .i64 0) := (blk_cell BK370.1 1).trans rfl; have hcz11_2 : w10.cell? ⟨gb370, 2, none⟩ = some (.int .i64 0) := (blk_cell BK370.1 2).trans rfl; have hfz11_0 := ze BK370.1 0; have hfz11_1 := ze BK370.1 1; have hfz11_2 := ze BK370.1 2) | ((with_reducible refine zq (b := .append) (xs := #[.tmp 22, .tmp 31]) rfl ?_); at_builtin; refine Kd.R_append k44 (w0 := w) w.heap.size rfl (.tmp 22) (.tmp 31) 26 44 (.agg #[(.string ⟨#[]⟩), (.int .i64 0), (.int .i64 0)]) 32 rfl Try.underlying26 info44 rfl (by decide) (by omega) u4 x4_1 (⟨(rd_T44 l0 x5_1).f0, (rd_T44 l0 x5_1).f2, wrap64 (-((rd_T44 l0 x5_1).f1))⟩ : S44) [.string ((rd_T44 l0 x5_1).f0), .int .i64 ((rd_T44 l0 x5_1).f2), .int .i64 (wrap64 (-((rd_T44 l0 x5_1).f1)))] (fun k_ => k_ ≠ gb370) (fun _ => False) rfl (qK21) ?aP (fun _ hk => hk.elim) ?aF ?aO ?aB ?aS ?aL ?_; (case aP => exact (by exact k44_mkM _ _ _ (⟨(rd_T44 l0 x5_1).f0, (rd_T44 l0 x5_1).f2, wrap64 (-((rd_T44 l0 x5_1).f1))⟩ : S44))); (case aB => exact (qK6 GE370.1)); (case aF => exact (by exact (fun k_ hk => Kd.freshB (g := gb370) (o := .cells #[.string ((rd_T44 l0 x5_1).f0), .int .i64 ((rd_T44 l0 x5_1).f1), .int .i64 ((rd_T44 l0 x5_1).f2)] 44 (0, 0)) (qK49) k_ hk))); (case aO => exact (by (with_reducible repeat (first | apply Kd.R_alloc | apply Kd.R_drewN | apply zJ)); exact zF (zG (p := ⟨gb370, 2, none⟩) (zG (p := ⟨gb370, 1, none⟩) (zG (p := ⟨gb370, 0, none⟩) (zF HO_4.1 (fun k_ hk => (⟨hk, hk.2⟩ : _ ∧ k_ ≠ gb370))) (fun _ hk => hk.2) (.string ((rd_T44 l0 x5_1).f0))) (fun _ hk => hk.2) (.int .i64 ((rd_T44 l0 x5_1).f1))) (fun _ hk => hk.2) (.int .i64 ((rd_T44 l0 x5_1).f2))) (fun _ hk => hk.1.2))); (case aS => exact (by exact (zT (qK6 GE370.1)))); (case aL => have := LMc9.1; omega); intro v372 w12 ho hb hg hat; rw [← Ny371.1] at ho; replace BK370 := za (blk_grown (g := gb370) (o := .cells #[.string ((rd_T44 l0 x5_1).f0), .int .i64 ((rd_T44 l0 x5_1).f1), .int .i64 ((rd_T44 l0 x5_1).f2)] 44 (0, 0)) (qK49) hg (Kd.R_away HO_4.1 (fun _ hk => hk.2))); replace HB := za hb; have HO373 := za ho; clear HO_4; clear ho hb hg hat))
       go_roundg k1
       case measure => have := HK1.1; omega
       case rel => exact ⟨(y371), (wrap64 (x5_1 + 1)), (qK17), H', ⟨by have := HK1.1; omega⟩, ⟨(qK33 HO373.1)⟩, ⟨(qK6 GE370.1)⟩⟩
      ·rw [zY c9] at H
       exact zM H (by simp)
     ·rw [zY c8] at H
      exact zM H (by simp)
    ·rw [zY c7] at H; have c7b0 : decide (x5_1 < (l0.length : Int)) = false := zu c7; clear c7; simp only [zZ, ya] at H; obtain ⟨rfl, rfl⟩ := H
     go_wp2
     go_ret2
     exact ⟨_, (qK15), (qK0 HO_4.1), (qK2)⟩
 ·replace c3 := zm c3; subst c3; rw [zY (show ¬ (false = true) by decide)] at H; simp only [zZ, ya] at H; obtain ⟨rfl, rfl⟩ := H
  go_enter Try.func39, Try.ntmps39
  go_wp2_with (first | ((with_reducible refine zp (N := 7) rfl ?_); refine zL k44 _ 44 ?hg (N := 7) ?hd (xs := ([] : List (S44))) (inner := []) (ok := fun _ => True) (okp := fun _ => True) ?hr ?hp (fun _ hk => hk) trivial (zr _ _) (zn _) (by simp) ?_; (case hd | hg => rfl); (case hr => exact (qK21)); (case hp => exact (zt _ _)); intro v366 w13 ho14 hb hg_ hnew_; clear hg_ hnew_; (first | rw [← Ny365.1] at ho14 | (simp only [Int.reduceToNat] at ho14; rw [← Ny365.1] at ho14)); have HO367 := za (qK106 ho14); replace HB := za qK85; clear hb ho14) | ((with_reducible refine zo (f := 63) rfl ?_); refine zR (some 9) rfl rfl Try.func63 (qK18) rfl #[.slice A0 l0.length c0] rfl (qK5) ?_; (with_reducible refine (spec_l13Good.calls k _ _ l0 false _ ?s1 ?s2 A2.1).mono ?_); (case s1 => exact (qK25)); (case s2 => exact HC0.1); rintro e w15 ⟨rfl, hb⟩; refine ⟨_, rfl, ?_⟩; replace HO367 := za (qK83 HO367.1); replace HB := za qK85; clear hb))
  go_ret2
  exact ⟨_, (qK15), (qK0 HO367.1), (qK2)⟩

def spec_DrawMoveMarks.f (k : Nat) (l0 : List Int) : Option ((List (S44)) × Int × Int) := (spec_l1Cur_marks13.f k l0 0 0).bind fun bt375 => ((spec_l1Cur_among.f l0 bt375.2.1 bt375.2.2 (([0, 1, (-7), 900, (-2000), 2001] : List Int))).bind fun bt383 => ((spec_l1Cur_among.f l0 bt383.2.1 bt383.2.2 (([0, 3, (-40), 1000, (-2001)] : List Int))).bind fun bt389 => (some (bt375.1, bt383.1, bt389.1))))
set_option maxHeartbeats 8000000 in
set_option maxRecDepth 100000 in
theorem spec_DrawMoveMarks.calls (k : Nat) (A0 : Option Addr) (c0 : Nat) (l0 : List Int) (r1 : List (S44)) (r2 : Int) (r3 : Int) (w : World) (hr0 : Kd.C (Kd.int .u8) w A0 l0.length l0) (hc0 : l0.length ≤ c0) (h : spec_DrawMoveMarks.f k l0 = some (r1, r2, r3)) :
  Calls Try.prog 40 #[.slice A0 l0.length c0] w fun e w' => ∃ v0_ : Value, e = .returned (.tuple #[v0_, .int .i64 r2, .int .i64 r3]) ∧ Kd.R k44 44 w' w.heap.size (fun _ => True) v0_ r1 ∧ Below w.heap.size w w' := by
 have hu85 := Try.underlying85; have HR0 := za hr0; have HC0 := za hc0; clear hr0 hc0; have HB := za (zr w.heap.size w); have H : ((spec_l1Cur_marks13.f k l0 0 0).bind fun bt375 => ((spec_l1Cur_among.f l0 bt375.2.1 bt375.2.2 (([0, 1, (-7), 900, (-2000), 2001] : List Int))).bind fun bt383 => ((spec_l1Cur_among.f l0 bt383.2.1 bt383.2.2 (([0, 3, (-40), 1000, (-2001)] : List Int))).bind fun bt389 => (some (bt375.1, bt383.1, bt389.1))))) = some (r1, r2, r3) := h; clear h; replace H := bindA H; obtain ⟨⟨t375, t378, t379⟩, A2, H⟩ := H; (try dsimp only at H); obtain ⟨y380, hy380⟩ : ∃ y_ : List Int, y_ = (([0, 1, (-7), 900, (-2000), 2001] : List Int)) := ⟨_, rfl⟩; replace H : ((spec_l1Cur_among.f l0 t378 t379 y380).bind fun bt383 => ((spec_l1Cur_among.f l0 bt383.2.1 bt383.2.2 (([0, 3, (-40), 1000, (-2001)] : List Int))).bind fun bt389 => (some (t375, bt383.1, bt389.1)))) = some (r1, r2, r3) := (qK7 hy380); have Ny380 := za hy380; clear hy380; replace H := bindA H; obtain ⟨⟨t383, t384, t385⟩, A3, H⟩ := H; (try dsimp only at H); obtain ⟨y386, hy386⟩ : ∃ y_ : List Int, y_ = (([0, 3, (-40), 1000, (-2001)] : List Int)) := ⟨_, rfl⟩; replace H : ((spec_l1Cur_among.f l0 t384 t385 y386).bind fun bt389 => (some (t375, t383, bt389.1))) = some (r1, r2, r3) := (qK7 hy386); have Ny386 := za hy386; clear hy386; replace H := zB H; obtain ⟨⟨t389, t390, t391⟩, A40, H⟩ := H; replace H : (some (t375, t383, t389)) = some (r1, r2, r3) := H; have A4 := za A40; clear A40
 simp only [zZ, ya] at H; obtain ⟨rfl, rfl, rfl⟩ := H
 go_enter Try.func40, Try.ntmps40
 go_wp2_with (first | ((with_reducible refine zp (N := 9) rfl ?_); refine zA ?hg (N := 9) ?hd (cs := #[.slice A0 l0.length c0, .int .i64 0, .int .u64 0]) (t := 85) ?hr ?_; (case hd | hg => rfl); (case hr => exact (qK21)); intro gb374 hg w5 hbox hb; have GW374 := za (by exact (by rw [hg]; exact (zT (qK2)) : w.heap.size ≤ gb374)); have GE374 := za (by exact (by rw [hg]; exact (zT (qK2)) : w.heap.size ≤ gb374)); have HI374 := za (by exact (show IsS85 w w5 gb374 l0 0 0 from ⟨_, _, hbox, (qK116), HR0.1⟩)); replace HB := za qK85; clear hb hbox hg) | ((with_reducible refine zo (f := 58) rfl ?_); refine zR (some 11) rfl rfl Try.func58 (qK18) rfl #[.pointer (some ⟨gb374, 0, none⟩)] rfl (qK5) ?_; (with_reducible refine (spec_l1Cur_marks13.calls k gb374 l0 0 0 t375 t378 t379 w _ ?s1 ?s2 A2.1).mono ?_); (case s1 => exact (qK34)); (case s2 => exact (qK36)); rintro e w6 ⟨v376, rfl, ho0, hi, hb, hk⟩; refine ⟨_, rfl, ?_⟩; have HO377 := za (zK ho0 (zT (qK36))); replace HB := za hb; replace HI374 := za hi; clear hb hk hi ho0) | ((with_reducible refine zp (N := 14) rfl ?_); refine zL (Kd.int .i64) _ 3 ?hg (N := 14) ?hd (xs := ([0, 1, (-7), 900, (-2000), 2001] : List Int)) (inner := [.int .i64 0, .int .i64 1, .int .i64 (-7), .int .i64 900, .int .i64 (-2000), .int .i64 2001]) (ok := fun _ => True) (okp := fun _ => True) ?hr ?hp (fun _ hk => hk) trivial (zr _ _) (zn _) (by simp) ?_; (case hd | hg => rfl); (case hr => exact (qK21)); (case hp => exact (by exact (zs (show Kd.M (Kd.int .i64) _ _ _ 0 [.int .i64 0] from rfl) (zs (show Kd.M (Kd.int .i64) _ _ _ 1 [.int .i64 1] from rfl) (zs (show Kd.M (Kd.int .i64) _ _ _ (-7) [.int .i64 (-7)] from rfl) (zs (show Kd.M (Kd.int .i64) _ _ _ 900 [.int .i64 900] from rfl) (zs (show Kd.M (Kd.int .i64) _ _ _ (-2000) [.int .i64 (-2000)] from rfl) (zs (show Kd.M (Kd.int .i64) _ _ _ 2001 [.int .i64 2001] from rfl) (zt _ _))))))))); intro v381 w7 ho8 hb hg_ hnew_; clear hg_ hnew_; (first | rw [← Ny380.1] at ho8 | (simp only [Int.reduceToNat] at ho8; rw [← Ny380.1] at ho8)); replace HO377 := za (qK83 HO377.1); have HO382 := za (zK ho8 (zT (qK36))); replace HB := za (zS (qK36) hb); replace HI374 := za (by exact IsS85.below (qK34) hb); clear hb ho8; obtain ⟨Ao9, co9, eo9⟩ := zE HO382.1; subst eo9) | ((with_reducible refine zo (f := 59) rfl ?_); refine zR (some 15) rfl rfl Try.func59 (qK18) rfl #[.pointer (some ⟨gb374, 0, none⟩), .slice Ao9 y380.length co9] rfl (qK5) ?_; (with_reducible refine (spec_l1Cur_among.calls gb374 l0 t378 t379 _ _ y380 t383 t384 t385 w _ ?s1 ?s2 ?s3 ?s4 ?s5 A3.1).mono ?_); (case s1 => exact (qK34)); (case s2 => exact (qK36)); (case s3 => exact (qK11 HO382.1)); (case s4 => exact (qK42 HO382.1)); (case s5 => exact (by exact far_slice (IsS85.own_ne HI374.1 HO382.1 (by decide)))); rintro e w10 ⟨rfl, hi, hb, hk⟩; refine ⟨_, rfl, ?_⟩; replace HO377 := za (qK118 HO377.1); replace HO382 := za (qK118 HO382.1); replace HB := za hb; replace HI374 := za hi; clear hb hk hi) | ((with_reducible refine zp (N := 17) rfl ?_); refine zL (Kd.int .i64) _ 3 ?hg (N := 17) ?hd (xs := ([0, 3, (-40), 1000, (-2001)] : List Int)) (inner := [.int .i64 0, .int .i64 3, .int .i64 (-40), .int .i64 1000, .int .i64 (-2001)]) (ok := fun _ => True) (okp := fun _ => True) ?hr ?hp (fun _ hk => hk) trivial (zr _ _) (zn _) (by simp) ?_; (case hd | hg => rfl); (case hr => exact (qK21)); (case hp => exact (by exact (zs (show Kd.M (Kd.int .i64) _ _ _ 0 [.int .i64 0] from rfl) (zs (show Kd.M (Kd.int .i64) _ _ _ 3 [.int .i64 3] from rfl) (zs (show Kd.M (Kd.int .i64) _ _ _ (-40) [.int .i64 (-40)] from rfl) (zs (show Kd.M (Kd.int .i64) _ _ _ 1000 [.int .i64 1000] from rfl) (zs (show Kd.M (Kd.int .i64) _ _ _ (-2001) [.int .i64 (-2001)] from rfl) (zt _ _)))))))); intro v387 w11 ho12 hb hg_ hnew_; clear hg_ hnew_; (first | rw [← Ny386.1] at ho12 | (simp only [Int.reduceToNat] at ho12; rw [← Ny386.1] at ho12)); replace HO377 := za (qK83 HO377.1); have HO388 := za (zK (Kd.R_new' ho12 (Kd.R_lt (qK0 HO382.1))) (zT (qK36))); replace HO382 := za (qK86 HO382.1 ho12); replace HB := za (zS (qK36) hb); replace HI374 := za (by exact IsS85.below (qK34) hb); clear hb ho12; obtain ⟨Ao13, co13, eo13⟩ := zE HO388.1; subst eo13) | ((with_reducible refine zo (f := 59) rfl ?_); refine zR (some 18) rfl rfl Try.func59 (qK18) rfl #[.pointer (some ⟨gb374, 0, none⟩), .slice Ao13 y386.length co13] rfl (qK5) ?_; (with_reducible refine (spec_l1Cur_among.calls gb374 l0 t384 t385 _ _ y386 t389 t390 t391 w _ ?s1 ?s2 ?s3 ?s4 ?s5 A4.1).mono ?_); (case s1 => exact (qK34)); (case s2 => exact (qK36)); (case s3 => exact (qK11 HO388.1)); (case s4 => exact (qK42 HO388.1)); (case s5 => exact (by exact far_slice (IsS85.own_ne HI374.1 HO388.1 (by decide)))); rintro e w14 ⟨rfl, hi, hb, hk⟩; refine ⟨_, rfl, ?_⟩; replace HO377 := za (qK107 HO377.1); replace HO382 := za (qK107 HO382.1); replace HO388 := za (qK107 HO388.1); replace HB := za hb; replace HI374 := za hi; clear hb hk hi))
 go_ret3
 exact ⟨_, (qK15), (qK0 HO377.1), (qK36)⟩

end Go.Proofs.Ytckidmhkhlbkeaa.MK
