-- Written by a program of this session (wip/drv.py, wip/tight2.py). -- tight2
import Derived.Test.YtoljdjgndogegaaMRx0
import Derived.Test.YtoljdjgndogegaaMRx6
import Derived.Test.YtoljdjgndogegaaMRx7
namespace Go.Proofs.Ytoljdjgndogegaa.MR
open Go.RowKit Go.Proofs.YtoljdjgndogegaaW.PrintWords Go.Proofs.YtoljdjgndogegaaW.PrintLast
set_option maxHeartbeats 8000000
set_option maxRecDepth 100000
attribute [local go_sem] max2_int min2_int max_two min_two   -- for this text's walks alone
set_option linter.unusedVariables false
set_option linter.unusedSimpArgs false

/-! ### spec_l15Route: function 51 -/
mutual
def spec_l15Route.j0 : Nat → List (S58) → List Int → List Int → Bool → Option (Bool)
 | 0, _, _, _, _ => none
 | k + 1, x0, x1, x2, x16 => if x16 = true then (some false) else (spec_l15Route.l0 k x0 x1 x2 0)
def spec_l15Route.l0 : Nat → List (S58) → List Int → List Int → Int → Option (Bool)
 | 0, _, _, _, _ => none
 | k + 1, x0, x1, x2, x7 => if x7 < (x2.length : Int) then (if 0 ≤ x7 then ((spec_l4Station.f (rd x2 x7)).bind fun t634 => (if t634 = true then (if x7 ≤ (x2.length : Int) then ((spec_l1Has.f k (x2.take (x7 : Int).toNat) (rd x2 x7)).bind fun t637 => (spec_l15Route.j2 k x0 x1 x2 x7 t637)) else (none)) else (spec_l15Route.j2 k x0 x1 x2 x7 true))) else (none)) else (some true)
def spec_l15Route.j2 : Nat → List (S58) → List Int → List Int → Int → Bool → Option (Bool)
 | 0, _, _, _, _, _ => none
 | k + 1, x0, x1, x2, x7, x38 => if x38 = true then (some false) else (if x7 > 0 then (if 0 ≤ (wrap64 (x7 - 1)) then (if (wrap64 (x7 - 1)) < (x2.length : Int) then (if 0 ≤ x7 then (if x7 < (x2.length : Int) then ((spec_l15Leg.f k x0 x1 (rd x2 (wrap64 (x7 - 1))) (rd x2 x7)).bind fun t640 => (if t640 < 0 then (some false) else (spec_l15Route.l0 k x0 x1 x2 (wrap64 (x7 + 1))))) else (none)) else (none)) else (none)) else (none)) else (spec_l15Route.l0 k x0 x1 x2 (wrap64 (x7 + 1))))
end
def spec_l15Route.f (k : Nat) (l0 : List (S58)) (l1 : List Int) (l2 : List Int) : Option (Bool) := (spec_l15Good.f k l0 l1).bind fun t632 => (if t632 = true then (spec_l15Route.j0 k l0 l1 l2 ((l2.length : Int) == 0)) else (spec_l15Route.j0 k l0 l1 l2 true))
theorem spec_l15Route.mono_l : ∀ k, (∀ y0 y1 y2 y3, LeO (spec_l15Route.j0 k y0 y1 y2 y3) (spec_l15Route.j0 (k + 1) y0 y1 y2 y3)) ∧ (∀ y0 y1 y2 y3, LeO (spec_l15Route.l0 k y0 y1 y2 y3) (spec_l15Route.l0 (k + 1) y0 y1 y2 y3)) ∧ (∀ y0 y1 y2 y3 y4, LeO (spec_l15Route.j2 k y0 y1 y2 y3 y4) (spec_l15Route.j2 (k + 1) y0 y1 y2 y3 y4))
 | 0 => ⟨fun _ _ _ _ r h => by simp [spec_l15Route.j0] at h, fun _ _ _ _ r h => by simp [spec_l15Route.l0] at h, fun _ _ _ _ _ r h => by simp [spec_l15Route.j2] at h⟩
 | k + 1 => by
  obtain ⟨ih0, ih1, ih2⟩ := spec_l15Route.mono_l k
  refine ⟨?_, ?_, ?_⟩
  ·intro y0 y1 y2 y3
   unfold spec_l15Route.j0
   have m0 := @spec_l15Good.mono; have m1 := @spec_l15Leg.mono; have m2 := @spec_l1Has.mono
   exact qmono
  ·intro y0 y1 y2 y3
   unfold spec_l15Route.l0
   have m0 := @spec_l15Good.mono; have m1 := @spec_l15Leg.mono; have m2 := @spec_l1Has.mono
   exact qmono
  ·intro y0 y1 y2 y3 y4
   unfold spec_l15Route.j2
   have m0 := @spec_l15Good.mono; have m1 := @spec_l15Leg.mono; have m2 := @spec_l1Has.mono
   exact qmono
theorem spec_l15Route.mono : ∀ a0 a1 a2 k, LeO (spec_l15Route.f k a0 a1 a2) (spec_l15Route.f (k + 1) a0 a1 a2) := by
 intro a0 a1 a2 k; obtain ⟨ih0, ih1, ih2⟩ := spec_l15Route.mono_l k
 unfold spec_l15Route.f
 have m0 := @spec_l15Good.mono; have m1 := @spec_l15Leg.mono; have m2 := @spec_l1Has.mono
 exact qmono
theorem spec_l15Route.calls (k : Nat) (A0 : Option Addr) (c0 : Nat) (l0 : List (S58)) (A1 : Option Addr) (c1 : Nat) (l1 : List Int) (A2 : Option Addr) (c2 : Nat) (l2 : List Int) (r : Bool) (w : World) (hr0 : Kd.C k58 w A0 l0.length l0) (hc0 : l0.length ≤ c0) (hr1 : Kd.C (Kd.int .i64) w A1 l1.length l1) (hc1 : l1.length ≤ c1) (hr2 : Kd.C (Kd.int .i64) w A2 l2.length l2) (hc2 : l2.length ≤ c2) (h : spec_l15Route.f k l0 l1 l2 = some r) :
  Calls Try.prog 51 #[.slice A0 l0.length c0, .slice A1 l1.length c1, .slice A2 l2.length c2] w fun e w' => e = .returned (.bool r) ∧ Below w.heap.size w w' := by
 have HR0 := Aside0.mk hr0; have HC0 := Aside0.mk hc0; clear hr0 hc0; have HR1 := Aside0.mk hr1; have HC1 := Aside0.mk hc1; clear hr1 hc1; have HR2 := Aside0.mk hr2; have HC2 := Aside0.mk hc2; clear hr2 hc2; have HB := Aside0.mk (Below.refl w.heap.size w); have H : ((spec_l15Good.f k l0 l1).bind fun t632 => (if t632 = true then (spec_l15Route.j0 k l0 l1 l2 ((l2.length : Int) == 0)) else (spec_l15Route.j0 k l0 l1 l2 true))) = some r := h; clear h; have HC4 := Aside0.mk H; clear H
 go_enter Try.func51, Try.ntmps51
 go_upto_region 1 with (fail)
 repeat (go_quiet (fail); go_upto_region 1 with (fail))
 go_cut [16] (fun v16 wc => ∃ (kq : Nat) (x16_3 : Bool), v16 = .bool x16_3 ∧ Aside0 (spec_l15Route.j0 kq l0 l1 l2 x16_3 = some r) ∧ Aside0 (kq ≤ k) ∧ Aside0 (Below w.heap.size w wc))
 case first =>
  have H := HC4.out; clear HC4; replace H := bindA H; obtain ⟨t632, A5, H⟩ := H; (try dsimp only at H)
  by_cases c6 : t632 = true
  ·subst c6; rw [if_pos rfl] at H; have H' := Aside0.mk H; clear H
   go_wp2_with (first | (go_at_call 45; (with_reducible refine (spec_l15Good.calls k _ _ l0 _ _ l1 true _ ?s1 ?s2 ?s3 ?s4 A5.out).mono ?_); (case s1 => exact (qR14 HR0.out)); (case s2 => exact HC0.out); (case s3 => exact (qR14 HR1.out)); (case s4 => exact HC1.out); rintro e w7 ⟨rfl, hb⟩; replace HB := Aside0.mk (qR62); clear hb))
   repeat (go_quiet (first | (go_at_call 45; (with_reducible refine (spec_l15Good.calls k _ _ l0 _ _ l1 true _ ?s1 ?s2 ?s3 ?s4 A5.out).mono ?_); (case s1 => exact (qR14 HR0.out)); (case s2 => exact HC0.out); (case s3 => exact (qR14 HR1.out)); (case s4 => exact HC1.out); rintro e w7 ⟨rfl, hb⟩; replace HB := Aside0.mk (qR62); clear hb)); try go_wp2_with (first | (go_at_call 45; (with_reducible refine (spec_l15Good.calls k _ _ l0 _ _ l1 true _ ?s1 ?s2 ?s3 ?s4 A5.out).mono ?_); (case s1 => exact (qR14 HR0.out)); (case s2 => exact HC0.out); (case s3 => exact (qR14 HR1.out)); (case s4 => exact HC1.out); rintro e w7 ⟨rfl, hb⟩; replace HB := Aside0.mk (qR62); clear hb)))
   go_meet
   case rel => exact ⟨_, (((l2.length : Int) == 0)), (qR12), H', ⟨by first | omega | exact Nat.le_refl _⟩, ⟨(qR0)⟩⟩
  ·replace c6 := Bool.eq_false_iff.mpr c6; subst c6; rw [if_neg (show ¬ (false = true) by decide)] at H; have H' := Aside0.mk H; clear H
   go_wp2_with (first | (go_at_call 45; (with_reducible refine (spec_l15Good.calls k _ _ l0 _ _ l1 false _ ?s1 ?s2 ?s3 ?s4 A5.out).mono ?_); (case s1 => exact (qR14 HR0.out)); (case s2 => exact HC0.out); (case s3 => exact (qR14 HR1.out)); (case s4 => exact HC1.out); rintro e w8 ⟨rfl, hb⟩; replace HB := Aside0.mk (qR62); clear hb))
   repeat (go_quiet (first | (go_at_call 45; (with_reducible refine (spec_l15Good.calls k _ _ l0 _ _ l1 false _ ?s1 ?s2 ?s3 ?s4 A5.out).mono ?_); (case s1 => exact (qR14 HR0.out)); (case s2 => exact HC0.out); (case s3 => exact (qR14 HR1.out)); (case s4 => exact HC1.out); rintro e w8 ⟨rfl, hb⟩; replace HB := Aside0.mk (qR62); clear hb)); try go_wp2_with (first | (go_at_call 45; (with_reducible refine (spec_l15Good.calls k _ _ l0 _ _ l1 false _ ?s1 ?s2 ?s3 ?s4 A5.out).mono ?_); (case s1 => exact (qR14 HR0.out)); (case s2 => exact HC0.out); (case s3 => exact (qR14 HR1.out)); (case s4 => exact HC1.out); rintro e w8 ⟨rfl, hb⟩; replace HB := Aside0.mk (qR62); clear hb)))
   go_meet
   case rel => exact ⟨_, (true), (qR12), H', ⟨by first | omega | exact Nat.le_refl _⟩, ⟨(qR0)⟩⟩
 case rest =>
  clear HC4; (try clear c1); (try clear c2); (try clear p2); (try clear c5); (try clear c6); obtain ⟨kq, x16_3, rfl, HA, HJ3, HB⟩ := hcut
  cases kq with
  | zero => exact absurd HA.out (by simp [spec_l15Route.j0])
  | succ kj3 =>
   have H := HA.out; clear HA; simp only [spec_l15Route.j0] at H
   by_cases c9 : x16_3 = true
   ·subst c9; rw [if_pos rfl] at H; obtain rfl := Option.some.inj H
    go_wp2
    repeat (go_quiet (fail); try go_wp2)
    go_ret
    exact ⟨(qR10), (qR0)⟩
   ·replace c9 := Bool.eq_false_iff.mpr c9; subst c9; rw [if_neg (show ¬ (false = true) by decide)] at H; have H' := Aside0.mk H; clear H
    go_wp2
    repeat (go_quiet (fail); try go_wp2)
    go_loopg [7] kj3 (fun kq v7 w' => ∃ (x7_2 : Int), v7 = .int .i64 x7_2 ∧ Aside0 (spec_l15Route.l0 kq l0 l1 l2 x7_2 = some r) ∧ Aside0 (kq ≤ kj3) ∧ Aside0 (Below w.heap.size w w'))
    case atStart => exact ⟨(0), (qR12), H', ⟨Nat.le_refl _⟩, ⟨(qR0)⟩⟩
    case round =>
     clear H'; (try clear c1); (try clear c2); (try clear p2); (try clear c5); (try clear c6); (try clear c9); (try clear p2); obtain ⟨x7_2, rfl, HA, HK2, HB⟩ := hrel
     cases gk with
     | zero => exact absurd HA.out (by simp [spec_l15Route.l0])
     | succ k2 =>
      have H := HA.out; clear HA; simp only [spec_l15Route.l0] at H
      by_cases c10 : x7_2 < (l2.length : Int)
      ·rw [if_pos c10] at H; have c10b0 : decide (x7_2 < (l2.length : Int)) = true := decide_eq_true c10; clear c10; have HC11 := Aside0.mk H; clear H
       go_upto_region 6 with (fail)
       repeat (go_quiet (fail); go_upto_region 6 with (fail))
       go_cut [38] (fun v38 wc => ∃ (kq : Nat) (x38_10 : Bool), v38 = .bool x38_10 ∧ Aside0 (spec_l15Route.j2 kq l0 l1 l2 x7_2 x38_10 = some r) ∧ Aside0 (kq ≤ k2) ∧ Aside0 (Below w.heap.size w wc))
       case first =>
        have H := HC11.out; clear HC11
        by_cases c12 : 0 ≤ x7_2
        ·rw [if_pos c12] at H; have c12b0 : decide (0 ≤ x7_2) = true := decide_eq_true c12; clear c12
         (first | rw [c12b0] | (simp only [i64_w, i32_w]; rw [c12b0]) | skip)
         replace H := bindA H; obtain ⟨t634, A13, H⟩ := H; (try dsimp only at H)
         by_cases c14 : t634 = true
         ·subst c14; rw [if_pos rfl] at H; have c15b0 := eq_true (of_decide_eq_true (qR8) : 0 ≤ x7_2)
          by_cases c16 : x7_2 ≤ (l2.length : Int)
          ·rw [if_pos c16] at H; have c16b0 := eq_true c16; have c16b1 : decide (x7_2 ≤ (l2.length : Int)) = true := decide_eq_true c16; clear c16; replace H := Option.bind_eq_some_iff.mp H; obtain ⟨t637, A170, H⟩ := H; replace H : (spec_l15Route.j2 k2 l0 l1 l2 x7_2 t637) = some r := H; have A17 := Aside0.mk A170; clear A170; have H' := Aside0.mk H; clear H; have p633 : 0 ≤ (x7_2 : Int) := of_decide_eq_true (qR8); have q633 : x7_2 < (l2.length : Int) := of_decide_eq_true (qR8); obtain ⟨ad633, e633, hx633_0⟩ := Kd.at_int HR2.out x7_2 p633 q633; cases e633; replace hx633_0 := (HB.out.cell (World.block_lt_of_cell? w _ hx633_0)).trans hx633_0; replace p633 := eq_true p633; replace q633 := eq_true q633; obtain ⟨i018, hi018, _, hsz18, _⟩ := info_parts info3; obtain ⟨hcut18, hA18, hC18⟩ := print_take_of (P := Try.prog) (Value.int .i64) 0 25 3 .i64 Try.underlying25 hi018 hsz18 (some ad633) c2 l2 x7_2 (of_decide_eq_true (qR8)) (of_decide_eq_true (qR8)) HC2.out; have HR635 := Aside0.mk (by exact Kd.C_of_reads (h1 := fun _ => rfl) (hA18 _ (Kd.reads_of_C HR2.out))); have HC635 := Aside0.mk hC18; clear hA18 hC18 hi018 hsz18; have p636 : 0 ≤ (x7_2 : Int) := of_decide_eq_true (qR8); have q636 : x7_2 < (l2.length : Int) := of_decide_eq_true (qR8); obtain ⟨ad636, e636, hx636_0⟩ := Kd.at_int HR2.out x7_2 p636 q636; obtain rfl : ad633 = ad636 := (by injection e636); replace hx636_0 := (HB.out.cell (World.block_lt_of_cell? w _ hx636_0)).trans hx636_0; replace p636 := eq_true p636; replace q636 := eq_true q636
           have HLT_ : Aside0 (x7_2.toNat = (List.take (x7_2 : Int).toNat l2).length) := ⟨by rw [List.length_take]; have h1_ := of_eq_true p633; have h2_ := of_eq_true q633; omega⟩
           go_wp2_with (first | (go_at_call 68; (with_reducible refine (spec_l4Station.calls (rd l2 x7_2) true _ A13.out).mono ?_); rintro e w' ⟨rfl, ⟨nd, rfl⟩⟩; (try first | exact ⟨rfl, _, World.drewN_drewN _ _ _⟩ | exact ⟨rfl, _, Eq.trans (World.drewN_drewN _ _ _) (congrArg (World.drewN _) (Nat.add_assoc _ _ _))⟩)) | (go_at_call 71; (try rw [HLT_.out]); (with_reducible refine (spec_l1Has.calls k2 _ _ (l2.take (x7_2 : Int).toNat) (rd l2 x7_2) t637 _ ?s1 ?s2 A17.out).mono ?_); (case s1 => exact (qR78 HR635.out)); (case s2 => exact HC635.out); rintro e w' ⟨rfl, ⟨nd, rfl⟩⟩; (try first | exact ⟨rfl, _, World.drewN_drewN _ _ _⟩ | exact ⟨rfl, _, Eq.trans (World.drewN_drewN _ _ _) (congrArg (World.drewN _) (Nat.add_assoc _ _ _))⟩)))
           repeat (go_quiet (first | (go_at_call 68; (with_reducible refine (spec_l4Station.calls (rd l2 x7_2) true _ A13.out).mono ?_); rintro e w' ⟨rfl, ⟨nd, rfl⟩⟩; (try first | exact ⟨rfl, _, World.drewN_drewN _ _ _⟩ | exact ⟨rfl, _, Eq.trans (World.drewN_drewN _ _ _) (congrArg (World.drewN _) (Nat.add_assoc _ _ _))⟩)) | (go_at_call 71; (try rw [HLT_.out]); (with_reducible refine (spec_l1Has.calls k2 _ _ (l2.take (x7_2 : Int).toNat) (rd l2 x7_2) t637 _ ?s1 ?s2 A17.out).mono ?_); (case s1 => exact (qR78 HR635.out)); (case s2 => exact HC635.out); rintro e w' ⟨rfl, ⟨nd, rfl⟩⟩; (try first | exact ⟨rfl, _, World.drewN_drewN _ _ _⟩ | exact ⟨rfl, _, Eq.trans (World.drewN_drewN _ _ _) (congrArg (World.drewN _) (Nat.add_assoc _ _ _))⟩))); try go_wp2_with (first | (go_at_call 68; (with_reducible refine (spec_l4Station.calls (rd l2 x7_2) true _ A13.out).mono ?_); rintro e w' ⟨rfl, ⟨nd, rfl⟩⟩; (try first | exact ⟨rfl, _, World.drewN_drewN _ _ _⟩ | exact ⟨rfl, _, Eq.trans (World.drewN_drewN _ _ _) (congrArg (World.drewN _) (Nat.add_assoc _ _ _))⟩)) | (go_at_call 71; (try rw [HLT_.out]); (with_reducible refine (spec_l1Has.calls k2 _ _ (l2.take (x7_2 : Int).toNat) (rd l2 x7_2) t637 _ ?s1 ?s2 A17.out).mono ?_); (case s1 => exact (qR78 HR635.out)); (case s2 => exact HC635.out); rintro e w' ⟨rfl, ⟨nd, rfl⟩⟩; (try first | exact ⟨rfl, _, World.drewN_drewN _ _ _⟩ | exact ⟨rfl, _, Eq.trans (World.drewN_drewN _ _ _) (congrArg (World.drewN _) (Nat.add_assoc _ _ _))⟩))))
           go_meet
           case rel => exact ⟨_, (t637), (qR12), H', ⟨by have := HJ3.out; have := HK2.out; first | omega | exact Nat.le_refl _⟩, ⟨(qR0)⟩⟩
          ·rw [if_neg c16] at H
           exact absurd H (by simp)
         ·replace c14 := Bool.eq_false_iff.mpr c14; subst c14; rw [if_neg (show ¬ (false = true) by decide)] at H; have H' := Aside0.mk H; clear H; have p633 : 0 ≤ (x7_2 : Int) := of_decide_eq_true (qR8); have q633 : x7_2 < (l2.length : Int) := of_decide_eq_true (qR8); obtain ⟨ad633, e633, hx633_0⟩ := Kd.at_int HR2.out x7_2 p633 q633; cases e633; replace hx633_0 := (HB.out.cell (World.block_lt_of_cell? w _ hx633_0)).trans hx633_0; replace p633 := eq_true p633; replace q633 := eq_true q633
          go_wp2_with (first | (go_at_call 68; (with_reducible refine (spec_l4Station.calls (rd l2 x7_2) false _ A13.out).mono ?_); rintro e w' ⟨rfl, ⟨nd, rfl⟩⟩; (try first | exact ⟨rfl, _, World.drewN_drewN _ _ _⟩ | exact ⟨rfl, _, Eq.trans (World.drewN_drewN _ _ _) (congrArg (World.drewN _) (Nat.add_assoc _ _ _))⟩)))
          repeat (go_quiet (first | (go_at_call 68; (with_reducible refine (spec_l4Station.calls (rd l2 x7_2) false _ A13.out).mono ?_); rintro e w' ⟨rfl, ⟨nd, rfl⟩⟩; (try first | exact ⟨rfl, _, World.drewN_drewN _ _ _⟩ | exact ⟨rfl, _, Eq.trans (World.drewN_drewN _ _ _) (congrArg (World.drewN _) (Nat.add_assoc _ _ _))⟩))); try go_wp2_with (first | (go_at_call 68; (with_reducible refine (spec_l4Station.calls (rd l2 x7_2) false _ A13.out).mono ?_); rintro e w' ⟨rfl, ⟨nd, rfl⟩⟩; (try first | exact ⟨rfl, _, World.drewN_drewN _ _ _⟩ | exact ⟨rfl, _, Eq.trans (World.drewN_drewN _ _ _) (congrArg (World.drewN _) (Nat.add_assoc _ _ _))⟩))))
          go_meet
          case rel => exact ⟨_, (true), (qR12), H', ⟨by have := HJ3.out; have := HK2.out; first | omega | exact Nat.le_refl _⟩, ⟨(qR0)⟩⟩
        ·rw [if_neg c12] at H
         exact absurd H (by simp)
       case rest =>
        clear HC11; (try clear c1); (try clear c2); (try clear p2); (try clear c5); (try clear c6); (try clear p6); (try clear q6); (try clear hx6); (try clear c9); (try clear c10); (try clear c10b0); (try clear c12); (try clear c12b0); (try clear c14); (try clear c15); (try clear c15b0); (try clear c16); (try clear c16b0); (try clear c16b1); (try clear hx633_0); (try clear hx636_0); (try clear p2); (try clear p633); (try clear p636); (try clear q633); (try clear q636); obtain ⟨kq, x38_10, rfl, HA, HJ10, HB⟩ := hcut
        cases kq with
        | zero => exact absurd HA.out (by simp [spec_l15Route.j2])
        | succ kj10 =>
         have H := HA.out; clear HA; simp only [spec_l15Route.j2] at H
         by_cases c19 : x38_10 = true
         ·subst c19; rw [if_pos rfl] at H; obtain rfl := Option.some.inj H
          go_wp2
          repeat (go_quiet (fail); try go_wp2)
          go_ret
          exact ⟨(qR10), (qR0)⟩
         ·replace c19 := Bool.eq_false_iff.mpr c19; subst c19; rw [if_neg (show ¬ (false = true) by decide)] at H
          by_cases c20 : x7_2 > 0
          ·rw [if_pos c20] at H; have c20b0 : decide (0 < x7_2) = true := decide_eq_true c20; clear c20; obtain ⟨ji21, hji21⟩ : ∃ j_ : Int, (wrap64 (x7_2 - 1)) = j_ := ⟨_, rfl⟩
           replace H : (if 0 ≤ (ji21) then (if (ji21) < (l2.length : Int) then (if 0 ≤ x7_2 then (if x7_2 < (l2.length : Int) then ((spec_l15Leg.f kj10 l0 l1 (rd l2 (ji21)) (rd l2 x7_2)).bind fun t640 => (if t640 < 0 then (some false) else (spec_l15Route.l0 kj10 l0 l1 l2 (wrap64 (x7_2 + 1))))) else (none)) else (none)) else (none)) else (none)) = some r := by first | (rw [hji21] at H; exact H) | (simp only [hji21] at H ⊢; exact H)
           have hji21w : (IntKind.i64.wrap (x7_2 - 1)) = ji21 := (i64_w _).trans hji21
           by_cases c22 : 0 ≤ (ji21)
           ·rw [if_pos c22] at H; have c22b0 : decide (0 ≤ (ji21)) = true := decide_eq_true c22; clear c22
            by_cases c23 : (ji21) < (l2.length : Int)
            ·rw [if_pos c23] at H; have c23b0 : decide ((ji21) < (l2.length : Int)) = true := decide_eq_true c23; clear c23
             by_cases c24 : 0 ≤ x7_2
             ·rw [if_pos c24] at H; have c24b0 : decide (0 ≤ x7_2) = true := decide_eq_true c24; clear c24
              by_cases c25 : x7_2 < (l2.length : Int)
              ·rw [if_pos c25] at H; have c25b0 : decide (x7_2 < (l2.length : Int)) = true := decide_eq_true c25; clear c25; replace H := bindA H; obtain ⟨t640, A26, H⟩ := H; (try dsimp only at H)
               by_cases c27 : t640 < 0
               ·rw [if_pos c27] at H; have c27b0 : decide (t640 < 0) = true := decide_eq_true c27; clear c27; obtain rfl := Option.some.inj H; have p638 : 0 ≤ ((ji21) : Int) := of_decide_eq_true (qR8); have q638 : (ji21) < (l2.length : Int) := of_decide_eq_true (qR8); obtain ⟨ad638, e638, hx638_0⟩ := Kd.at_int HR2.out (ji21) p638 q638; cases e638; replace hx638_0 := (HB.out.cell (World.block_lt_of_cell? w _ hx638_0)).trans hx638_0; replace p638 := eq_true p638; replace q638 := eq_true q638; have p639 : 0 ≤ (x7_2 : Int) := of_decide_eq_true (qR8); have q639 : x7_2 < (l2.length : Int) := of_decide_eq_true (qR8); obtain ⟨ad639, e639, hx639_0⟩ := Kd.at_int HR2.out x7_2 p639 q639; obtain rfl : ad638 = ad639 := (by injection e639); replace hx639_0 := (HB.out.cell (World.block_lt_of_cell? w _ hx639_0)).trans hx639_0; replace p639 := eq_true p639; replace q639 := eq_true q639
                go_wp2_with (first | (go_at_call 70; (with_reducible refine (spec_l15Leg.calls kj10 _ _ l0 _ _ l1 (rd l2 (ji21)) (rd l2 x7_2) t640 _ ?s1 ?s2 ?s3 ?s4 A26.out).mono ?_); (case s1 => exact (qR14 HR0.out)); (case s2 => exact HC0.out); (case s3 => exact (qR14 HR1.out)); (case s4 => exact HC1.out); rintro e w' ⟨rfl, ⟨nd, rfl⟩⟩; (try first | exact ⟨rfl, _, World.drewN_drewN _ _ _⟩ | exact ⟨rfl, _, Eq.trans (World.drewN_drewN _ _ _) (congrArg (World.drewN _) (Nat.add_assoc _ _ _))⟩)))
                repeat (go_quiet (first | (go_at_call 70; (with_reducible refine (spec_l15Leg.calls kj10 _ _ l0 _ _ l1 (rd l2 (ji21)) (rd l2 x7_2) t640 _ ?s1 ?s2 ?s3 ?s4 A26.out).mono ?_); (case s1 => exact (qR14 HR0.out)); (case s2 => exact HC0.out); (case s3 => exact (qR14 HR1.out)); (case s4 => exact HC1.out); rintro e w' ⟨rfl, ⟨nd, rfl⟩⟩; (try first | exact ⟨rfl, _, World.drewN_drewN _ _ _⟩ | exact ⟨rfl, _, Eq.trans (World.drewN_drewN _ _ _) (congrArg (World.drewN _) (Nat.add_assoc _ _ _))⟩))); try go_wp2_with (first | (go_at_call 70; (with_reducible refine (spec_l15Leg.calls kj10 _ _ l0 _ _ l1 (rd l2 (ji21)) (rd l2 x7_2) t640 _ ?s1 ?s2 ?s3 ?s4 A26.out).mono ?_); (case s1 => exact (qR14 HR0.out)); (case s2 => exact HC0.out); (case s3 => exact (qR14 HR1.out)); (case s4 => exact HC1.out); rintro e w' ⟨rfl, ⟨nd, rfl⟩⟩; (try first | exact ⟨rfl, _, World.drewN_drewN _ _ _⟩ | exact ⟨rfl, _, Eq.trans (World.drewN_drewN _ _ _) (congrArg (World.drewN _) (Nat.add_assoc _ _ _))⟩))))
                go_ret
                exact ⟨(by first | rfl | (simp [errW_none, errW_some] <;> rfl) | (simp only [← hji21]; first | rfl | (simp [errW_none, errW_some] <;> rfl)) | (simp [*, errW_none, errW_some] <;> rfl)), (qR0)⟩
               ·rw [if_neg c27] at H; have c27b0 : decide (t640 < 0) = false := decide_eq_false c27; clear c27; have H' := Aside0.mk H; clear H; have p638 : 0 ≤ ((ji21) : Int) := of_decide_eq_true (qR8); have q638 : (ji21) < (l2.length : Int) := of_decide_eq_true (qR8); obtain ⟨ad638, e638, hx638_0⟩ := Kd.at_int HR2.out (ji21) p638 q638; cases e638; replace hx638_0 := (HB.out.cell (World.block_lt_of_cell? w _ hx638_0)).trans hx638_0; replace p638 := eq_true p638; replace q638 := eq_true q638; have p639 : 0 ≤ (x7_2 : Int) := of_decide_eq_true (qR8); have q639 : x7_2 < (l2.length : Int) := of_decide_eq_true (qR8); obtain ⟨ad639, e639, hx639_0⟩ := Kd.at_int HR2.out x7_2 p639 q639; obtain rfl : ad638 = ad639 := (by injection e639); replace hx639_0 := (HB.out.cell (World.block_lt_of_cell? w _ hx639_0)).trans hx639_0; replace p639 := eq_true p639; replace q639 := eq_true q639
                go_wp2_with (first | (go_at_call 70; (with_reducible refine (spec_l15Leg.calls kj10 _ _ l0 _ _ l1 (rd l2 (ji21)) (rd l2 x7_2) t640 _ ?s1 ?s2 ?s3 ?s4 A26.out).mono ?_); (case s1 => exact (qR14 HR0.out)); (case s2 => exact HC0.out); (case s3 => exact (qR14 HR1.out)); (case s4 => exact HC1.out); rintro e w' ⟨rfl, ⟨nd, rfl⟩⟩; (try first | exact ⟨rfl, _, World.drewN_drewN _ _ _⟩ | exact ⟨rfl, _, Eq.trans (World.drewN_drewN _ _ _) (congrArg (World.drewN _) (Nat.add_assoc _ _ _))⟩)))
                repeat (go_quiet (first | (go_at_call 70; (with_reducible refine (spec_l15Leg.calls kj10 _ _ l0 _ _ l1 (rd l2 (ji21)) (rd l2 x7_2) t640 _ ?s1 ?s2 ?s3 ?s4 A26.out).mono ?_); (case s1 => exact (qR14 HR0.out)); (case s2 => exact HC0.out); (case s3 => exact (qR14 HR1.out)); (case s4 => exact HC1.out); rintro e w' ⟨rfl, ⟨nd, rfl⟩⟩; (try first | exact ⟨rfl, _, World.drewN_drewN _ _ _⟩ | exact ⟨rfl, _, Eq.trans (World.drewN_drewN _ _ _) (congrArg (World.drewN _) (Nat.add_assoc _ _ _))⟩))); try go_wp2_with (first | (go_at_call 70; (with_reducible refine (spec_l15Leg.calls kj10 _ _ l0 _ _ l1 (rd l2 (ji21)) (rd l2 x7_2) t640 _ ?s1 ?s2 ?s3 ?s4 A26.out).mono ?_); (case s1 => exact (qR14 HR0.out)); (case s2 => exact HC0.out); (case s3 => exact (qR14 HR1.out)); (case s4 => exact HC1.out); rintro e w' ⟨rfl, ⟨nd, rfl⟩⟩; (try first | exact ⟨rfl, _, World.drewN_drewN _ _ _⟩ | exact ⟨rfl, _, Eq.trans (World.drewN_drewN _ _ _) (congrArg (World.drewN _) (Nat.add_assoc _ _ _))⟩))))
                go_roundg kj10
                case measure => have := HJ3.out; have := HK2.out; have := HJ10.out; omega
                case rel => exact ⟨(wrap64 (x7_2 + 1)), (qR12), H', ⟨by have := HJ3.out; have := HK2.out; have := HJ10.out; omega⟩, ⟨(qR0)⟩⟩
              ·rw [if_neg c25] at H
               exact absurd H (by simp)
             ·rw [if_neg c24] at H
              exact absurd H (by simp)
            ·rw [if_neg c23] at H
             exact absurd H (by simp)
           ·rw [if_neg c22] at H
            exact absurd H (by simp)
          ·rw [if_neg c20] at H; have c20b0 : decide (0 < x7_2) = false := decide_eq_false c20; clear c20; have H' := Aside0.mk H; clear H
           go_wp2
           repeat (go_quiet (fail); try go_wp2)
           go_roundg kj10
           case measure => have := HJ3.out; have := HK2.out; have := HJ10.out; omega
           case rel => exact ⟨(wrap64 (x7_2 + 1)), (qR12), H', ⟨by have := HJ3.out; have := HK2.out; have := HJ10.out; omega⟩, ⟨(qR0)⟩⟩
      ·rw [if_neg c10] at H; have c10b0 : decide (x7_2 < (l2.length : Int)) = false := decide_eq_false c10; clear c10; obtain rfl := Option.some.inj H
       go_wp2
       repeat (go_quiet (fail); try go_wp2)
       go_ret
       exact ⟨(qR10), (qR0)⟩

/-! ### spec_RouteWidth: function 17 -/
def spec_RouteWidth.f (k : Nat) (l0 : List (S58)) (l1 : List Int) (l2 : List Int) : Option (Int × Bool) := (spec_l15Route.f k l0 l1 l2).bind fun t641 => (if t641 = true then ((spec_l15Size.f k l0 l1 l2).bind fun bt642 => (some (bt642.1, true))) else (some (0, false)))
theorem spec_RouteWidth.mono : ∀ a0 a1 a2 k, LeO (spec_RouteWidth.f k a0 a1 a2) (spec_RouteWidth.f (k + 1) a0 a1 a2) := by
 intro a0 a1 a2 k
 unfold spec_RouteWidth.f
 have m0 := @spec_l15Route.mono; have m1 := @spec_l15Size.mono
 exact qmono
theorem spec_RouteWidth.calls (k : Nat) (A0 : Option Addr) (c0 : Nat) (l0 : List (S58)) (A1 : Option Addr) (c1 : Nat) (l1 : List Int) (A2 : Option Addr) (c2 : Nat) (l2 : List Int) (r1 : Int) (r2 : Bool) (w : World) (hr0 : Kd.C k58 w A0 l0.length l0) (hc0 : l0.length ≤ c0) (hr1 : Kd.C (Kd.int .i64) w A1 l1.length l1) (hc1 : l1.length ≤ c1) (hr2 : Kd.C (Kd.int .i64) w A2 l2.length l2) (hc2 : l2.length ≤ c2) (h : spec_RouteWidth.f k l0 l1 l2 = some (r1, r2)) :
  Calls Try.prog 17 #[.slice A0 l0.length c0, .slice A1 l1.length c1, .slice A2 l2.length c2] w fun e w' => e = .returned (.tuple #[.int .i64 r1, .bool r2]) ∧ Below w.heap.size w w' := by
 have HR0 := Aside0.mk hr0; have HC0 := Aside0.mk hc0; clear hr0 hc0; have HR1 := Aside0.mk hr1; have HC1 := Aside0.mk hc1; clear hr1 hc1; have HR2 := Aside0.mk hr2; have HC2 := Aside0.mk hc2; clear hr2 hc2; have HB := Aside0.mk (Below.refl w.heap.size w); have H : ((spec_l15Route.f k l0 l1 l2).bind fun t641 => (if t641 = true then ((spec_l15Size.f k l0 l1 l2).bind fun bt642 => (some (bt642.1, true))) else (some (0, false)))) = some (r1, r2) := h; clear h; replace H := bindA H; obtain ⟨t641, A4, H⟩ := H; (try dsimp only at H)
 by_cases c5 : t641 = true
 ·subst c5; rw [if_pos rfl] at H; replace H := Option.bind_eq_some_iff.mp H; obtain ⟨⟨t642, t643⟩, A60, H⟩ := H; replace H : (some (t642, true)) = some (r1, r2) := H; have A6 := Aside0.mk A60; clear A60; simp only [Option.some.injEq, Prod.mk.injEq] at H; obtain ⟨rfl, rfl⟩ := H
  go_enter Try.func17, Try.ntmps17
  go_wp2_with (first | ((with_reducible refine gate_callee (f := 51) rfl ?_); refine goesL_ (some 13) rfl rfl Try.func51 (by kernel_rfl) rfl #[.slice A0 l0.length c0, .slice A1 l1.length c1, .slice A2 l2.length c2] rfl (qR2) ?_; (with_reducible refine (spec_l15Route.calls k _ _ l0 _ _ l1 _ _ l2 true _ ?s1 ?s2 ?s3 ?s4 ?s5 ?s6 A4.out).mono ?_); (case s1 => exact (qR11 HR0.out)); (case s2 => exact HC0.out); (case s3 => exact (qR11 HR1.out)); (case s4 => exact HC1.out); (case s5 => exact (qR11 HR2.out)); (case s6 => exact HC2.out); rintro e w7 ⟨rfl, hb⟩; refine ⟨_, rfl, ?_⟩; replace HB := Aside0.mk (qR62); clear hb) | ((with_reducible refine gate_callee (f := 52) rfl ?_); refine goesL_ (some 19) rfl rfl Try.func52 (by kernel_rfl) rfl #[.slice A0 l0.length c0, .slice A1 l1.length c1, .slice A2 l2.length c2] rfl (qR2) ?_; (with_reducible refine (spec_l15Size.calls k _ _ l0 _ _ l1 _ _ l2 t642 t643 _ ?s1 ?s2 ?s3 ?s4 ?s5 ?s6 A6.out).mono ?_); (case s1 => exact (qR14 HR0.out)); (case s2 => exact HC0.out); (case s3 => exact (qR14 HR1.out)); (case s4 => exact HC1.out); (case s5 => exact (qR14 HR2.out)); (case s6 => exact HC2.out); rintro e w' ⟨rfl, ⟨nd, rfl⟩⟩; refine ⟨_, rfl, ?_⟩))
  go_ret2
  exact ⟨(qR10), (qR0)⟩
 ·replace c5 := Bool.eq_false_iff.mpr c5; subst c5; rw [if_neg (show ¬ (false = true) by decide)] at H; simp only [Option.some.injEq, Prod.mk.injEq] at H; obtain ⟨rfl, rfl⟩ := H
  go_enter Try.func17, Try.ntmps17
  go_wp2_with (first | ((with_reducible refine gate_callee (f := 51) rfl ?_); refine goesL_ (some 13) rfl rfl Try.func51 (by kernel_rfl) rfl #[.slice A0 l0.length c0, .slice A1 l1.length c1, .slice A2 l2.length c2] rfl (qR2) ?_; (with_reducible refine (spec_l15Route.calls k _ _ l0 _ _ l1 _ _ l2 false _ ?s1 ?s2 ?s3 ?s4 ?s5 ?s6 A4.out).mono ?_); (case s1 => exact (qR11 HR0.out)); (case s2 => exact HC0.out); (case s3 => exact (qR11 HR1.out)); (case s4 => exact HC1.out); (case s5 => exact (qR11 HR2.out)); (case s6 => exact HC2.out); rintro e w8 ⟨rfl, hb⟩; refine ⟨_, rfl, ?_⟩; replace HB := Aside0.mk (qR62); clear hb))
  go_ret2
  exact ⟨(qR10), (qR0)⟩

/-! ### spec_RouteLength: function 18 -/
def spec_RouteLength.f (k : Nat) (l0 : List (S58)) (l1 : List Int) (l2 : List Int) : Option (Int × Bool) := (spec_l15Route.f k l0 l1 l2).bind fun t644 => (if t644 = true then ((spec_l15Size.f k l0 l1 l2).bind fun bt645 => (some (bt645.2, true))) else (some (0, false)))
theorem spec_RouteLength.mono : ∀ a0 a1 a2 k, LeO (spec_RouteLength.f k a0 a1 a2) (spec_RouteLength.f (k + 1) a0 a1 a2) := by
 intro a0 a1 a2 k
 unfold spec_RouteLength.f
 have m0 := @spec_l15Route.mono; have m1 := @spec_l15Size.mono
 exact qmono
theorem spec_RouteLength.calls (k : Nat) (A0 : Option Addr) (c0 : Nat) (l0 : List (S58)) (A1 : Option Addr) (c1 : Nat) (l1 : List Int) (A2 : Option Addr) (c2 : Nat) (l2 : List Int) (r1 : Int) (r2 : Bool) (w : World) (hr0 : Kd.C k58 w A0 l0.length l0) (hc0 : l0.length ≤ c0) (hr1 : Kd.C (Kd.int .i64) w A1 l1.length l1) (hc1 : l1.length ≤ c1) (hr2 : Kd.C (Kd.int .i64) w A2 l2.length l2) (hc2 : l2.length ≤ c2) (h : spec_RouteLength.f k l0 l1 l2 = some (r1, r2)) :
  Calls Try.prog 18 #[.slice A0 l0.length c0, .slice A1 l1.length c1, .slice A2 l2.length c2] w fun e w' => e = .returned (.tuple #[.int .i64 r1, .bool r2]) ∧ Below w.heap.size w w' := by
 have HR0 := Aside0.mk hr0; have HC0 := Aside0.mk hc0; clear hr0 hc0; have HR1 := Aside0.mk hr1; have HC1 := Aside0.mk hc1; clear hr1 hc1; have HR2 := Aside0.mk hr2; have HC2 := Aside0.mk hc2; clear hr2 hc2; have HB := Aside0.mk (Below.refl w.heap.size w); have H : ((spec_l15Route.f k l0 l1 l2).bind fun t644 => (if t644 = true then ((spec_l15Size.f k l0 l1 l2).bind fun bt645 => (some (bt645.2, true))) else (some (0, false)))) = some (r1, r2) := h; clear h; replace H := bindA H; obtain ⟨t644, A4, H⟩ := H; (try dsimp only at H)
 by_cases c5 : t644 = true
 ·subst c5; rw [if_pos rfl] at H; replace H := Option.bind_eq_some_iff.mp H; obtain ⟨⟨t645, t646⟩, A60, H⟩ := H; replace H : (some (t646, true)) = some (r1, r2) := H; have A6 := Aside0.mk A60; clear A60; simp only [Option.some.injEq, Prod.mk.injEq] at H; obtain ⟨rfl, rfl⟩ := H
  go_enter Try.func18, Try.ntmps18
  go_wp2_with (first | ((with_reducible refine gate_callee (f := 51) rfl ?_); refine goesL_ (some 13) rfl rfl Try.func51 (by kernel_rfl) rfl #[.slice A0 l0.length c0, .slice A1 l1.length c1, .slice A2 l2.length c2] rfl (qR2) ?_; (with_reducible refine (spec_l15Route.calls k _ _ l0 _ _ l1 _ _ l2 true _ ?s1 ?s2 ?s3 ?s4 ?s5 ?s6 A4.out).mono ?_); (case s1 => exact (qR11 HR0.out)); (case s2 => exact HC0.out); (case s3 => exact (qR11 HR1.out)); (case s4 => exact HC1.out); (case s5 => exact (qR11 HR2.out)); (case s6 => exact HC2.out); rintro e w7 ⟨rfl, hb⟩; refine ⟨_, rfl, ?_⟩; replace HB := Aside0.mk (qR62); clear hb) | ((with_reducible refine gate_callee (f := 52) rfl ?_); refine goesL_ (some 19) rfl rfl Try.func52 (by kernel_rfl) rfl #[.slice A0 l0.length c0, .slice A1 l1.length c1, .slice A2 l2.length c2] rfl (qR2) ?_; (with_reducible refine (spec_l15Size.calls k _ _ l0 _ _ l1 _ _ l2 t645 t646 _ ?s1 ?s2 ?s3 ?s4 ?s5 ?s6 A6.out).mono ?_); (case s1 => exact (qR14 HR0.out)); (case s2 => exact HC0.out); (case s3 => exact (qR14 HR1.out)); (case s4 => exact HC1.out); (case s5 => exact (qR14 HR2.out)); (case s6 => exact HC2.out); rintro e w' ⟨rfl, ⟨nd, rfl⟩⟩; refine ⟨_, rfl, ?_⟩))
  go_ret2
  exact ⟨(qR10), (qR0)⟩
 ·replace c5 := Bool.eq_false_iff.mpr c5; subst c5; rw [if_neg (show ¬ (false = true) by decide)] at H; simp only [Option.some.injEq, Prod.mk.injEq] at H; obtain ⟨rfl, rfl⟩ := H
  go_enter Try.func18, Try.ntmps18
  go_wp2_with (first | ((with_reducible refine gate_callee (f := 51) rfl ?_); refine goesL_ (some 13) rfl rfl Try.func51 (by kernel_rfl) rfl #[.slice A0 l0.length c0, .slice A1 l1.length c1, .slice A2 l2.length c2] rfl (qR2) ?_; (with_reducible refine (spec_l15Route.calls k _ _ l0 _ _ l1 _ _ l2 false _ ?s1 ?s2 ?s3 ?s4 ?s5 ?s6 A4.out).mono ?_); (case s1 => exact (qR11 HR0.out)); (case s2 => exact HC0.out); (case s3 => exact (qR11 HR1.out)); (case s4 => exact HC1.out); (case s5 => exact (qR11 HR2.out)); (case s6 => exact HC2.out); rintro e w8 ⟨rfl, hb⟩; refine ⟨_, rfl, ?_⟩; replace HB := Aside0.mk (qR62); clear hb))
  go_ret2
  exact ⟨(qR10), (qR0)⟩

end Go.Proofs.Ytoljdjgndogegaa.MR
