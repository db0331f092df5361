-- tight2 (a walk)
import Derived.Test.YtkocflfadlempaaMKx0
import Derived.Test.YtkocflfadlempaaMKx6
import Derived.Test.YtkocflfadlempaaMKx7
import Derived.Test.YtkocflfadlempaaMKx9
import Derived.Test.YtkocflfadlempaaMKx12
import Derived.Test.YtkocflfadlempaaMKx13
import Derived.Test.YtkocflfadlempaaMKx15
namespace Go.Proofs.Ytkocflfadlempaa.MK
open Go.RowKit Go.Proofs.YtkocflfadlempaaW.PrintWords Go.Proofs.YtkocflfadlempaaW.PrintLast
attribute [local go_sem] max2_int min2_int max_two min_two
set_option linter.unusedVariables false
set_option linter.unusedSimpArgs false

mutual
def laws_FnCaves.j0 : Nat → List Int → List (S72) → List (List Int) → Bool → Bool → Option (Bool)
 | 0, _, _, _, _, _ => none
 | k + 1, x0, x3, x4, x5, x66 => if x66 = true then (some false) else (if x5 = true then (laws_FnCaves.l0 k x0 x3 x4 0 0 0) else (laws_FnCaves.j2 k x0))
def laws_FnCaves.j2 : Nat → List Int → Option (Bool)
 | 0, _ => none
 | k + 1, x0 => (spec_DrawThroughTrips.f k x0).bind fun bt679 => ((impl_ThroughTrips.f k bt679.1 bt679.2).bind fun bt685 => ((spec_ThroughTrips.f k bt679.1 bt679.2).bind fun bt689 => (if (bt685.2 != bt689.2) = true then (laws_FnCaves.j3 k x0 bt679.1 bt679.2 bt685.1 bt685.2 true) else ((laws_vPairs.f k bt685.1 bt689.1).bind fun t693 => (laws_FnCaves.j3 k x0 bt679.1 bt679.2 bt685.1 bt685.2 (!t693))))))
def laws_FnCaves.j3 : Nat → List Int → List (S72) → List Int → List (S45) → Bool → Bool → Option (Bool)
 | 0, _, _, _, _, _, _ => none
 | k + 1, x0, x18, x19, x20, x21, x152 => if x152 = true then (some false) else ((impl_CavesWithout.f k x18 x19).bind fun bt694 => ((spec_CavesWithout.f k x18 x19).bind fun bt698 => (if (bt694.2 != bt698.2) = true then (laws_FnCaves.j4 k x0 x18 x20 true) else (if (bt694.2 != x21) = true then (laws_FnCaves.j4 k x0 x18 x20 true) else ((laws_vTable.f k bt694.1 bt698.1).bind fun t702 => (laws_FnCaves.j4 k x0 x18 x20 (!t702)))))))
def laws_FnCaves.j4 : Nat → List Int → List (S72) → List (S45) → Bool → Option (Bool)
 | 0, _, _, _, _ => none
 | k + 1, x0, x18, x20, x178 => if x178 = true then (some false) else (laws_FnCaves.l1 k x0 x18 x20 0)
def laws_FnCaves.l1 : Nat → List Int → List (S72) → List (S45) → Int → Option (Bool)
 | 0, _, _, _, _ => none
 | k + 1, x0, x18, x20, x28 => if x28 < (x20.length : Int) then (if 0 ≤ x28 then ((spec_StepsFrom.f k x18 (([(rd_T45 x20 x28).f0] : List Int))).bind fun bt707 => (if bt707.2 = true then (if ((rd_T45 x20 x28).f0) ≥ ((rd_T45 x20 x28).f1) then (some false) else (if 0 ≤ ((rd_T45 x20 x28).f1) then (if ((rd_T45 x20 x28).f1) < (bt707.1.length : Int) then (if (rd bt707.1 ((rd_T45 x20 x28).f1)) < 1 then (some false) else (laws_FnCaves.l1 k x0 x18 x20 (wrap64 (x28 + 1)))) else (none)) else (none))) else (some false))) else (none)) else ((spec_DrawWouldConnect.f k x0).bind fun bt715 => ((impl_WouldConnect.f k bt715.1 bt715.2.1 bt715.2.2).bind fun bt720 => ((spec_WouldConnect.f k bt715.1 bt715.2.1 bt715.2.2).bind fun bt722 => (if bt720.1 = bt722.1 then (laws_FnCaves.j6 k x0 (bt720.2 != bt722.2)) else (laws_FnCaves.j6 k x0 true)))))
def laws_FnCaves.j6 : Nat → List Int → Bool → Option (Bool)
 | 0, _, _ => none
 | k + 1, x0, x249 => if x249 = true then (some false) else ((spec_DrawCaveLength.f k x0).bind fun bt724 => ((impl_CaveLength.f k bt724.1 bt724.2).bind fun bt728 => ((spec_CaveLength.f k bt724.1 bt724.2).bind fun bt730 => (if bt728.1 = bt730.1 then (some (bt728.2 == bt730.2)) else (some false)))))
def laws_FnCaves.l0 : Nat → List Int → List (S72) → List (List Int) → Int → Int → Int → Option (Bool)
 | 0, _, _, _, _, _, _ => none
 | k + 1, x0, x3, x4, x8, x9, x10 => if x10 < (x4.length : Int) then (if 0 ≤ x10 then (if 0 < ((rd_L5 x4 x10).length : Int) then ((impl_CaveLength.f k x3 (rd (rd_L5 x4 x10) 0)).bind fun bt672 => (if bt672.2 = true then (if bt672.1 > x9 then (laws_FnCaves.l0 k x0 x3 x4 (wrap64 (x8 + bt672.1)) bt672.1 (wrap64 (x10 + 1))) else (laws_FnCaves.l0 k x0 x3 x4 (wrap64 (x8 + bt672.1)) x9 (wrap64 (x10 + 1)))) else (some false))) else (none)) else (none)) else ((impl_LegsLength.f k x3).bind fun bt674 => ((impl_LongestCave.f k x3).bind fun bt676 => (if bt674.2 = true then (if x8 = bt674.1 then (if (bt676.2.2 != (decide ((x3.length : Int) > 0))) = true then (some false) else (if bt676.2.2 = true then (if bt676.2.1 = x9 then (laws_FnCaves.j2 k x0) else (some false)) else (laws_FnCaves.j2 k x0))) else (some false)) else (some false))))
end
def laws_FnCaves.f (k : Nat) (l0 : List Int) : Option (Bool) := (laws_vBig.f l0).bind fun t657 => (if t657 = true then (some true) else ((spec_DrawCavesOf.f k l0).bind fun t658 => ((impl_CavesOf.f k t658).bind fun bt661 => ((spec_CavesOf.f k t658).bind fun bt665 => (if (bt661.2 != bt665.2) = true then (laws_FnCaves.j0 k l0 t658 bt661.1 bt661.2 true) else ((laws_vTable.f k bt661.1 bt665.1).bind fun t669 => (laws_FnCaves.j0 k l0 t658 bt661.1 bt661.2 (!t669))))))))
set_option maxHeartbeats 8000000 in
set_option maxRecDepth 100000 in
theorem laws_FnCaves.calls (k : Nat) (A0 : Option Addr) (c0 : Nat) (l0 : List Int) (r : Bool) (w : World) (hr0 : Kd.C (Kd.int .u8) w A0 l0.length l0) (hc0 : l0.length ≤ c0) (h : laws_FnCaves.f k l0 = some r) (ht : r = true := by rfl) :
  Calls Try.prog 3 #[.slice A0 l0.length c0] w fun e w' => e = .returned (.bool r) ∧ Below w.heap.size w w' := by
 have HT := za ht; clear ht; have HR0 := za hr0; have HC0 := za hc0; clear hr0 hc0; have HB := za (zs w.heap.size w); have H : ((laws_vBig.f l0).bind fun t657 => (if t657 = true then (some true) else ((spec_DrawCavesOf.f k l0).bind fun t658 => ((impl_CavesOf.f k t658).bind fun bt661 => ((spec_CavesOf.f k t658).bind fun bt665 => (if (bt661.2 != bt665.2) = true then (laws_FnCaves.j0 k l0 t658 bt661.1 bt661.2 true) else ((laws_vTable.f k bt661.1 bt665.1).bind fun t669 => (laws_FnCaves.j0 k l0 t658 bt661.1 bt661.2 (!t669))))))))) = some r := h; clear h; replace H := bindA H; obtain ⟨t657, A2, H⟩ := H; (try dsimp only at H)
 by_cases c3 : t657 = true
 ·as_aux_lemma =>
  subst c3; rw [yb rfl] at H; obtain rfl := zm H
  go_enter Try.func3, Try.ntmps3
  go_wp2_with (first | (go_at_call 4; (with_reducible refine (laws_vBig.calls _ _ l0 true _ ?s1 ?s2 A2.1).mono ?_); (case s1 => exact (qK21 HR0.1)); (case s2 => exact HC0.1); rintro e w' ⟨rfl, ⟨nd, rfl⟩⟩; (try first | exact ⟨rfl, _, zS _ _ _⟩ | exact ⟨rfl, _, Eq.trans (zS _ _ _) (congrArg (World.drewN _) (Nat.add_assoc _ _ _))⟩)))
  go_ret
  exact ⟨(qK11), (qK0)⟩
 ·as_aux_lemma =>
  replace c3 := zn c3; subst c3; rw [yc (show ¬ (false = true) by decide)] at H; replace H := bindA H; obtain ⟨t658, A4, H⟩ := H; (try dsimp only at H); replace H := bindA H; obtain ⟨⟨t661, t662⟩, A5, H⟩ := H; (try dsimp only at H); replace H := bindA H; obtain ⟨⟨t665, t666⟩, A6, H⟩ := H; (try dsimp only at H); have HC7 := za H; clear H
  go_enter Try.func3, Try.ntmps3
  go_upto_region 6 with (first | (go_at_call 4; (with_reducible refine (laws_vBig.calls _ _ l0 false _ ?s1 ?s2 A2.1).mono ?_); (case s1 => exact (qK21 HR0.1)); (case s2 => exact HC0.1); rintro e w' ⟨rfl, ⟨nd, rfl⟩⟩; (try first | exact ⟨rfl, _, zS _ _ _⟩ | exact ⟨rfl, _, Eq.trans (zS _ _ _) (congrArg (World.drewN _) (Nat.add_assoc _ _ _))⟩)) | (go_at_call 5; (with_reducible refine (spec_DrawCavesOf.calls k _ _ l0 t658 _ ?s1 ?s2 A4.1).mono ?_); (case s1 => exact (qK21 HR0.1)); (case s2 => exact HC0.1); rintro e w8 ⟨v659, rfl, ho0, hb⟩; have HO660 := za (qK80 ho0); replace HB := za qK73; clear hb ho0; obtain ⟨Ao9, co9, eo9⟩ := zI HO660.1; subst eo9) | (go_at_call 6; (with_reducible refine (impl_CavesOf.calls k _ _ t658 t661 t662 _ ?s1 ?s2 A5.1).mono ?_); (case s1 => exact (qK13 HO660.1)); (case s2 => exact (qK35 HO660.1)); rintro e w10 ⟨v663, rfl, ho0, hb⟩; have HO664 := za (Kd.N_lower (Kd.N_mono (ok' := fun k_ => some k_ ≠ (.slice Ao9 t658.length co9 : Value).ownBlock) (Kd.S_N (Kd.S_bound ho0)) (fun k_ hk_ => (Kd.fresh' (Kd.R_lt (qK1 HO660.1)) k_ hk_.2.1))) (zX (qK0))); replace HO660 := za (qK75 HO660.1); replace HB := za qK73; clear hb ho0) | (go_at_call 7; (with_reducible refine (spec_CavesOf.calls k _ _ t658 t665 t666 _ ?s1 ?s2 A6.1).mono ?_); (case s1 => exact (qK13 HO660.1)); (case s2 => exact (qK35 HO660.1)); rintro e w11 ⟨v667, rfl, ho0, hb⟩; have HO668 := za (Kd.N_lower (Kd.N_mono (ok' := fun k_ => some k_ ≠ (.slice Ao9 t658.length co9 : Value).ownBlock ∧ some k_ ≠ (v663 : Value).ownBlock) (Kd.S_N (Kd.S_bound ho0)) (fun k_ hk_ => ⟨(Kd.fresh' (Kd.R_lt (qK1 HO660.1)) k_ hk_.2.1), (Kd.fresh' (Kd.N_lt (qK22 HO664.1)) k_ hk_.2.1)⟩)) (zX (qK0))); replace HO660 := za (qK75 HO660.1); replace HO664 := za (by exact Kd.N_elder' (qK22 HO664.1) (Kd.S_base ho0) hb); replace HB := za qK73; clear hb ho0))
  (try simp only [Act.put, yf, yg, yh])
  go_cut [66] (fun v66 wc => ∃ (kq : Nat) (x66_6 : Bool), v66 = .bool x66_6 ∧ Aside0 (laws_FnCaves.j0 kq l0 t658 t661 t662 x66_6 = some r) ∧ Aside0 (kq ≤ k) ∧ Aside0 (Kd.R k72 72 wc w.heap.size (fun _ => True) (.slice Ao9 t658.length co9) t658) ∧ Aside0 (Kd.N (Kd.slice 3 (Kd.int .i64)) 32 wc w.heap.size (fun k_ => some k_ ≠ ((.slice Ao9 t658.length co9) : Value).ownBlock) v663 t661) ∧ Aside0 (Below w.heap.size w wc))
  case first =>
   have H := HC7.1; clear HC7
   by_cases c12 : (t662 != t666) = true
   ·as_aux_lemma =>
    rw [yb c12] at H; have c12b0 : (t662 != t666) = true := c12
    (try (have c12b1 : decide (t662 = t666) = false := by simpa using c12))
    (try (have c12b2 : (t662 == t666) = false := by simpa using c12))
    (try (have c12b3 : ¬ (t662 = t666) := by simpa using c12)); clear c12
    (first | rw [c12b0] | (simp only [i64_w, i32_w]; rw [c12b0]) | skip)
    have H' := za H; clear H
    go_wp2
    repeat (go_quiet (fail); try go_wp2)
    go_meet
    case rel => exact ⟨_, (true), (qK10), H', ⟨by first | omega | exact zo _⟩, ⟨(qK1 HO660.1)⟩, ⟨(qK58 HO664.1)⟩, ⟨(qK0)⟩⟩
   ·as_aux_lemma =>
    rw [yc c12] at H
    have c12b0 : (t662 != t666) = false := by simpa using c12
    (try (have c12b1 : decide (t662 = t666) = true := by simpa using c12))
    (try (have c12b2 : (t662 == t666) = true := by simpa using c12)); clear c12
    (first | rw [c12b0] | (simp only [i64_w, i32_w]; rw [c12b0]) | skip)
    replace H := zC H; obtain ⟨t669, A130, H⟩ := H; replace H : (laws_FnCaves.j0 k l0 t658 t661 t662 (!t669)) = some r := H; have A13 := za A130; clear A130; have H' := za H; clear H; obtain ⟨Ao14, co14, eo14⟩ := Kd.N_slice HO664.1; subst eo14; obtain ⟨Ao15, co15, eo15⟩ := Kd.N_slice HO668.1; subst eo15
    go_wp2_with (first | (go_at_call 8; (with_reducible refine (laws_vTable.calls k _ _ t661 _ _ t665 t669 _ ?s1 ?s2 ?s3 ?s4 A13.1).mono ?_); (case s1 => exact (qK51 HO664.1)); (case s2 => exact (by exact (Kd.N_reads' HO664.1).2.1)); (case s3 => exact (qK51 HO668.1)); (case s4 => exact (by exact (Kd.N_reads' HO668.1).2.1)); rintro e w' ⟨rfl, ⟨nd, rfl⟩⟩; (try first | exact ⟨rfl, _, zS _ _ _⟩ | exact ⟨rfl, _, Eq.trans (zS _ _ _) (congrArg (World.drewN _) (Nat.add_assoc _ _ _))⟩)))
    go_meet
    case rel => exact ⟨_, (!t669), (qK10), H', ⟨by first | omega | exact zo _⟩, ⟨(qK1 HO660.1)⟩, ⟨(qK58 HO664.1)⟩, ⟨(qK0)⟩⟩
  case rest =>
   clear HC7; (try clear c1); (try clear p2); (try clear c3); (try clear c12); (try clear c12b0); (try clear c12b1); (try clear c12b2); obtain ⟨kq, x66_6, rfl, HA, HJ6, HO_3, HO_4, HB⟩ := hcut
   cases kq with
   | zero => exact absurd HA.1 (by simp [laws_FnCaves.j0])
   | succ kj6 =>
    have H := HA.1; clear HA; simp only [laws_FnCaves.j0] at H
    by_cases c16 : x66_6 = true
    ·as_aux_lemma =>
     subst c16; rw [yb rfl] at H
     exact absurd (HT.1.symm.trans (zm H).symm) (by decide)
    ·as_aux_lemma =>
     replace c16 := zn c16; subst c16; rw [yc (show ¬ (false = true) by decide)] at H; have HC17 := za H; clear H
     go_upto_if 67 with (fail)
     repeat (go_quiet (fail); go_upto_if 67 with (fail))
     go_cut [] (fun wc => ∃ (kq : Nat), Aside0 (laws_FnCaves.j2 kq l0 = some r) ∧ Aside0 (kq ≤ kj6) ∧ Aside0 (Below w.heap.size w wc))
     case first =>
      have H := HC17.1; clear HC17
      by_cases c18 : t662 = true
      ·as_aux_lemma =>
       subst c18; rw [yb rfl] at H; have H' := za H; clear H
       go_wp2
       repeat (go_quiet (fail); try go_wp2)
       go_loopg [8, 9, 10] kj6 (fun kq v8 v9 v10 w' => ∃ (x8_2 : Int) (x9_2 : Int) (x10_2 : Int), v8 = .int .i64 x8_2 ∧ v9 = .int .i64 x9_2 ∧ v10 = .int .i64 x10_2 ∧ Aside0 (laws_FnCaves.l0 kq l0 t658 t661 x8_2 x9_2 x10_2 = some r) ∧ Aside0 (kq ≤ kj6) ∧ Aside0 (Kd.R k72 72 w' w.heap.size (fun _ => True) (.slice Ao9 t658.length co9) t658) ∧ Aside0 (Kd.N (Kd.slice 3 (Kd.int .i64)) 32 w' w.heap.size (fun k_ => some k_ ≠ ((.slice Ao9 t658.length co9) : Value).ownBlock) v663 t661) ∧ Aside0 (Below w.heap.size w w'))
       case atStart => exact ⟨(0), (0), (0), (qK10), (qK10), (qK10), H', ⟨zo _⟩, ⟨(qK1 HO_3.1)⟩, ⟨(qK22 HO_4.1)⟩, ⟨(qK0)⟩⟩
       case round =>
        clear H'; (try clear c1); (try clear p2); (try clear c3); (try clear c12); (try clear c12b0); (try clear c12b1); (try clear c12b2); (try clear c16); (try clear c18); (try clear p2); obtain ⟨x8_2, x9_2, x10_2, rfl, rfl, rfl, HA, HK2, HO_3, HO_4, HB⟩ := hrel
        cases gk with
        | zero => exact absurd HA.1 (by simp [laws_FnCaves.l0])
        | succ k2 =>
         have H := HA.1; clear HA; simp only [laws_FnCaves.l0] at H
         by_cases c19 : x10_2 < (t661.length : Int)
         ·as_aux_lemma =>
          rw [yb c19] at H; have c19b0 : decide (x10_2 < (t661.length : Int)) = true := zc c19; clear c19
          (first | rw [c19b0] | (simp only [i64_w, i32_w]; rw [c19b0]) | skip)
          by_cases c20 : 0 ≤ x10_2
          ·as_aux_lemma =>
           rw [yb c20] at H; have c20b0 : decide (0 ≤ x10_2) = true := zc c20; clear c20
           by_cases c21 : 0 < ((rd_L5 t661 x10_2).length : Int)
           ·as_aux_lemma =>
            rw [yb c21] at H; have c21b0 : decide (0 < ((rd_L5 t661 x10_2).length : Int)) = true := zc c21; have c21b1 : decide (0 < (rd_L5 t661 x10_2).length) = true := zc (by omega); clear c21; replace H := bindA H; obtain ⟨⟨t672, t673⟩, A22, H⟩ := H; (try dsimp only at H)
            by_cases c23 : t673 = true
            ·as_aux_lemma =>
             subst c23; rw [yb rfl] at H
             by_cases c24 : t672 > x9_2
             ·as_aux_lemma =>
              rw [yb c24] at H; have c24b0 : decide (x9_2 < t672) = true := zc c24; clear c24; have H' := za H; clear H; obtain ⟨Ao25, co25, eo25⟩ := Kd.N_slice HO_4.1; subst eo25; have p670 : 0 ≤ (x10_2 : Int) := zb (qK7); have q670 : x10_2 < (t661.length : Int) := zb (qK7); obtain ⟨ad670, A670_0, c670_0, e670, hx670_0, hl670_0, hi670_0⟩ := at_L5 (Kd.N_reads' HO_4.1).2.2 x10_2 p670 q670; cases e670; obtain ⟨ce670, hce670, hMe670, hcc670⟩ := Kd.N_get HO_4.1 [] x10_2 p670 (qK112); obtain ⟨ua670_0, uc670_0, rfl, ul670_0, ge670_0⟩ := Kd.FK_slice_open hMe670; have hv670_0 := hcc670 0 _ rfl; rw [Nat.add_zero, show ((Kd.slice 3 (Kd.int .i64))).sz = 1 from rfl, Nat.mul_one] at hv670_0; replace hv670_0 := zm (hv670_0.symm.trans hx670_0)
              injection hv670_0 with hva_ hvn_ hvc_
              rw [hva_] at ge670_0; rw [hvc_] at ul670_0; have HL670_0 := za qK68; clear hva_ hvn_ hvc_ ge670_0 ul670_0; clear hcc670 hce670; have HR670_0 := za hi670_0; have HC670_0 := za hl670_0; clear hi670_0 hl670_0; replace p670 := zw p670; replace q670 := zw q670; have p671 : 0 ≤ (0 : Int) := (by omega); have q671 : 0 < ((rd_L5 t661 x10_2).length : Int) := zb (qK7); obtain ⟨ad671, e671, hx671_0⟩ := zJ (qK45) 0 p671 q671; cases e671; have qi671 : (0 < (rd_L5 t661 x10_2).length) = True := zw (by omega)
              (try rw [show ((0 : Int)).toNat = 0 from rfl] at hx671_0)
              (try rw [Addr.add_zero'] at hx671_0); replace p671 := zw p671; replace q671 := zw q671
              go_wp2_with (first | (go_at_call 9; (with_reducible refine (impl_CaveLength.calls k2 _ _ t658 (rd (rd_L5 t661 x10_2) 0) t672 true _ ?s1 ?s2 A22.1).mono ?_); (case s1 => exact (qK13 HO_3.1)); (case s2 => exact (qK35 HO_3.1)); rintro e w26 ⟨rfl, hb⟩; replace HO_3 := za (qK75 HO_3.1); replace HO_4 := za (qK98 HO_4.1); replace HL670_0 := za qK66; replace HR670_0 := za (zG (qK45) hb); replace HB := za qK73; clear hb))
              go_roundg k2
              case measure => have := HJ6.1; have := HK2.1; omega
              case rel => exact ⟨(wrap64 (x8_2 + t672)), (t672), (wrap64 (x10_2 + 1)), (qK10), (qK10), (qK10), H', ⟨by have := HJ6.1; have := HK2.1; omega⟩, ⟨(qK1 HO_3.1)⟩, ⟨(qK22 HO_4.1)⟩, ⟨(qK0)⟩⟩
             ·as_aux_lemma =>
              rw [yc c24] at H; have c24b0 : decide (x9_2 < t672) = false := zv c24; clear c24; have H' := za H; clear H; obtain ⟨Ao27, co27, eo27⟩ := Kd.N_slice HO_4.1; subst eo27; have p670 : 0 ≤ (x10_2 : Int) := zb (qK7); have q670 : x10_2 < (t661.length : Int) := zb (qK7); obtain ⟨ad670, A670_0, c670_0, e670, hx670_0, hl670_0, hi670_0⟩ := at_L5 (Kd.N_reads' HO_4.1).2.2 x10_2 p670 q670; cases e670; obtain ⟨ce670, hce670, hMe670, hcc670⟩ := Kd.N_get HO_4.1 [] x10_2 p670 (qK112); obtain ⟨ua670_0, uc670_0, rfl, ul670_0, ge670_0⟩ := Kd.FK_slice_open hMe670; have hv670_0 := hcc670 0 _ rfl; rw [Nat.add_zero, show ((Kd.slice 3 (Kd.int .i64))).sz = 1 from rfl, Nat.mul_one] at hv670_0; replace hv670_0 := zm (hv670_0.symm.trans hx670_0)
              injection hv670_0 with hva_ hvn_ hvc_
              rw [hva_] at ge670_0; rw [hvc_] at ul670_0; have HL670_0 := za qK68; clear hva_ hvn_ hvc_ ge670_0 ul670_0; clear hcc670 hce670; have HR670_0 := za hi670_0; have HC670_0 := za hl670_0; clear hi670_0 hl670_0; replace p670 := zw p670; replace q670 := zw q670; have p671 : 0 ≤ (0 : Int) := (by omega); have q671 : 0 < ((rd_L5 t661 x10_2).length : Int) := zb (qK7); obtain ⟨ad671, e671, hx671_0⟩ := zJ (qK45) 0 p671 q671; cases e671; have qi671 : (0 < (rd_L5 t661 x10_2).length) = True := zw (by omega)
              (try rw [show ((0 : Int)).toNat = 0 from rfl] at hx671_0)
              (try rw [Addr.add_zero'] at hx671_0); replace p671 := zw p671; replace q671 := zw q671
              go_wp2_with (first | (go_at_call 9; (with_reducible refine (impl_CaveLength.calls k2 _ _ t658 (rd (rd_L5 t661 x10_2) 0) t672 true _ ?s1 ?s2 A22.1).mono ?_); (case s1 => exact (qK13 HO_3.1)); (case s2 => exact (qK35 HO_3.1)); rintro e w28 ⟨rfl, hb⟩; replace HO_3 := za (qK75 HO_3.1); replace HO_4 := za (qK98 HO_4.1); replace HL670_0 := za qK66; replace HR670_0 := za (zG (qK45) hb); replace HB := za qK73; clear hb))
              go_roundg k2
              case measure => have := HJ6.1; have := HK2.1; omega
              case rel => exact ⟨(wrap64 (x8_2 + t672)), (x9_2), (wrap64 (x10_2 + 1)), (qK10), (qK10), (qK10), H', ⟨by have := HJ6.1; have := HK2.1; omega⟩, ⟨(qK1 HO_3.1)⟩, ⟨(qK22 HO_4.1)⟩, ⟨(qK0)⟩⟩
            ·as_aux_lemma =>
             replace c23 := zn c23; subst c23; rw [yc (show ¬ (false = true) by decide)] at H
             exact absurd (HT.1.symm.trans (zm H).symm) (by decide)
           ·as_aux_lemma =>
            rw [yc c21] at H
            exact absurd H (by simp)
          ·as_aux_lemma =>
           rw [yc c20] at H
           exact absurd H (by simp)
         ·as_aux_lemma =>
          rw [yc c19] at H; have c19b0 : decide (x10_2 < (t661.length : Int)) = false := zv c19; clear c19
          (first | rw [c19b0] | (simp only [i64_w, i32_w]; rw [c19b0]) | skip)
          replace H := bindA H; obtain ⟨⟨t674, t675⟩, A31, H⟩ := H; (try dsimp only at H); replace H := bindA H; obtain ⟨⟨t676, t677, t678⟩, A32, H⟩ := H; (try dsimp only at H)
          by_cases c33 : t675 = true
          ·as_aux_lemma =>
           subst c33; rw [yb rfl] at H
           by_cases c34 : x8_2 = t674
           ·as_aux_lemma =>
            rw [yb c34] at H; have c34b0 : (x8_2 == t674) = true := zT c34; have c34b1 : (x8_2 != t674) = false := zy c34; clear c34
            by_cases c35 : (t678 != (decide ((t658.length : Int) > 0))) = true
            ·as_aux_lemma =>
             rw [yb c35] at H; have c35b0 : (t678 != (decide ((t658.length : Int) > 0))) = true := c35
             (try (have c35b1 : decide (t678 = (decide ((t658.length : Int) > 0))) = false := by simpa using c35))
             (try (have c35b2 : (t678 == (decide ((t658.length : Int) > 0))) = false := by simpa using c35))
             (try (have c35b3 : ¬ (t678 = (decide ((t658.length : Int) > 0))) := by simpa using c35)); clear c35
             exact absurd (HT.1.symm.trans (zm H).symm) (by decide)
            ·as_aux_lemma =>
             rw [yc c35] at H
             have c35b0 : (t678 != (decide ((t658.length : Int) > 0))) = false := by simpa using c35
             (try (have c35b1 : decide (t678 = (decide ((t658.length : Int) > 0))) = true := by simpa using c35))
             (try (have c35b2 : (t678 == (decide ((t658.length : Int) > 0))) = true := by simpa using c35)); clear c35
             by_cases c39 : t678 = true
             ·as_aux_lemma =>
              subst c39; rw [yb rfl] at H
              by_cases c40 : t677 = x9_2
              ·as_aux_lemma =>
               rw [yb c40] at H; have c40b0 : (t677 == x9_2) = true := zT c40; have c40b1 : (t677 != x9_2) = false := zy c40; clear c40; have H' := za H; clear H; obtain ⟨Ao41, co41, eo41⟩ := Kd.N_slice HO_4.1; subst eo41
               go_wp2_with (first | (go_at_call 10; (with_reducible refine (impl_LegsLength.calls k2 _ _ t658 t674 true _ ?s1 ?s2 A31.1).mono ?_); (case s1 => exact (qK13 HO_3.1)); (case s2 => exact (qK35 HO_3.1)); rintro e w42 ⟨rfl, hb⟩; replace HO_3 := za (qK75 HO_3.1); replace HO_4 := za (qK98 HO_4.1); replace HB := za qK73; clear hb) | (go_at_call 11; (with_reducible refine (impl_LongestCave.calls k2 _ _ t658 t676 t677 true _ ?s1 ?s2 A32.1).mono ?_); (case s1 => exact (qK13 HO_3.1)); (case s2 => exact (qK35 HO_3.1)); rintro e w43 ⟨rfl, hb⟩; replace HO_3 := za (qK75 HO_3.1); replace HO_4 := za (qK98 HO_4.1); replace HB := za qK73; clear hb))
               go_meet
               case rel => exact ⟨_, H', ⟨by have := HJ6.1; have := HK2.1; first | omega | exact zo _⟩, ⟨(qK0)⟩⟩
               all_goals first | exact absurd (zb (show decide ((t658.length : Int) > 0) = true by simpa using c35b0)) (by omega) | exact absurd (List.length_eq_zero_iff.mp (show t658.length = 0 by omega)) (by assumption)
              ·as_aux_lemma =>
               rw [yc c40] at H; have c40b0 : (t677 == x9_2) = false := zx c40; have c40b1 : (t677 != x9_2) = true := zU c40
               exact absurd (HT.1.symm.trans (zm H).symm) (by decide)
             ·as_aux_lemma =>
              replace c39 := zn c39; subst c39; rw [yc (show ¬ (false = true) by decide)] at H; have H' := za H; clear H; obtain ⟨Ao47, co47, eo47⟩ := Kd.N_slice HO_4.1; subst eo47
              go_wp2_with (first | (go_at_call 10; (with_reducible refine (impl_LegsLength.calls k2 _ _ t658 t674 true _ ?s1 ?s2 A31.1).mono ?_); (case s1 => exact (qK13 HO_3.1)); (case s2 => exact (qK35 HO_3.1)); rintro e w48 ⟨rfl, hb⟩; replace HO_3 := za (qK75 HO_3.1); replace HO_4 := za (qK98 HO_4.1); replace HB := za qK73; clear hb) | (go_at_call 11; (with_reducible refine (impl_LongestCave.calls k2 _ _ t658 t676 t677 false _ ?s1 ?s2 A32.1).mono ?_); (case s1 => exact (qK13 HO_3.1)); (case s2 => exact (qK35 HO_3.1)); rintro e w49 ⟨rfl, hb⟩; replace HO_3 := za (qK75 HO_3.1); replace HO_4 := za (qK98 HO_4.1); replace HB := za qK73; clear hb))
              rw [show Value.slice Ao9 0 co9 = Value.slice Ao9 t658.length co9 from (by rw [show t658.length = 0 from (by have h := (of_decide_eq_false (show decide ((t658.length : Int) > 0) = false by simpa using c35b0)); omega)])]
              go_meet
              case rel => exact ⟨_, H', ⟨by have := HJ6.1; have := HK2.1; first | omega | exact zo _⟩, ⟨(qK0)⟩⟩
              all_goals first | exact absurd (of_decide_eq_false (show decide ((t658.length : Int) > 0) = false by simpa using c35b0)) (by omega) | exact absurd (List.length_eq_zero_iff.mp (show t658.length = 0 by omega)) (by assumption)
           ·as_aux_lemma =>
            rw [yc c34] at H; have c34b0 : (x8_2 == t674) = false := zx c34; have c34b1 : (x8_2 != t674) = true := zU c34
            exact absurd (HT.1.symm.trans (zm H).symm) (by decide)
          ·as_aux_lemma =>
           replace c33 := zn c33; subst c33; rw [yc (show ¬ (false = true) by decide)] at H
           exact absurd (HT.1.symm.trans (zm H).symm) (by decide)
      ·as_aux_lemma =>
       replace c18 := zn c18; subst c18; rw [yc (show ¬ (false = true) by decide)] at H; have H' := za H; clear H
       go_wp2
       repeat (go_quiet (fail); try go_wp2)
       go_meet
       case rel => exact ⟨_, H', ⟨by have := HJ6.1; first | omega | exact zo _⟩, ⟨(qK0)⟩⟩
     case rest =>
      clear HC17; (try clear c1); (try clear c2); (try clear p2); (try clear c3); (try clear c4); (try clear c6); (try clear p6); (try clear q6); (try clear hx6); (try clear qi6); (try clear c12); (try clear c12b0); (try clear c12b1); (try clear c12b2); (try clear c16); (try clear c18); (try clear c19); (try clear c19b0); (try clear c20); (try clear c20b0); (try clear c21); (try clear c21b0); (try clear c21b1); (try clear c23); (try clear c24); (try clear c24b0); (try clear c33); (try clear c34); (try clear c34b0); (try clear c34b1); (try clear c35); (try clear c35b0); (try clear c35b1); (try clear c35b2); (try clear c39); (try clear c40); (try clear c40b0); (try clear c40b1); (try clear hx670_0); (try clear hx671_0); (try clear p2); (try clear p670); (try clear p671); (try clear q670); (try clear q671); obtain ⟨kq, HA, HJ16, HB⟩ := hcut
      cases kq with
      | zero => exact absurd HA.1 (by simp [laws_FnCaves.j2])
      | succ kj16 =>
       have H := HA.1; clear HA; simp only [laws_FnCaves.j2] at H; replace H := bindA H; obtain ⟨⟨t679, t680⟩, A56, H⟩ := H; (try dsimp only at H); replace H := bindA H; obtain ⟨⟨t685, t686⟩, A57, H⟩ := H; (try dsimp only at H); replace H := bindA H; obtain ⟨⟨t689, t690⟩, A58, H⟩ := H; (try dsimp only at H); have HC59 := za H; clear H
       go_upto_region 26 with (first | (go_at_call 12; (with_reducible refine (spec_DrawThroughTrips.calls kj16 _ _ l0 t679 t680 _ ?s1 ?s2 A56.1).mono ?_); (case s1 => exact (qK9 HR0.1)); (case s2 => exact HC0.1); rintro e w60 ⟨v681, v683, rfl, ho0, ho1, hb⟩; have HO682 := za (qK80 ho0); have HO684 := za (qK80 ho1); replace HB := za qK73; clear hb ho0 ho1; obtain ⟨Ao61, co61, eo61⟩ := zI HO682.1; subst eo61; obtain ⟨Ao62, co62, eo62⟩ := zI HO684.1; subst eo62) | (go_at_call 13; (with_reducible refine (impl_ThroughTrips.calls kj16 _ _ t679 _ _ t680 t685 t686 _ ?s1 ?s2 ?s3 ?s4 A57.1).mono ?_); (case s1 => exact (qK13 HO682.1)); (case s2 => exact (qK35 HO682.1)); (case s3 => exact (qK13 HO684.1)); (case s4 => exact (qK35 HO684.1)); rintro e w63 ⟨v687, rfl, ho0, hb⟩; replace HO682 := za (qK75 HO682.1); replace HO684 := za (qK75 HO684.1); have HO688 := za (qK80 ho0); replace HB := za qK73; clear hb ho0) | (go_at_call 14; (with_reducible refine (spec_ThroughTrips.calls kj16 _ _ t679 _ _ t680 t689 t690 _ ?s1 ?s2 ?s3 ?s4 A58.1).mono ?_); (case s1 => exact (qK13 HO682.1)); (case s2 => exact (qK35 HO682.1)); (case s3 => exact (qK13 HO684.1)); (case s4 => exact (qK35 HO684.1)); rintro e w64 ⟨v691, rfl, ho0, hb⟩; replace HO682 := za (qK75 HO682.1); replace HO684 := za (qK75 HO684.1); have HO692 := za (qK86 ho0 HO688.1); replace HO688 := za (qK84 HO688.1 ho0); replace HB := za qK73; clear hb ho0))
       (try simp only [Act.put, yf, yg, yh])
       go_cut [152] (fun v152 wc => ∃ (kq : Nat) (x152_58 : Bool), v152 = .bool x152_58 ∧ Aside0 (laws_FnCaves.j3 kq l0 t679 t680 t685 t686 x152_58 = some r) ∧ Aside0 (kq ≤ kj16) ∧ Aside0 (Kd.R k72 72 wc w.heap.size (fun _ => True) (.slice Ao61 t679.length co61) t679) ∧ Aside0 (Kd.R (Kd.int .i64) 3 wc w.heap.size (fun _ => True) (.slice Ao62 t680.length co62) t680) ∧ Aside0 (Kd.R k45 45 wc w.heap.size (fun _ => True) v687 t685) ∧ Aside0 (Below w.heap.size w wc))
       case first =>
        have H := HC59.1; clear HC59
        by_cases c65 : (t686 != t690) = true
        ·as_aux_lemma =>
         rw [yb c65] at H; have c65b0 : (t686 != t690) = true := c65
         (try (have c65b1 : decide (t686 = t690) = false := by simpa using c65))
         (try (have c65b2 : (t686 == t690) = false := by simpa using c65))
         (try (have c65b3 : ¬ (t686 = t690) := by simpa using c65)); clear c65
         (first | rw [c65b0] | (simp only [i64_w, i32_w]; rw [c65b0]) | skip)
         have H' := za H; clear H
         go_wp2
         repeat (go_quiet (fail); try go_wp2)
         go_meet
         case rel => exact ⟨_, (true), (qK10), H', ⟨by have := HJ6.1; have := HJ16.1; first | omega | exact zo _⟩, ⟨(qK1 HO682.1)⟩, ⟨(qK1 HO684.1)⟩, ⟨(qK31 HO688.1)⟩, ⟨(qK0)⟩⟩
        ·as_aux_lemma =>
         rw [yc c65] at H
         have c65b0 : (t686 != t690) = false := by simpa using c65
         (try (have c65b1 : decide (t686 = t690) = true := by simpa using c65))
         (try (have c65b2 : (t686 == t690) = true := by simpa using c65)); clear c65
         (first | rw [c65b0] | (simp only [i64_w, i32_w]; rw [c65b0]) | skip)
         replace H := bindA H; obtain ⟨t693, A66, H⟩ := H; (try dsimp only at H); have H' := za H; clear H; obtain ⟨Ao67, co67, eo67⟩ := zI HO688.1; subst eo67; obtain ⟨Ao68, co68, eo68⟩ := zI HO692.1; subst eo68
         go_wp2_with (first | (go_at_call 15; (with_reducible refine (laws_vPairs.calls kj16 _ _ t685 _ _ t689 t693 _ ?s1 ?s2 ?s3 ?s4 A66.1).mono ?_); (case s1 => exact (qK13 HO688.1)); (case s2 => exact (qK35 HO688.1)); (case s3 => exact (qK13 HO692.1)); (case s4 => exact (qK35 HO692.1)); rintro e w' ⟨rfl, ⟨nd, rfl⟩⟩; (try first | exact ⟨rfl, _, zS _ _ _⟩ | exact ⟨rfl, _, Eq.trans (zS _ _ _) (congrArg (World.drewN _) (Nat.add_assoc _ _ _))⟩)))
         go_meet
         case rel => exact ⟨_, (!t693), (qK10), H', ⟨by have := HJ6.1; have := HJ16.1; first | omega | exact zo _⟩, ⟨(qK1 HO682.1)⟩, ⟨(qK1 HO684.1)⟩, ⟨(qK31 HO688.1)⟩, ⟨(qK0)⟩⟩
       case rest =>
        clear HC59; (try clear c1); (try clear c2); (try clear p2); (try clear c3); (try clear c4); (try clear c6); (try clear p6); (try clear q6); (try clear hx6); (try clear qi6); (try clear c12); (try clear c12b0); (try clear c12b1); (try clear c12b2); (try clear c16); (try clear c18); (try clear c19); (try clear c19b0); (try clear c20); (try clear c20b0); (try clear c21); (try clear c21b0); (try clear c21b1); (try clear c23); (try clear c24); (try clear c24b0); (try clear c33); (try clear c34); (try clear c34b0); (try clear c34b1); (try clear c35); (try clear c35b0); (try clear c35b1); (try clear c35b2); (try clear c39); (try clear c40); (try clear c40b0); (try clear c40b1); (try clear p64); (try clear c65); (try clear c65b0); (try clear c65b1); (try clear c65b2); (try clear c67); (try clear p67); (try clear q67); (try clear hx67); (try clear qi67); (try clear hx670_0); (try clear hx671_0); (try clear p2); (try clear p6); (try clear p670); (try clear p671); (try clear q6); (try clear q670); (try clear q671); obtain ⟨kq, x152_58, rfl, HA, HJ58, HO_18, HO_19, HO_20, HB⟩ := hcut
        cases kq with
        | zero => exact absurd HA.1 (by simp [laws_FnCaves.j3])
        | succ kj58 =>
         have H := HA.1; clear HA; simp only [laws_FnCaves.j3] at H
         by_cases c69 : x152_58 = true
         ·as_aux_lemma =>
          subst c69; rw [yb rfl] at H
          exact absurd (HT.1.symm.trans (zm H).symm) (by decide)
         ·as_aux_lemma =>
          replace c69 := zn c69; subst c69; rw [yc (show ¬ (false = true) by decide)] at H; replace H := bindA H; obtain ⟨⟨t694, t695⟩, A70, H⟩ := H; (try dsimp only at H); replace H := bindA H; obtain ⟨⟨t698, t701⟩, A71, H⟩ := H; (try dsimp only at H); have HC72 := za H; clear H
          go_upto_region 30 with (first | (go_at_call 16; (with_reducible refine (impl_CavesWithout.calls kj58 _ _ t679 _ _ t680 t694 t695 _ ?s1 ?s2 ?s3 ?s4 A70.1).mono ?_); (case s1 => exact (qK13 HO_18.1)); (case s2 => exact (qK35 HO_18.1)); (case s3 => exact (qK13 HO_19.1)); (case s4 => exact (qK35 HO_19.1)); rintro e w73 ⟨v696, rfl, ho0, hb⟩; have HO697 := za (Kd.N_lower (Kd.N_mono (ok' := fun k_ => some k_ ≠ (.slice Ao61 t679.length co61 : Value).ownBlock ∧ some k_ ≠ (.slice Ao62 t680.length co62 : Value).ownBlock ∧ some k_ ≠ (v687 : Value).ownBlock) (Kd.S_N (Kd.S_bound ho0)) (fun k_ hk_ => ⟨(Kd.fresh' (Kd.R_lt (qK1 HO_18.1)) k_ hk_.2.1), (Kd.fresh' (Kd.R_lt (qK1 HO_19.1)) k_ hk_.2.1), (Kd.fresh' (Kd.R_lt (qK1 HO_20.1)) k_ hk_.2.1)⟩)) (zX (qK0))); replace HO_18 := za (qK75 HO_18.1); replace HO_19 := za (qK75 HO_19.1); replace HO_20 := za (qK75 HO_20.1); replace HB := za qK73; clear hb ho0) | (go_at_call 17; (with_reducible refine (spec_CavesWithout.calls kj58 _ _ t679 _ _ t680 t698 t701 _ ?s1 ?s2 ?s3 ?s4 A71.1).mono ?_); (case s1 => exact (qK13 HO_18.1)); (case s2 => exact (qK35 HO_18.1)); (case s3 => exact (qK13 HO_19.1)); (case s4 => exact (qK35 HO_19.1)); rintro e w74 ⟨v699, rfl, ho0, hb⟩; have HO700 := za (Kd.N_lower (Kd.N_mono (ok' := fun k_ => some k_ ≠ (.slice Ao61 t679.length co61 : Value).ownBlock ∧ some k_ ≠ (.slice Ao62 t680.length co62 : Value).ownBlock ∧ some k_ ≠ (v687 : Value).ownBlock ∧ some k_ ≠ (v696 : Value).ownBlock) ho0 (fun k_ hk_ => ⟨(Kd.fresh' (Kd.R_lt (qK1 HO_18.1)) k_ hk_), (Kd.fresh' (Kd.R_lt (qK1 HO_19.1)) k_ hk_), (Kd.fresh' (Kd.R_lt (qK1 HO_20.1)) k_ hk_), (Kd.fresh' (Kd.N_lt (qK22 HO697.1)) k_ hk_)⟩)) (zX (qK0))); replace HO_18 := za (qK75 HO_18.1); replace HO_19 := za (qK75 HO_19.1); replace HO_20 := za (qK75 HO_20.1); replace HO697 := za (by exact Kd.N_elder' (qK22 HO697.1) (Kd.N_base ho0) hb); replace HB := za qK73; clear hb ho0))
          (try simp only [Act.put, yf, yg, yh])
          go_cut [178] (fun v178 wc => ∃ (kq : Nat) (x178_71 : Bool), v178 = .bool x178_71 ∧ Aside0 (laws_FnCaves.j4 kq l0 t679 t685 x178_71 = some r) ∧ Aside0 (kq ≤ kj58) ∧ Aside0 (Kd.R k72 72 wc w.heap.size (fun _ => True) (.slice Ao61 t679.length co61) t679) ∧ Aside0 (Kd.R k45 45 wc w.heap.size (fun _ => True) v687 t685) ∧ Aside0 (Below w.heap.size w wc))
          case first =>
           have H := HC72.1; clear HC72
           by_cases c75 : (t695 != t701) = true
           ·as_aux_lemma =>
            rw [yb c75] at H; have c75b0 : (t695 != t701) = true := c75
            (try (have c75b1 : decide (t695 = t701) = false := by simpa using c75))
            (try (have c75b2 : (t695 == t701) = false := by simpa using c75))
            (try (have c75b3 : ¬ (t695 = t701) := by simpa using c75)); clear c75
            (first | rw [c75b0] | (simp only [i64_w, i32_w]; rw [c75b0]) | skip)
            have H' := za H; clear H
            go_wp2
            repeat (go_quiet (fail); try go_wp2)
            go_meet
            case rel => exact ⟨_, (true), (qK10), H', ⟨by have := HJ6.1; have := HJ16.1; have := HJ58.1; first | omega | exact zo _⟩, ⟨(qK1 HO_18.1)⟩, ⟨(qK1 HO_20.1)⟩, ⟨(qK0)⟩⟩
           ·as_aux_lemma =>
            rw [yc c75] at H
            have c75b0 : (t695 != t701) = false := by simpa using c75
            (try (have c75b1 : decide (t695 = t701) = true := by simpa using c75))
            (try (have c75b2 : (t695 == t701) = true := by simpa using c75)); clear c75
            (first | rw [c75b0] | (simp only [i64_w, i32_w]; rw [c75b0]) | skip)
            by_cases c76 : (t695 != t686) = true
            ·as_aux_lemma =>
             rw [yb c76] at H; have c76b0 : (t695 != t686) = true := c76
             (try (have c76b1 : decide (t695 = t686) = false := by simpa using c76))
             (try (have c76b2 : (t695 == t686) = false := by simpa using c76))
             (try (have c76b3 : ¬ (t695 = t686) := by simpa using c76)); clear c76; have H' := za H; clear H
             go_wp2
             repeat (go_quiet (fail); try go_wp2)
             go_meet
             case rel => exact ⟨_, (true), (qK10), H', ⟨by have := HJ6.1; have := HJ16.1; have := HJ58.1; first | omega | exact zo _⟩, ⟨(qK1 HO_18.1)⟩, ⟨(qK1 HO_20.1)⟩, ⟨(qK0)⟩⟩
            ·as_aux_lemma =>
             rw [yc c76] at H
             have c76b0 : (t695 != t686) = false := by simpa using c76
             (try (have c76b1 : decide (t695 = t686) = true := by simpa using c76))
             (try (have c76b2 : (t695 == t686) = true := by simpa using c76)); clear c76; replace H := zC H; obtain ⟨t702, A770, H⟩ := H; replace H : (laws_FnCaves.j4 kj58 l0 t679 t685 (!t702)) = some r := H; have A77 := za A770; clear A770; have H' := za H; clear H; obtain ⟨Ao78, co78, eo78⟩ := Kd.N_slice HO697.1; subst eo78; obtain ⟨Ao79, co79, eo79⟩ := Kd.N_slice HO700.1; subst eo79
             go_wp2_with (first | (go_at_call 8; (with_reducible refine (laws_vTable.calls kj58 _ _ t694 _ _ t698 t702 _ ?s1 ?s2 ?s3 ?s4 A77.1).mono ?_); (case s1 => exact (qK51 HO697.1)); (case s2 => exact (by exact (Kd.N_reads' HO697.1).2.1)); (case s3 => exact (qK51 HO700.1)); (case s4 => exact (by exact (Kd.N_reads' HO700.1).2.1)); rintro e w' ⟨rfl, ⟨nd, rfl⟩⟩; (try first | exact ⟨rfl, _, zS _ _ _⟩ | exact ⟨rfl, _, Eq.trans (zS _ _ _) (congrArg (World.drewN _) (Nat.add_assoc _ _ _))⟩)))
             go_meet
             case rel => exact ⟨_, (!t702), (qK10), H', ⟨by have := HJ6.1; have := HJ16.1; have := HJ58.1; first | omega | exact zo _⟩, ⟨(qK1 HO_18.1)⟩, ⟨(qK1 HO_20.1)⟩, ⟨(qK0)⟩⟩
          case rest =>
           clear HC72; (try clear c1); (try clear c2); (try clear p2); (try clear c3); (try clear c4); (try clear c6); (try clear p6); (try clear q6); (try clear hx6); (try clear qi6); (try clear c7); (try clear c12); (try clear c12b0); (try clear c12b1); (try clear c12b2); (try clear c16); (try clear c18); (try clear c19); (try clear c19b0); (try clear c20); (try clear c20b0); (try clear c21); (try clear c21b0); (try clear c21b1); (try clear c23); (try clear c24); (try clear c24b0); (try clear c33); (try clear c34); (try clear c34b0); (try clear c34b1); (try clear c35); (try clear c35b0); (try clear c35b1); (try clear c35b2); (try clear c39); (try clear c40); (try clear c40b0); (try clear c40b1); (try clear p64); (try clear c65); (try clear c65b0); (try clear c65b1); (try clear c65b2); (try clear c67); (try clear p67); (try clear q67); (try clear hx67); (try clear qi67); (try clear c69); (try clear c75); (try clear c75b0); (try clear c75b1); (try clear c75b2); (try clear c76); (try clear c76b0); (try clear c76b1); (try clear c76b2); (try clear hx670_0); (try clear hx671_0); (try clear p2); (try clear p6); (try clear p64); (try clear p67); (try clear p670); (try clear p671); (try clear q6); (try clear q67); (try clear q670); (try clear q671); obtain ⟨kq, x178_71, rfl, HA, HJ71, HO_18, HO_20, HB⟩ := hcut
           cases kq with
           | zero => exact absurd HA.1 (by simp [laws_FnCaves.j4])
           | succ kj71 =>
            have H := HA.1; clear HA; simp only [laws_FnCaves.j4] at H
            by_cases c80 : x178_71 = true
            ·as_aux_lemma =>
             subst c80; rw [yb rfl] at H
             exact absurd (HT.1.symm.trans (zm H).symm) (by decide)
            ·as_aux_lemma =>
             replace c80 := zn c80; subst c80; rw [yc (show ¬ (false = true) by decide)] at H; have H' := za H; clear H
             go_wp2
             repeat (go_quiet (fail); try go_wp2)
             go_loopg [28] kj71 (fun kq v28 w' => ∃ (x28_5 : Int), v28 = .int .i64 x28_5 ∧ Aside0 (laws_FnCaves.l1 kq l0 t679 t685 x28_5 = some r) ∧ Aside0 (kq ≤ kj71) ∧ Aside0 (Kd.R k72 72 w' w.heap.size (fun _ => True) (.slice Ao61 t679.length co61) t679) ∧ Aside0 (Kd.R k45 45 w' w.heap.size (fun _ => True) v687 t685) ∧ Aside0 (Below w.heap.size w w'))
             case atStart => exact ⟨(0), (qK10), H', ⟨zo _⟩, ⟨(qK1 HO_18.1)⟩, ⟨(qK1 HO_20.1)⟩, ⟨(qK0)⟩⟩
             case round =>
              clear H'; (try clear c1); (try clear c2); (try clear p2); (try clear c3); (try clear c4); (try clear c6); (try clear p6); (try clear q6); (try clear hx6); (try clear qi6); (try clear c7); (try clear c8); (try clear c12); (try clear c12b0); (try clear c12b1); (try clear c12b2); (try clear c16); (try clear c18); (try clear c19); (try clear c19b0); (try clear c20); (try clear c20b0); (try clear c21); (try clear c21b0); (try clear c21b1); (try clear c23); (try clear c24); (try clear c24b0); (try clear c33); (try clear c34); (try clear c34b0); (try clear c34b1); (try clear c35); (try clear c35b0); (try clear c35b1); (try clear c35b2); (try clear c39); (try clear c40); (try clear c40b0); (try clear c40b1); (try clear p64); (try clear c65); (try clear c65b0); (try clear c65b1); (try clear c65b2); (try clear c67); (try clear p67); (try clear q67); (try clear hx67); (try clear qi67); (try clear c69); (try clear c75); (try clear c75b0); (try clear c75b1); (try clear c75b2); (try clear c76); (try clear c76b0); (try clear c76b1); (try clear c76b2); (try clear c80); (try clear hx670_0); (try clear hx671_0); (try clear p2); (try clear p6); (try clear p64); (try clear p67); (try clear p670); (try clear p671); (try clear q6); (try clear q67); (try clear q670); (try clear q671); obtain ⟨x28_5, rfl, HA, HK5, HO_18, HO_20, HB⟩ := hrel
              cases gk with
              | zero => exact absurd HA.1 (by simp [laws_FnCaves.l1])
              | succ k5 =>
               have H := HA.1; clear HA; simp only [laws_FnCaves.l1] at H
               by_cases c81 : x28_5 < (t685.length : Int)
               ·as_aux_lemma =>
                rw [yb c81] at H; have c81b0 : decide (x28_5 < (t685.length : Int)) = true := zc c81; clear c81
                by_cases c82 : 0 ≤ x28_5
                ·as_aux_lemma =>
                 rw [yb c82] at H; have c82b0 : decide (0 ≤ x28_5) = true := zc c82; clear c82; obtain ⟨y704, hy704⟩ : ∃ y_ : List Int, y_ = (([(rd_T45 t685 x28_5).f0] : List Int)) := ⟨_, rfl⟩; replace H : ((spec_StepsFrom.f k5 t679 y704).bind fun bt707 => (if bt707.2 = true then (if ((rd_T45 t685 x28_5).f0) ≥ ((rd_T45 t685 x28_5).f1) then (some false) else (if 0 ≤ ((rd_T45 t685 x28_5).f1) then (if ((rd_T45 t685 x28_5).f1) < (bt707.1.length : Int) then (if (rd bt707.1 ((rd_T45 t685 x28_5).f1)) < 1 then (some false) else (laws_FnCaves.l1 k5 l0 t679 t685 (wrap64 (x28_5 + 1)))) else (none)) else (none))) else (some false))) = some r := (qK4 hy704); have Ny704 := za hy704; clear hy704; replace H := bindA H; obtain ⟨⟨t707, t708⟩, A83, H⟩ := H; (try dsimp only at H)
                 by_cases c84 : t708 = true
                 ·as_aux_lemma =>
                  subst c84; rw [yb rfl] at H
                  by_cases c85 : ((rd_T45 t685 x28_5).f0) ≥ ((rd_T45 t685 x28_5).f1)
                  ·as_aux_lemma =>
                   rw [yb c85] at H; have c85b0 : decide (((rd_T45 t685 x28_5).f1) ≤ ((rd_T45 t685 x28_5).f0)) = true := zc c85; clear c85
                   exact absurd (HT.1.symm.trans (zm H).symm) (by decide)
                  ·as_aux_lemma =>
                   rw [yc c85] at H; have c85b0 : decide (((rd_T45 t685 x28_5).f1) ≤ ((rd_T45 t685 x28_5).f0)) = false := zv c85; clear c85
                   by_cases c91 : 0 ≤ ((rd_T45 t685 x28_5).f1)
                   ·as_aux_lemma =>
                    rw [yb c91] at H; have c91b0 : decide (0 ≤ ((rd_T45 t685 x28_5).f1)) = true := zc c91; clear c91
                    by_cases c92 : ((rd_T45 t685 x28_5).f1) < (t707.length : Int)
                    ·as_aux_lemma =>
                     rw [yb c92] at H; have c92b0 : decide (((rd_T45 t685 x28_5).f1) < (t707.length : Int)) = true := zc c92; clear c92
                     by_cases c93 : (rd t707 ((rd_T45 t685 x28_5).f1)) < 1
                     ·as_aux_lemma =>
                      rw [yb c93] at H; have c93b0 : decide ((rd t707 ((rd_T45 t685 x28_5).f1)) < 1) = true := zc c93; clear c93
                      exact absurd (HT.1.symm.trans (zm H).symm) (by decide)
                     ·as_aux_lemma =>
                      rw [yc c93] at H; have c93b0 : decide ((rd t707 ((rd_T45 t685 x28_5).f1)) < 1) = false := zv c93; clear c93; have H' := za H; clear H; obtain ⟨Ao100, co100, eo100⟩ := zI HO_20.1; subst eo100; have p703 : 0 ≤ (x28_5 : Int) := zb (qK7); have q703 : x28_5 < (t685.length : Int) := zb (qK7); obtain ⟨ad703, e703, hx703_0, hx703_1⟩ := at_T45 (zH HO_20.1).2.2 x28_5 p703 q703; cases e703; replace p703 := zw p703; replace q703 := zw q703
                      go_wp2_with (first | ((with_reducible refine zq (N := 192) rfl ?_); (try (refine gate_guard (by rfl) ?_; dsimp only)); refine zQ (Kd.int .i64) _ 3 ?hg (N := 192) ?hd (xs := ([(rd_T45 t685 x28_5).f0] : List Int)) (inner := [.int .i64 ((rd_T45 t685 x28_5).f0)]) (ok := fun _ => True) (okp := fun _ => True) ?hr ?hp (fun _ hk => hk) trivial (zs _ _) (zo _) (by simp) ?_; (case hd | hg => rfl); (case hr => exact (qK23)); (case hp => exact (qK62)); intro v705 w101 ho102 hb hg_ hnew_; clear hg_ hnew_; (first | rw [← Ny704.1] at ho102 | (simp only [Int.reduceToNat] at ho102; rw [← Ny704.1] at ho102)); replace HO_18 := za (qK75 HO_18.1); replace HO_20 := za (qK75 HO_20.1); have HO706 := za (qK80 ho102); replace HB := za qK73; clear hb ho102; obtain ⟨Ao103, co103, eo103⟩ := zI HO706.1; subst eo103) | (go_at_call 18; (with_reducible refine (spec_StepsFrom.calls k5 _ _ t679 _ _ y704 t707 true _ ?s1 ?s2 ?s3 ?s4 A83.1).mono ?_); (case s1 => exact (qK13 HO_18.1)); (case s2 => exact (qK35 HO_18.1)); (case s3 => exact (qK13 HO706.1)); (case s4 => exact (qK35 HO706.1)); rintro e w104 ⟨v709, rfl, ho0, hb⟩; replace HO_18 := za (qK75 HO_18.1); replace HO_20 := za (qK75 HO_20.1); have HO710 := za (qK86 ho0 HO706.1); replace HO706 := za (qK84 HO706.1 ho0); replace HB := za qK73; clear hb ho0; have p711 : 0 ≤ (x28_5 : Int) := zb (qK7); have q711 : x28_5 < (t685.length : Int) := zb (qK7); obtain ⟨ad711, e711, hx711_0, hx711_1⟩ := at_T45 (zH HO_20.1).2.2 x28_5 p711 q711; obtain rfl : ad703 = ad711 := (by injection e711); replace p711 := zw p711; replace q711 := zw q711; have p712 : 0 ≤ (x28_5 : Int) := zb (qK7); have q712 : x28_5 < (t685.length : Int) := zb (qK7); obtain ⟨ad712, e712, hx712_0, hx712_1⟩ := at_T45 (zH HO_20.1).2.2 x28_5 p712 q712; obtain rfl : ad703 = ad712 := (by injection e712); replace p712 := zw p712; replace q712 := zw q712; have p713 : 0 ≤ (x28_5 : Int) := zb (qK7); have q713 : x28_5 < (t685.length : Int) := zb (qK7); obtain ⟨ad713, e713, hx713_0, hx713_1⟩ := at_T45 (zH HO_20.1).2.2 x28_5 p713 q713; obtain rfl : ad703 = ad713 := (by injection e713); replace p713 := zw p713; replace q713 := zw q713; obtain ⟨Ao105, co105, eo105⟩ := zI HO710.1; subst eo105; have p714 : 0 ≤ (((rd_T45 t685 x28_5).f1) : Int) := zb (qK7); have q714 : ((rd_T45 t685 x28_5).f1) < (t707.length : Int) := zb (qK7); obtain ⟨ad714, e714, hx714_0⟩ := zJ (zH HO710.1).2.2 ((rd_T45 t685 x28_5).f1) p714 q714; cases e714; replace p714 := zw p714; replace q714 := zw q714))
                      repeat (go_quiet ((first | ((with_reducible refine zq (N := 192) rfl ?_); (try (refine gate_guard (by rfl) ?_; dsimp only)); refine zQ (Kd.int .i64) _ 3 ?hg (N := 192) ?hd (xs := ([(rd_T45 t685 x28_5).f0] : List Int)) (inner := [.int .i64 ((rd_T45 t685 x28_5).f0)]) (ok := fun _ => True) (okp := fun _ => True) ?hr ?hp (fun _ hk => hk) trivial (zs _ _) (zo _) (by simp) ?_; (case hd | hg => rfl); (case hr => exact (qK23)); (case hp => exact (qK62)); intro v705 w101 ho102 hb hg_ hnew_; clear hg_ hnew_; (first | rw [← Ny704.1] at ho102 | (simp only [Int.reduceToNat] at ho102; rw [← Ny704.1] at ho102)); replace HO_18 := za (qK75 HO_18.1); replace HO_20 := za (qK75 HO_20.1); have HO706 := za (qK80 ho102); replace HB := za qK73; clear hb ho102; obtain ⟨Ao103, co103, eo103⟩ := zI HO706.1; subst eo103) | (go_at_call 18; (with_reducible refine (spec_StepsFrom.calls k5 _ _ t679 _ _ y704 t707 true _ ?s1 ?s2 ?s3 ?s4 A83.1).mono ?_); (case s1 => exact (qK13 HO_18.1)); (case s2 => exact (qK35 HO_18.1)); (case s3 => exact (qK13 HO706.1)); (case s4 => exact (qK35 HO706.1)); rintro e w104 ⟨v709, rfl, ho0, hb⟩; replace HO_18 := za (qK75 HO_18.1); replace HO_20 := za (qK75 HO_20.1); have HO710 := za (qK86 ho0 HO706.1); replace HO706 := za (qK84 HO706.1 ho0); replace HB := za qK73; clear hb ho0; have p711 : 0 ≤ (x28_5 : Int) := zb (qK7); have q711 : x28_5 < (t685.length : Int) := zb (qK7); obtain ⟨ad711, e711, hx711_0, hx711_1⟩ := at_T45 (zH HO_20.1).2.2 x28_5 p711 q711; obtain rfl : ad703 = ad711 := (by injection e711); replace p711 := zw p711; replace q711 := zw q711; have p712 : 0 ≤ (x28_5 : Int) := zb (qK7); have q712 : x28_5 < (t685.length : Int) := zb (qK7); obtain ⟨ad712, e712, hx712_0, hx712_1⟩ := at_T45 (zH HO_20.1).2.2 x28_5 p712 q712; obtain rfl : ad703 = ad712 := (by injection e712); replace p712 := zw p712; replace q712 := zw q712; have p713 : 0 ≤ (x28_5 : Int) := zb (qK7); have q713 : x28_5 < (t685.length : Int) := zb (qK7); obtain ⟨ad713, e713, hx713_0, hx713_1⟩ := at_T45 (zH HO_20.1).2.2 x28_5 p713 q713; obtain rfl : ad703 = ad713 := (by injection e713); replace p713 := zw p713; replace q713 := zw q713; obtain ⟨Ao105, co105, eo105⟩ := zI HO710.1; subst eo105; have p714 : 0 ≤ (((rd_T45 t685 x28_5).f1) : Int) := zb (qK7); have q714 : ((rd_T45 t685 x28_5).f1) < (t707.length : Int) := zb (qK7); obtain ⟨ad714, e714, hx714_0⟩ := zJ (zH HO710.1).2.2 ((rd_T45 t685 x28_5).f1) p714 q714; cases e714; replace p714 := zw p714; replace q714 := zw q714))); try go_wp2)
                      go_roundg k5
                      case measure => have := HJ6.1; have := HJ16.1; have := HJ58.1; have := HJ71.1; have := HK5.1; omega
                      case rel => exact ⟨(wrap64 (x28_5 + 1)), (qK10), H', ⟨by have := HJ6.1; have := HJ16.1; have := HJ58.1; have := HJ71.1; have := HK5.1; omega⟩, ⟨(qK1 HO_18.1)⟩, ⟨(qK1 HO_20.1)⟩, ⟨(qK0)⟩⟩
                    ·as_aux_lemma =>
                     rw [yc c92] at H
                     exact absurd H (by simp)
                   ·as_aux_lemma =>
                    rw [yc c91] at H
                    exact absurd H (by simp)
                 ·as_aux_lemma =>
                  replace c84 := zn c84; subst c84; rw [yc (show ¬ (false = true) by decide)] at H
                  exact absurd (HT.1.symm.trans (zm H).symm) (by decide)
                ·as_aux_lemma =>
                 rw [yc c82] at H
                 exact absurd H (by simp)
               ·as_aux_lemma =>
                rw [yc c81] at H; have c81b0 : decide (x28_5 < (t685.length : Int)) = false := zv c81; clear c81; replace H := bindA H; obtain ⟨⟨t715, t716, t717⟩, A111, H⟩ := H; (try dsimp only at H); replace H := bindA H; obtain ⟨⟨t720, t721⟩, A112, H⟩ := H; (try dsimp only at H); replace H := bindA H; obtain ⟨⟨t722, t723⟩, A113, H⟩ := H; (try dsimp only at H); have HC114 := za H; clear H; obtain ⟨Ao115, co115, eo115⟩ := zI HO_20.1; subst eo115
                go_upto_region 41 with (first | (go_at_call 19; (with_reducible refine (spec_DrawWouldConnect.calls k5 _ _ l0 t715 t716 t717 _ ?s1 ?s2 A111.1).mono ?_); (case s1 => exact (qK9 HR0.1)); (case s2 => exact HC0.1); rintro e w116 ⟨v718, rfl, ho0, hb⟩; replace HO_20 := za (qK75 HO_20.1); have HO719 := za (qK86 ho0 HO_18.1); replace HO_18 := za (qK84 HO_18.1 ho0); replace HB := za qK73; clear hb ho0; obtain ⟨Ao117, co117, eo117⟩ := zI HO719.1; subst eo117) | (go_at_call 20; (with_reducible refine (impl_WouldConnect.calls k5 _ _ t715 t716 t717 t720 t721 _ ?s1 ?s2 A112.1).mono ?_); (case s1 => exact (qK13 HO719.1)); (case s2 => exact (qK35 HO719.1)); rintro e w118 ⟨rfl, hb⟩; replace HO_18 := za (qK75 HO_18.1); replace HO_20 := za (qK75 HO_20.1); replace HO719 := za (qK75 HO719.1); replace HB := za qK73; clear hb) | (go_at_call 21; (with_reducible refine (spec_WouldConnect.calls k5 _ _ t715 t716 t717 t722 t723 _ ?s1 ?s2 A113.1).mono ?_); (case s1 => exact (qK13 HO719.1)); (case s2 => exact (qK35 HO719.1)); rintro e w119 ⟨rfl, hb⟩; replace HO_18 := za (qK75 HO_18.1); replace HO_20 := za (qK75 HO_20.1); replace HO719 := za (qK75 HO719.1); replace HB := za qK73; clear hb))
                (try simp only [Act.put, yf, yg, yh])
                go_cut [249] (fun v249 wc => ∃ (kq : Nat) (x249_113 : Bool), v249 = .bool x249_113 ∧ Aside0 (laws_FnCaves.j6 kq l0 x249_113 = some r) ∧ Aside0 (kq ≤ k5) ∧ Aside0 (Below w.heap.size w wc))
                case first =>
                 have H := HC114.1; clear HC114
                 by_cases c120 : t720 = t722
                 ·as_aux_lemma =>
                  rw [yb c120] at H; have c120b0 : (t720 == t722) = true := zT c120; have c120b1 : (t720 != t722) = false := zy c120; clear c120
                  (first | rw [c120b0] | (simp only [i64_w, i32_w]; rw [c120b0]) | skip)
                  have H' := za H; clear H
                  go_wp2
                  repeat (go_quiet (fail); try go_wp2)
                  go_meet
                  case rel => exact ⟨_, ((t721 != t723)), (qK10), H', ⟨by have := HJ6.1; have := HJ16.1; have := HJ58.1; have := HJ71.1; have := HK5.1; first | omega | exact zo _⟩, ⟨(qK0)⟩⟩
                 ·as_aux_lemma =>
                  rw [yc c120] at H; have c120b0 : (t720 == t722) = false := zx c120; have c120b1 : (t720 != t722) = true := zU c120
                  (first | rw [c120b0] | (simp only [i64_w, i32_w]; rw [c120b0]) | skip)
                  have H' := za H; clear H
                  go_wp2
                  repeat (go_quiet (fail); try go_wp2)
                  go_meet
                  case rel => exact ⟨_, (true), (qK10), H', ⟨by have := HJ6.1; have := HJ16.1; have := HJ58.1; have := HJ71.1; have := HK5.1; first | omega | exact zo _⟩, ⟨(qK0)⟩⟩
                case rest =>
                 clear HC114; (try clear c1); (try clear c2); (try clear p2); (try clear c3); (try clear c4); (try clear c6); (try clear p6); (try clear q6); (try clear hx6); (try clear qi6); (try clear c7); (try clear p7); (try clear q7); (try clear hx7); (try clear c8); (try clear c9); (try clear c12); (try clear c12b0); (try clear c12b1); (try clear c12b2); (try clear c16); (try clear c18); (try clear c19); (try clear c19b0); (try clear c20); (try clear c20b0); (try clear c21); (try clear c21b0); (try clear c21b1); (try clear c23); (try clear c24); (try clear c24b0); (try clear c33); (try clear c34); (try clear c34b0); (try clear c34b1); (try clear c35); (try clear c35b0); (try clear c35b1); (try clear c35b2); (try clear c39); (try clear c40); (try clear c40b0); (try clear c40b1); (try clear p64); (try clear c65); (try clear c65b0); (try clear c65b1); (try clear c65b2); (try clear c67); (try clear p67); (try clear q67); (try clear hx67); (try clear qi67); (try clear c69); (try clear p70); (try clear q70); (try clear hx70); (try clear p71); (try clear q71); (try clear hx71); (try clear c75); (try clear c75b0); (try clear c75b1); (try clear c75b2); (try clear c76); (try clear c76b0); (try clear c76b1); (try clear c76b2); (try clear c80); (try clear c81); (try clear c81b0); (try clear c82); (try clear c82b0); (try clear c84); (try clear c85); (try clear c85b0); (try clear c91); (try clear c91b0); (try clear c92); (try clear c92b0); (try clear c93); (try clear c93b0); (try clear c120)
                 (try clear c120b0); (try clear c120b1); (try clear hx670_0); (try clear hx671_0); (try clear hx703_0); (try clear hx703_1); (try clear hx711_0); (try clear hx711_1); (try clear hx712_0); (try clear hx712_1); (try clear hx713_0); (try clear hx713_1); (try clear hx714_0); (try clear p2); (try clear p6); (try clear p64); (try clear p67); (try clear p670); (try clear p671); (try clear p703); (try clear p711); (try clear p712); (try clear p713); (try clear p714); (try clear q6); (try clear q67); (try clear q670); (try clear q671); (try clear q703); (try clear q711); (try clear q712); (try clear q713); (try clear q714); obtain ⟨kq, x249_113, rfl, HA, HJ113, HB⟩ := hcut
                 cases kq with
                 | zero => exact absurd HA.1 (by simp [laws_FnCaves.j6])
                 | succ kj113 =>
                  have H := HA.1; clear HA; simp only [laws_FnCaves.j6] at H
                  by_cases c121 : x249_113 = true
                  ·as_aux_lemma =>
                   subst c121; rw [yb rfl] at H
                   exact absurd (HT.1.symm.trans (zm H).symm) (by decide)
                  ·as_aux_lemma =>
                   replace c121 := zn c121; subst c121; rw [yc (show ¬ (false = true) by decide)] at H; replace H := bindA H; obtain ⟨⟨t724, t725⟩, A122, H⟩ := H; (try dsimp only at H); replace H := bindA H; obtain ⟨⟨t728, t729⟩, A123, H⟩ := H; (try dsimp only at H); replace H := bindA H; obtain ⟨⟨t730, t731⟩, A124, H⟩ := H; (try dsimp only at H)
                   by_cases c125 : t728 = t730
                   ·as_aux_lemma =>
                    rw [yb c125] at H; have c125b0 : (t728 == t730) = true := zT c125; have c125b1 : (t728 != t730) = false := zy c125; clear c125; obtain rfl := zm H
                    go_wp2_with (first | (go_at_call 22; (with_reducible refine (spec_DrawCaveLength.calls kj113 _ _ l0 t724 t725 _ ?s1 ?s2 A122.1).mono ?_); (case s1 => exact (qK9 HR0.1)); (case s2 => exact HC0.1); rintro e w126 ⟨v726, rfl, ho0, hb⟩; have HO727 := za (qK80 ho0); replace HB := za qK73; clear hb ho0; obtain ⟨Ao127, co127, eo127⟩ := zI HO727.1; subst eo127) | (go_at_call 9; (with_reducible refine (impl_CaveLength.calls kj113 _ _ t724 t725 t728 t729 _ ?s1 ?s2 A123.1).mono ?_); (case s1 => exact (qK13 HO727.1)); (case s2 => exact (qK35 HO727.1)); rintro e w128 ⟨rfl, hb⟩; replace HO727 := za (qK75 HO727.1); replace HB := za qK73; clear hb) | (go_at_call 23; (with_reducible refine (spec_CaveLength.calls kj113 _ _ t724 t725 t730 t731 _ ?s1 ?s2 A124.1).mono ?_); (case s1 => exact (qK13 HO727.1)); (case s2 => exact (qK35 HO727.1)); rintro e w129 ⟨rfl, hb⟩; replace HO727 := za (qK75 HO727.1); replace HB := za qK73; clear hb))
                    go_ret
                    exact ⟨(qK11), (qK0)⟩
                   ·as_aux_lemma =>
                    rw [yc c125] at H; have c125b0 : (t728 == t730) = false := zx c125; have c125b1 : (t728 != t730) = true := zU c125
                    exact absurd (HT.1.symm.trans (zm H).symm) (by decide)
end Go.Proofs.Ytkocflfadlempaa.MK
