-- tight2 (a walk)
import Derived.Test.YtckidmhkhlbkeaaStr
import Derived.Test.YtckidmhkhlbkeaaMRx0
import Derived.Test.YtckidmhkhlbkeaaMRx1
namespace Go.Proofs.Ytckidmhkhlbkeaa.MR
open Go.RowKit Go.Proofs.YtckidmhkhlbkeaaW.PrintWords Go.Proofs.YtckidmhkhlbkeaaW.PrintLast Go.Proofs.YtckidmhkhlbkeaaW.PrintMore
theorem qR2_c0 {p : Prop} (h : p := by
  simp only [Act.put, zT, zU, zV, i64_w, i32_w]
  rfl) : p := h
theorem qR2_c1 {p : Prop} (h : p := by
  intro w'
  go_simp
  with_reducible rfl) : p := h
theorem qR2_c2 {p : Prop} (h : p := by
  show Act.put _ (some 17) _ = _
  simp only [Act.put, zT, zU, zV, i64_w, i32_w]
  rfl) : p := h
theorem qR2_c3 {p : Prop} (h : p := by
  show Act.put _ (some 22) _ = _
  simp only [Act.put, zT, zU, zV, i64_w, i32_w]
  rfl) : p := h
theorem qR2_c4 {p : Prop} (h : p := by
  rintro w' ⟨s0, s1, s2, s3, s4, s5⟩
  go_simp
  with_reducible rfl) : p := h
theorem qR2_c5 {p : Prop} (h : p := by
  show Act.put _ (some 28) _ = _
  simp only [Act.put, zT, zU, zV, i64_w, i32_w]
  rfl) : p := h
theorem qR2_c6 {p : Prop} (h : p := by
  rintro w' ⟨s0, s1, s2⟩
  go_simp
  with_reducible rfl) : p := h
attribute [local go_sem] max2_int min2_int max_two min_two max_three min_three max_four min_four
set_option linter.unusedVariables false
set_option linter.unusedSimpArgs false

def spec_l13Good.l0 : Nat → List (S44) → Int → Option (Bool)
 | 0, _, _ => none
 | k + 1, x0, x3 => if x3 < (x0.length : Int) then (if 0 ≤ x3 then ((spec_l13Letter.f ((rd_T44 x0 x3).f0)).bind fun t127 => (if t127 = true then ((spec_l1In.f ((rd_T44 x0 x3).f1) (-1000) 1000).bind fun t128 => (if t128 = true then ((spec_l1In.f ((rd_T44 x0 x3).f2) (-1000) 1000).bind fun t129 => (if t129 = true then (if x3 > 0 then (if 0 ≤ (wrap64 (x3 - 1)) then (if (wrap64 (x3 - 1)) < (x0.length : Int) then (if ((Op.bytesLess (((rd_T44 x0 (wrap64 (x3 - 1))).f0).toList) (((rd_T44 x0 x3).f0).toList)) = true) then (spec_l13Good.l0 k x0 (wrap64 (x3 + 1))) else (some false)) else (none)) else (none)) else (spec_l13Good.l0 k x0 (wrap64 (x3 + 1)))) else (some false))) else (some false))) else (some false))) else (none)) else (some (decide ((x0.length : Int) ≤ 12)))
def spec_l13Good.f (k : Nat) (l0 : List (S44)) : Option (Bool) := spec_l13Good.l0 k l0 0
def spec_l13Good.T5 : Bool × List (List Nat × List Nat) := (true, [([], []), ([0], [0]), ([1], [1]), ([2], [2]), ([3, 2], [3]), ([4], [4]), ([5, 4], [4, 5]), ([6, 4, 4], [4, 6]), ([7, 4], [4, 7]), ([4, 8], [4, 8]), ([9, 7], [9]), ([10], [10]), ([11, 10], [10, 11]), ([12, 10, 10], [10, 12]), ([13, 10], [10, 13]), ([10, 14], [10, 14]), ([15, 13], [15]), ([16], [16]), ([17, 16], [16, 17]), ([18, 16, 16], [16, 18]), ([19], [19]), ([19], [19]), ([21, 19], [19, 21]), ([20, 22, 19], [19, 20, 22]), ([23, 19], [19, 23]), ([24, 19], [19, 24]), ([19], [19]), ([26, 19], [19, 26]), ([25, 27, 19], [19, 25, 27]), ([19, 28, 16], [16, 19, 28]), ([16, 29], [16, 29])])
def spec_l13Good.B5 : List Nat := [0, 1, 3, 7, 15, 31, 63, 127, 255, 511, 1023, 2047, 4095, 8191, 16383, 32767, 65535, 131071, 262143, 524287, 1048575, 1048575, 3145727, 8388607, 16777215, 33554431, 1048575, 68157439, 268435455, 536870911, 1073741823]
theorem spec_l13Good.tab5 : rtab .any (opsOf Try.f63 5) = spec_l13Good.T5 := by kernel_rfl
theorem spec_l13Good.bits5 : waitsOk spec_l13Good.T5.2 spec_l13Good.B5 = true := by kernel_rfl
set_option maxHeartbeats 8000000 in
set_option maxRecDepth 100000 in
theorem spec_l13Good.calls (k : Nat) (A0 : Option Addr) (c0 : Nat) (l0 : List (S44)) (r : Bool) (w : World) (hr0 : Kd.C k44 w A0 l0.length l0) (hc0 : l0.length ≤ c0) (h : spec_l13Good.f k l0 = some r) :
  Calls Try.prog 63 #[.slice A0 l0.length c0] w fun e w' => e = .returned (.bool r) ∧ Below w.heap.size w w' := by
 have hu44 := Try.underlying44; have HR0 := za hr0; have HC0 := za hc0; clear hr0 hc0; have HB := za (zq w.heap.size w); have H : (spec_l13Good.l0 k l0 0) = some r := h; clear h; have H' := za H; clear H
 go_enter Try.func63, Try.ntmps63
 go_wp2
 go_loopg [3] k (fun kq v3 w' => ∃ (x3_1 : Int), v3 = .int .i64 x3_1 ∧ Aside0 (spec_l13Good.l0 kq l0 x3_1 = some r) ∧ Aside0 (kq ≤ k) ∧ Aside0 (Below w.heap.size w w'))
 case atStart => exact ⟨(0), (qR10), H', ⟨zn _⟩, ⟨(qR0)⟩⟩
 case round =>
  clear H'; obtain ⟨x3_1, rfl, HA, HK1, HB⟩ := hrel
  cases gk with
  | zero => exact zF HA.1 (by simp [spec_l13Good.l0])
  | succ k1 =>
   have H := HA.1; clear HA; simp only [spec_l13Good.l0] at H
   by_cases c2 : x3_1 < (l0.length : Int)
   ·rw [zP c2] at H; have c2b0 : decide (x3_1 < (l0.length : Int)) = true := zc c2; clear c2
    by_cases c3 : 0 ≤ x3_1
    ·rw [zP c3] at H; have c3b0 : decide (0 ≤ x3_1) = true := zc c3; clear c3; replace H := bindA H; obtain ⟨t127, A4, H⟩ := H; (try dsimp only at H)
     by_cases c5 : t127 = true
     ·subst c5; rw [zP rfl] at H; replace H := bindA H; obtain ⟨t128, A6, H⟩ := H; (try dsimp only at H)
      by_cases c7 : t128 = true
      ·subst c7; rw [zP rfl] at H; replace H := bindA H; obtain ⟨t129, A8, H⟩ := H; (try dsimp only at H)
       by_cases c9 : t129 = true
       ·subst c9; rw [zP rfl] at H
        by_cases c10 : x3_1 > 0
        ·rw [zP c10] at H; have c10b0 : decide (0 < x3_1) = true := zc c10; clear c10; obtain ⟨ji11, hji11⟩ : ∃ j_ : Int, (wrap64 (x3_1 - 1)) = j_ := ⟨_, rfl⟩
         replace H : (if 0 ≤ (ji11) then (if (ji11) < (l0.length : Int) then (if ((Op.bytesLess (((rd_T44 l0 (ji11)).f0).toList) (((rd_T44 l0 x3_1).f0).toList)) = true) then (spec_l13Good.l0 k1 l0 (wrap64 (x3_1 + 1))) else (some false)) else (none)) else (none)) = some r := by first | (rw [hji11] at H; exact H) | (simp only [hji11] at H ⊢; exact H)
         (try rw [hji11] at A4)
         (try rw [hji11] at A6)
         (try rw [hji11] at A8); have hji11w : (IntKind.i64.wrap (x3_1 - 1)) = ji11 := (i64_w _).trans hji11
         by_cases c12 : 0 ≤ (ji11)
         ·rw [zP c12] at H; have c12b0 : decide (0 ≤ (ji11)) = true := zc c12; clear c12
          by_cases c13 : (ji11) < (l0.length : Int)
          ·rw [zP c13] at H; have c13b0 : decide ((ji11) < (l0.length : Int)) = true := zc c13; clear c13
           by_cases c14 : ((Op.bytesLess (((rd_T44 l0 (ji11)).f0).toList) (((rd_T44 l0 x3_1).f0).toList)) = true)
           ·rw [zP c14] at H; have c14b0 : (Op.bytesLess (((rd_T44 l0 (ji11)).f0).toList) (((rd_T44 l0 x3_1).f0).toList)) = true := c14; clear c14; have H' := za H; clear H; have p125 : 0 ≤ (x3_1 : Int) := zb (qR6); have q125 : x3_1 < (l0.length : Int) := zb (qR6); obtain ⟨ad125, e125, hx125_0, hx125_1, hx125_2⟩ := at_T44 HR0.1 x3_1 p125 q125; cases e125; replace hx125_0 := (HB.1.cell (zd w _ hx125_0)).trans hx125_0; replace hx125_1 := (HB.1.cell (zd w _ hx125_1)).trans hx125_1; replace hx125_2 := (HB.1.cell (zd w _ hx125_2)).trans hx125_2; replace p125 := zt p125; replace q125 := zt q125
            try go_wp2_with (first | ((with_reducible refine zp (N := 4) rfl ?_); refine zw ?hg (N := 4) ?hd (cs := #[.string (⟨#[]⟩ : ByteArray), .int .i64 0, .int .i64 0]) (t := 44) ?hr ?_; (case hd | hg => rfl); (case hr => exact (qR16)); intro gb126 hg w15 hbox hb; have BK126 := za hbox; have GW126 := za qR65; have GE126 := za qR65; replace HB := za qR61; clear hb hbox hg; have hcz16_0 : w15.cell? ⟨gb126, 0, none⟩ = some (.string (⟨#[]⟩ : ByteArray)) := (blk_cell BK126.1 0).trans rfl; have hcz16_1 : w15.cell? ⟨gb126, 1, none⟩ = some (.int .i64 0) := (blk_cell BK126.1 1).trans rfl; have hcz16_2 : w15.cell? ⟨gb126, 2, none⟩ = some (.int .i64 0) := (blk_cell BK126.1 2).trans rfl; have hfz16_0 := ze BK126.1 0; have hfz16_1 := ze BK126.1 1; have hfz16_2 := ze BK126.1 2))
            have n0_ : Aside0 ((((w15.setCell ⟨gb126, 0, none⟩ (.string ((rd_T44 l0 x3_1).f0))).setCell ⟨gb126, 1, none⟩ (.int .i64 ((rd_T44 l0 x3_1).f1))).setCell ⟨gb126, 2, none⟩ (.int .i64 ((rd_T44 l0 x3_1).f2))).heap[gb126]? = some (.cells #[.string ((rd_T44 l0 x3_1).f0), .int .i64 ((rd_T44 l0 x3_1).f1), .int .i64 ((rd_T44 l0 x3_1).f2)] 44 (0, 0))) := ⟨(qR11)⟩; have n1_ : Aside0 (Below w.heap.size w (((w15.setCell ⟨gb126, 0, none⟩ (.string ((rd_T44 l0 x3_1).f0))).setCell ⟨gb126, 1, none⟩ (.int .i64 ((rd_T44 l0 x3_1).f1))).setCell ⟨gb126, 2, none⟩ (.int .i64 ((rd_T44 l0 x3_1).f2)))) := ⟨(qR2 GE126.1)⟩
            (try clear BK126)
            (try clear HB)
            generalize (((w15.setCell ⟨gb126, 0, none⟩ (.string ((rd_T44 l0 x3_1).f0))).setCell ⟨gb126, 1, none⟩ (.int .i64 ((rd_T44 l0 x3_1).f1))).setCell ⟨gb126, 2, none⟩ (.int .i64 ((rd_T44 l0 x3_1).f2))) = w17 at n0_ n1_ ⊢
            have BK126 := n0_; have HB := n1_; clear n0_ n1_; replace BK126 := za (zh BK126.1); replace HB := za (below_drew1 HB.1); have p130 : 0 ≤ ((ji11) : Int) := zb (qR6); have q130 : (ji11) < (l0.length : Int) := zb (qR6); obtain ⟨ad130, e130, hx130_0, hx130_1, hx130_2⟩ := at_T44 HR0.1 (ji11) p130 q130; have hw130_2 := hx130_2; have hw130_1 := hx130_1; have hw130_0 := hx130_0; obtain rfl : ad125 = ad130 := (by injection e130); replace hx130_0 := (HB.1.cell (zd w _ hx130_0)).trans hx130_0; replace hx130_1 := (HB.1.cell (zd w _ hx130_1)).trans hx130_1; replace hx130_2 := (HB.1.cell (zd w _ hx130_2)).trans hx130_2; replace p130 := zt p130; replace q130 := zt q130
            refine start_ (n := 31) (S := fun w' => w'.cell? ⟨gb126, 0, none⟩ = some (.string ((rd_T44 l0 x3_1).f0)) ∧ w'.cell? ⟨gb126, 1, none⟩ = some (.int .i64 ((rd_T44 l0 x3_1).f1)) ∧ w'.cell? ⟨gb126, 2, none⟩ = some (.int .i64 ((rd_T44 l0 x3_1).f2)) ∧ w'.cell? (ad125.add (((ji11)).toNat * 3)) = some (.string ((rd_T44 l0 (ji11)).f0)) ∧ w'.cell? ⟨(ad125.add (((ji11)).toNat * 3)).block, (ad125.add (((ji11)).toNat * 3)).off + 1, none⟩ = some (.int .i64 ((rd_T44 l0 (ji11)).f1)) ∧ w'.cell? ⟨(ad125.add (((ji11)).toNat * 3)).block, (ad125.add (((ji11)).toNat * 3)).off + 2, none⟩ = some (.int .i64 ((rd_T44 l0 (ji11)).f2))) (ds := []) qRb11 (qR8) rfl rfl ⟨(blk_cell BK126.1 0).trans rfl, (blk_cell BK126.1 1).trans rfl, (blk_cell BK126.1 2).trans rfl, ((HB.1.cell (zd w _ hw130_0)).trans hw130_0), ((HB.1.cell (zd w _ hw130_1)).trans hw130_1), ((HB.1.cell (zd w _ hw130_2)).trans hw130_2)⟩ (fun hHeld => ?_); refine with_tabW spec_l13Good.tab5 spec_l13Good.bits5 (fun HT_ HW_ => ?_)
            generalize w17.drew = w18 at BK126 HB hx130_0 hx130_1 hx130_2 hHeld ⊢
            refine pure_ (i := 0) (N := some 15) (v := ?_) (a' := ?_) qRb12 rfl rfl (qR3) (fun _ _ _ h => h) (zM ⟨by rfl, ?_⟩) ?_ ?_
            rotate_left; exact qR2_c1; rotate_left; exact qR2_c0
            refine take_ (i := 1) (N := some 16) (v := ?_) (a' := ?_) qRb13 rfl rfl (take_ofW HT_.1 HW_.1 (qR8)) (fun _ _ _ h => h) (zM ⟨by rfl, ?_⟩) hHeld ?_ ?_
            rotate_left; exact qR2_c4; rotate_left; exact qR2_c0
            refine one_ (i := 2) (N := some 17) qRb14 rfl rfl (qR63) (by decide) (fun K hK => ?_)
            refine goes_ Try.func68 (qR8) rfl #[.string ((rd_T44 l0 x3_1).f0)] (by rfl) rfl rfl (qR4) ?_
            with_reducible refine (spec_l13Letter.calls ((rd_T44 l0 x3_1).f0) true _ A4.1).mono ?_
            rintro e w' ⟨rfl, ⟨nd, rfl⟩⟩
            refine ⟨_, rfl, ?_⟩
            refine hK.out _ _ ⟨(blk_cell BK126.1 0).trans rfl, (blk_cell BK126.1 1).trans rfl, (blk_cell BK126.1 2).trans rfl, ((HB.1.cell (zd w _ hw130_0)).trans hw130_0), ((HB.1.cell (zd w _ hw130_1)).trans hw130_1), ((HB.1.cell (zd w _ hw130_2)).trans hw130_2)⟩ (fun hHeld => ?_)
            clear hK K
            refine norm_ (a' := ?_) ?_ ?_
            rotate_left
            ·exact qR2_c2
            refine pure_ (i := 3) (N := some 18) (v := ?_) (a' := ?_) qRb15 rfl rfl (qR3) (fun _ _ _ h => h) (zM ⟨by rfl, ?_⟩) ?_ ?_
            rotate_left; exact qR2_c1; rotate_left; exact qR2_c0
            refine pure_ (i := 4) (N := some 19) (v := ?_) (a' := ?_) qRb16 rfl rfl (qR3) (fun _ _ _ h => h) (zM ⟨by rfl, ?_⟩) ?_ ?_
            rotate_left; exact qR2_c1; rotate_left; exact qR2_c0
            refine pure_ (i := 5) (N := some 20) (v := ?_) (a' := ?_) qRb17 rfl rfl (qR3) (fun _ _ _ h => h) (zM ⟨by rfl, ?_⟩) ?_ ?_
            rotate_left; exact qR2_c1; rotate_left; exact qR2_c0
            refine take_ (i := 6) (N := some 21) (v := ?_) (a' := ?_) qRb18 rfl rfl (take_ofW HT_.1 HW_.1 (qR8)) (fun _ _ _ h => h) (zM ⟨by rfl, ?_⟩) hHeld ?_ ?_
            rotate_left; exact qR2_c4; rotate_left; exact qR2_c0
            refine one_ (i := 7) (N := some 22) qRb19 rfl rfl (qR63) (by decide) (fun K hK => ?_)
            refine goes_ Try.func64 (qR8) rfl #[.int .i64 ((rd_T44 l0 x3_1).f1), .int .i64 (-1000), .int .i64 1000] (by rfl) rfl rfl (qR4) ?_
            with_reducible refine (spec_l1In.calls ((rd_T44 l0 x3_1).f1) (-1000) 1000 true _ A6.1).mono ?_
            rintro e w' ⟨rfl, ⟨nd, rfl⟩⟩
            refine ⟨_, rfl, ?_⟩
            refine hK.out _ _ ⟨(blk_cell BK126.1 0).trans rfl, (blk_cell BK126.1 1).trans rfl, (blk_cell BK126.1 2).trans rfl, ((HB.1.cell (zd w _ hw130_0)).trans hw130_0), ((HB.1.cell (zd w _ hw130_1)).trans hw130_1), ((HB.1.cell (zd w _ hw130_2)).trans hw130_2)⟩ (fun hHeld => ?_)
            clear hK K
            refine norm_ (a' := ?_) ?_ ?_
            rotate_left
            ·exact qR2_c3
            refine pure_ (i := 8) (N := some 23) (v := ?_) (a' := ?_) qRb20 rfl rfl (qR3) (fun _ _ _ h => h) (zM ⟨by rfl, ?_⟩) ?_ ?_
            rotate_left; exact qR2_c1; rotate_left; exact qR2_c0
            refine pure_ (i := 9) (N := some 24) (v := ?_) (a' := ?_) qRb21 rfl rfl (qR3) (fun _ _ _ h => h) (zM ⟨by rfl, ?_⟩) ?_ ?_
            rotate_left; exact qR2_c1; rotate_left; exact qR2_c0
            refine pure_ (i := 10) (N := some 25) (v := ?_) (a' := ?_) qRb22 rfl rfl (qR3) (fun _ _ _ h => h) (zM ⟨by rfl, ?_⟩) ?_ ?_
            rotate_left; exact qR2_c1; rotate_left; exact qR2_c0
            refine pure_ (i := 11) (N := some 26) (v := ?_) (a' := ?_) qRb23 rfl rfl (qR3) (fun _ _ _ h => h) (zM ⟨by rfl, ?_⟩) ?_ ?_
            rotate_left; exact qR2_c1; rotate_left; exact qR2_c0
            refine take_ (i := 12) (N := some 27) (v := ?_) (a' := ?_) qRb24 rfl rfl (take_ofW HT_.1 HW_.1 (qR8)) (fun _ _ _ h => h) (zM ⟨by rfl, ?_⟩) hHeld ?_ ?_
            rotate_left; exact qR2_c4; rotate_left; exact qR2_c0
            refine one_ (i := 13) (N := some 28) qRb25 rfl rfl (qR63) (by decide) (fun K hK => ?_)
            refine goes_ Try.func64 (qR8) rfl #[.int .i64 ((rd_T44 l0 x3_1).f2), .int .i64 (-1000), .int .i64 1000] (by rfl) rfl rfl (qR4) ?_
            with_reducible refine (spec_l1In.calls ((rd_T44 l0 x3_1).f2) (-1000) 1000 true _ A8.1).mono ?_
            rintro e w' ⟨rfl, ⟨nd, rfl⟩⟩
            refine ⟨_, rfl, ?_⟩
            refine hK.out _ _ ⟨(blk_cell BK126.1 0).trans rfl, (blk_cell BK126.1 1).trans rfl, (blk_cell BK126.1 2).trans rfl, ((HB.1.cell (zd w _ hw130_0)).trans hw130_0), ((HB.1.cell (zd w _ hw130_1)).trans hw130_1), ((HB.1.cell (zd w _ hw130_2)).trans hw130_2)⟩ (fun hHeld => ?_)
            clear hK K
            refine norm_ (a' := ?_) ?_ ?_
            rotate_left
            ·exact qR2_c5
            refine pure_ (i := 14) (N := some 29) (v := ?_) (a' := ?_) qRb26 rfl rfl (qR3) (fun _ _ _ h => h) (zM ⟨by rfl, ?_⟩) ?_ ?_
            rotate_left; exact qR2_c1; rotate_left; exact qR2_c0
            refine pure_ (i := 15) (N := some 30) (v := ?_) (a' := ?_) qRb27 rfl rfl (qR3) (fun _ _ _ h => h) (zM ⟨by rfl, ?_⟩) ?_ ?_
            rotate_left; exact qR2_c1; rotate_left; exact qR2_c0
            refine pure_ (i := 16) (N := some 31) (v := ?_) (a' := ?_) qRb28 rfl rfl (qR3) (fun _ _ _ h => h) (zM ⟨by rfl, ?_⟩) ?_ ?_
            rotate_left; exact qR2_c1; rotate_left; exact qR2_c0
            refine pure_ (i := 17) (N := some 32) (v := ?_) (a' := ?_) qRb29 rfl rfl (qR3) (fun _ _ _ h => h) (zM ⟨by rfl, ?_⟩) ?_ ?_
            rotate_left; exact qR2_c1; rotate_left; exact qR2_c0
            refine pure_ (i := 18) (N := some 33) (v := ?_) (a' := ?_) qRb30 rfl rfl (qR3) (fun _ _ _ h => h) (zM ⟨by rfl, ?_⟩) ?_ ?_
            rotate_left; exact qR2_c1; rotate_left; exact qR2_c0
            refine pure_ (i := 19) (N := some 34) (v := ?_) (a' := ?_) qRb31 rfl rfl (qR3) (fun _ _ _ h => h) (zM ⟨by rfl, ?_⟩) ?_ ?_
            rotate_left; exact qR2_c1; rotate_left; exact qR2_c0
            refine pure_ (i := 20) (N := some 35) (v := ?_) (a' := ?_) qRb32 rfl rfl (qR3) (fun _ _ _ h => h) (zM ⟨by rfl, ?_⟩) ?_ ?_
            rotate_left; exact qR2_c1; rotate_left; exact qR2_c0
            refine pure_ (i := 21) (N := some 36) (v := ?_) (a' := ?_) qRb33 rfl rfl (qR3) (fun _ _ _ h => h) (zM ⟨by rfl, ?_⟩) ?_ ?_
            rotate_left; exact qR2_c1; rotate_left; exact qR2_c0
            refine pure_ (i := 22) (N := some 37) (v := ?_) (a' := ?_) qRb34 rfl rfl (qR3) (fun _ _ _ h => h) (zM ⟨by rfl, ?_⟩) ?_ ?_
            rotate_left; exact qR2_c1; rotate_left; exact qR2_c0
            refine pure_ (i := 23) (N := some 38) (v := ?_) (a' := ?_) qRb35 rfl rfl (qR3) (fun _ _ _ h => h) (zM ⟨by rfl, ?_⟩) ?_ ?_
            rotate_left; exact qR2_c1; rotate_left; exact qR2_c0
            refine pure_ (i := 24) (N := some 39) (v := ?_) (a' := ?_) qRb36 rfl rfl (qR3) (fun _ _ _ h => h) (zM ⟨by rfl, ?_⟩) ?_ ?_
            rotate_left; exact qR2_c1; rotate_left; exact qR2_c0
            refine pure_ (i := 26) (N := some 41) (v := ?_) (a' := ?_) qRb37 rfl rfl (qR3) (fun _ _ _ h => h) (zM ⟨by rfl, ?_⟩) ?_ ?_
            rotate_left; exact qR2_c1; rotate_left; exact qR2_c0
            refine take_ (i := 25) (N := some 40) (v := ?_) (a' := ?_) qRb38 rfl rfl (take_ofW HT_.1 HW_.1 (qR8)) (fun _ _ _ h => h) (zM ⟨by rfl, ?_⟩) hHeld ?_ ?_
            rotate_left; exact qR2_c4; rotate_left; exact qR2_c0
            refine take_ (i := 27) (N := some 42) (v := ?_) (a' := ?_) qRb39 rfl rfl (take_ofW HT_.1 HW_.1 (qR8)) (fun _ _ _ h => h) (zM ⟨by rfl, ?_⟩) hHeld ?_ ?_
            rotate_left; exact qR2_c4; rotate_left; exact qR2_c0
            refine pure_ (i := 28) (N := some 43) (v := ?_) (a' := ?_) qRb40 rfl rfl (qR3) (fun _ _ _ h => h) (zM ⟨by rfl, ?_⟩) ?_ ?_
            rotate_left; exact qR2_c1; rotate_left; exact qR2_c0
            refine pure_ (i := 29) (N := some 44) (v := ?_) (a' := ?_) qRb41 rfl rfl (qR3) (fun _ _ _ h => h) (zM ⟨by rfl, ?_⟩) ?_ ?_
            rotate_left; exact qR2_c1; rotate_left; exact qR2_c0
            refine pure_ (i := 30) (N := some 45) (v := ?_) (a' := ?_) qRb42 rfl rfl (qR3) (fun _ _ _ h => h) (zM ⟨by rfl, ?_⟩) ?_ ?_
            rotate_left; exact qR2_c1; rotate_left; exact qR2_c0
            refine done_ (qR68) ?_
            try go_wp2
            go_roundg k1
            case measure => have := HK1.1; omega
            case rel => exact ⟨(wrap64 (x3_1 + 1)), (qR10), H', ⟨by have := HK1.1; omega⟩, ⟨(qR2 GE126.1)⟩⟩
           ·rw [zQ c14] at H
            have c14b0 : (Op.bytesLess (((rd_T44 l0 (ji11)).f0).toList) (((rd_T44 l0 x3_1).f0).toList)) = false := by simpa using c14
            clear c14; obtain rfl := zl H; have p125 : 0 ≤ (x3_1 : Int) := zb (qR6); have q125 : x3_1 < (l0.length : Int) := zb (qR6); obtain ⟨ad125, e125, hx125_0, hx125_1, hx125_2⟩ := at_T44 HR0.1 x3_1 p125 q125; cases e125; replace hx125_0 := (HB.1.cell (zd w _ hx125_0)).trans hx125_0; replace hx125_1 := (HB.1.cell (zd w _ hx125_1)).trans hx125_1; replace hx125_2 := (HB.1.cell (zd w _ hx125_2)).trans hx125_2; replace p125 := zt p125; replace q125 := zt q125
            try go_wp2_with (first | ((with_reducible refine zp (N := 4) rfl ?_); refine zw ?hg (N := 4) ?hd (cs := #[.string (⟨#[]⟩ : ByteArray), .int .i64 0, .int .i64 0]) (t := 44) ?hr ?_; (case hd | hg => rfl); (case hr => exact (qR16)); intro gb126 hg w19 hbox hb; have BK126 := za hbox; have GW126 := za qR65; have GE126 := za qR65; replace HB := za qR61; clear hb hbox hg; have hcz20_0 : w19.cell? ⟨gb126, 0, none⟩ = some (.string (⟨#[]⟩ : ByteArray)) := (blk_cell BK126.1 0).trans rfl; have hcz20_1 : w19.cell? ⟨gb126, 1, none⟩ = some (.int .i64 0) := (blk_cell BK126.1 1).trans rfl; have hcz20_2 : w19.cell? ⟨gb126, 2, none⟩ = some (.int .i64 0) := (blk_cell BK126.1 2).trans rfl; have hfz20_0 := ze BK126.1 0; have hfz20_1 := ze BK126.1 1; have hfz20_2 := ze BK126.1 2))
            have n0_ : Aside0 ((((w19.setCell ⟨gb126, 0, none⟩ (.string ((rd_T44 l0 x3_1).f0))).setCell ⟨gb126, 1, none⟩ (.int .i64 ((rd_T44 l0 x3_1).f1))).setCell ⟨gb126, 2, none⟩ (.int .i64 ((rd_T44 l0 x3_1).f2))).heap[gb126]? = some (.cells #[.string ((rd_T44 l0 x3_1).f0), .int .i64 ((rd_T44 l0 x3_1).f1), .int .i64 ((rd_T44 l0 x3_1).f2)] 44 (0, 0))) := ⟨(qR11)⟩; have n1_ : Aside0 (Below w.heap.size w (((w19.setCell ⟨gb126, 0, none⟩ (.string ((rd_T44 l0 x3_1).f0))).setCell ⟨gb126, 1, none⟩ (.int .i64 ((rd_T44 l0 x3_1).f1))).setCell ⟨gb126, 2, none⟩ (.int .i64 ((rd_T44 l0 x3_1).f2)))) := ⟨(qR2 GE126.1)⟩
            (try clear BK126)
            (try clear HB)
            generalize (((w19.setCell ⟨gb126, 0, none⟩ (.string ((rd_T44 l0 x3_1).f0))).setCell ⟨gb126, 1, none⟩ (.int .i64 ((rd_T44 l0 x3_1).f1))).setCell ⟨gb126, 2, none⟩ (.int .i64 ((rd_T44 l0 x3_1).f2))) = w21 at n0_ n1_ ⊢
            have BK126 := n0_; have HB := n1_; clear n0_ n1_; replace BK126 := za (zh BK126.1); replace HB := za (below_drew1 HB.1); have p130 : 0 ≤ ((ji11) : Int) := zb (qR6); have q130 : (ji11) < (l0.length : Int) := zb (qR6); obtain ⟨ad130, e130, hx130_0, hx130_1, hx130_2⟩ := at_T44 HR0.1 (ji11) p130 q130; have hw130_2 := hx130_2; have hw130_1 := hx130_1; have hw130_0 := hx130_0; obtain rfl : ad125 = ad130 := (by injection e130); replace hx130_0 := (HB.1.cell (zd w _ hx130_0)).trans hx130_0; replace hx130_1 := (HB.1.cell (zd w _ hx130_1)).trans hx130_1; replace hx130_2 := (HB.1.cell (zd w _ hx130_2)).trans hx130_2; replace p130 := zt p130; replace q130 := zt q130
            refine start_ (n := 31) (S := fun w' => w'.cell? ⟨gb126, 0, none⟩ = some (.string ((rd_T44 l0 x3_1).f0)) ∧ w'.cell? ⟨gb126, 1, none⟩ = some (.int .i64 ((rd_T44 l0 x3_1).f1)) ∧ w'.cell? ⟨gb126, 2, none⟩ = some (.int .i64 ((rd_T44 l0 x3_1).f2)) ∧ w'.cell? (ad125.add (((ji11)).toNat * 3)) = some (.string ((rd_T44 l0 (ji11)).f0)) ∧ w'.cell? ⟨(ad125.add (((ji11)).toNat * 3)).block, (ad125.add (((ji11)).toNat * 3)).off + 1, none⟩ = some (.int .i64 ((rd_T44 l0 (ji11)).f1)) ∧ w'.cell? ⟨(ad125.add (((ji11)).toNat * 3)).block, (ad125.add (((ji11)).toNat * 3)).off + 2, none⟩ = some (.int .i64 ((rd_T44 l0 (ji11)).f2))) (ds := []) qRb11 (qR8) rfl rfl ⟨(blk_cell BK126.1 0).trans rfl, (blk_cell BK126.1 1).trans rfl, (blk_cell BK126.1 2).trans rfl, ((HB.1.cell (zd w _ hw130_0)).trans hw130_0), ((HB.1.cell (zd w _ hw130_1)).trans hw130_1), ((HB.1.cell (zd w _ hw130_2)).trans hw130_2)⟩ (fun hHeld => ?_); refine with_tabW spec_l13Good.tab5 spec_l13Good.bits5 (fun HT_ HW_ => ?_)
            generalize w21.drew = w22 at BK126 HB hx130_0 hx130_1 hx130_2 hHeld ⊢
            refine pure_ (i := 0) (N := some 15) (v := ?_) (a' := ?_) qRb12 rfl rfl (qR3) (fun _ _ _ h => h) (zM ⟨by rfl, ?_⟩) ?_ ?_
            rotate_left; exact qR2_c1; rotate_left; exact qR2_c0
            refine take_ (i := 1) (N := some 16) (v := ?_) (a' := ?_) qRb13 rfl rfl (take_ofW HT_.1 HW_.1 (qR8)) (fun _ _ _ h => h) (zM ⟨by rfl, ?_⟩) hHeld ?_ ?_
            rotate_left; exact qR2_c4; rotate_left; exact qR2_c0
            refine one_ (i := 2) (N := some 17) qRb14 rfl rfl (qR63) (by decide) (fun K hK => ?_)
            refine goes_ Try.func68 (qR8) rfl #[.string ((rd_T44 l0 x3_1).f0)] (by rfl) rfl rfl (qR4) ?_
            with_reducible refine (spec_l13Letter.calls ((rd_T44 l0 x3_1).f0) true _ A4.1).mono ?_
            rintro e w' ⟨rfl, ⟨nd, rfl⟩⟩
            refine ⟨_, rfl, ?_⟩
            refine hK.out _ _ ⟨(blk_cell BK126.1 0).trans rfl, (blk_cell BK126.1 1).trans rfl, (blk_cell BK126.1 2).trans rfl, ((HB.1.cell (zd w _ hw130_0)).trans hw130_0), ((HB.1.cell (zd w _ hw130_1)).trans hw130_1), ((HB.1.cell (zd w _ hw130_2)).trans hw130_2)⟩ (fun hHeld => ?_)
            clear hK K
            refine norm_ (a' := ?_) ?_ ?_
            rotate_left
            ·exact qR2_c2
            refine pure_ (i := 3) (N := some 18) (v := ?_) (a' := ?_) qRb15 rfl rfl (qR3) (fun _ _ _ h => h) (zM ⟨by rfl, ?_⟩) ?_ ?_
            rotate_left; exact qR2_c1; rotate_left; exact qR2_c0
            refine pure_ (i := 4) (N := some 19) (v := ?_) (a' := ?_) qRb16 rfl rfl (qR3) (fun _ _ _ h => h) (zM ⟨by rfl, ?_⟩) ?_ ?_
            rotate_left; exact qR2_c1; rotate_left; exact qR2_c0
            refine pure_ (i := 5) (N := some 20) (v := ?_) (a' := ?_) qRb17 rfl rfl (qR3) (fun _ _ _ h => h) (zM ⟨by rfl, ?_⟩) ?_ ?_
            rotate_left; exact qR2_c1; rotate_left; exact qR2_c0
            refine take_ (i := 6) (N := some 21) (v := ?_) (a' := ?_) qRb18 rfl rfl (take_ofW HT_.1 HW_.1 (qR8)) (fun _ _ _ h => h) (zM ⟨by rfl, ?_⟩) hHeld ?_ ?_
            rotate_left; exact qR2_c4; rotate_left; exact qR2_c0
            refine one_ (i := 7) (N := some 22) qRb19 rfl rfl (qR63) (by decide) (fun K hK => ?_)
            refine goes_ Try.func64 (qR8) rfl #[.int .i64 ((rd_T44 l0 x3_1).f1), .int .i64 (-1000), .int .i64 1000] (by rfl) rfl rfl (qR4) ?_
            with_reducible refine (spec_l1In.calls ((rd_T44 l0 x3_1).f1) (-1000) 1000 true _ A6.1).mono ?_
            rintro e w' ⟨rfl, ⟨nd, rfl⟩⟩
            refine ⟨_, rfl, ?_⟩
            refine hK.out _ _ ⟨(blk_cell BK126.1 0).trans rfl, (blk_cell BK126.1 1).trans rfl, (blk_cell BK126.1 2).trans rfl, ((HB.1.cell (zd w _ hw130_0)).trans hw130_0), ((HB.1.cell (zd w _ hw130_1)).trans hw130_1), ((HB.1.cell (zd w _ hw130_2)).trans hw130_2)⟩ (fun hHeld => ?_)
            clear hK K
            refine norm_ (a' := ?_) ?_ ?_
            rotate_left
            ·exact qR2_c3
            refine pure_ (i := 8) (N := some 23) (v := ?_) (a' := ?_) qRb20 rfl rfl (qR3) (fun _ _ _ h => h) (zM ⟨by rfl, ?_⟩) ?_ ?_
            rotate_left; exact qR2_c1; rotate_left; exact qR2_c0
            refine pure_ (i := 9) (N := some 24) (v := ?_) (a' := ?_) qRb21 rfl rfl (qR3) (fun _ _ _ h => h) (zM ⟨by rfl, ?_⟩) ?_ ?_
            rotate_left; exact qR2_c1; rotate_left; exact qR2_c0
            refine pure_ (i := 10) (N := some 25) (v := ?_) (a' := ?_) qRb22 rfl rfl (qR3) (fun _ _ _ h => h) (zM ⟨by rfl, ?_⟩) ?_ ?_
            rotate_left; exact qR2_c1; rotate_left; exact qR2_c0
            refine pure_ (i := 11) (N := some 26) (v := ?_) (a' := ?_) qRb23 rfl rfl (qR3) (fun _ _ _ h => h) (zM ⟨by rfl, ?_⟩) ?_ ?_
            rotate_left; exact qR2_c1; rotate_left; exact qR2_c0
            refine take_ (i := 12) (N := some 27) (v := ?_) (a' := ?_) qRb24 rfl rfl (take_ofW HT_.1 HW_.1 (qR8)) (fun _ _ _ h => h) (zM ⟨by rfl, ?_⟩) hHeld ?_ ?_
            rotate_left; exact qR2_c4; rotate_left; exact qR2_c0
            refine one_ (i := 13) (N := some 28) qRb25 rfl rfl (qR63) (by decide) (fun K hK => ?_)
            refine goes_ Try.func64 (qR8) rfl #[.int .i64 ((rd_T44 l0 x3_1).f2), .int .i64 (-1000), .int .i64 1000] (by rfl) rfl rfl (qR4) ?_
            with_reducible refine (spec_l1In.calls ((rd_T44 l0 x3_1).f2) (-1000) 1000 true _ A8.1).mono ?_
            rintro e w' ⟨rfl, ⟨nd, rfl⟩⟩
            refine ⟨_, rfl, ?_⟩
            refine hK.out _ _ ⟨(blk_cell BK126.1 0).trans rfl, (blk_cell BK126.1 1).trans rfl, (blk_cell BK126.1 2).trans rfl, ((HB.1.cell (zd w _ hw130_0)).trans hw130_0), ((HB.1.cell (zd w _ hw130_1)).trans hw130_1), ((HB.1.cell (zd w _ hw130_2)).trans hw130_2)⟩ (fun hHeld => ?_)
            clear hK K
            refine norm_ (a' := ?_) ?_ ?_
            rotate_left
            ·exact qR2_c5
            refine pure_ (i := 14) (N := some 29) (v := ?_) (a' := ?_) qRb26 rfl rfl (qR3) (fun _ _ _ h => h) (zM ⟨by rfl, ?_⟩) ?_ ?_
            rotate_left; exact qR2_c1; rotate_left; exact qR2_c0
            refine pure_ (i := 15) (N := some 30) (v := ?_) (a' := ?_) qRb27 rfl rfl (qR3) (fun _ _ _ h => h) (zM ⟨by rfl, ?_⟩) ?_ ?_
            rotate_left; exact qR2_c1; rotate_left; exact qR2_c0
            refine pure_ (i := 16) (N := some 31) (v := ?_) (a' := ?_) qRb28 rfl rfl (qR3) (fun _ _ _ h => h) (zM ⟨by rfl, ?_⟩) ?_ ?_
            rotate_left; exact qR2_c1; rotate_left; exact qR2_c0
            refine pure_ (i := 17) (N := some 32) (v := ?_) (a' := ?_) qRb29 rfl rfl (qR3) (fun _ _ _ h => h) (zM ⟨by rfl, ?_⟩) ?_ ?_
            rotate_left; exact qR2_c1; rotate_left; exact qR2_c0
            refine pure_ (i := 18) (N := some 33) (v := ?_) (a' := ?_) qRb30 rfl rfl (qR3) (fun _ _ _ h => h) (zM ⟨by rfl, ?_⟩) ?_ ?_
            rotate_left; exact qR2_c1; rotate_left; exact qR2_c0
            refine pure_ (i := 19) (N := some 34) (v := ?_) (a' := ?_) qRb31 rfl rfl (qR3) (fun _ _ _ h => h) (zM ⟨by rfl, ?_⟩) ?_ ?_
            rotate_left; exact qR2_c1; rotate_left; exact qR2_c0
            refine pure_ (i := 20) (N := some 35) (v := ?_) (a' := ?_) qRb32 rfl rfl (qR3) (fun _ _ _ h => h) (zM ⟨by rfl, ?_⟩) ?_ ?_
            rotate_left; exact qR2_c1; rotate_left; exact qR2_c0
            refine pure_ (i := 21) (N := some 36) (v := ?_) (a' := ?_) qRb33 rfl rfl (qR3) (fun _ _ _ h => h) (zM ⟨by rfl, ?_⟩) ?_ ?_
            rotate_left; exact qR2_c1; rotate_left; exact qR2_c0
            refine pure_ (i := 22) (N := some 37) (v := ?_) (a' := ?_) qRb34 rfl rfl (qR3) (fun _ _ _ h => h) (zM ⟨by rfl, ?_⟩) ?_ ?_
            rotate_left; exact qR2_c1; rotate_left; exact qR2_c0
            refine pure_ (i := 23) (N := some 38) (v := ?_) (a' := ?_) qRb35 rfl rfl (qR3) (fun _ _ _ h => h) (zM ⟨by rfl, ?_⟩) ?_ ?_
            rotate_left; exact qR2_c1; rotate_left; exact qR2_c0
            refine pure_ (i := 24) (N := some 39) (v := ?_) (a' := ?_) qRb36 rfl rfl (qR3) (fun _ _ _ h => h) (zM ⟨by rfl, ?_⟩) ?_ ?_
            rotate_left; exact qR2_c1; rotate_left; exact qR2_c0
            refine pure_ (i := 26) (N := some 41) (v := ?_) (a' := ?_) qRb37 rfl rfl (qR3) (fun _ _ _ h => h) (zM ⟨by rfl, ?_⟩) ?_ ?_
            rotate_left; exact qR2_c1; rotate_left; exact qR2_c0
            refine take_ (i := 25) (N := some 40) (v := ?_) (a' := ?_) qRb38 rfl rfl (take_ofW HT_.1 HW_.1 (qR8)) (fun _ _ _ h => h) (zM ⟨by rfl, ?_⟩) hHeld ?_ ?_
            rotate_left; exact qR2_c4; rotate_left; exact qR2_c0
            refine take_ (i := 27) (N := some 42) (v := ?_) (a' := ?_) qRb39 rfl rfl (take_ofW HT_.1 HW_.1 (qR8)) (fun _ _ _ h => h) (zM ⟨by rfl, ?_⟩) hHeld ?_ ?_
            rotate_left; exact qR2_c4; rotate_left; exact qR2_c0
            refine pure_ (i := 28) (N := some 43) (v := ?_) (a' := ?_) qRb40 rfl rfl (qR3) (fun _ _ _ h => h) (zM ⟨by rfl, ?_⟩) ?_ ?_
            rotate_left; exact qR2_c1; rotate_left; exact qR2_c0
            refine pure_ (i := 29) (N := some 44) (v := ?_) (a' := ?_) qRb41 rfl rfl (qR3) (fun _ _ _ h => h) (zM ⟨by rfl, ?_⟩) ?_ ?_
            rotate_left; exact qR2_c1; rotate_left; exact qR2_c0
            refine pure_ (i := 30) (N := some 45) (v := ?_) (a' := ?_) qRb42 rfl rfl (qR3) (fun _ _ _ h => h) (zM ⟨by rfl, ?_⟩) ?_ ?_
            rotate_left; exact qR2_c1; rotate_left; exact qR2_c0
            refine done_ (qR68) ?_
            try go_wp2
            go_ret
            exact ⟨(by first | rfl | (simp [errW_none, errW_some] <;> rfl) | (simp only [← hji11]; first | rfl | (simp [errW_none, errW_some] <;> rfl)) | (simp [*, errW_none, errW_some] <;> rfl)), (qR2 GE126.1)⟩
          ·rw [zQ c13] at H
           exact zF H (by simp)
         ·rw [zQ c12] at H
          exact zF H (by simp)
        ·rw [zQ c10] at H; have c10b0 : decide (0 < x3_1) = false := zs c10; clear c10; have H' := za H; clear H; have p125 : 0 ≤ (x3_1 : Int) := zb (qR6); have q125 : x3_1 < (l0.length : Int) := zb (qR6); obtain ⟨ad125, e125, hx125_0, hx125_1, hx125_2⟩ := at_T44 HR0.1 x3_1 p125 q125; cases e125; replace hx125_0 := (HB.1.cell (zd w _ hx125_0)).trans hx125_0; replace hx125_1 := (HB.1.cell (zd w _ hx125_1)).trans hx125_1; replace hx125_2 := (HB.1.cell (zd w _ hx125_2)).trans hx125_2; replace p125 := zt p125; replace q125 := zt q125
         try go_wp2_with (first | ((with_reducible refine zp (N := 4) rfl ?_); refine zw ?hg (N := 4) ?hd (cs := #[.string (⟨#[]⟩ : ByteArray), .int .i64 0, .int .i64 0]) (t := 44) ?hr ?_; (case hd | hg => rfl); (case hr => exact (qR16)); intro gb126 hg w23 hbox hb; have BK126 := za hbox; have GW126 := za qR65; have GE126 := za qR65; replace HB := za qR61; clear hb hbox hg; have hcz24_0 : w23.cell? ⟨gb126, 0, none⟩ = some (.string (⟨#[]⟩ : ByteArray)) := (blk_cell BK126.1 0).trans rfl; have hcz24_1 : w23.cell? ⟨gb126, 1, none⟩ = some (.int .i64 0) := (blk_cell BK126.1 1).trans rfl; have hcz24_2 : w23.cell? ⟨gb126, 2, none⟩ = some (.int .i64 0) := (blk_cell BK126.1 2).trans rfl; have hfz24_0 := ze BK126.1 0; have hfz24_1 := ze BK126.1 1; have hfz24_2 := ze BK126.1 2))
         have n0_ : Aside0 ((((w23.setCell ⟨gb126, 0, none⟩ (.string ((rd_T44 l0 x3_1).f0))).setCell ⟨gb126, 1, none⟩ (.int .i64 ((rd_T44 l0 x3_1).f1))).setCell ⟨gb126, 2, none⟩ (.int .i64 ((rd_T44 l0 x3_1).f2))).heap[gb126]? = some (.cells #[.string ((rd_T44 l0 x3_1).f0), .int .i64 ((rd_T44 l0 x3_1).f1), .int .i64 ((rd_T44 l0 x3_1).f2)] 44 (0, 0))) := ⟨(qR11)⟩; have n1_ : Aside0 (Below w.heap.size w (((w23.setCell ⟨gb126, 0, none⟩ (.string ((rd_T44 l0 x3_1).f0))).setCell ⟨gb126, 1, none⟩ (.int .i64 ((rd_T44 l0 x3_1).f1))).setCell ⟨gb126, 2, none⟩ (.int .i64 ((rd_T44 l0 x3_1).f2)))) := ⟨(qR2 GE126.1)⟩
         (try clear BK126)
         (try clear HB)
         generalize (((w23.setCell ⟨gb126, 0, none⟩ (.string ((rd_T44 l0 x3_1).f0))).setCell ⟨gb126, 1, none⟩ (.int .i64 ((rd_T44 l0 x3_1).f1))).setCell ⟨gb126, 2, none⟩ (.int .i64 ((rd_T44 l0 x3_1).f2))) = w25 at n0_ n1_ ⊢
         have BK126 := n0_; have HB := n1_; clear n0_ n1_; replace BK126 := za (zh BK126.1); replace HB := za (below_drew1 HB.1)
         refine start_ (n := 31) (S := fun w' => w'.cell? ⟨gb126, 0, none⟩ = some (.string ((rd_T44 l0 x3_1).f0)) ∧ w'.cell? ⟨gb126, 1, none⟩ = some (.int .i64 ((rd_T44 l0 x3_1).f1)) ∧ w'.cell? ⟨gb126, 2, none⟩ = some (.int .i64 ((rd_T44 l0 x3_1).f2))) (ds := []) qRb11 (qR8) rfl rfl ⟨(blk_cell BK126.1 0).trans rfl, (blk_cell BK126.1 1).trans rfl, (blk_cell BK126.1 2).trans rfl⟩ (fun hHeld => ?_); refine with_tabW spec_l13Good.tab5 spec_l13Good.bits5 (fun HT_ HW_ => ?_)
         generalize w25.drew = w26 at BK126 HB hHeld ⊢
         refine pure_ (i := 0) (N := some 15) (v := ?_) (a' := ?_) qRb12 rfl rfl (qR3) (fun _ _ _ h => h) (zM ⟨by rfl, ?_⟩) ?_ ?_
         rotate_left; exact qR2_c1; rotate_left; exact qR2_c0
         refine take_ (i := 1) (N := some 16) (v := ?_) (a' := ?_) qRb13 rfl rfl (take_ofW HT_.1 HW_.1 (qR8)) (fun _ _ _ h => h) (zM ⟨by rfl, ?_⟩) hHeld ?_ ?_
         rotate_left; exact qR2_c6; rotate_left; exact qR2_c0
         refine one_ (i := 2) (N := some 17) qRb14 rfl rfl (qR63) (by decide) (fun K hK => ?_)
         refine goes_ Try.func68 (qR8) rfl #[.string ((rd_T44 l0 x3_1).f0)] (by rfl) rfl rfl (qR4) ?_
         with_reducible refine (spec_l13Letter.calls ((rd_T44 l0 x3_1).f0) true _ A4.1).mono ?_
         rintro e w' ⟨rfl, ⟨nd, rfl⟩⟩
         refine ⟨_, rfl, ?_⟩
         refine hK.out _ _ ⟨(blk_cell BK126.1 0).trans rfl, (blk_cell BK126.1 1).trans rfl, (blk_cell BK126.1 2).trans rfl⟩ (fun hHeld => ?_)
         clear hK K
         refine norm_ (a' := ?_) ?_ ?_
         rotate_left
         ·exact qR2_c2
         refine pure_ (i := 3) (N := some 18) (v := ?_) (a' := ?_) qRb15 rfl rfl (qR3) (fun _ _ _ h => h) (zM ⟨by rfl, ?_⟩) ?_ ?_
         rotate_left; exact qR2_c1; rotate_left; exact qR2_c0
         refine pure_ (i := 4) (N := some 19) (v := ?_) (a' := ?_) qRb16 rfl rfl (qR3) (fun _ _ _ h => h) (zM ⟨by rfl, ?_⟩) ?_ ?_
         rotate_left; exact qR2_c1; rotate_left; exact qR2_c0
         refine pure_ (i := 5) (N := some 20) (v := ?_) (a' := ?_) qRb17 rfl rfl (qR3) (fun _ _ _ h => h) (zM ⟨by rfl, ?_⟩) ?_ ?_
         rotate_left; exact qR2_c1; rotate_left; exact qR2_c0
         refine take_ (i := 6) (N := some 21) (v := ?_) (a' := ?_) qRb18 rfl rfl (take_ofW HT_.1 HW_.1 (qR8)) (fun _ _ _ h => h) (zM ⟨by rfl, ?_⟩) hHeld ?_ ?_
         rotate_left; exact qR2_c6; rotate_left; exact qR2_c0
         refine one_ (i := 7) (N := some 22) qRb19 rfl rfl (qR63) (by decide) (fun K hK => ?_)
         refine goes_ Try.func64 (qR8) rfl #[.int .i64 ((rd_T44 l0 x3_1).f1), .int .i64 (-1000), .int .i64 1000] (by rfl) rfl rfl (qR4) ?_
         with_reducible refine (spec_l1In.calls ((rd_T44 l0 x3_1).f1) (-1000) 1000 true _ A6.1).mono ?_
         rintro e w' ⟨rfl, ⟨nd, rfl⟩⟩
         refine ⟨_, rfl, ?_⟩
         refine hK.out _ _ ⟨(blk_cell BK126.1 0).trans rfl, (blk_cell BK126.1 1).trans rfl, (blk_cell BK126.1 2).trans rfl⟩ (fun hHeld => ?_)
         clear hK K
         refine norm_ (a' := ?_) ?_ ?_
         rotate_left
         ·exact qR2_c3
         refine pure_ (i := 8) (N := some 23) (v := ?_) (a' := ?_) qRb20 rfl rfl (qR3) (fun _ _ _ h => h) (zM ⟨by rfl, ?_⟩) ?_ ?_
         rotate_left; exact qR2_c1; rotate_left; exact qR2_c0
         refine pure_ (i := 9) (N := some 24) (v := ?_) (a' := ?_) qRb21 rfl rfl (qR3) (fun _ _ _ h => h) (zM ⟨by rfl, ?_⟩) ?_ ?_
         rotate_left; exact qR2_c1; rotate_left; exact qR2_c0
         refine pure_ (i := 10) (N := some 25) (v := ?_) (a' := ?_) qRb22 rfl rfl (qR3) (fun _ _ _ h => h) (zM ⟨by rfl, ?_⟩) ?_ ?_
         rotate_left; exact qR2_c1; rotate_left; exact qR2_c0
         refine pure_ (i := 11) (N := some 26) (v := ?_) (a' := ?_) qRb23 rfl rfl (qR3) (fun _ _ _ h => h) (zM ⟨by rfl, ?_⟩) ?_ ?_
         rotate_left; exact qR2_c1; rotate_left; exact qR2_c0
         refine take_ (i := 12) (N := some 27) (v := ?_) (a' := ?_) qRb24 rfl rfl (take_ofW HT_.1 HW_.1 (qR8)) (fun _ _ _ h => h) (zM ⟨by rfl, ?_⟩) hHeld ?_ ?_
         rotate_left; exact qR2_c6; rotate_left; exact qR2_c0
         refine one_ (i := 13) (N := some 28) qRb25 rfl rfl (qR63) (by decide) (fun K hK => ?_)
         refine goes_ Try.func64 (qR8) rfl #[.int .i64 ((rd_T44 l0 x3_1).f2), .int .i64 (-1000), .int .i64 1000] (by rfl) rfl rfl (qR4) ?_
         with_reducible refine (spec_l1In.calls ((rd_T44 l0 x3_1).f2) (-1000) 1000 true _ A8.1).mono ?_
         rintro e w' ⟨rfl, ⟨nd, rfl⟩⟩
         refine ⟨_, rfl, ?_⟩
         refine hK.out _ _ ⟨(blk_cell BK126.1 0).trans rfl, (blk_cell BK126.1 1).trans rfl, (blk_cell BK126.1 2).trans rfl⟩ (fun hHeld => ?_)
         clear hK K
         refine norm_ (a' := ?_) ?_ ?_
         rotate_left
         ·exact qR2_c5
         refine pure_ (i := 14) (N := some 29) (v := ?_) (a' := ?_) qRb26 rfl rfl (qR3) (fun _ _ _ h => h) (zM ⟨by rfl, ?_⟩) ?_ ?_
         rotate_left; exact qR2_c1; rotate_left; exact qR2_c0
         refine pure_ (i := 15) (N := some 30) (v := ?_) (a' := ?_) qRb27 rfl rfl (qR3) (fun _ _ _ h => h) (zM ⟨by rfl, ?_⟩) ?_ ?_
         rotate_left; exact qR2_c1; rotate_left; exact qR2_c0
         refine pure_ (i := 16) (N := some 31) (v := ?_) (a' := ?_) qRb28 rfl rfl (qR3) (fun _ _ _ h => h) (zM ⟨by rfl, ?_⟩) ?_ ?_
         rotate_left; exact qR2_c1; rotate_left; exact qR2_c0
         refine pure_ (i := 17) (N := some 32) (v := ?_) (a' := ?_) qRb29 rfl rfl (qR3) (fun _ _ _ h => h) (zM ⟨by rfl, ?_⟩) ?_ ?_
         rotate_left; exact qR2_c1; rotate_left; exact qR2_c0
         refine pure_ (i := 18) (N := some 33) (v := ?_) (a' := ?_) qRb30 rfl rfl (qR3) (fun _ _ _ h => h) (zM ⟨by rfl, ?_⟩) ?_ ?_
         rotate_left; exact qR2_c1; rotate_left; exact qR2_c0
         refine pure_ (i := 19) (N := some 34) (v := ?_) (a' := ?_) qRb31 rfl rfl (qR3) (fun _ _ _ h => h) (zM ⟨by rfl, ?_⟩) ?_ ?_
         rotate_left; exact qR2_c1; rotate_left; exact qR2_c0
         refine pure_ (i := 20) (N := some 35) (v := undef) (a' := ?_) qRb32 rfl rfl (qR3) (fun _ _ _ h => h) (Or.inr ⟨by rfl, rfl⟩) ?_ ?_
         rotate_left
         ·exact qR2_c0
         refine pure_ (i := 21) (N := some 36) (v := undef) (a' := ?_) qRb33 rfl rfl (qR3) (fun _ _ _ h => h) (Or.inr ⟨by rfl, rfl⟩) ?_ ?_
         rotate_left
         ·exact qR2_c0
         refine pure_ (i := 22) (N := some 37) (v := undef) (a' := ?_) qRb34 rfl rfl (qR3) (fun _ _ _ h => h) (Or.inr ⟨by rfl, rfl⟩) ?_ ?_
         rotate_left
         ·exact qR2_c0
         refine pure_ (i := 23) (N := some 38) (v := undef) (a' := ?_) qRb35 rfl rfl (qR3) (fun _ _ _ h => h) (Or.inr ⟨by rfl, rfl⟩) ?_ ?_
         rotate_left
         ·exact qR2_c0
         refine pure_ (i := 24) (N := some 39) (v := undef) (a' := ?_) qRb36 rfl rfl (qR3) (fun _ _ _ h => h) (Or.inr ⟨by rfl, rfl⟩) ?_ ?_
         rotate_left
         ·exact qR2_c0
         refine pure_ (i := 25) (N := some 40) (v := undef) (a' := ?_) qRb43 rfl rfl (qR3) (fun _ _ _ h => h) (Or.inr ⟨by rfl, rfl⟩) ?_ ?_
         rotate_left
         ·exact qR2_c0
         refine pure_ (i := 26) (N := some 41) (v := undef) (a' := ?_) qRb38 rfl rfl (qR3) (fun _ _ _ h => h) (Or.inr ⟨by rfl, rfl⟩) ?_ ?_
         rotate_left
         ·exact qR2_c0
         refine pure_ (i := 27) (N := some 42) (v := undef) (a' := ?_) qRb39 rfl rfl (qR3) (fun _ _ _ h => h) (Or.inr ⟨by rfl, rfl⟩) ?_ ?_
         rotate_left
         ·exact qR2_c0
         refine pure_ (i := 28) (N := some 43) (v := undef) (a' := ?_) qRb40 rfl rfl (qR3) (fun _ _ _ h => h) (Or.inr ⟨by rfl, rfl⟩) ?_ ?_
         rotate_left
         ·exact qR2_c0
         refine pure_ (i := 29) (N := some 44) (v := ?_) (a' := ?_) qRb41 rfl rfl (qR3) (fun _ _ _ h => h) (zM ⟨by rfl, ?_⟩) ?_ ?_
         rotate_left; exact qR2_c1; rotate_left; exact qR2_c0
         refine pure_ (i := 30) (N := some 45) (v := ?_) (a' := ?_) qRb42 rfl rfl (qR3) (fun _ _ _ h => h) (zM ⟨by rfl, ?_⟩) ?_ ?_
         rotate_left; exact qR2_c1; rotate_left; exact qR2_c0
         refine done_ (qR68) ?_
         try go_wp2
         go_roundg k1
         case measure => have := HK1.1; omega
         case rel => exact ⟨(wrap64 (x3_1 + 1)), (qR10), H', ⟨by have := HK1.1; omega⟩, ⟨(qR2 GE126.1)⟩⟩
       ·replace c9 := zm c9; subst c9; rw [zQ (show ¬ (false = true) by decide)] at H; obtain rfl := zl H; have p125 : 0 ≤ (x3_1 : Int) := zb (qR6); have q125 : x3_1 < (l0.length : Int) := zb (qR6); obtain ⟨ad125, e125, hx125_0, hx125_1, hx125_2⟩ := at_T44 HR0.1 x3_1 p125 q125; cases e125; replace hx125_0 := (HB.1.cell (zd w _ hx125_0)).trans hx125_0; replace hx125_1 := (HB.1.cell (zd w _ hx125_1)).trans hx125_1; replace hx125_2 := (HB.1.cell (zd w _ hx125_2)).trans hx125_2; replace p125 := zt p125; replace q125 := zt q125
        try go_wp2_with (first | ((with_reducible refine zp (N := 4) rfl ?_); refine zw ?hg (N := 4) ?hd (cs := #[.string (⟨#[]⟩ : ByteArray), .int .i64 0, .int .i64 0]) (t := 44) ?hr ?_; (case hd | hg => rfl); (case hr => exact (qR16)); intro gb126 hg w27 hbox hb; have BK126 := za hbox; have GW126 := za qR65; have GE126 := za qR65; replace HB := za qR61; clear hb hbox hg; have hcz28_0 : w27.cell? ⟨gb126, 0, none⟩ = some (.string (⟨#[]⟩ : ByteArray)) := (blk_cell BK126.1 0).trans rfl; have hcz28_1 : w27.cell? ⟨gb126, 1, none⟩ = some (.int .i64 0) := (blk_cell BK126.1 1).trans rfl; have hcz28_2 : w27.cell? ⟨gb126, 2, none⟩ = some (.int .i64 0) := (blk_cell BK126.1 2).trans rfl; have hfz28_0 := ze BK126.1 0; have hfz28_1 := ze BK126.1 1; have hfz28_2 := ze BK126.1 2))
        have n0_ : Aside0 ((((w27.setCell ⟨gb126, 0, none⟩ (.string ((rd_T44 l0 x3_1).f0))).setCell ⟨gb126, 1, none⟩ (.int .i64 ((rd_T44 l0 x3_1).f1))).setCell ⟨gb126, 2, none⟩ (.int .i64 ((rd_T44 l0 x3_1).f2))).heap[gb126]? = some (.cells #[.string ((rd_T44 l0 x3_1).f0), .int .i64 ((rd_T44 l0 x3_1).f1), .int .i64 ((rd_T44 l0 x3_1).f2)] 44 (0, 0))) := ⟨(qR11)⟩; have n1_ : Aside0 (Below w.heap.size w (((w27.setCell ⟨gb126, 0, none⟩ (.string ((rd_T44 l0 x3_1).f0))).setCell ⟨gb126, 1, none⟩ (.int .i64 ((rd_T44 l0 x3_1).f1))).setCell ⟨gb126, 2, none⟩ (.int .i64 ((rd_T44 l0 x3_1).f2)))) := ⟨(qR2 GE126.1)⟩
        (try clear BK126)
        (try clear HB)
        generalize (((w27.setCell ⟨gb126, 0, none⟩ (.string ((rd_T44 l0 x3_1).f0))).setCell ⟨gb126, 1, none⟩ (.int .i64 ((rd_T44 l0 x3_1).f1))).setCell ⟨gb126, 2, none⟩ (.int .i64 ((rd_T44 l0 x3_1).f2))) = w29 at n0_ n1_ ⊢
        have BK126 := n0_; have HB := n1_; clear n0_ n1_; replace BK126 := za (zh BK126.1); replace HB := za (below_drew1 HB.1)
        refine start_ (n := 31) (S := fun w' => w'.cell? ⟨gb126, 0, none⟩ = some (.string ((rd_T44 l0 x3_1).f0)) ∧ w'.cell? ⟨gb126, 1, none⟩ = some (.int .i64 ((rd_T44 l0 x3_1).f1)) ∧ w'.cell? ⟨gb126, 2, none⟩ = some (.int .i64 ((rd_T44 l0 x3_1).f2))) (ds := []) qRb11 (qR8) rfl rfl ⟨(blk_cell BK126.1 0).trans rfl, (blk_cell BK126.1 1).trans rfl, (blk_cell BK126.1 2).trans rfl⟩ (fun hHeld => ?_); refine with_tabW spec_l13Good.tab5 spec_l13Good.bits5 (fun HT_ HW_ => ?_)
        generalize w29.drew = w30 at BK126 HB hHeld ⊢
        refine pure_ (i := 0) (N := some 15) (v := ?_) (a' := ?_) qRb12 rfl rfl (qR3) (fun _ _ _ h => h) (zM ⟨by rfl, ?_⟩) ?_ ?_
        rotate_left; exact qR2_c1; rotate_left; exact qR2_c0
        refine take_ (i := 1) (N := some 16) (v := ?_) (a' := ?_) qRb13 rfl rfl (take_ofW HT_.1 HW_.1 (qR8)) (fun _ _ _ h => h) (zM ⟨by rfl, ?_⟩) hHeld ?_ ?_
        rotate_left; exact qR2_c6; rotate_left; exact qR2_c0
        refine one_ (i := 2) (N := some 17) qRb14 rfl rfl (qR63) (by decide) (fun K hK => ?_)
        refine goes_ Try.func68 (qR8) rfl #[.string ((rd_T44 l0 x3_1).f0)] (by rfl) rfl rfl (qR4) ?_
        with_reducible refine (spec_l13Letter.calls ((rd_T44 l0 x3_1).f0) true _ A4.1).mono ?_
        rintro e w' ⟨rfl, ⟨nd, rfl⟩⟩
        refine ⟨_, rfl, ?_⟩
        refine hK.out _ _ ⟨(blk_cell BK126.1 0).trans rfl, (blk_cell BK126.1 1).trans rfl, (blk_cell BK126.1 2).trans rfl⟩ (fun hHeld => ?_)
        clear hK K
        refine norm_ (a' := ?_) ?_ ?_
        rotate_left
        ·exact qR2_c2
        refine pure_ (i := 3) (N := some 18) (v := ?_) (a' := ?_) qRb15 rfl rfl (qR3) (fun _ _ _ h => h) (zM ⟨by rfl, ?_⟩) ?_ ?_
        rotate_left; exact qR2_c1; rotate_left; exact qR2_c0
        refine pure_ (i := 4) (N := some 19) (v := ?_) (a' := ?_) qRb16 rfl rfl (qR3) (fun _ _ _ h => h) (zM ⟨by rfl, ?_⟩) ?_ ?_
        rotate_left; exact qR2_c1; rotate_left; exact qR2_c0
        refine pure_ (i := 5) (N := some 20) (v := ?_) (a' := ?_) qRb17 rfl rfl (qR3) (fun _ _ _ h => h) (zM ⟨by rfl, ?_⟩) ?_ ?_
        rotate_left; exact qR2_c1; rotate_left; exact qR2_c0
        refine take_ (i := 6) (N := some 21) (v := ?_) (a' := ?_) qRb18 rfl rfl (take_ofW HT_.1 HW_.1 (qR8)) (fun _ _ _ h => h) (zM ⟨by rfl, ?_⟩) hHeld ?_ ?_
        rotate_left; exact qR2_c6; rotate_left; exact qR2_c0
        refine one_ (i := 7) (N := some 22) qRb19 rfl rfl (qR63) (by decide) (fun K hK => ?_)
        refine goes_ Try.func64 (qR8) rfl #[.int .i64 ((rd_T44 l0 x3_1).f1), .int .i64 (-1000), .int .i64 1000] (by rfl) rfl rfl (qR4) ?_
        with_reducible refine (spec_l1In.calls ((rd_T44 l0 x3_1).f1) (-1000) 1000 true _ A6.1).mono ?_
        rintro e w' ⟨rfl, ⟨nd, rfl⟩⟩
        refine ⟨_, rfl, ?_⟩
        refine hK.out _ _ ⟨(blk_cell BK126.1 0).trans rfl, (blk_cell BK126.1 1).trans rfl, (blk_cell BK126.1 2).trans rfl⟩ (fun hHeld => ?_)
        clear hK K
        refine norm_ (a' := ?_) ?_ ?_
        rotate_left
        ·exact qR2_c3
        refine pure_ (i := 8) (N := some 23) (v := ?_) (a' := ?_) qRb20 rfl rfl (qR3) (fun _ _ _ h => h) (zM ⟨by rfl, ?_⟩) ?_ ?_
        rotate_left; exact qR2_c1; rotate_left; exact qR2_c0
        refine pure_ (i := 9) (N := some 24) (v := ?_) (a' := ?_) qRb21 rfl rfl (qR3) (fun _ _ _ h => h) (zM ⟨by rfl, ?_⟩) ?_ ?_
        rotate_left; exact qR2_c1; rotate_left; exact qR2_c0
        refine pure_ (i := 10) (N := some 25) (v := ?_) (a' := ?_) qRb22 rfl rfl (qR3) (fun _ _ _ h => h) (zM ⟨by rfl, ?_⟩) ?_ ?_
        rotate_left; exact qR2_c1; rotate_left; exact qR2_c0
        refine pure_ (i := 11) (N := some 26) (v := ?_) (a' := ?_) qRb23 rfl rfl (qR3) (fun _ _ _ h => h) (zM ⟨by rfl, ?_⟩) ?_ ?_
        rotate_left; exact qR2_c1; rotate_left; exact qR2_c0
        refine take_ (i := 12) (N := some 27) (v := ?_) (a' := ?_) qRb24 rfl rfl (take_ofW HT_.1 HW_.1 (qR8)) (fun _ _ _ h => h) (zM ⟨by rfl, ?_⟩) hHeld ?_ ?_
        rotate_left; exact qR2_c6; rotate_left; exact qR2_c0
        refine one_ (i := 13) (N := some 28) qRb25 rfl rfl (qR63) (by decide) (fun K hK => ?_)
        refine goes_ Try.func64 (qR8) rfl #[.int .i64 ((rd_T44 l0 x3_1).f2), .int .i64 (-1000), .int .i64 1000] (by rfl) rfl rfl (qR4) ?_
        with_reducible refine (spec_l1In.calls ((rd_T44 l0 x3_1).f2) (-1000) 1000 false _ A8.1).mono ?_
        rintro e w' ⟨rfl, ⟨nd, rfl⟩⟩
        refine ⟨_, rfl, ?_⟩
        refine hK.out _ _ ⟨(blk_cell BK126.1 0).trans rfl, (blk_cell BK126.1 1).trans rfl, (blk_cell BK126.1 2).trans rfl⟩ (fun hHeld => ?_)
        clear hK K
        refine norm_ (a' := ?_) ?_ ?_
        rotate_left
        ·exact qR2_c5
        refine pure_ (i := 14) (N := some 29) (v := ?_) (a' := ?_) qRb26 rfl rfl (qR3) (fun _ _ _ h => h) (zM ⟨by rfl, ?_⟩) ?_ ?_
        rotate_left; exact qR2_c1; rotate_left; exact qR2_c0
        refine pure_ (i := 15) (N := some 30) (v := ?_) (a' := ?_) qRb27 rfl rfl (qR3) (fun _ _ _ h => h) (zM ⟨by rfl, ?_⟩) ?_ ?_
        rotate_left; exact qR2_c1; rotate_left; exact qR2_c0
        refine pure_ (i := 16) (N := some 31) (v := ?_) (a' := ?_) qRb28 rfl rfl (qR3) (fun _ _ _ h => h) (zM ⟨by rfl, ?_⟩) ?_ ?_
        rotate_left; exact qR2_c1; rotate_left; exact qR2_c0
        refine pure_ (i := 17) (N := some 32) (v := undef) (a' := ?_) qRb29 rfl rfl (qR3) (fun _ _ _ h => h) (Or.inr ⟨by rfl, rfl⟩) ?_ ?_
        rotate_left
        ·exact qR2_c0
        refine pure_ (i := 18) (N := some 33) (v := undef) (a' := ?_) qRb30 rfl rfl (qR3) (fun _ _ _ h => h) (Or.inr ⟨by rfl, rfl⟩) ?_ ?_
        rotate_left
        ·exact qR2_c0
        refine pure_ (i := 19) (N := some 34) (v := undef) (a' := ?_) qRb31 rfl rfl (qR3) (fun _ _ _ h => h) (Or.inr ⟨by rfl, rfl⟩) ?_ ?_
        rotate_left
        ·exact qR2_c0
        refine pure_ (i := 20) (N := some 35) (v := undef) (a' := ?_) qRb32 rfl rfl (qR3) (fun _ _ _ h => h) (Or.inr ⟨by rfl, rfl⟩) ?_ ?_
        rotate_left
        ·exact qR2_c0
        refine pure_ (i := 21) (N := some 36) (v := undef) (a' := ?_) qRb33 rfl rfl (qR3) (fun _ _ _ h => h) (Or.inr ⟨by rfl, rfl⟩) ?_ ?_
        rotate_left
        ·exact qR2_c0
        refine pure_ (i := 22) (N := some 37) (v := undef) (a' := ?_) qRb34 rfl rfl (qR3) (fun _ _ _ h => h) (Or.inr ⟨by rfl, rfl⟩) ?_ ?_
        rotate_left
        ·exact qR2_c0
        refine pure_ (i := 23) (N := some 38) (v := undef) (a' := ?_) qRb35 rfl rfl (qR3) (fun _ _ _ h => h) (Or.inr ⟨by rfl, rfl⟩) ?_ ?_
        rotate_left
        ·exact qR2_c0
        refine pure_ (i := 24) (N := some 39) (v := undef) (a' := ?_) qRb36 rfl rfl (qR3) (fun _ _ _ h => h) (Or.inr ⟨by rfl, rfl⟩) ?_ ?_
        rotate_left
        ·exact qR2_c0
        refine pure_ (i := 25) (N := some 40) (v := undef) (a' := ?_) qRb43 rfl rfl (qR3) (fun _ _ _ h => h) (Or.inr ⟨by rfl, rfl⟩) ?_ ?_
        rotate_left
        ·exact qR2_c0
        refine pure_ (i := 26) (N := some 41) (v := undef) (a' := ?_) qRb38 rfl rfl (qR3) (fun _ _ _ h => h) (Or.inr ⟨by rfl, rfl⟩) ?_ ?_
        rotate_left
        ·exact qR2_c0
        refine pure_ (i := 27) (N := some 42) (v := undef) (a' := ?_) qRb39 rfl rfl (qR3) (fun _ _ _ h => h) (Or.inr ⟨by rfl, rfl⟩) ?_ ?_
        rotate_left
        ·exact qR2_c0
        refine pure_ (i := 28) (N := some 43) (v := undef) (a' := ?_) qRb40 rfl rfl (qR3) (fun _ _ _ h => h) (Or.inr ⟨by rfl, rfl⟩) ?_ ?_
        rotate_left
        ·exact qR2_c0
        refine pure_ (i := 29) (N := some 44) (v := undef) (a' := ?_) qRb41 rfl rfl (qR3) (fun _ _ _ h => h) (Or.inr ⟨by rfl, rfl⟩) ?_ ?_
        rotate_left
        ·exact qR2_c0
        refine pure_ (i := 30) (N := some 45) (v := ?_) (a' := ?_) qRb42 rfl rfl (qR3) (fun _ _ _ h => h) (zM ⟨by rfl, ?_⟩) ?_ ?_
        rotate_left; exact qR2_c1; rotate_left; exact qR2_c0
        refine done_ (qR68) ?_
        try go_wp2
        go_ret
        exact ⟨(qR9), (qR2 GE126.1)⟩
      ·replace c7 := zm c7; subst c7; rw [zQ (show ¬ (false = true) by decide)] at H; obtain rfl := zl H; have p125 : 0 ≤ (x3_1 : Int) := zb (qR6); have q125 : x3_1 < (l0.length : Int) := zb (qR6); obtain ⟨ad125, e125, hx125_0, hx125_1, hx125_2⟩ := at_T44 HR0.1 x3_1 p125 q125; cases e125; replace hx125_0 := (HB.1.cell (zd w _ hx125_0)).trans hx125_0; replace hx125_1 := (HB.1.cell (zd w _ hx125_1)).trans hx125_1; replace hx125_2 := (HB.1.cell (zd w _ hx125_2)).trans hx125_2; replace p125 := zt p125; replace q125 := zt q125
       try go_wp2_with (first | ((with_reducible refine zp (N := 4) rfl ?_); refine zw ?hg (N := 4) ?hd (cs := #[.string (⟨#[]⟩ : ByteArray), .int .i64 0, .int .i64 0]) (t := 44) ?hr ?_; (case hd | hg => rfl); (case hr => exact (qR16)); intro gb126 hg w31 hbox hb; have BK126 := za hbox; have GW126 := za qR65; have GE126 := za qR65; replace HB := za qR61; clear hb hbox hg; have hcz32_0 : w31.cell? ⟨gb126, 0, none⟩ = some (.string (⟨#[]⟩ : ByteArray)) := (blk_cell BK126.1 0).trans rfl; have hcz32_1 : w31.cell? ⟨gb126, 1, none⟩ = some (.int .i64 0) := (blk_cell BK126.1 1).trans rfl; have hcz32_2 : w31.cell? ⟨gb126, 2, none⟩ = some (.int .i64 0) := (blk_cell BK126.1 2).trans rfl; have hfz32_0 := ze BK126.1 0; have hfz32_1 := ze BK126.1 1; have hfz32_2 := ze BK126.1 2))
       have n0_ : Aside0 ((((w31.setCell ⟨gb126, 0, none⟩ (.string ((rd_T44 l0 x3_1).f0))).setCell ⟨gb126, 1, none⟩ (.int .i64 ((rd_T44 l0 x3_1).f1))).setCell ⟨gb126, 2, none⟩ (.int .i64 ((rd_T44 l0 x3_1).f2))).heap[gb126]? = some (.cells #[.string ((rd_T44 l0 x3_1).f0), .int .i64 ((rd_T44 l0 x3_1).f1), .int .i64 ((rd_T44 l0 x3_1).f2)] 44 (0, 0))) := ⟨(qR11)⟩; have n1_ : Aside0 (Below w.heap.size w (((w31.setCell ⟨gb126, 0, none⟩ (.string ((rd_T44 l0 x3_1).f0))).setCell ⟨gb126, 1, none⟩ (.int .i64 ((rd_T44 l0 x3_1).f1))).setCell ⟨gb126, 2, none⟩ (.int .i64 ((rd_T44 l0 x3_1).f2)))) := ⟨(qR2 GE126.1)⟩
       (try clear BK126)
       (try clear HB)
       generalize (((w31.setCell ⟨gb126, 0, none⟩ (.string ((rd_T44 l0 x3_1).f0))).setCell ⟨gb126, 1, none⟩ (.int .i64 ((rd_T44 l0 x3_1).f1))).setCell ⟨gb126, 2, none⟩ (.int .i64 ((rd_T44 l0 x3_1).f2))) = w33 at n0_ n1_ ⊢
       have BK126 := n0_; have HB := n1_; clear n0_ n1_; replace BK126 := za (zh BK126.1); replace HB := za (below_drew1 HB.1)
       refine start_ (n := 31) (S := fun w' => w'.cell? ⟨gb126, 0, none⟩ = some (.string ((rd_T44 l0 x3_1).f0)) ∧ w'.cell? ⟨gb126, 1, none⟩ = some (.int .i64 ((rd_T44 l0 x3_1).f1)) ∧ w'.cell? ⟨gb126, 2, none⟩ = some (.int .i64 ((rd_T44 l0 x3_1).f2))) (ds := []) qRb11 (qR8) rfl rfl ⟨(blk_cell BK126.1 0).trans rfl, (blk_cell BK126.1 1).trans rfl, (blk_cell BK126.1 2).trans rfl⟩ (fun hHeld => ?_); refine with_tabW spec_l13Good.tab5 spec_l13Good.bits5 (fun HT_ HW_ => ?_)
       generalize w33.drew = w34 at BK126 HB hHeld ⊢
       refine pure_ (i := 0) (N := some 15) (v := ?_) (a' := ?_) qRb12 rfl rfl (qR3) (fun _ _ _ h => h) (zM ⟨by rfl, ?_⟩) ?_ ?_
       rotate_left; exact qR2_c1; rotate_left; exact qR2_c0
       refine take_ (i := 1) (N := some 16) (v := ?_) (a' := ?_) qRb13 rfl rfl (take_ofW HT_.1 HW_.1 (qR8)) (fun _ _ _ h => h) (zM ⟨by rfl, ?_⟩) hHeld ?_ ?_
       rotate_left; exact qR2_c6; rotate_left; exact qR2_c0
       refine one_ (i := 2) (N := some 17) qRb14 rfl rfl (qR63) (by decide) (fun K hK => ?_)
       refine goes_ Try.func68 (qR8) rfl #[.string ((rd_T44 l0 x3_1).f0)] (by rfl) rfl rfl (qR4) ?_
       with_reducible refine (spec_l13Letter.calls ((rd_T44 l0 x3_1).f0) true _ A4.1).mono ?_
       rintro e w' ⟨rfl, ⟨nd, rfl⟩⟩
       refine ⟨_, rfl, ?_⟩
       refine hK.out _ _ ⟨(blk_cell BK126.1 0).trans rfl, (blk_cell BK126.1 1).trans rfl, (blk_cell BK126.1 2).trans rfl⟩ (fun hHeld => ?_)
       clear hK K
       refine norm_ (a' := ?_) ?_ ?_
       rotate_left
       ·exact qR2_c2
       refine pure_ (i := 3) (N := some 18) (v := ?_) (a' := ?_) qRb15 rfl rfl (qR3) (fun _ _ _ h => h) (zM ⟨by rfl, ?_⟩) ?_ ?_
       rotate_left; exact qR2_c1; rotate_left; exact qR2_c0
       refine pure_ (i := 4) (N := some 19) (v := ?_) (a' := ?_) qRb16 rfl rfl (qR3) (fun _ _ _ h => h) (zM ⟨by rfl, ?_⟩) ?_ ?_
       rotate_left; exact qR2_c1; rotate_left; exact qR2_c0
       refine pure_ (i := 5) (N := some 20) (v := ?_) (a' := ?_) qRb17 rfl rfl (qR3) (fun _ _ _ h => h) (zM ⟨by rfl, ?_⟩) ?_ ?_
       rotate_left; exact qR2_c1; rotate_left; exact qR2_c0
       refine take_ (i := 6) (N := some 21) (v := ?_) (a' := ?_) qRb18 rfl rfl (take_ofW HT_.1 HW_.1 (qR8)) (fun _ _ _ h => h) (zM ⟨by rfl, ?_⟩) hHeld ?_ ?_
       rotate_left; exact qR2_c6; rotate_left; exact qR2_c0
       refine one_ (i := 7) (N := some 22) qRb19 rfl rfl (qR63) (by decide) (fun K hK => ?_)
       refine goes_ Try.func64 (qR8) rfl #[.int .i64 ((rd_T44 l0 x3_1).f1), .int .i64 (-1000), .int .i64 1000] (by rfl) rfl rfl (qR4) ?_
       with_reducible refine (spec_l1In.calls ((rd_T44 l0 x3_1).f1) (-1000) 1000 false _ A6.1).mono ?_
       rintro e w' ⟨rfl, ⟨nd, rfl⟩⟩
       refine ⟨_, rfl, ?_⟩
       refine hK.out _ _ ⟨(blk_cell BK126.1 0).trans rfl, (blk_cell BK126.1 1).trans rfl, (blk_cell BK126.1 2).trans rfl⟩ (fun hHeld => ?_)
       clear hK K
       refine norm_ (a' := ?_) ?_ ?_
       rotate_left
       ·exact qR2_c3
       refine pure_ (i := 8) (N := some 23) (v := ?_) (a' := ?_) qRb20 rfl rfl (qR3) (fun _ _ _ h => h) (zM ⟨by rfl, ?_⟩) ?_ ?_
       rotate_left; exact qR2_c1; rotate_left; exact qR2_c0
       refine pure_ (i := 9) (N := some 24) (v := ?_) (a' := ?_) qRb21 rfl rfl (qR3) (fun _ _ _ h => h) (zM ⟨by rfl, ?_⟩) ?_ ?_
       rotate_left; exact qR2_c1; rotate_left; exact qR2_c0
       refine pure_ (i := 10) (N := some 25) (v := ?_) (a' := ?_) qRb22 rfl rfl (qR3) (fun _ _ _ h => h) (zM ⟨by rfl, ?_⟩) ?_ ?_
       rotate_left; exact qR2_c1; rotate_left; exact qR2_c0
       refine pure_ (i := 11) (N := some 26) (v := undef) (a' := ?_) qRb23 rfl rfl (qR3) (fun _ _ _ h => h) (Or.inr ⟨by rfl, rfl⟩) ?_ ?_
       rotate_left
       ·exact qR2_c0
       refine pure_ (i := 12) (N := some 27) (v := undef) (a' := ?_) qRb24 rfl rfl (qR3) (fun _ _ _ h => h) (Or.inr ⟨by rfl, rfl⟩) ?_ ?_
       rotate_left
       ·exact qR2_c0
       refine pure_ (i := 13) (N := some 28) (v := undef) (a' := ?_) qRb25 rfl rfl (qR3) (fun _ _ _ h => h) (Or.inr ⟨by rfl, rfl⟩) ?_ ?_
       rotate_left
       ·exact qR2_c0
       refine pure_ (i := 14) (N := some 29) (v := undef) (a' := ?_) qRb26 rfl rfl (qR3) (fun _ _ _ h => h) (Or.inr ⟨by rfl, rfl⟩) ?_ ?_
       rotate_left
       ·exact qR2_c0
       refine pure_ (i := 15) (N := some 30) (v := ?_) (a' := ?_) qRb27 rfl rfl (qR3) (fun _ _ _ h => h) (zM ⟨by rfl, ?_⟩) ?_ ?_
       rotate_left; exact qR2_c1; rotate_left; exact qR2_c0
       refine pure_ (i := 16) (N := some 31) (v := ?_) (a' := ?_) qRb28 rfl rfl (qR3) (fun _ _ _ h => h) (zM ⟨by rfl, ?_⟩) ?_ ?_
       rotate_left; exact qR2_c1; rotate_left; exact qR2_c0
       refine pure_ (i := 17) (N := some 32) (v := undef) (a' := ?_) qRb29 rfl rfl (qR3) (fun _ _ _ h => h) (Or.inr ⟨by rfl, rfl⟩) ?_ ?_
       rotate_left
       ·exact qR2_c0
       refine pure_ (i := 18) (N := some 33) (v := undef) (a' := ?_) qRb30 rfl rfl (qR3) (fun _ _ _ h => h) (Or.inr ⟨by rfl, rfl⟩) ?_ ?_
       rotate_left
       ·exact qR2_c0
       refine pure_ (i := 19) (N := some 34) (v := undef) (a' := ?_) qRb31 rfl rfl (qR3) (fun _ _ _ h => h) (Or.inr ⟨by rfl, rfl⟩) ?_ ?_
       rotate_left
       ·exact qR2_c0
       refine pure_ (i := 20) (N := some 35) (v := undef) (a' := ?_) qRb32 rfl rfl (qR3) (fun _ _ _ h => h) (Or.inr ⟨by rfl, rfl⟩) ?_ ?_
       rotate_left
       ·exact qR2_c0
       refine pure_ (i := 21) (N := some 36) (v := undef) (a' := ?_) qRb33 rfl rfl (qR3) (fun _ _ _ h => h) (Or.inr ⟨by rfl, rfl⟩) ?_ ?_
       rotate_left
       ·exact qR2_c0
       refine pure_ (i := 22) (N := some 37) (v := undef) (a' := ?_) qRb34 rfl rfl (qR3) (fun _ _ _ h => h) (Or.inr ⟨by rfl, rfl⟩) ?_ ?_
       rotate_left
       ·exact qR2_c0
       refine pure_ (i := 23) (N := some 38) (v := undef) (a' := ?_) qRb35 rfl rfl (qR3) (fun _ _ _ h => h) (Or.inr ⟨by rfl, rfl⟩) ?_ ?_
       rotate_left
       ·exact qR2_c0
       refine pure_ (i := 24) (N := some 39) (v := undef) (a' := ?_) qRb36 rfl rfl (qR3) (fun _ _ _ h => h) (Or.inr ⟨by rfl, rfl⟩) ?_ ?_
       rotate_left
       ·exact qR2_c0
       refine pure_ (i := 25) (N := some 40) (v := undef) (a' := ?_) qRb43 rfl rfl (qR3) (fun _ _ _ h => h) (Or.inr ⟨by rfl, rfl⟩) ?_ ?_
       rotate_left
       ·exact qR2_c0
       refine pure_ (i := 26) (N := some 41) (v := undef) (a' := ?_) qRb38 rfl rfl (qR3) (fun _ _ _ h => h) (Or.inr ⟨by rfl, rfl⟩) ?_ ?_
       rotate_left
       ·exact qR2_c0
       refine pure_ (i := 27) (N := some 42) (v := undef) (a' := ?_) qRb39 rfl rfl (qR3) (fun _ _ _ h => h) (Or.inr ⟨by rfl, rfl⟩) ?_ ?_
       rotate_left
       ·exact qR2_c0
       refine pure_ (i := 28) (N := some 43) (v := undef) (a' := ?_) qRb40 rfl rfl (qR3) (fun _ _ _ h => h) (Or.inr ⟨by rfl, rfl⟩) ?_ ?_
       rotate_left
       ·exact qR2_c0
       refine pure_ (i := 29) (N := some 44) (v := undef) (a' := ?_) qRb41 rfl rfl (qR3) (fun _ _ _ h => h) (Or.inr ⟨by rfl, rfl⟩) ?_ ?_
       rotate_left
       ·exact qR2_c0
       refine pure_ (i := 30) (N := some 45) (v := ?_) (a' := ?_) qRb42 rfl rfl (qR3) (fun _ _ _ h => h) (zM ⟨by rfl, ?_⟩) ?_ ?_
       rotate_left; exact qR2_c1; rotate_left; exact qR2_c0
       refine done_ (qR68) ?_
       try go_wp2
       go_ret
       exact ⟨(qR9), (qR2 GE126.1)⟩
     ·replace c5 := zm c5; subst c5; rw [zQ (show ¬ (false = true) by decide)] at H; obtain rfl := zl H; have p125 : 0 ≤ (x3_1 : Int) := zb (qR6); have q125 : x3_1 < (l0.length : Int) := zb (qR6); obtain ⟨ad125, e125, hx125_0, hx125_1, hx125_2⟩ := at_T44 HR0.1 x3_1 p125 q125; cases e125; replace hx125_0 := (HB.1.cell (zd w _ hx125_0)).trans hx125_0; replace hx125_1 := (HB.1.cell (zd w _ hx125_1)).trans hx125_1; replace hx125_2 := (HB.1.cell (zd w _ hx125_2)).trans hx125_2; replace p125 := zt p125; replace q125 := zt q125
      try go_wp2_with (first | ((with_reducible refine zp (N := 4) rfl ?_); refine zw ?hg (N := 4) ?hd (cs := #[.string (⟨#[]⟩ : ByteArray), .int .i64 0, .int .i64 0]) (t := 44) ?hr ?_; (case hd | hg => rfl); (case hr => exact (qR16)); intro gb126 hg w35 hbox hb; have BK126 := za hbox; have GW126 := za qR65; have GE126 := za qR65; replace HB := za qR61; clear hb hbox hg; have hcz36_0 : w35.cell? ⟨gb126, 0, none⟩ = some (.string (⟨#[]⟩ : ByteArray)) := (blk_cell BK126.1 0).trans rfl; have hcz36_1 : w35.cell? ⟨gb126, 1, none⟩ = some (.int .i64 0) := (blk_cell BK126.1 1).trans rfl; have hcz36_2 : w35.cell? ⟨gb126, 2, none⟩ = some (.int .i64 0) := (blk_cell BK126.1 2).trans rfl; have hfz36_0 := ze BK126.1 0; have hfz36_1 := ze BK126.1 1; have hfz36_2 := ze BK126.1 2))
      have n0_ : Aside0 ((((w35.setCell ⟨gb126, 0, none⟩ (.string ((rd_T44 l0 x3_1).f0))).setCell ⟨gb126, 1, none⟩ (.int .i64 ((rd_T44 l0 x3_1).f1))).setCell ⟨gb126, 2, none⟩ (.int .i64 ((rd_T44 l0 x3_1).f2))).heap[gb126]? = some (.cells #[.string ((rd_T44 l0 x3_1).f0), .int .i64 ((rd_T44 l0 x3_1).f1), .int .i64 ((rd_T44 l0 x3_1).f2)] 44 (0, 0))) := ⟨(qR11)⟩; have n1_ : Aside0 (Below w.heap.size w (((w35.setCell ⟨gb126, 0, none⟩ (.string ((rd_T44 l0 x3_1).f0))).setCell ⟨gb126, 1, none⟩ (.int .i64 ((rd_T44 l0 x3_1).f1))).setCell ⟨gb126, 2, none⟩ (.int .i64 ((rd_T44 l0 x3_1).f2)))) := ⟨(qR2 GE126.1)⟩
      (try clear BK126)
      (try clear HB)
      generalize (((w35.setCell ⟨gb126, 0, none⟩ (.string ((rd_T44 l0 x3_1).f0))).setCell ⟨gb126, 1, none⟩ (.int .i64 ((rd_T44 l0 x3_1).f1))).setCell ⟨gb126, 2, none⟩ (.int .i64 ((rd_T44 l0 x3_1).f2))) = w37 at n0_ n1_ ⊢
      have BK126 := n0_; have HB := n1_; clear n0_ n1_; replace BK126 := za (zh BK126.1); replace HB := za (below_drew1 HB.1)
      refine start_ (n := 31) (S := fun w' => w'.cell? ⟨gb126, 0, none⟩ = some (.string ((rd_T44 l0 x3_1).f0)) ∧ w'.cell? ⟨gb126, 1, none⟩ = some (.int .i64 ((rd_T44 l0 x3_1).f1)) ∧ w'.cell? ⟨gb126, 2, none⟩ = some (.int .i64 ((rd_T44 l0 x3_1).f2))) (ds := []) qRb11 (qR8) rfl rfl ⟨(blk_cell BK126.1 0).trans rfl, (blk_cell BK126.1 1).trans rfl, (blk_cell BK126.1 2).trans rfl⟩ (fun hHeld => ?_); refine with_tabW spec_l13Good.tab5 spec_l13Good.bits5 (fun HT_ HW_ => ?_)
      generalize w37.drew = w38 at BK126 HB hHeld ⊢
      refine pure_ (i := 0) (N := some 15) (v := ?_) (a' := ?_) qRb12 rfl rfl (qR3) (fun _ _ _ h => h) (zM ⟨by rfl, ?_⟩) ?_ ?_
      rotate_left; exact qR2_c1; rotate_left; exact qR2_c0
      refine take_ (i := 1) (N := some 16) (v := ?_) (a' := ?_) qRb13 rfl rfl (take_ofW HT_.1 HW_.1 (qR8)) (fun _ _ _ h => h) (zM ⟨by rfl, ?_⟩) hHeld ?_ ?_
      rotate_left; exact qR2_c6; rotate_left; exact qR2_c0
      refine one_ (i := 2) (N := some 17) qRb14 rfl rfl (qR63) (by decide) (fun K hK => ?_)
      refine goes_ Try.func68 (qR8) rfl #[.string ((rd_T44 l0 x3_1).f0)] (by rfl) rfl rfl (qR4) ?_
      with_reducible refine (spec_l13Letter.calls ((rd_T44 l0 x3_1).f0) false _ A4.1).mono ?_
      rintro e w' ⟨rfl, ⟨nd, rfl⟩⟩
      refine ⟨_, rfl, ?_⟩
      refine hK.out _ _ ⟨(blk_cell BK126.1 0).trans rfl, (blk_cell BK126.1 1).trans rfl, (blk_cell BK126.1 2).trans rfl⟩ (fun hHeld => ?_)
      clear hK K
      refine norm_ (a' := ?_) ?_ ?_
      rotate_left
      ·exact qR2_c2
      refine pure_ (i := 3) (N := some 18) (v := ?_) (a' := ?_) qRb15 rfl rfl (qR3) (fun _ _ _ h => h) (zM ⟨by rfl, ?_⟩) ?_ ?_
      rotate_left; exact qR2_c1; rotate_left; exact qR2_c0
      refine pure_ (i := 4) (N := some 19) (v := ?_) (a' := ?_) qRb16 rfl rfl (qR3) (fun _ _ _ h => h) (zM ⟨by rfl, ?_⟩) ?_ ?_
      rotate_left; exact qR2_c1; rotate_left; exact qR2_c0
      refine pure_ (i := 5) (N := some 20) (v := undef) (a' := ?_) qRb17 rfl rfl (qR3) (fun _ _ _ h => h) (Or.inr ⟨by rfl, rfl⟩) ?_ ?_
      rotate_left
      ·exact qR2_c0
      refine pure_ (i := 6) (N := some 21) (v := undef) (a' := ?_) qRb18 rfl rfl (qR3) (fun _ _ _ h => h) (Or.inr ⟨by rfl, rfl⟩) ?_ ?_
      rotate_left
      ·exact qR2_c0
      refine pure_ (i := 7) (N := some 22) (v := undef) (a' := ?_) qRb19 rfl rfl (qR3) (fun _ _ _ h => h) (Or.inr ⟨by rfl, rfl⟩) ?_ ?_
      rotate_left
      ·exact qR2_c0
      refine pure_ (i := 8) (N := some 23) (v := undef) (a' := ?_) qRb20 rfl rfl (qR3) (fun _ _ _ h => h) (Or.inr ⟨by rfl, rfl⟩) ?_ ?_
      rotate_left
      ·exact qR2_c0
      refine pure_ (i := 9) (N := some 24) (v := ?_) (a' := ?_) qRb21 rfl rfl (qR3) (fun _ _ _ h => h) (zM ⟨by rfl, ?_⟩) ?_ ?_
      rotate_left; exact qR2_c1; rotate_left; exact qR2_c0
      refine pure_ (i := 10) (N := some 25) (v := ?_) (a' := ?_) qRb22 rfl rfl (qR3) (fun _ _ _ h => h) (zM ⟨by rfl, ?_⟩) ?_ ?_
      rotate_left; exact qR2_c1; rotate_left; exact qR2_c0
      refine pure_ (i := 11) (N := some 26) (v := undef) (a' := ?_) qRb23 rfl rfl (qR3) (fun _ _ _ h => h) (Or.inr ⟨by rfl, rfl⟩) ?_ ?_
      rotate_left
      ·exact qR2_c0
      refine pure_ (i := 12) (N := some 27) (v := undef) (a' := ?_) qRb24 rfl rfl (qR3) (fun _ _ _ h => h) (Or.inr ⟨by rfl, rfl⟩) ?_ ?_
      rotate_left
      ·exact qR2_c0
      refine pure_ (i := 13) (N := some 28) (v := undef) (a' := ?_) qRb25 rfl rfl (qR3) (fun _ _ _ h => h) (Or.inr ⟨by rfl, rfl⟩) ?_ ?_
      rotate_left
      ·exact qR2_c0
      refine pure_ (i := 14) (N := some 29) (v := undef) (a' := ?_) qRb26 rfl rfl (qR3) (fun _ _ _ h => h) (Or.inr ⟨by rfl, rfl⟩) ?_ ?_
      rotate_left
      ·exact qR2_c0
      refine pure_ (i := 15) (N := some 30) (v := ?_) (a' := ?_) qRb27 rfl rfl (qR3) (fun _ _ _ h => h) (zM ⟨by rfl, ?_⟩) ?_ ?_
      rotate_left; exact qR2_c1; rotate_left; exact qR2_c0
      refine pure_ (i := 16) (N := some 31) (v := ?_) (a' := ?_) qRb28 rfl rfl (qR3) (fun _ _ _ h => h) (zM ⟨by rfl, ?_⟩) ?_ ?_
      rotate_left; exact qR2_c1; rotate_left; exact qR2_c0
      refine pure_ (i := 17) (N := some 32) (v := undef) (a' := ?_) qRb29 rfl rfl (qR3) (fun _ _ _ h => h) (Or.inr ⟨by rfl, rfl⟩) ?_ ?_
      rotate_left
      ·exact qR2_c0
      refine pure_ (i := 18) (N := some 33) (v := undef) (a' := ?_) qRb30 rfl rfl (qR3) (fun _ _ _ h => h) (Or.inr ⟨by rfl, rfl⟩) ?_ ?_
      rotate_left
      ·exact qR2_c0
      refine pure_ (i := 19) (N := some 34) (v := undef) (a' := ?_) qRb31 rfl rfl (qR3) (fun _ _ _ h => h) (Or.inr ⟨by rfl, rfl⟩) ?_ ?_
      rotate_left
      ·exact qR2_c0
      refine pure_ (i := 20) (N := some 35) (v := undef) (a' := ?_) qRb32 rfl rfl (qR3) (fun _ _ _ h => h) (Or.inr ⟨by rfl, rfl⟩) ?_ ?_
      rotate_left
      ·exact qR2_c0
      refine pure_ (i := 21) (N := some 36) (v := undef) (a' := ?_) qRb33 rfl rfl (qR3) (fun _ _ _ h => h) (Or.inr ⟨by rfl, rfl⟩) ?_ ?_
      rotate_left
      ·exact qR2_c0
      refine pure_ (i := 22) (N := some 37) (v := undef) (a' := ?_) qRb34 rfl rfl (qR3) (fun _ _ _ h => h) (Or.inr ⟨by rfl, rfl⟩) ?_ ?_
      rotate_left
      ·exact qR2_c0
      refine pure_ (i := 23) (N := some 38) (v := undef) (a' := ?_) qRb35 rfl rfl (qR3) (fun _ _ _ h => h) (Or.inr ⟨by rfl, rfl⟩) ?_ ?_
      rotate_left
      ·exact qR2_c0
      refine pure_ (i := 24) (N := some 39) (v := undef) (a' := ?_) qRb36 rfl rfl (qR3) (fun _ _ _ h => h) (Or.inr ⟨by rfl, rfl⟩) ?_ ?_
      rotate_left
      ·exact qR2_c0
      refine pure_ (i := 25) (N := some 40) (v := undef) (a' := ?_) qRb43 rfl rfl (qR3) (fun _ _ _ h => h) (Or.inr ⟨by rfl, rfl⟩) ?_ ?_
      rotate_left
      ·exact qR2_c0
      refine pure_ (i := 26) (N := some 41) (v := undef) (a' := ?_) qRb38 rfl rfl (qR3) (fun _ _ _ h => h) (Or.inr ⟨by rfl, rfl⟩) ?_ ?_
      rotate_left
      ·exact qR2_c0
      refine pure_ (i := 27) (N := some 42) (v := undef) (a' := ?_) qRb39 rfl rfl (qR3) (fun _ _ _ h => h) (Or.inr ⟨by rfl, rfl⟩) ?_ ?_
      rotate_left
      ·exact qR2_c0
      refine pure_ (i := 28) (N := some 43) (v := undef) (a' := ?_) qRb40 rfl rfl (qR3) (fun _ _ _ h => h) (Or.inr ⟨by rfl, rfl⟩) ?_ ?_
      rotate_left
      ·exact qR2_c0
      refine pure_ (i := 29) (N := some 44) (v := undef) (a' := ?_) qRb41 rfl rfl (qR3) (fun _ _ _ h => h) (Or.inr ⟨by rfl, rfl⟩) ?_ ?_
      rotate_left
      ·exact qR2_c0
      refine pure_ (i := 30) (N := some 45) (v := ?_) (a' := ?_) qRb42 rfl rfl (qR3) (fun _ _ _ h => h) (zM ⟨by rfl, ?_⟩) ?_ ?_
      rotate_left; exact qR2_c1; rotate_left; exact qR2_c0
      refine done_ (qR68) ?_
      try go_wp2
      go_ret
      exact ⟨(qR9), (qR2 GE126.1)⟩
    ·rw [zQ c3] at H
     exact zF H (by simp)
   ·rw [zQ c2] at H; have c2b0 : decide (x3_1 < (l0.length : Int)) = false := zs c2; clear c2; obtain rfl := zl H
    go_wp2
    go_ret
    exact ⟨(qR9), (qR0)⟩
set_option maxHeartbeats 8000000
set_option maxRecDepth 100000

def spec_l13Fits.f (k : Nat) (l0 : List (S44)) (a1 : Int) : Option (Bool) := (spec_l13Good.f k l0).bind fun t131 => (if t131 = true then ((spec_l1In.f a1 1 500).bind fun t132 => (if t132 = true then (if (l0.length : Int) = 0 then (some false) else ((spec_l13Bounds.f k l0 a1).bind fun bt133 => (if (wrap64 (bt133.2.1 - bt133.1)) < 20 then (some (decide ((wrap64 (bt133.2.2.2 - bt133.2.2.1)) < 20))) else (some false)))) else (some false))) else (some false))
theorem spec_l13Fits.calls (k : Nat) (A0 : Option Addr) (c0 : Nat) (l0 : List (S44)) (a1 : Int) (r : Bool) (w : World) (hr0 : Kd.C k44 w A0 l0.length l0) (hc0 : l0.length ≤ c0) (h : spec_l13Fits.f k l0 a1 = some r) :
  Calls Try.prog 44 #[.slice A0 l0.length c0, .int .i64 a1] w fun e w' => e = .returned (.bool r) ∧ Below w.heap.size w w' := by
 have HR0 := za hr0; have HC0 := za hc0; clear hr0 hc0; have HB := za (zq w.heap.size w); have H : ((spec_l13Good.f k l0).bind fun t131 => (if t131 = true then ((spec_l1In.f a1 1 500).bind fun t132 => (if t132 = true then (if (l0.length : Int) = 0 then (some false) else ((spec_l13Bounds.f k l0 a1).bind fun bt133 => (if (wrap64 (bt133.2.1 - bt133.1)) < 20 then (some (decide ((wrap64 (bt133.2.2.2 - bt133.2.2.1)) < 20))) else (some false)))) else (some false))) else (some false))) = some r := h; clear h; replace H := bindA H; obtain ⟨t131, A3, H⟩ := H; (try dsimp only at H)
 by_cases c4 : t131 = true
 ·subst c4; rw [zP rfl] at H; replace H := bindA H; obtain ⟨t132, A5, H⟩ := H; (try dsimp only at H)
  by_cases c6 : t132 = true
  ·subst c6; rw [zP rfl] at H
   by_cases c7 : (l0.length : Int) = 0
   ·rw [zP c7] at H; have c7b0 : ((l0.length : Int) == 0) = true := zH c7; have c7b1 : ((l0.length : Int) != 0) = false := zv c7; clear c7; obtain rfl := zl H
    go_enter Try.func44, Try.ntmps44
    go_wp2_with (first | ((with_reducible refine zo (f := 63) rfl ?_); refine zJ (some 10) rfl rfl Try.func63 (qR8) rfl #[.slice A0 l0.length c0] rfl (qR4) ?_; (with_reducible refine (spec_l13Good.calls k _ _ l0 true _ ?s1 ?s2 A3.1).mono ?_); (case s1 => exact (qR25)); (case s2 => exact HC0.1); rintro e w8 ⟨rfl, hb⟩; refine ⟨_, rfl, ?_⟩; replace HB := za qR61; clear hb) | (go_at_call 64; (with_reducible refine (spec_l1In.calls a1 1 500 true _ A5.1).mono ?_); rintro e w' ⟨rfl, ⟨nd, rfl⟩⟩))
    go_ret
    exact ⟨(qR9), (qR0)⟩
   ·rw [zQ c7] at H; have c7b0 : ((l0.length : Int) == 0) = false := zu c7; have c7b1 : ((l0.length : Int) != 0) = true := zI c7; have c7b2 : ¬ (l0 = []) := fun h_ => c7 (by rw [h_]; rfl); replace H := bindA H; obtain ⟨⟨t133, t134, t135, t136⟩, A9, H⟩ := H; (try dsimp only at H)
    by_cases c10 : (wrap64 (t134 - t133)) < 20
    ·rw [zP c10] at H; have c10b0 : decide ((wrap64 (t134 - t133)) < 20) = true := zc c10; clear c10; obtain rfl := zl H
     go_enter Try.func44, Try.ntmps44
     go_wp2_with (first | ((with_reducible refine zo (f := 63) rfl ?_); refine zJ (some 10) rfl rfl Try.func63 (qR8) rfl #[.slice A0 l0.length c0] rfl (qR4) ?_; (with_reducible refine (spec_l13Good.calls k _ _ l0 true _ ?s1 ?s2 A3.1).mono ?_); (case s1 => exact (qR25)); (case s2 => exact HC0.1); rintro e w11 ⟨rfl, hb⟩; refine ⟨_, rfl, ?_⟩; replace HB := za qR61; clear hb) | (go_at_call 64; (with_reducible refine (spec_l1In.calls a1 1 500 true _ A5.1).mono ?_); rintro e w' ⟨rfl, ⟨nd, rfl⟩⟩) | ((with_reducible refine zo (f := 45) rfl ?_); refine zJ (some 25) rfl rfl Try.func45 (qR8) rfl #[.slice A0 l0.length c0, .int .i64 a1] rfl (qR4) ?_; (with_reducible refine (spec_l13Bounds.calls k _ _ l0 a1 t133 t134 t135 t136 _ ?s1 ?s2 A9.1).mono ?_); (case s1 => exact (qR79)); (case s2 => exact HC0.1); rintro e w' ⟨rfl, ⟨nd, rfl⟩⟩; refine ⟨_, rfl, ?_⟩))
     go_ret
     exact ⟨(qR9), (qR0)⟩
    ·rw [zQ c10] at H; have c10b0 : decide ((wrap64 (t134 - t133)) < 20) = false := zs c10; clear c10; obtain rfl := zl H
     go_enter Try.func44, Try.ntmps44
     go_wp2_with (first | ((with_reducible refine zo (f := 63) rfl ?_); refine zJ (some 10) rfl rfl Try.func63 (qR8) rfl #[.slice A0 l0.length c0] rfl (qR4) ?_; (with_reducible refine (spec_l13Good.calls k _ _ l0 true _ ?s1 ?s2 A3.1).mono ?_); (case s1 => exact (qR25)); (case s2 => exact HC0.1); rintro e w12 ⟨rfl, hb⟩; refine ⟨_, rfl, ?_⟩; replace HB := za qR61; clear hb) | (go_at_call 64; (with_reducible refine (spec_l1In.calls a1 1 500 true _ A5.1).mono ?_); rintro e w' ⟨rfl, ⟨nd, rfl⟩⟩) | ((with_reducible refine zo (f := 45) rfl ?_); refine zJ (some 25) rfl rfl Try.func45 (qR8) rfl #[.slice A0 l0.length c0, .int .i64 a1] rfl (qR4) ?_; (with_reducible refine (spec_l13Bounds.calls k _ _ l0 a1 t133 t134 t135 t136 _ ?s1 ?s2 A9.1).mono ?_); (case s1 => exact (qR79)); (case s2 => exact HC0.1); rintro e w' ⟨rfl, ⟨nd, rfl⟩⟩; refine ⟨_, rfl, ?_⟩))
     go_ret
     exact ⟨(qR9), (qR0)⟩
  ·replace c6 := zm c6; subst c6; rw [zQ (show ¬ (false = true) by decide)] at H; obtain rfl := zl H
   go_enter Try.func44, Try.ntmps44
   go_wp2_with (first | ((with_reducible refine zo (f := 63) rfl ?_); refine zJ (some 10) rfl rfl Try.func63 (qR8) rfl #[.slice A0 l0.length c0] rfl (qR4) ?_; (with_reducible refine (spec_l13Good.calls k _ _ l0 true _ ?s1 ?s2 A3.1).mono ?_); (case s1 => exact (qR25)); (case s2 => exact HC0.1); rintro e w13 ⟨rfl, hb⟩; refine ⟨_, rfl, ?_⟩; replace HB := za qR61; clear hb) | (go_at_call 64; (with_reducible refine (spec_l1In.calls a1 1 500 false _ A5.1).mono ?_); rintro e w' ⟨rfl, ⟨nd, rfl⟩⟩))
   go_ret
   exact ⟨(qR9), (qR0)⟩
 ·replace c4 := zm c4; subst c4; rw [zQ (show ¬ (false = true) by decide)] at H; obtain rfl := zl H
  go_enter Try.func44, Try.ntmps44
  go_wp2_with (first | ((with_reducible refine zo (f := 63) rfl ?_); refine zJ (some 10) rfl rfl Try.func63 (qR8) rfl #[.slice A0 l0.length c0] rfl (qR4) ?_; (with_reducible refine (spec_l13Good.calls k _ _ l0 false _ ?s1 ?s2 A3.1).mono ?_); (case s1 => exact (qR25)); (case s2 => exact HC0.1); rintro e w14 ⟨rfl, hb⟩; refine ⟨_, rfl, ?_⟩; replace HB := za qR61; clear hb))
  go_ret
  exact ⟨(qR9), (qR0)⟩

def spec_l13At.l0 : Nat → List (S44) → Int → Int → Int → Int → Option (ByteArray)
 | 0, _, _, _, _, _ => none
 | k + 1, x0, x1, x2, x3, x9 => if x9 < (x0.length : Int) then (if 0 ≤ x9 then ((spec_l13Square.f ((rd_T44 x0 x9).f1) x1).bind fun t138 => (if t138 = x2 then ((spec_l13Square.f ((rd_T44 x0 x9).f2) x1).bind fun t140 => (if t140 = x3 then (some ((rd_T44 x0 x9).f0)) else (spec_l13At.l0 k x0 x1 x2 x3 (wrap64 (x9 + 1))))) else (spec_l13At.l0 k x0 x1 x2 x3 (wrap64 (x9 + 1))))) else (none)) else (some (⟨#[46]⟩ : ByteArray))
def spec_l13At.f (k : Nat) (l0 : List (S44)) (a1 : Int) (a2 : Int) (a3 : Int) : Option (ByteArray) := spec_l13At.l0 k l0 a1 a2 a3 0
theorem spec_l13At.calls (k : Nat) (A0 : Option Addr) (c0 : Nat) (l0 : List (S44)) (a1 : Int) (a2 : Int) (a3 : Int) (r : ByteArray) (w : World) (hr0 : Kd.C k44 w A0 l0.length l0) (hc0 : l0.length ≤ c0) (h : spec_l13At.f k l0 a1 a2 a3 = some r) :
  Calls Try.prog 46 #[.slice A0 l0.length c0, .int .i64 a1, .int .i64 a2, .int .i64 a3] w fun e w' => e = .returned (.string r) ∧ Drawn0 w w' := by
 have HR0 := za hr0; have HC0 := za hc0; clear hr0 hc0; have H : (spec_l13At.l0 k l0 a1 a2 a3 0) = some r := h; clear h; have H' := za H; clear H
 go_enter Try.func46, Try.ntmps46
 go_wp2
 go_loopg [9] k (fun kq v9 w' => ∃ (x9_1 : Int), v9 = .int .i64 x9_1 ∧ Aside0 (spec_l13At.l0 kq l0 a1 a2 a3 x9_1 = some r) ∧ Aside0 (kq ≤ k) ∧ Drawn0 w w')
 case atStart => exact ⟨(0), (qR10), H', ⟨zn _⟩, (qR22)⟩
 case round =>
  clear H'; obtain ⟨x9_1, rfl, HA, HK1, ⟨m1, rfl⟩⟩ := hrel
  cases gk with
  | zero => exact zF HA.1 (by simp [spec_l13At.l0])
  | succ k1 =>
   have H := HA.1; clear HA; simp only [spec_l13At.l0] at H
   by_cases c5 : x9_1 < (l0.length : Int)
   ·rw [zP c5] at H; have c5b0 : decide (x9_1 < (l0.length : Int)) = true := zc c5; clear c5
    by_cases c6 : 0 ≤ x9_1
    ·rw [zP c6] at H; have c6b0 : decide (0 ≤ x9_1) = true := zc c6; clear c6; replace H := bindA H; obtain ⟨t138, A7, H⟩ := H; (try dsimp only at H)
     by_cases c8 : t138 = a2
     ·rw [zP c8] at H; have c8b0 : (t138 == a2) = true := zH c8; have c8b1 : (t138 != a2) = false := zv c8; clear c8; replace H := bindA H; obtain ⟨t140, A9, H⟩ := H; (try dsimp only at H)
      by_cases c10 : t140 = a3
      ·rw [zP c10] at H; have c10b0 : (t140 == a3) = true := zH c10; have c10b1 : (t140 != a3) = false := zv c10; clear c10; obtain rfl := zl H; have p137 : 0 ≤ (x9_1 : Int) := zb (qR6); have q137 : x9_1 < (l0.length : Int) := zb (qR6); obtain ⟨ad137, e137, hx137_0, hx137_1, hx137_2⟩ := at_T44 HR0.1 x9_1 p137 q137; cases e137; replace p137 := zt p137; replace q137 := zt q137
       go_wp2_with (first | ((with_reducible refine zo (f := 51) rfl ?_); refine zJ (some 22) rfl rfl Try.func51 (qR8) rfl #[.int .i64 ((rd_T44 l0 x9_1).f1), .int .i64 a1] rfl (qR4) ?_; (with_reducible refine (spec_l13Square.calls ((rd_T44 l0 x9_1).f1) a1 t138 _ A7.1).mono ?_); rintro e w' ⟨rfl, ⟨nd, rfl⟩⟩; refine ⟨_, rfl, ?_⟩; have p139 : 0 ≤ (x9_1 : Int) := zb (qR6); have q139 : x9_1 < (l0.length : Int) := zb (qR6); obtain ⟨ad139, e139, hx139_0, hx139_1, hx139_2⟩ := at_T44 HR0.1 x9_1 p139 q139; obtain rfl : ad137 = ad139 := (by injection e139); replace p139 := zt p139; replace q139 := zt q139) | (go_at_call 51; (with_reducible refine (spec_l13Square.calls ((rd_T44 l0 x9_1).f2) a1 t140 _ A9.1).mono ?_); rintro e w' ⟨rfl, ⟨nd, rfl⟩⟩; have p141 : 0 ≤ (x9_1 : Int) := zb (qR6); have q141 : x9_1 < (l0.length : Int) := zb (qR6); obtain ⟨ad141, e141, hx141_0, hx141_1, hx141_2⟩ := at_T44 HR0.1 x9_1 p141 q141; obtain rfl : ad137 = ad141 := (by injection e141); replace p141 := zt p141; replace q141 := zt q141))
       go_ret
       exact ⟨(qR10), (qR22)⟩
      ·rw [zQ c10] at H; have c10b0 : (t140 == a3) = false := zu c10; have c10b1 : (t140 != a3) = true := zI c10; have H' := za H; clear H; have p137 : 0 ≤ (x9_1 : Int) := zb (qR6); have q137 : x9_1 < (l0.length : Int) := zb (qR6); obtain ⟨ad137, e137, hx137_0, hx137_1, hx137_2⟩ := at_T44 HR0.1 x9_1 p137 q137; cases e137; replace p137 := zt p137; replace q137 := zt q137
       go_wp2_with (first | ((with_reducible refine zo (f := 51) rfl ?_); refine zJ (some 22) rfl rfl Try.func51 (qR8) rfl #[.int .i64 ((rd_T44 l0 x9_1).f1), .int .i64 a1] rfl (qR4) ?_; (with_reducible refine (spec_l13Square.calls ((rd_T44 l0 x9_1).f1) a1 t138 _ A7.1).mono ?_); rintro e w' ⟨rfl, ⟨nd, rfl⟩⟩; refine ⟨_, rfl, ?_⟩; have p139 : 0 ≤ (x9_1 : Int) := zb (qR6); have q139 : x9_1 < (l0.length : Int) := zb (qR6); obtain ⟨ad139, e139, hx139_0, hx139_1, hx139_2⟩ := at_T44 HR0.1 x9_1 p139 q139; obtain rfl : ad137 = ad139 := (by injection e139); replace p139 := zt p139; replace q139 := zt q139) | (go_at_call 51; (with_reducible refine (spec_l13Square.calls ((rd_T44 l0 x9_1).f2) a1 t140 _ A9.1).mono ?_); rintro e w' ⟨rfl, ⟨nd, rfl⟩⟩))
       go_roundg k1
       case measure => have := HK1.1; omega
       case rel => exact ⟨(wrap64 (x9_1 + 1)), (qR10), H', ⟨by have := HK1.1; omega⟩, (qR22)⟩
     ·rw [zQ c8] at H; have c8b0 : (t138 == a2) = false := zu c8; have c8b1 : (t138 != a2) = true := zI c8; have H' := za H; clear H; have p137 : 0 ≤ (x9_1 : Int) := zb (qR6); have q137 : x9_1 < (l0.length : Int) := zb (qR6); obtain ⟨ad137, e137, hx137_0, hx137_1, hx137_2⟩ := at_T44 HR0.1 x9_1 p137 q137; cases e137; replace p137 := zt p137; replace q137 := zt q137
      go_wp2_with (first | ((with_reducible refine zo (f := 51) rfl ?_); refine zJ (some 22) rfl rfl Try.func51 (qR8) rfl #[.int .i64 ((rd_T44 l0 x9_1).f1), .int .i64 a1] rfl (qR4) ?_; (with_reducible refine (spec_l13Square.calls ((rd_T44 l0 x9_1).f1) a1 t138 _ A7.1).mono ?_); rintro e w' ⟨rfl, ⟨nd, rfl⟩⟩; refine ⟨_, rfl, ?_⟩))
      go_roundg k1
      case measure => have := HK1.1; omega
      case rel => exact ⟨(wrap64 (x9_1 + 1)), (qR10), H', ⟨by have := HK1.1; omega⟩, (qR22)⟩
    ·rw [zQ c6] at H
     exact zF H (by simp)
   ·rw [zQ c5] at H; have c5b0 : decide (x9_1 < (l0.length : Int)) = false := zs c5; clear c5; obtain rfl := zl H
    go_wp2
    go_ret
    exact ⟨(qR10), (qR22)⟩

mutual
def spec_PlanText.l0 : Nat → List (S44) → Int → Int → Int → Int → ByteArray → Int → Option (ByteArray × Bool)
 | 0, _, _, _, _, _, _, _ => none
 | k + 1, x0, x1, x6, x7, x8, x10, x11 => if x11 ≥ x8 then (spec_PlanText.l1 k x0 x1 x6 x7 x8 x10 x11 x6) else (some (x10, true))
def spec_PlanText.l1 : Nat → List (S44) → Int → Int → Int → Int → ByteArray → Int → Int → Option (ByteArray × Bool)
 | 0, _, _, _, _, _, _, _, _ => none
 | k + 1, x0, x1, x6, x7, x8, x10, x11, x12 => if x12 ≤ x7 then ((spec_l13At.f k x0 x1 x12 x11).bind fun t147 => (if x10.size + t147.size ≤ 9223372036854775807 then (spec_PlanText.l1 k x0 x1 x6 x7 x8 (x10 ++ t147) x11 (wrap64 (x12 + 1))) else (none))) else (if x10.size + 1 ≤ 9223372036854775807 then (spec_PlanText.l0 k x0 x1 x6 x7 x8 (x10 ++ (⟨#[10]⟩ : ByteArray)) (wrap64 (x11 - 1))) else (none))
end
def spec_PlanText.f (k : Nat) (l0 : List (S44)) (a1 : Int) : Option (ByteArray × Bool) := (spec_l13Fits.f k l0 a1).bind fun t142 => (if t142 = true then ((spec_l13Bounds.f k l0 a1).bind fun bt143 => (spec_PlanText.l0 k l0 a1 bt143.1 bt143.2.1 bt143.2.2.1 (⟨#[]⟩ : ByteArray) bt143.2.2.2)) else (some ((⟨#[]⟩ : ByteArray), false)))
theorem spec_PlanText.calls (k : Nat) (A0 : Option Addr) (c0 : Nat) (l0 : List (S44)) (a1 : Int) (r1 : ByteArray) (r2 : Bool) (w : World) (hr0 : Kd.C k44 w A0 l0.length l0) (hc0 : l0.length ≤ c0) (h : spec_PlanText.f k l0 a1 = some (r1, r2)) :
  Calls Try.prog 9 #[.slice A0 l0.length c0, .int .i64 a1] w fun e w' => e = .returned (.tuple #[.string r1, .bool r2]) ∧ Below w.heap.size w w' := by
 have HR0 := za hr0; have HC0 := za hc0; clear hr0 hc0; have HB := za (zq w.heap.size w); have H : ((spec_l13Fits.f k l0 a1).bind fun t142 => (if t142 = true then ((spec_l13Bounds.f k l0 a1).bind fun bt143 => (spec_PlanText.l0 k l0 a1 bt143.1 bt143.2.1 bt143.2.2.1 (⟨#[]⟩ : ByteArray) bt143.2.2.2)) else (some ((⟨#[]⟩ : ByteArray), false)))) = some (r1, r2) := h; clear h; replace H := bindA H; obtain ⟨t142, A3, H⟩ := H; (try dsimp only at H)
 by_cases c4 : t142 = true
 ·subst c4; rw [zP rfl] at H; replace H := bindA H; obtain ⟨⟨t143, t144, t145, t146⟩, A5, H⟩ := H; (try dsimp only at H); have H' := za H; clear H
  go_enter Try.func9, Try.ntmps9
  go_wp2_with (first | ((with_reducible refine zo (f := 44) rfl ?_); refine zJ (some 15) rfl rfl Try.func44 (qR8) rfl #[.slice A0 l0.length c0, .int .i64 a1] rfl (qR4) ?_; (with_reducible refine (spec_l13Fits.calls k _ _ l0 a1 true _ ?s1 ?s2 A3.1).mono ?_); (case s1 => exact (qR25)); (case s2 => exact HC0.1); rintro e w6 ⟨rfl, hb⟩; refine ⟨_, rfl, ?_⟩; replace HB := za qR61; clear hb) | ((with_reducible refine zo (f := 45) rfl ?_); refine zJ (some 20) rfl rfl Try.func45 (qR8) rfl #[.slice A0 l0.length c0, .int .i64 a1] rfl (qR4) ?_; (with_reducible refine (spec_l13Bounds.calls k _ _ l0 a1 t143 t144 t145 t146 _ ?s1 ?s2 A5.1).mono ?_); (case s1 => exact (qR19)); (case s2 => exact HC0.1); rintro e w' ⟨rfl, ⟨nd, rfl⟩⟩; refine ⟨_, rfl, ?_⟩))
  go_loopg [10, 11] k (fun kq v10 v11 w' => ∃ (x10_1 : ByteArray) (x11_1 : Int), v10 = .string x10_1 ∧ v11 = .int .i64 x11_1 ∧ Aside0 (spec_PlanText.l0 kq l0 a1 t143 t144 t145 x10_1 x11_1 = some (r1, r2)) ∧ Aside0 (kq ≤ k) ∧ Aside0 (Below w.heap.size w w'))
  case atStart => exact ⟨((⟨#[]⟩ : ByteArray)), (t146), (qR10), (qR10), H', ⟨zn _⟩, ⟨(qR0)⟩⟩
  case round =>
   clear H'; (try clear c4); obtain ⟨x10_1, x11_1, rfl, rfl, HA, HK1, HB⟩ := hrel
   cases gk with
   | zero => exact zF HA.1 (by simp [spec_PlanText.l0])
   | succ k1 =>
    have H := HA.1; clear HA; simp only [spec_PlanText.l0] at H
    by_cases c7 : x11_1 ≥ t145
    ·rw [zP c7] at H; have c7b0 : decide (t145 ≤ x11_1) = true := zc c7; clear c7; have H' := za H; clear H
     go_wp2
     go_loopg [10, 12] k1 (fun kq v10 v12 w' => ∃ (x10_2 : ByteArray) (x12_2 : Int), v10 = .string x10_2 ∧ v12 = .int .i64 x12_2 ∧ Aside0 (spec_PlanText.l1 kq l0 a1 t143 t144 t145 x10_2 x11_1 x12_2 = some (r1, r2)) ∧ Aside0 (kq ≤ k1) ∧ Aside0 (Below w.heap.size w w'))
     case atStart => exact ⟨(x10_1), (t143), (qR10), (qR10), H', ⟨zn _⟩, ⟨(qR0)⟩⟩
     case round =>
      clear H'; (try clear c7b0); obtain ⟨x10_2, x12_2, rfl, rfl, HA, HK2, HB⟩ := hrel
      cases gk with
      | zero => exact zF HA.1 (by simp [spec_PlanText.l1])
      | succ k2 =>
       have H := HA.1; clear HA; simp only [spec_PlanText.l1] at H
       by_cases c8 : x12_2 ≤ t144
       ·rw [zP c8] at H; have c8b0 : decide (x12_2 ≤ t144) = true := zc c8; clear c8; replace H := bindA H; obtain ⟨t147, A9, H⟩ := H; (try dsimp only at H)
        by_cases c10 : x10_2.size + t147.size ≤ 9223372036854775807
        ·rw [zP c10] at H; have c10b0 := zt c10; have c10b1 : decide (x10_2.size + t147.size ≤ 9223372036854775807) = true := zc c10
         try have c10b2 : (9223372036854775807 < x10_2.size + t147.size) = False := eq_false (Nat.not_lt.2 c10)
         have H' := za H; clear H
         go_wp2_with (first | ((with_reducible refine zo (f := 46) rfl ?_); refine zJ (some 42) rfl rfl Try.func46 (qR8) rfl #[.slice A0 l0.length c0, .int .i64 a1, .int .i64 x12_2, .int .i64 x11_1] rfl (qR4) ?_; (with_reducible refine (spec_l13At.calls k2 _ _ l0 a1 x12_2 x11_1 t147 _ ?s1 ?s2 A9.1).mono ?_); (case s1 => exact (qR19)); (case s2 => exact HC0.1); rintro e w' ⟨rfl, ⟨nd, rfl⟩⟩; refine ⟨_, rfl, ?_⟩))
         go_roundg k2
         case measure => have := HK1.1; have := HK2.1; omega
         case rel => exact ⟨(x10_2 ++ t147), (wrap64 (x12_2 + 1)), (qR10), (qR10), H', ⟨by have := HK1.1; have := HK2.1; omega⟩, ⟨(qR0)⟩⟩
        ·rw [zQ c10] at H
         exact zF H (by simp)
       ·rw [zQ c8] at H; have c8b0 : decide (x12_2 ≤ t144) = false := zs c8; clear c8
        by_cases c11 : x10_2.size + 1 ≤ 9223372036854775807
        ·rw [zP c11] at H; have c11b0 := zt c11; have c11b1 : decide (x10_2.size + 1 ≤ 9223372036854775807) = true := zc c11
         try have c11b2 : (9223372036854775807 < x10_2.size + 1) = False := eq_false (Nat.not_lt.2 c11)
         have H' := za H; clear H
         go_wp2
         go_roundg k2
         case measure => have := HK1.1; have := HK2.1; omega
         case rel => exact ⟨(x10_2 ++ (⟨#[10]⟩ : ByteArray)), (wrap64 (x11_1 - 1)), (qR10), (qR10), H', ⟨by have := HK1.1; have := HK2.1; omega⟩, ⟨(qR0)⟩⟩
        ·rw [zQ c11] at H
         exact zF H (by simp)
    ·rw [zQ c7] at H; have c7b0 : decide (t145 ≤ x11_1) = false := zs c7; clear c7; simp only [zR, zS] at H; obtain ⟨rfl, rfl⟩ := H
     go_wp2
     go_ret2
     exact ⟨(qR9), (qR0)⟩
 ·replace c4 := zm c4; subst c4; rw [zQ (show ¬ (false = true) by decide)] at H; simp only [zR, zS] at H; obtain ⟨rfl, rfl⟩ := H
  go_enter Try.func9, Try.ntmps9
  go_wp2_with (first | ((with_reducible refine zo (f := 44) rfl ?_); refine zJ (some 15) rfl rfl Try.func44 (qR8) rfl #[.slice A0 l0.length c0, .int .i64 a1] rfl (qR4) ?_; (with_reducible refine (spec_l13Fits.calls k _ _ l0 a1 false _ ?s1 ?s2 A3.1).mono ?_); (case s1 => exact (qR25)); (case s2 => exact HC0.1); rintro e w12 ⟨rfl, hb⟩; refine ⟨_, rfl, ?_⟩; replace HB := za qR61; clear hb))
  go_ret2
  exact ⟨(qR9), (qR0)⟩

def spec_l1Split.l0 : Nat → ByteArray → Int → List ByteArray → Int → Int → Option (List ByteArray)
 | 0, _, _, _, _, _ => none
 | k + 1, x0, x1, x5, x6, x7 => if x7 < (x0.size : Int) then (if 0 ≤ x7 then (if (bt x0 x7) = x1 then (if 0 ≤ x6 then (if x6 ≤ x7 then (if x7 ≤ (x0.size : Int) then (if x5.length < 8796093022208 then (spec_l1Split.l0 k x0 x1 (x5 ++ [x0.extract (x6 : Int).toNat (x7 : Int).toNat]) (wrap64 (x7 + 1)) (wrap64 (x7 + 1))) else (none)) else (none)) else (none)) else (none)) else (spec_l1Split.l0 k x0 x1 x5 x6 (wrap64 (x7 + 1)))) else (none)) else (if 0 ≤ x6 then (if x6 ≤ (x0.size : Int) then (if x5.length < 8796093022208 then (some (x5 ++ [x0.extract (x6 : Int).toNat x0.size])) else (none)) else (none)) else (none))
def spec_l1Split.f (k : Nat) (a0 : ByteArray) (a1 : Int) : Option (List ByteArray) := spec_l1Split.l0 k a0 a1 (([] : List ByteArray)) 0 0
theorem spec_l1Split.calls (k : Nat) (a0 : ByteArray) (a1 : Int) (r : List ByteArray) (w : World) (h : spec_l1Split.f k a0 a1 = some r) :
  Calls Try.prog 67 #[.string a0, .int .u8 a1] w fun e w' => ∃ v0_ : Value, e = .returned (v0_) ∧ Kd.R Kd.string 9 w' w.heap.size (fun _ => True) v0_ r ∧ Below w.heap.size w w' := by
 have HB := za (zq w.heap.size w); have H : (spec_l1Split.l0 k a0 a1 (([] : List ByteArray)) 0 0) = some r := h; clear h; obtain ⟨y148, hy148⟩ : ∃ y_ : List ByteArray, y_ = (([] : List ByteArray)) := ⟨_, rfl⟩; replace H : (spec_l1Split.l0 k a0 a1 y148 0 0) = some r := (qR5 hy148); have Ny148 := za hy148; clear hy148; have H' := za H; clear H
 go_enter Try.func67, Try.ntmps67
 go_wp2_with (first | ((with_reducible refine zp (N := 8) rfl ?_); refine Kd.R_lit Kd.string _ 9 ?hg (N := 8) ?hd (xs := ([] : List ByteArray)) (inner := []) (ok := fun _ => True) (okp := fun _ => True) ?hr ?hp (fun _ hk => hk) trivial (zq _ _) (zn _) (by simp) ?_; (case hd | hg => rfl); (case hr => exact (qR16)); (case hp => exact (zr _ _)); intro v149 w3 ho4 hb hg_ hnew_; clear hg_ hnew_; (first | rw [← Ny148.1] at ho4 | (simp only [Int.reduceToNat] at ho4; rw [← Ny148.1] at ho4)); have HO150 := za (qR81 ho4); replace HB := za qR61; clear hb ho4))
 go_loopg [5, 6, 7] k (fun kq v5 v6 v7 w' => ∃ (x5_1 : List ByteArray) (x6_1 : Int) (x7_1 : Int), v6 = .int .i64 x6_1 ∧ v7 = .int .i64 x7_1 ∧ Aside0 (spec_l1Split.l0 kq a0 a1 x5_1 x6_1 x7_1 = some r) ∧ Aside0 (kq ≤ k) ∧ Aside0 (Kd.R Kd.string 9 w' w.heap.size (fun _ => True) v5 x5_1) ∧ Aside0 (Below w.heap.size w w'))
 case atStart => exact ⟨(y148), (0), (0), (qR10), (qR10), H', ⟨zn _⟩, ⟨(qR1 HO150.1)⟩, ⟨(qR0)⟩⟩
 case round =>
  clear H'; obtain ⟨x5_1, x6_1, x7_1, rfl, rfl, HA, HK1, HO_5, HB⟩ := hrel
  cases gk with
  | zero => exact zF HA.1 (by simp [spec_l1Split.l0])
  | succ k1 =>
   have H := HA.1; clear HA; simp only [spec_l1Split.l0] at H
   by_cases c5 : x7_1 < (a0.size : Int)
   ·rw [zP c5] at H; have c5b0 : decide (x7_1 < (a0.size : Int)) = true := zc c5; clear c5
    by_cases c6 : 0 ≤ x7_1
    ·rw [zP c6] at H; have c6b0 : decide (0 ≤ x7_1) = true := zc c6; clear c6
     by_cases c8 : (bt a0 x7_1) = a1
     ·rw [zP c8] at H; have c8b0 : ((bt a0 x7_1) == a1) = true := zH c8; have c8b1 : ((bt a0 x7_1) != a1) = false := zv c8; clear c8
      by_cases c9 : 0 ≤ x6_1
      ·rw [zP c9] at H; have c9b0 := zt c9; have c9b1 : decide (0 ≤ x6_1) = true := zc c9; clear c9
       by_cases c10 : x6_1 ≤ x7_1
       ·rw [zP c10] at H; have c10b0 := zt c10; have c10b1 : decide (x6_1 ≤ x7_1) = true := zc c10; clear c10
        by_cases c11 : x7_1 ≤ (a0.size : Int)
        ·rw [zP c11] at H; have c11b0 := zt c11; have c11b1 : decide (x7_1 ≤ (a0.size : Int)) = true := zc c11; clear c11
         by_cases c12 : x5_1.length < 8796093022208
         ·rw [zP c12] at H; have LMc12 := za c12; clear c12; obtain ⟨y151, hy151⟩ : ∃ y_ : List ByteArray, y_ = (x5_1 ++ [a0.extract (x6_1 : Int).toNat (x7_1 : Int).toNat]) := ⟨_, rfl⟩; replace H : (spec_l1Split.l0 k1 a0 a1 y151 (wrap64 (x7_1 + 1)) (wrap64 (x7_1 + 1))) = some r := (qR5 hy151); have Ny151 := za hy151; clear hy151; have H' := za H; clear H; have p7 : 0 ≤ (x7_1 : Int) := zb (qR6); have q7 : x7_1 < (a0.size : Int) := zb (qR6); have hx7 := bt_at a0 x7_1; replace p7 := zt p7; replace q7 := zt q7
          go_wp2_with (first | ((with_reducible refine gate_builtin (b := .append) (xs := #[.tmp 20, .tmp 25]) rfl ?_); at_builtin; refine Kd.R_append Kd.string (w0 := w) w.heap.size rfl (.tmp 20) (.tmp 25) 30 9 (.string ⟨#[]⟩) 16 rfl Try.underlying30 info9 rfl (by decide) (by omega) u5 x5_1 (a0.extract (x6_1 : Int).toNat (x7_1 : Int).toNat) [.string (a0.extract (x6_1 : Int).toNat (x7_1 : Int).toNat)] (fun _ => True) (fun _ => False) rfl rfl ?aP (fun _ hk => hk.elim) ?aF ?aO ?aB ?aS ?aL ?_; (case aP => exact rfl); (case aB => exact (qR0)); (case aF => exact (fun _ _ => trivial)); (case aO => exact (qR1 HO_5.1)); (case aS => exact (by exact (zL (qR0)))); (case aL => have := LMc12.1; omega); intro v152 w13 ho hb hg hat; rw [← Ny151.1] at ho; replace HB := za hb; have HO153 := za ho; clear HO_5; clear ho hb hg hat))
          go_roundg k1
          case measure => have := HK1.1; omega
          case rel => exact ⟨(y151), (wrap64 (x7_1 + 1)), (wrap64 (x7_1 + 1)), (qR10), (qR10), H', ⟨by have := HK1.1; omega⟩, ⟨(qR1 HO153.1)⟩, ⟨(qR0)⟩⟩
         ·rw [zQ c12] at H
          exact zF H (by simp)
        ·rw [zQ c11] at H
         exact zF H (by simp)
       ·rw [zQ c10] at H
        exact zF H (by simp)
      ·rw [zQ c9] at H
       exact zF H (by simp)
     ·rw [zQ c8] at H; have c8b0 : ((bt a0 x7_1) == a1) = false := zu c8; have c8b1 : ((bt a0 x7_1) != a1) = true := zI c8; have H' := za H; clear H; have p7 : 0 ≤ (x7_1 : Int) := zb (qR6); have q7 : x7_1 < (a0.size : Int) := zb (qR6); have hx7 := bt_at a0 x7_1; replace p7 := zt p7; replace q7 := zt q7
      go_wp2
      go_roundg k1
      case measure => have := HK1.1; omega
      case rel => exact ⟨(x5_1), (x6_1), (wrap64 (x7_1 + 1)), (qR10), (qR10), H', ⟨by have := HK1.1; omega⟩, ⟨(qR1 HO_5.1)⟩, ⟨(qR0)⟩⟩
    ·rw [zQ c6] at H
     exact zF H (by simp)
   ·rw [zQ c5] at H; have c5b0 : decide (x7_1 < (a0.size : Int)) = false := zs c5; clear c5
    by_cases c14 : 0 ≤ x6_1
    ·rw [zP c14] at H; have c14b0 := zt c14; have c14b1 : decide (0 ≤ x6_1) = true := zc c14; clear c14
     by_cases c15 : x6_1 ≤ (a0.size : Int)
     ·rw [zP c15] at H; have c15b0 := zt c15; have c15b1 : decide (x6_1 ≤ (a0.size : Int)) = true := zc c15; clear c15
      by_cases c16 : x5_1.length < 8796093022208
      ·rw [zP c16] at H; have LMc16 := za c16; clear c16; obtain ⟨y154, hy154⟩ : ∃ y_ : List ByteArray, y_ = (x5_1 ++ [a0.extract (x6_1 : Int).toNat a0.size]) := ⟨_, rfl⟩; replace H : (some y154) = some r := (qR5 hy154); have Ny154 := za hy154; clear hy154; obtain rfl := zl H
       go_wp2_with (first | ((with_reducible refine gate_builtin (b := .append) (xs := #[.tmp 29, .tmp 33]) rfl ?_); at_builtin; refine Kd.R_append Kd.string (w0 := w) w.heap.size rfl (.tmp 29) (.tmp 33) 30 9 (.string ⟨#[]⟩) 16 rfl Try.underlying30 info9 rfl (by decide) (by omega) u5 x5_1 (a0.extract (x6_1 : Int).toNat a0.size) [.string (a0.extract (x6_1 : Int).toNat a0.size)] (fun _ => True) (fun _ => False) rfl rfl ?aP (fun _ hk => hk.elim) ?aF ?aO ?aB ?aS ?aL ?_; (case aP => exact rfl); (case aB => exact (qR0)); (case aF => exact (fun _ _ => trivial)); (case aO => exact (qR1 HO_5.1)); (case aS => exact (by exact (zL (qR0)))); (case aL => have := LMc16.1; omega); intro v155 w17 ho hb hg hat; rw [← Ny154.1] at ho; replace HB := za hb; have HO156 := za ho; clear HO_5; clear ho hb hg hat))
       go_ret
       exact ⟨_, (qR9), (qR1 HO156.1), (qR0)⟩
      ·rw [zQ c16] at H
       exact zF H (by simp)
     ·rw [zQ c15] at H
      exact zF H (by simp)
    ·rw [zQ c14] at H
     exact zF H (by simp)

end Go.Proofs.Ytckidmhkhlbkeaa.MR
