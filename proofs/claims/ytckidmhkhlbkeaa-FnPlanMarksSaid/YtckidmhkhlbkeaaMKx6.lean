-- tight2 (a walk)
import Derived.Test.YtckidmhkhlbkeaaStr
import Derived.Test.YtckidmhkhlbkeaaMKx0
import Derived.Test.YtckidmhkhlbkeaaMKx3
namespace Go.Proofs.Ytckidmhkhlbkeaa.MK
open Go.RowKit Go.Proofs.YtckidmhkhlbkeaaW.PrintWords Go.Proofs.YtckidmhkhlbkeaaW.PrintLast
theorem qK6_c0 {p : Prop} (h : p := by
  simp only [Act.put, yb, yc, yd, i64_w, i32_w]
  rfl) : p := h
theorem qK6_c1 {p : Prop} (h : p := by
  intro w'
  go_simp
  with_reducible rfl) : p := h
theorem qK6_c2 {p : Prop} (h : p := by
  show Act.put _ (some 17) _ = _
  simp only [Act.put, yb, yc, yd, i64_w, i32_w]
  rfl) : p := h
theorem qK6_c3 {p : Prop} (h : p := by
  show Act.put _ (some 22) _ = _
  simp only [Act.put, yb, yc, yd, i64_w, i32_w]
  rfl) : p := h
theorem qK6_c4 {p : Prop} (h : p := by
  rintro w' ⟨s0, s1, s2, s3, s4, s5⟩
  go_simp
  with_reducible rfl) : p := h
theorem qK6_c5 {p : Prop} (h : p := by
  show Act.put _ (some 28) _ = _
  simp only [Act.put, yb, yc, yd, i64_w, i32_w]
  rfl) : p := h
theorem qK6_c6 {p : Prop} (h : p := by
  rintro w' ⟨s0, s1, s2⟩
  go_simp
  with_reducible rfl) : p := h
attribute [local go_sem] max2_int min2_int max_two min_two
set_option linter.unusedVariables false
set_option linter.unusedSimpArgs false

def spec_l13Good.l0 : Nat → List (S44) → Int → Option (Bool)
 | 0, _, _ => none
 | k + 1, x0, x3 => if x3 < (x0.length : Int) then (if 0 ≤ x3 then ((spec_l13Letter.f ((rd_T44 x0 x3).f0)).bind fun t132 => (if t132 = true then ((spec_l1In.f ((rd_T44 x0 x3).f1) (-1000) 1000).bind fun t133 => (if t133 = true then ((spec_l1In.f ((rd_T44 x0 x3).f2) (-1000) 1000).bind fun t134 => (if t134 = true then (if x3 > 0 then (if 0 ≤ (wrap64 (x3 - 1)) then (if (wrap64 (x3 - 1)) < (x0.length : Int) then (if ((Op.bytesLess (((rd_T44 x0 (wrap64 (x3 - 1))).f0).toList) (((rd_T44 x0 x3).f0).toList)) = true) then (spec_l13Good.l0 k x0 (wrap64 (x3 + 1))) else (some false)) else (none)) else (none)) else (spec_l13Good.l0 k x0 (wrap64 (x3 + 1)))) else (some false))) else (some false))) else (some false))) else (none)) else (some (decide ((x0.length : Int) ≤ 12)))
def spec_l13Good.f (k : Nat) (l0 : List (S44)) : Option (Bool) := spec_l13Good.l0 k l0 0
def spec_l13Good.T5 : Bool × List (List Nat × List Nat) := (true, [([], []), ([0], [0]), ([1], [1]), ([2], [2]), ([3, 2], [3]), ([4], [4]), ([5, 4], [4, 5]), ([6, 4, 4], [4, 6]), ([7, 4], [4, 7]), ([4, 8], [4, 8]), ([9, 7], [9]), ([10], [10]), ([11, 10], [10, 11]), ([12, 10, 10], [10, 12]), ([13, 10], [10, 13]), ([10, 14], [10, 14]), ([15, 13], [15]), ([16], [16]), ([17, 16], [16, 17]), ([18, 16, 16], [16, 18]), ([19], [19]), ([19], [19]), ([21, 19], [19, 21]), ([20, 22, 19], [19, 20, 22]), ([23, 19], [19, 23]), ([24, 19], [19, 24]), ([19], [19]), ([26, 19], [19, 26]), ([25, 27, 19], [19, 25, 27]), ([19, 28, 16], [16, 19, 28]), ([16, 29], [16, 29])])
def spec_l13Good.B5 : List Nat := [0, 1, 3, 7, 15, 31, 63, 127, 255, 511, 1023, 2047, 4095, 8191, 16383, 32767, 65535, 131071, 262143, 524287, 1048575, 1048575, 3145727, 8388607, 16777215, 33554431, 1048575, 68157439, 268435455, 536870911, 1073741823]
theorem spec_l13Good.tab5 : rtab .any (opsOf Try.f63 5) = spec_l13Good.T5 := by kernel_rfl
theorem spec_l13Good.bits5 : waitsOk spec_l13Good.T5.2 spec_l13Good.B5 = true := by kernel_rfl
set_option maxHeartbeats 8000000 in
set_option maxRecDepth 100000 in
theorem spec_l13Good.calls (k : Nat) (A0 : Option Addr) (c0 : Nat) (l0 : List (S44)) (r : Bool) (w : World) (hr0 : Kd.C k44 w A0 l0.length l0) (hc0 : l0.length ≤ c0) (h : spec_l13Good.f k l0 = some r) :
  Calls Try.prog 63 #[.slice A0 l0.length c0] w fun e w' => e = .returned (.bool r) ∧ Below w.heap.size w w' := by
 have hu44 := Try.underlying44; have HR0 := za hr0; have HC0 := za hc0; clear hr0 hc0; have HB := za (zr w.heap.size w); have H : (spec_l13Good.l0 k l0 0) = some r := h; clear h; have H' := za H; clear H
 go_enter Try.func63, Try.ntmps63
 go_wp2
 go_loopg [3] k (fun kq v3 w' => ∃ (x3_1 : Int), v3 = .int .i64 x3_1 ∧ Aside0 (spec_l13Good.l0 kq l0 x3_1 = some r) ∧ Aside0 (kq ≤ k) ∧ Aside0 (Below w.heap.size w w'))
 case atStart => exact ⟨(0), (qK17), H', ⟨zn _⟩, ⟨(qK2)⟩⟩
 case round =>
  clear H'; obtain ⟨x3_1, rfl, HA, HK1, HB⟩ := hrel
  cases gk with
  | zero => exact zM HA.1 (by simp [spec_l13Good.l0])
  | succ k1 =>
   have H := HA.1; clear HA; simp only [spec_l13Good.l0] at H
   by_cases c2 : x3_1 < (l0.length : Int)
   ·rw [zX c2] at H; have c2b0 : decide (x3_1 < (l0.length : Int)) = true := zc c2; clear c2
    by_cases c3 : 0 ≤ x3_1
    ·rw [zX c3] at H; have c3b0 : decide (0 ≤ x3_1) = true := zc c3; clear c3; replace H := bindA H; obtain ⟨t132, A4, H⟩ := H; (try dsimp only at H)
     by_cases c5 : t132 = true
     ·subst c5; rw [zX rfl] at H; replace H := bindA H; obtain ⟨t133, A6, H⟩ := H; (try dsimp only at H)
      by_cases c7 : t133 = true
      ·subst c7; rw [zX rfl] at H; replace H := bindA H; obtain ⟨t134, A8, H⟩ := H; (try dsimp only at H)
       by_cases c9 : t134 = true
       ·subst c9; rw [zX rfl] at H
        by_cases c10 : x3_1 > 0
        ·rw [zX c10] at H; have c10b0 : decide (0 < x3_1) = true := zc c10; clear c10; obtain ⟨ji11, hji11⟩ : ∃ j_ : Int, (wrap64 (x3_1 - 1)) = j_ := ⟨_, rfl⟩
         replace H : (if 0 ≤ (ji11) then (if (ji11) < (l0.length : Int) then (if ((Op.bytesLess (((rd_T44 l0 (ji11)).f0).toList) (((rd_T44 l0 x3_1).f0).toList)) = true) then (spec_l13Good.l0 k1 l0 (wrap64 (x3_1 + 1))) else (some false)) else (none)) else (none)) = some r := by first | (rw [hji11] at H; exact H) | (simp only [hji11] at H ⊢; exact H)
         (try rw [hji11] at A4)
         (try rw [hji11] at A6)
         (try rw [hji11] at A8); have hji11w : (IntKind.i64.wrap (x3_1 - 1)) = ji11 := (i64_w _).trans hji11
         by_cases c12 : 0 ≤ (ji11)
         ·rw [zX c12] at H; have c12b0 : decide (0 ≤ (ji11)) = true := zc c12; clear c12
          by_cases c13 : (ji11) < (l0.length : Int)
          ·rw [zX c13] at H; have c13b0 : decide ((ji11) < (l0.length : Int)) = true := zc c13; clear c13
           by_cases c14 : ((Op.bytesLess (((rd_T44 l0 (ji11)).f0).toList) (((rd_T44 l0 x3_1).f0).toList)) = true)
           ·rw [zX c14] at H; have c14b0 : (Op.bytesLess (((rd_T44 l0 (ji11)).f0).toList) (((rd_T44 l0 x3_1).f0).toList)) = true := c14; clear c14; have H' := za H; clear H; have p130 : 0 ≤ (x3_1 : Int) := zb (qK12); have q130 : x3_1 < (l0.length : Int) := zb (qK12); obtain ⟨ad130, e130, hx130_0, hx130_1, hx130_2⟩ := at_T44 HR0.1 x3_1 p130 q130; cases e130; replace hx130_0 := (HB.1.cell (zd w _ hx130_0)).trans hx130_0; replace hx130_1 := (HB.1.cell (zd w _ hx130_1)).trans hx130_1; replace hx130_2 := (HB.1.cell (zd w _ hx130_2)).trans hx130_2; replace p130 := zv p130; replace q130 := zv q130
            try go_wp2_with (first | ((with_reducible refine zp (N := 4) rfl ?_); refine zA ?hg (N := 4) ?hd (cs := #[.string (⟨#[]⟩ : ByteArray), .int .i64 0, .int .i64 0]) (t := 44) ?hr ?_; (case hd | hg => rfl); (case hr => exact (qK21)); intro gb131 hg w15 hbox hb; have BK131 := za hbox; have GW131 := za qK90; have GE131 := za qK90; replace HB := za qK85; clear hb hbox hg; have hcz16_0 : w15.cell? ⟨gb131, 0, none⟩ = some (.string (⟨#[]⟩ : ByteArray)) := (blk_cell BK131.1 0).trans rfl; have hcz16_1 : w15.cell? ⟨gb131, 1, none⟩ = some (.int .i64 0) := (blk_cell BK131.1 1).trans rfl; have hcz16_2 : w15.cell? ⟨gb131, 2, none⟩ = some (.int .i64 0) := (blk_cell BK131.1 2).trans rfl; have hfz16_0 := ze BK131.1 0; have hfz16_1 := ze BK131.1 1; have hfz16_2 := ze BK131.1 2))
            have n0_ : Aside0 ((((w15.setCell ⟨gb131, 0, none⟩ (.string ((rd_T44 l0 x3_1).f0))).setCell ⟨gb131, 1, none⟩ (.int .i64 ((rd_T44 l0 x3_1).f1))).setCell ⟨gb131, 2, none⟩ (.int .i64 ((rd_T44 l0 x3_1).f2))).heap[gb131]? = some (.cells #[.string ((rd_T44 l0 x3_1).f0), .int .i64 ((rd_T44 l0 x3_1).f1), .int .i64 ((rd_T44 l0 x3_1).f2)] 44 (0, 0))) := ⟨(qK20)⟩; have n1_ : Aside0 (Below w.heap.size w (((w15.setCell ⟨gb131, 0, none⟩ (.string ((rd_T44 l0 x3_1).f0))).setCell ⟨gb131, 1, none⟩ (.int .i64 ((rd_T44 l0 x3_1).f1))).setCell ⟨gb131, 2, none⟩ (.int .i64 ((rd_T44 l0 x3_1).f2)))) := ⟨(qK6 GE131.1)⟩
            (try clear BK131)
            (try clear HB)
            generalize (((w15.setCell ⟨gb131, 0, none⟩ (.string ((rd_T44 l0 x3_1).f0))).setCell ⟨gb131, 1, none⟩ (.int .i64 ((rd_T44 l0 x3_1).f1))).setCell ⟨gb131, 2, none⟩ (.int .i64 ((rd_T44 l0 x3_1).f2))) = w17 at n0_ n1_ ⊢
            have BK131 := n0_; have HB := n1_; clear n0_ n1_; replace BK131 := za (zh BK131.1); replace HB := za (below_drew1 HB.1); have p135 : 0 ≤ ((ji11) : Int) := zb (qK12); have q135 : (ji11) < (l0.length : Int) := zb (qK12); obtain ⟨ad135, e135, hx135_0, hx135_1, hx135_2⟩ := at_T44 HR0.1 (ji11) p135 q135; have hw135_2 := hx135_2; have hw135_1 := hx135_1; have hw135_0 := hx135_0; obtain rfl : ad130 = ad135 := (by injection e135); replace hx135_0 := (HB.1.cell (zd w _ hx135_0)).trans hx135_0; replace hx135_1 := (HB.1.cell (zd w _ hx135_1)).trans hx135_1; replace hx135_2 := (HB.1.cell (zd w _ hx135_2)).trans hx135_2; replace p135 := zv p135; replace q135 := zv q135
            refine start_ (n := 31) (S := fun w' => w'.cell? ⟨gb131, 0, none⟩ = some (.string ((rd_T44 l0 x3_1).f0)) ∧ w'.cell? ⟨gb131, 1, none⟩ = some (.int .i64 ((rd_T44 l0 x3_1).f1)) ∧ w'.cell? ⟨gb131, 2, none⟩ = some (.int .i64 ((rd_T44 l0 x3_1).f2)) ∧ w'.cell? (ad130.add (((ji11)).toNat * 3)) = some (.string ((rd_T44 l0 (ji11)).f0)) ∧ w'.cell? ⟨(ad130.add (((ji11)).toNat * 3)).block, (ad130.add (((ji11)).toNat * 3)).off + 1, none⟩ = some (.int .i64 ((rd_T44 l0 (ji11)).f1)) ∧ w'.cell? ⟨(ad130.add (((ji11)).toNat * 3)).block, (ad130.add (((ji11)).toNat * 3)).off + 2, none⟩ = some (.int .i64 ((rd_T44 l0 (ji11)).f2))) (ds := []) qKb11 (qK18) rfl rfl ⟨(blk_cell BK131.1 0).trans rfl, (blk_cell BK131.1 1).trans rfl, (blk_cell BK131.1 2).trans rfl, ((HB.1.cell (zd w _ hw135_0)).trans hw135_0), ((HB.1.cell (zd w _ hw135_1)).trans hw135_1), ((HB.1.cell (zd w _ hw135_2)).trans hw135_2)⟩ (fun hHeld => ?_); refine with_tabW spec_l13Good.tab5 spec_l13Good.bits5 (fun HT_ HW_ => ?_)
            generalize w17.drew = w18 at BK131 HB hx135_0 hx135_1 hx135_2 hHeld ⊢
            refine pure_ (i := 0) (N := some 15) (v := ?_) (a' := ?_) qKb12 rfl rfl (qK9) (fun _ _ _ h => h) (zU ⟨by rfl, ?_⟩) ?_ ?_
            rotate_left; exact qK6_c1; rotate_left; exact qK6_c0
            refine take_ (i := 1) (N := some 16) (v := ?_) (a' := ?_) qKb13 rfl rfl (take_ofW HT_.1 HW_.1 (qK18)) (fun _ _ _ h => h) (zU ⟨by rfl, ?_⟩) hHeld ?_ ?_
            rotate_left; exact qK6_c4; rotate_left; exact qK6_c0
            refine one_ (i := 2) (N := some 17) qKb14 rfl rfl (qK88) (by decide) (fun K hK => ?_)
            refine goes_ Try.func68 (qK18) rfl #[.string ((rd_T44 l0 x3_1).f0)] (by rfl) rfl rfl (qK5) ?_
            with_reducible refine (spec_l13Letter.calls ((rd_T44 l0 x3_1).f0) true _ A4.1).mono ?_
            rintro e w' ⟨rfl, ⟨nd, rfl⟩⟩
            refine ⟨_, rfl, ?_⟩
            refine hK.out _ _ ⟨(blk_cell BK131.1 0).trans rfl, (blk_cell BK131.1 1).trans rfl, (blk_cell BK131.1 2).trans rfl, ((HB.1.cell (zd w _ hw135_0)).trans hw135_0), ((HB.1.cell (zd w _ hw135_1)).trans hw135_1), ((HB.1.cell (zd w _ hw135_2)).trans hw135_2)⟩ (fun hHeld => ?_)
            clear hK K
            refine norm_ (a' := ?_) ?_ ?_
            rotate_left
            ·exact qK6_c2
            refine pure_ (i := 3) (N := some 18) (v := ?_) (a' := ?_) qKb15 rfl rfl (qK9) (fun _ _ _ h => h) (zU ⟨by rfl, ?_⟩) ?_ ?_
            rotate_left; exact qK6_c1; rotate_left; exact qK6_c0
            refine pure_ (i := 4) (N := some 19) (v := ?_) (a' := ?_) qKb16 rfl rfl (qK9) (fun _ _ _ h => h) (zU ⟨by rfl, ?_⟩) ?_ ?_
            rotate_left; exact qK6_c1; rotate_left; exact qK6_c0
            refine pure_ (i := 5) (N := some 20) (v := ?_) (a' := ?_) qKb17 rfl rfl (qK9) (fun _ _ _ h => h) (zU ⟨by rfl, ?_⟩) ?_ ?_
            rotate_left; exact qK6_c1; rotate_left; exact qK6_c0
            refine take_ (i := 6) (N := some 21) (v := ?_) (a' := ?_) qKb18 rfl rfl (take_ofW HT_.1 HW_.1 (qK18)) (fun _ _ _ h => h) (zU ⟨by rfl, ?_⟩) hHeld ?_ ?_
            rotate_left; exact qK6_c4; rotate_left; exact qK6_c0
            refine one_ (i := 7) (N := some 22) qKb19 rfl rfl (qK88) (by decide) (fun K hK => ?_)
            refine goes_ Try.func64 (qK18) rfl #[.int .i64 ((rd_T44 l0 x3_1).f1), .int .i64 (-1000), .int .i64 1000] (by rfl) rfl rfl (qK5) ?_
            with_reducible refine (spec_l1In.calls ((rd_T44 l0 x3_1).f1) (-1000) 1000 true _ A6.1).mono ?_
            rintro e w' ⟨rfl, ⟨nd, rfl⟩⟩
            refine ⟨_, rfl, ?_⟩
            refine hK.out _ _ ⟨(blk_cell BK131.1 0).trans rfl, (blk_cell BK131.1 1).trans rfl, (blk_cell BK131.1 2).trans rfl, ((HB.1.cell (zd w _ hw135_0)).trans hw135_0), ((HB.1.cell (zd w _ hw135_1)).trans hw135_1), ((HB.1.cell (zd w _ hw135_2)).trans hw135_2)⟩ (fun hHeld => ?_)
            clear hK K
            refine norm_ (a' := ?_) ?_ ?_
            rotate_left
            ·exact qK6_c3
            refine pure_ (i := 8) (N := some 23) (v := ?_) (a' := ?_) qKb20 rfl rfl (qK9) (fun _ _ _ h => h) (zU ⟨by rfl, ?_⟩) ?_ ?_
            rotate_left; exact qK6_c1; rotate_left; exact qK6_c0
            refine pure_ (i := 9) (N := some 24) (v := ?_) (a' := ?_) qKb21 rfl rfl (qK9) (fun _ _ _ h => h) (zU ⟨by rfl, ?_⟩) ?_ ?_
            rotate_left; exact qK6_c1; rotate_left; exact qK6_c0
            refine pure_ (i := 10) (N := some 25) (v := ?_) (a' := ?_) qKb22 rfl rfl (qK9) (fun _ _ _ h => h) (zU ⟨by rfl, ?_⟩) ?_ ?_
            rotate_left; exact qK6_c1; rotate_left; exact qK6_c0
            refine pure_ (i := 11) (N := some 26) (v := ?_) (a' := ?_) qKb23 rfl rfl (qK9) (fun _ _ _ h => h) (zU ⟨by rfl, ?_⟩) ?_ ?_
            rotate_left; exact qK6_c1; rotate_left; exact qK6_c0
            refine take_ (i := 12) (N := some 27) (v := ?_) (a' := ?_) qKb24 rfl rfl (take_ofW HT_.1 HW_.1 (qK18)) (fun _ _ _ h => h) (zU ⟨by rfl, ?_⟩) hHeld ?_ ?_
            rotate_left; exact qK6_c4; rotate_left; exact qK6_c0
            refine one_ (i := 13) (N := some 28) qKb25 rfl rfl (qK88) (by decide) (fun K hK => ?_)
            refine goes_ Try.func64 (qK18) rfl #[.int .i64 ((rd_T44 l0 x3_1).f2), .int .i64 (-1000), .int .i64 1000] (by rfl) rfl rfl (qK5) ?_
            with_reducible refine (spec_l1In.calls ((rd_T44 l0 x3_1).f2) (-1000) 1000 true _ A8.1).mono ?_
            rintro e w' ⟨rfl, ⟨nd, rfl⟩⟩
            refine ⟨_, rfl, ?_⟩
            refine hK.out _ _ ⟨(blk_cell BK131.1 0).trans rfl, (blk_cell BK131.1 1).trans rfl, (blk_cell BK131.1 2).trans rfl, ((HB.1.cell (zd w _ hw135_0)).trans hw135_0), ((HB.1.cell (zd w _ hw135_1)).trans hw135_1), ((HB.1.cell (zd w _ hw135_2)).trans hw135_2)⟩ (fun hHeld => ?_)
            clear hK K
            refine norm_ (a' := ?_) ?_ ?_
            rotate_left
            ·exact qK6_c5
            refine pure_ (i := 14) (N := some 29) (v := ?_) (a' := ?_) qKb26 rfl rfl (qK9) (fun _ _ _ h => h) (zU ⟨by rfl, ?_⟩) ?_ ?_
            rotate_left; exact qK6_c1; rotate_left; exact qK6_c0
            refine pure_ (i := 15) (N := some 30) (v := ?_) (a' := ?_) qKb27 rfl rfl (qK9) (fun _ _ _ h => h) (zU ⟨by rfl, ?_⟩) ?_ ?_
            rotate_left; exact qK6_c1; rotate_left; exact qK6_c0
            refine pure_ (i := 16) (N := some 31) (v := ?_) (a' := ?_) qKb28 rfl rfl (qK9) (fun _ _ _ h => h) (zU ⟨by rfl, ?_⟩) ?_ ?_
            rotate_left; exact qK6_c1; rotate_left; exact qK6_c0
            refine pure_ (i := 17) (N := some 32) (v := ?_) (a' := ?_) qKb29 rfl rfl (qK9) (fun _ _ _ h => h) (zU ⟨by rfl, ?_⟩) ?_ ?_
            rotate_left; exact qK6_c1; rotate_left; exact qK6_c0
            refine pure_ (i := 18) (N := some 33) (v := ?_) (a' := ?_) qKb30 rfl rfl (qK9) (fun _ _ _ h => h) (zU ⟨by rfl, ?_⟩) ?_ ?_
            rotate_left; exact qK6_c1; rotate_left; exact qK6_c0
            refine pure_ (i := 19) (N := some 34) (v := ?_) (a' := ?_) qKb31 rfl rfl (qK9) (fun _ _ _ h => h) (zU ⟨by rfl, ?_⟩) ?_ ?_
            rotate_left; exact qK6_c1; rotate_left; exact qK6_c0
            refine pure_ (i := 20) (N := some 35) (v := ?_) (a' := ?_) qKb32 rfl rfl (qK9) (fun _ _ _ h => h) (zU ⟨by rfl, ?_⟩) ?_ ?_
            rotate_left; exact qK6_c1; rotate_left; exact qK6_c0
            refine pure_ (i := 21) (N := some 36) (v := ?_) (a' := ?_) qKb33 rfl rfl (qK9) (fun _ _ _ h => h) (zU ⟨by rfl, ?_⟩) ?_ ?_
            rotate_left; exact qK6_c1; rotate_left; exact qK6_c0
            refine pure_ (i := 22) (N := some 37) (v := ?_) (a' := ?_) qKb34 rfl rfl (qK9) (fun _ _ _ h => h) (zU ⟨by rfl, ?_⟩) ?_ ?_
            rotate_left; exact qK6_c1; rotate_left; exact qK6_c0
            refine pure_ (i := 23) (N := some 38) (v := ?_) (a' := ?_) qKb35 rfl rfl (qK9) (fun _ _ _ h => h) (zU ⟨by rfl, ?_⟩) ?_ ?_
            rotate_left; exact qK6_c1; rotate_left; exact qK6_c0
            refine pure_ (i := 24) (N := some 39) (v := ?_) (a' := ?_) qKb36 rfl rfl (qK9) (fun _ _ _ h => h) (zU ⟨by rfl, ?_⟩) ?_ ?_
            rotate_left; exact qK6_c1; rotate_left; exact qK6_c0
            refine pure_ (i := 26) (N := some 41) (v := ?_) (a' := ?_) qKb37 rfl rfl (qK9) (fun _ _ _ h => h) (zU ⟨by rfl, ?_⟩) ?_ ?_
            rotate_left; exact qK6_c1; rotate_left; exact qK6_c0
            refine take_ (i := 25) (N := some 40) (v := ?_) (a' := ?_) qKb38 rfl rfl (take_ofW HT_.1 HW_.1 (qK18)) (fun _ _ _ h => h) (zU ⟨by rfl, ?_⟩) hHeld ?_ ?_
            rotate_left; exact qK6_c4; rotate_left; exact qK6_c0
            refine take_ (i := 27) (N := some 42) (v := ?_) (a' := ?_) qKb39 rfl rfl (take_ofW HT_.1 HW_.1 (qK18)) (fun _ _ _ h => h) (zU ⟨by rfl, ?_⟩) hHeld ?_ ?_
            rotate_left; exact qK6_c4; rotate_left; exact qK6_c0
            refine pure_ (i := 28) (N := some 43) (v := ?_) (a' := ?_) qKb40 rfl rfl (qK9) (fun _ _ _ h => h) (zU ⟨by rfl, ?_⟩) ?_ ?_
            rotate_left; exact qK6_c1; rotate_left; exact qK6_c0
            refine pure_ (i := 29) (N := some 44) (v := ?_) (a' := ?_) qKb41 rfl rfl (qK9) (fun _ _ _ h => h) (zU ⟨by rfl, ?_⟩) ?_ ?_
            rotate_left; exact qK6_c1; rotate_left; exact qK6_c0
            refine pure_ (i := 30) (N := some 45) (v := ?_) (a' := ?_) qKb42 rfl rfl (qK9) (fun _ _ _ h => h) (zU ⟨by rfl, ?_⟩) ?_ ?_
            rotate_left; exact qK6_c1; rotate_left; exact qK6_c0
            refine done_ (qK101) ?_
            try go_wp2
            go_roundg k1
            case measure => have := HK1.1; omega
            case rel => exact ⟨(wrap64 (x3_1 + 1)), (qK17), H', ⟨by have := HK1.1; omega⟩, ⟨(qK6 GE131.1)⟩⟩
           ·rw [zY c14] at H
            have c14b0 : (Op.bytesLess (((rd_T44 l0 (ji11)).f0).toList) (((rd_T44 l0 x3_1).f0).toList)) = false := by simpa using c14
            clear c14; obtain rfl := zl H; have p130 : 0 ≤ (x3_1 : Int) := zb (qK12); have q130 : x3_1 < (l0.length : Int) := zb (qK12); obtain ⟨ad130, e130, hx130_0, hx130_1, hx130_2⟩ := at_T44 HR0.1 x3_1 p130 q130; cases e130; replace hx130_0 := (HB.1.cell (zd w _ hx130_0)).trans hx130_0; replace hx130_1 := (HB.1.cell (zd w _ hx130_1)).trans hx130_1; replace hx130_2 := (HB.1.cell (zd w _ hx130_2)).trans hx130_2; replace p130 := zv p130; replace q130 := zv q130
            try go_wp2_with (first | ((with_reducible refine zp (N := 4) rfl ?_); refine zA ?hg (N := 4) ?hd (cs := #[.string (⟨#[]⟩ : ByteArray), .int .i64 0, .int .i64 0]) (t := 44) ?hr ?_; (case hd | hg => rfl); (case hr => exact (qK21)); intro gb131 hg w19 hbox hb; have BK131 := za hbox; have GW131 := za qK90; have GE131 := za qK90; replace HB := za qK85; clear hb hbox hg; have hcz20_0 : w19.cell? ⟨gb131, 0, none⟩ = some (.string (⟨#[]⟩ : ByteArray)) := (blk_cell BK131.1 0).trans rfl; have hcz20_1 : w19.cell? ⟨gb131, 1, none⟩ = some (.int .i64 0) := (blk_cell BK131.1 1).trans rfl; have hcz20_2 : w19.cell? ⟨gb131, 2, none⟩ = some (.int .i64 0) := (blk_cell BK131.1 2).trans rfl; have hfz20_0 := ze BK131.1 0; have hfz20_1 := ze BK131.1 1; have hfz20_2 := ze BK131.1 2))
            have n0_ : Aside0 ((((w19.setCell ⟨gb131, 0, none⟩ (.string ((rd_T44 l0 x3_1).f0))).setCell ⟨gb131, 1, none⟩ (.int .i64 ((rd_T44 l0 x3_1).f1))).setCell ⟨gb131, 2, none⟩ (.int .i64 ((rd_T44 l0 x3_1).f2))).heap[gb131]? = some (.cells #[.string ((rd_T44 l0 x3_1).f0), .int .i64 ((rd_T44 l0 x3_1).f1), .int .i64 ((rd_T44 l0 x3_1).f2)] 44 (0, 0))) := ⟨(qK20)⟩; have n1_ : Aside0 (Below w.heap.size w (((w19.setCell ⟨gb131, 0, none⟩ (.string ((rd_T44 l0 x3_1).f0))).setCell ⟨gb131, 1, none⟩ (.int .i64 ((rd_T44 l0 x3_1).f1))).setCell ⟨gb131, 2, none⟩ (.int .i64 ((rd_T44 l0 x3_1).f2)))) := ⟨(qK6 GE131.1)⟩
            (try clear BK131)
            (try clear HB)
            generalize (((w19.setCell ⟨gb131, 0, none⟩ (.string ((rd_T44 l0 x3_1).f0))).setCell ⟨gb131, 1, none⟩ (.int .i64 ((rd_T44 l0 x3_1).f1))).setCell ⟨gb131, 2, none⟩ (.int .i64 ((rd_T44 l0 x3_1).f2))) = w21 at n0_ n1_ ⊢
            have BK131 := n0_; have HB := n1_; clear n0_ n1_; replace BK131 := za (zh BK131.1); replace HB := za (below_drew1 HB.1); have p135 : 0 ≤ ((ji11) : Int) := zb (qK12); have q135 : (ji11) < (l0.length : Int) := zb (qK12); obtain ⟨ad135, e135, hx135_0, hx135_1, hx135_2⟩ := at_T44 HR0.1 (ji11) p135 q135; have hw135_2 := hx135_2; have hw135_1 := hx135_1; have hw135_0 := hx135_0; obtain rfl : ad130 = ad135 := (by injection e135); replace hx135_0 := (HB.1.cell (zd w _ hx135_0)).trans hx135_0; replace hx135_1 := (HB.1.cell (zd w _ hx135_1)).trans hx135_1; replace hx135_2 := (HB.1.cell (zd w _ hx135_2)).trans hx135_2; replace p135 := zv p135; replace q135 := zv q135
            refine start_ (n := 31) (S := fun w' => w'.cell? ⟨gb131, 0, none⟩ = some (.string ((rd_T44 l0 x3_1).f0)) ∧ w'.cell? ⟨gb131, 1, none⟩ = some (.int .i64 ((rd_T44 l0 x3_1).f1)) ∧ w'.cell? ⟨gb131, 2, none⟩ = some (.int .i64 ((rd_T44 l0 x3_1).f2)) ∧ w'.cell? (ad130.add (((ji11)).toNat * 3)) = some (.string ((rd_T44 l0 (ji11)).f0)) ∧ w'.cell? ⟨(ad130.add (((ji11)).toNat * 3)).block, (ad130.add (((ji11)).toNat * 3)).off + 1, none⟩ = some (.int .i64 ((rd_T44 l0 (ji11)).f1)) ∧ w'.cell? ⟨(ad130.add (((ji11)).toNat * 3)).block, (ad130.add (((ji11)).toNat * 3)).off + 2, none⟩ = some (.int .i64 ((rd_T44 l0 (ji11)).f2))) (ds := []) qKb11 (qK18) rfl rfl ⟨(blk_cell BK131.1 0).trans rfl, (blk_cell BK131.1 1).trans rfl, (blk_cell BK131.1 2).trans rfl, ((HB.1.cell (zd w _ hw135_0)).trans hw135_0), ((HB.1.cell (zd w _ hw135_1)).trans hw135_1), ((HB.1.cell (zd w _ hw135_2)).trans hw135_2)⟩ (fun hHeld => ?_); refine with_tabW spec_l13Good.tab5 spec_l13Good.bits5 (fun HT_ HW_ => ?_)
            generalize w21.drew = w22 at BK131 HB hx135_0 hx135_1 hx135_2 hHeld ⊢
            refine pure_ (i := 0) (N := some 15) (v := ?_) (a' := ?_) qKb12 rfl rfl (qK9) (fun _ _ _ h => h) (zU ⟨by rfl, ?_⟩) ?_ ?_
            rotate_left; exact qK6_c1; rotate_left; exact qK6_c0
            refine take_ (i := 1) (N := some 16) (v := ?_) (a' := ?_) qKb13 rfl rfl (take_ofW HT_.1 HW_.1 (qK18)) (fun _ _ _ h => h) (zU ⟨by rfl, ?_⟩) hHeld ?_ ?_
            rotate_left; exact qK6_c4; rotate_left; exact qK6_c0
            refine one_ (i := 2) (N := some 17) qKb14 rfl rfl (qK88) (by decide) (fun K hK => ?_)
            refine goes_ Try.func68 (qK18) rfl #[.string ((rd_T44 l0 x3_1).f0)] (by rfl) rfl rfl (qK5) ?_
            with_reducible refine (spec_l13Letter.calls ((rd_T44 l0 x3_1).f0) true _ A4.1).mono ?_
            rintro e w' ⟨rfl, ⟨nd, rfl⟩⟩
            refine ⟨_, rfl, ?_⟩
            refine hK.out _ _ ⟨(blk_cell BK131.1 0).trans rfl, (blk_cell BK131.1 1).trans rfl, (blk_cell BK131.1 2).trans rfl, ((HB.1.cell (zd w _ hw135_0)).trans hw135_0), ((HB.1.cell (zd w _ hw135_1)).trans hw135_1), ((HB.1.cell (zd w _ hw135_2)).trans hw135_2)⟩ (fun hHeld => ?_)
            clear hK K
            refine norm_ (a' := ?_) ?_ ?_
            rotate_left
            ·exact qK6_c2
            refine pure_ (i := 3) (N := some 18) (v := ?_) (a' := ?_) qKb15 rfl rfl (qK9) (fun _ _ _ h => h) (zU ⟨by rfl, ?_⟩) ?_ ?_
            rotate_left; exact qK6_c1; rotate_left; exact qK6_c0
            refine pure_ (i := 4) (N := some 19) (v := ?_) (a' := ?_) qKb16 rfl rfl (qK9) (fun _ _ _ h => h) (zU ⟨by rfl, ?_⟩) ?_ ?_
            rotate_left; exact qK6_c1; rotate_left; exact qK6_c0
            refine pure_ (i := 5) (N := some 20) (v := ?_) (a' := ?_) qKb17 rfl rfl (qK9) (fun _ _ _ h => h) (zU ⟨by rfl, ?_⟩) ?_ ?_
            rotate_left; exact qK6_c1; rotate_left; exact qK6_c0
            refine take_ (i := 6) (N := some 21) (v := ?_) (a' := ?_) qKb18 rfl rfl (take_ofW HT_.1 HW_.1 (qK18)) (fun _ _ _ h => h) (zU ⟨by rfl, ?_⟩) hHeld ?_ ?_
            rotate_left; exact qK6_c4; rotate_left; exact qK6_c0
            refine one_ (i := 7) (N := some 22) qKb19 rfl rfl (qK88) (by decide) (fun K hK => ?_)
            refine goes_ Try.func64 (qK18) rfl #[.int .i64 ((rd_T44 l0 x3_1).f1), .int .i64 (-1000), .int .i64 1000] (by rfl) rfl rfl (qK5) ?_
            with_reducible refine (spec_l1In.calls ((rd_T44 l0 x3_1).f1) (-1000) 1000 true _ A6.1).mono ?_
            rintro e w' ⟨rfl, ⟨nd, rfl⟩⟩
            refine ⟨_, rfl, ?_⟩
            refine hK.out _ _ ⟨(blk_cell BK131.1 0).trans rfl, (blk_cell BK131.1 1).trans rfl, (blk_cell BK131.1 2).trans rfl, ((HB.1.cell (zd w _ hw135_0)).trans hw135_0), ((HB.1.cell (zd w _ hw135_1)).trans hw135_1), ((HB.1.cell (zd w _ hw135_2)).trans hw135_2)⟩ (fun hHeld => ?_)
            clear hK K
            refine norm_ (a' := ?_) ?_ ?_
            rotate_left
            ·exact qK6_c3
            refine pure_ (i := 8) (N := some 23) (v := ?_) (a' := ?_) qKb20 rfl rfl (qK9) (fun _ _ _ h => h) (zU ⟨by rfl, ?_⟩) ?_ ?_
            rotate_left; exact qK6_c1; rotate_left; exact qK6_c0
            refine pure_ (i := 9) (N := some 24) (v := ?_) (a' := ?_) qKb21 rfl rfl (qK9) (fun _ _ _ h => h) (zU ⟨by rfl, ?_⟩) ?_ ?_
            rotate_left; exact qK6_c1; rotate_left; exact qK6_c0
            refine pure_ (i := 10) (N := some 25) (v := ?_) (a' := ?_) qKb22 rfl rfl (qK9) (fun _ _ _ h => h) (zU ⟨by rfl, ?_⟩) ?_ ?_
            rotate_left; exact qK6_c1; rotate_left; exact qK6_c0
            refine pure_ (i := 11) (N := some 26) (v := ?_) (a' := ?_) qKb23 rfl rfl (qK9) (fun _ _ _ h => h) (zU ⟨by rfl, ?_⟩) ?_ ?_
            rotate_left; exact qK6_c1; rotate_left; exact qK6_c0
            refine take_ (i := 12) (N := some 27) (v := ?_) (a' := ?_) qKb24 rfl rfl (take_ofW HT_.1 HW_.1 (qK18)) (fun _ _ _ h => h) (zU ⟨by rfl, ?_⟩) hHeld ?_ ?_
            rotate_left; exact qK6_c4; rotate_left; exact qK6_c0
            refine one_ (i := 13) (N := some 28) qKb25 rfl rfl (qK88) (by decide) (fun K hK => ?_)
            refine goes_ Try.func64 (qK18) rfl #[.int .i64 ((rd_T44 l0 x3_1).f2), .int .i64 (-1000), .int .i64 1000] (by rfl) rfl rfl (qK5) ?_
            with_reducible refine (spec_l1In.calls ((rd_T44 l0 x3_1).f2) (-1000) 1000 true _ A8.1).mono ?_
            rintro e w' ⟨rfl, ⟨nd, rfl⟩⟩
            refine ⟨_, rfl, ?_⟩
            refine hK.out _ _ ⟨(blk_cell BK131.1 0).trans rfl, (blk_cell BK131.1 1).trans rfl, (blk_cell BK131.1 2).trans rfl, ((HB.1.cell (zd w _ hw135_0)).trans hw135_0), ((HB.1.cell (zd w _ hw135_1)).trans hw135_1), ((HB.1.cell (zd w _ hw135_2)).trans hw135_2)⟩ (fun hHeld => ?_)
            clear hK K
            refine norm_ (a' := ?_) ?_ ?_
            rotate_left
            ·exact qK6_c5
            refine pure_ (i := 14) (N := some 29) (v := ?_) (a' := ?_) qKb26 rfl rfl (qK9) (fun _ _ _ h => h) (zU ⟨by rfl, ?_⟩) ?_ ?_
            rotate_left; exact qK6_c1; rotate_left; exact qK6_c0
            refine pure_ (i := 15) (N := some 30) (v := ?_) (a' := ?_) qKb27 rfl rfl (qK9) (fun _ _ _ h => h) (zU ⟨by rfl, ?_⟩) ?_ ?_
            rotate_left; exact qK6_c1; rotate_left; exact qK6_c0
            refine pure_ (i := 16) (N := some 31) (v := ?_) (a' := ?_) qKb28 rfl rfl (qK9) (fun _ _ _ h => h) (zU ⟨by rfl, ?_⟩) ?_ ?_
            rotate_left; exact qK6_c1; rotate_left; exact qK6_c0
            refine pure_ (i := 17) (N := some 32) (v := ?_) (a' := ?_) qKb29 rfl rfl (qK9) (fun _ _ _ h => h) (zU ⟨by rfl, ?_⟩) ?_ ?_
            rotate_left; exact qK6_c1; rotate_left; exact qK6_c0
            refine pure_ (i := 18) (N := some 33) (v := ?_) (a' := ?_) qKb30 rfl rfl (qK9) (fun _ _ _ h => h) (zU ⟨by rfl, ?_⟩) ?_ ?_
            rotate_left; exact qK6_c1; rotate_left; exact qK6_c0
            refine pure_ (i := 19) (N := some 34) (v := ?_) (a' := ?_) qKb31 rfl rfl (qK9) (fun _ _ _ h => h) (zU ⟨by rfl, ?_⟩) ?_ ?_
            rotate_left; exact qK6_c1; rotate_left; exact qK6_c0
            refine pure_ (i := 20) (N := some 35) (v := ?_) (a' := ?_) qKb32 rfl rfl (qK9) (fun _ _ _ h => h) (zU ⟨by rfl, ?_⟩) ?_ ?_
            rotate_left; exact qK6_c1; rotate_left; exact qK6_c0
            refine pure_ (i := 21) (N := some 36) (v := ?_) (a' := ?_) qKb33 rfl rfl (qK9) (fun _ _ _ h => h) (zU ⟨by rfl, ?_⟩) ?_ ?_
            rotate_left; exact qK6_c1; rotate_left; exact qK6_c0
            refine pure_ (i := 22) (N := some 37) (v := ?_) (a' := ?_) qKb34 rfl rfl (qK9) (fun _ _ _ h => h) (zU ⟨by rfl, ?_⟩) ?_ ?_
            rotate_left; exact qK6_c1; rotate_left; exact qK6_c0
            refine pure_ (i := 23) (N := some 38) (v := ?_) (a' := ?_) qKb35 rfl rfl (qK9) (fun _ _ _ h => h) (zU ⟨by rfl, ?_⟩) ?_ ?_
            rotate_left; exact qK6_c1; rotate_left; exact qK6_c0
            refine pure_ (i := 24) (N := some 39) (v := ?_) (a' := ?_) qKb36 rfl rfl (qK9) (fun _ _ _ h => h) (zU ⟨by rfl, ?_⟩) ?_ ?_
            rotate_left; exact qK6_c1; rotate_left; exact qK6_c0
            refine pure_ (i := 26) (N := some 41) (v := ?_) (a' := ?_) qKb37 rfl rfl (qK9) (fun _ _ _ h => h) (zU ⟨by rfl, ?_⟩) ?_ ?_
            rotate_left; exact qK6_c1; rotate_left; exact qK6_c0
            refine take_ (i := 25) (N := some 40) (v := ?_) (a' := ?_) qKb38 rfl rfl (take_ofW HT_.1 HW_.1 (qK18)) (fun _ _ _ h => h) (zU ⟨by rfl, ?_⟩) hHeld ?_ ?_
            rotate_left; exact qK6_c4; rotate_left; exact qK6_c0
            refine take_ (i := 27) (N := some 42) (v := ?_) (a' := ?_) qKb39 rfl rfl (take_ofW HT_.1 HW_.1 (qK18)) (fun _ _ _ h => h) (zU ⟨by rfl, ?_⟩) hHeld ?_ ?_
            rotate_left; exact qK6_c4; rotate_left; exact qK6_c0
            refine pure_ (i := 28) (N := some 43) (v := ?_) (a' := ?_) qKb40 rfl rfl (qK9) (fun _ _ _ h => h) (zU ⟨by rfl, ?_⟩) ?_ ?_
            rotate_left; exact qK6_c1; rotate_left; exact qK6_c0
            refine pure_ (i := 29) (N := some 44) (v := ?_) (a' := ?_) qKb41 rfl rfl (qK9) (fun _ _ _ h => h) (zU ⟨by rfl, ?_⟩) ?_ ?_
            rotate_left; exact qK6_c1; rotate_left; exact qK6_c0
            refine pure_ (i := 30) (N := some 45) (v := ?_) (a' := ?_) qKb42 rfl rfl (qK9) (fun _ _ _ h => h) (zU ⟨by rfl, ?_⟩) ?_ ?_
            rotate_left; exact qK6_c1; rotate_left; exact qK6_c0
            refine done_ (qK101) ?_
            try go_wp2
            go_ret
            exact ⟨(by first | rfl | (simp [errW_none, errW_some] <;> rfl) | (simp only [← hji11]; first | rfl | (simp [errW_none, errW_some] <;> rfl)) | (simp [*, errW_none, errW_some] <;> rfl)), (qK6 GE131.1)⟩
          ·rw [zY c13] at H
           exact zM H (by simp)
         ·rw [zY c12] at H
          exact zM H (by simp)
        ·rw [zY c10] at H; have c10b0 : decide (0 < x3_1) = false := zu c10; clear c10; have H' := za H; clear H; have p130 : 0 ≤ (x3_1 : Int) := zb (qK12); have q130 : x3_1 < (l0.length : Int) := zb (qK12); obtain ⟨ad130, e130, hx130_0, hx130_1, hx130_2⟩ := at_T44 HR0.1 x3_1 p130 q130; cases e130; replace hx130_0 := (HB.1.cell (zd w _ hx130_0)).trans hx130_0; replace hx130_1 := (HB.1.cell (zd w _ hx130_1)).trans hx130_1; replace hx130_2 := (HB.1.cell (zd w _ hx130_2)).trans hx130_2; replace p130 := zv p130; replace q130 := zv q130
         try go_wp2_with (first | ((with_reducible refine zp (N := 4) rfl ?_); refine zA ?hg (N := 4) ?hd (cs := #[.string (⟨#[]⟩ : ByteArray), .int .i64 0, .int .i64 0]) (t := 44) ?hr ?_; (case hd | hg => rfl); (case hr => exact (qK21)); intro gb131 hg w23 hbox hb; have BK131 := za hbox; have GW131 := za qK90; have GE131 := za qK90; replace HB := za qK85; clear hb hbox hg; have hcz24_0 : w23.cell? ⟨gb131, 0, none⟩ = some (.string (⟨#[]⟩ : ByteArray)) := (blk_cell BK131.1 0).trans rfl; have hcz24_1 : w23.cell? ⟨gb131, 1, none⟩ = some (.int .i64 0) := (blk_cell BK131.1 1).trans rfl; have hcz24_2 : w23.cell? ⟨gb131, 2, none⟩ = some (.int .i64 0) := (blk_cell BK131.1 2).trans rfl; have hfz24_0 := ze BK131.1 0; have hfz24_1 := ze BK131.1 1; have hfz24_2 := ze BK131.1 2))
         have n0_ : Aside0 ((((w23.setCell ⟨gb131, 0, none⟩ (.string ((rd_T44 l0 x3_1).f0))).setCell ⟨gb131, 1, none⟩ (.int .i64 ((rd_T44 l0 x3_1).f1))).setCell ⟨gb131, 2, none⟩ (.int .i64 ((rd_T44 l0 x3_1).f2))).heap[gb131]? = some (.cells #[.string ((rd_T44 l0 x3_1).f0), .int .i64 ((rd_T44 l0 x3_1).f1), .int .i64 ((rd_T44 l0 x3_1).f2)] 44 (0, 0))) := ⟨(qK20)⟩; have n1_ : Aside0 (Below w.heap.size w (((w23.setCell ⟨gb131, 0, none⟩ (.string ((rd_T44 l0 x3_1).f0))).setCell ⟨gb131, 1, none⟩ (.int .i64 ((rd_T44 l0 x3_1).f1))).setCell ⟨gb131, 2, none⟩ (.int .i64 ((rd_T44 l0 x3_1).f2)))) := ⟨(qK6 GE131.1)⟩
         (try clear BK131)
         (try clear HB)
         generalize (((w23.setCell ⟨gb131, 0, none⟩ (.string ((rd_T44 l0 x3_1).f0))).setCell ⟨gb131, 1, none⟩ (.int .i64 ((rd_T44 l0 x3_1).f1))).setCell ⟨gb131, 2, none⟩ (.int .i64 ((rd_T44 l0 x3_1).f2))) = w25 at n0_ n1_ ⊢
         have BK131 := n0_; have HB := n1_; clear n0_ n1_; replace BK131 := za (zh BK131.1); replace HB := za (below_drew1 HB.1)
         refine start_ (n := 31) (S := fun w' => w'.cell? ⟨gb131, 0, none⟩ = some (.string ((rd_T44 l0 x3_1).f0)) ∧ w'.cell? ⟨gb131, 1, none⟩ = some (.int .i64 ((rd_T44 l0 x3_1).f1)) ∧ w'.cell? ⟨gb131, 2, none⟩ = some (.int .i64 ((rd_T44 l0 x3_1).f2))) (ds := []) qKb11 (qK18) rfl rfl ⟨(blk_cell BK131.1 0).trans rfl, (blk_cell BK131.1 1).trans rfl, (blk_cell BK131.1 2).trans rfl⟩ (fun hHeld => ?_); refine with_tabW spec_l13Good.tab5 spec_l13Good.bits5 (fun HT_ HW_ => ?_)
         generalize w25.drew = w26 at BK131 HB hHeld ⊢
         refine pure_ (i := 0) (N := some 15) (v := ?_) (a' := ?_) qKb12 rfl rfl (qK9) (fun _ _ _ h => h) (zU ⟨by rfl, ?_⟩) ?_ ?_
         rotate_left; exact qK6_c1; rotate_left; exact qK6_c0
         refine take_ (i := 1) (N := some 16) (v := ?_) (a' := ?_) qKb13 rfl rfl (take_ofW HT_.1 HW_.1 (qK18)) (fun _ _ _ h => h) (zU ⟨by rfl, ?_⟩) hHeld ?_ ?_
         rotate_left; exact qK6_c6; rotate_left; exact qK6_c0
         refine one_ (i := 2) (N := some 17) qKb14 rfl rfl (qK88) (by decide) (fun K hK => ?_)
         refine goes_ Try.func68 (qK18) rfl #[.string ((rd_T44 l0 x3_1).f0)] (by rfl) rfl rfl (qK5) ?_
         with_reducible refine (spec_l13Letter.calls ((rd_T44 l0 x3_1).f0) true _ A4.1).mono ?_
         rintro e w' ⟨rfl, ⟨nd, rfl⟩⟩
         refine ⟨_, rfl, ?_⟩
         refine hK.out _ _ ⟨(blk_cell BK131.1 0).trans rfl, (blk_cell BK131.1 1).trans rfl, (blk_cell BK131.1 2).trans rfl⟩ (fun hHeld => ?_)
         clear hK K
         refine norm_ (a' := ?_) ?_ ?_
         rotate_left
         ·exact qK6_c2
         refine pure_ (i := 3) (N := some 18) (v := ?_) (a' := ?_) qKb15 rfl rfl (qK9) (fun _ _ _ h => h) (zU ⟨by rfl, ?_⟩) ?_ ?_
         rotate_left; exact qK6_c1; rotate_left; exact qK6_c0
         refine pure_ (i := 4) (N := some 19) (v := ?_) (a' := ?_) qKb16 rfl rfl (qK9) (fun _ _ _ h => h) (zU ⟨by rfl, ?_⟩) ?_ ?_
         rotate_left; exact qK6_c1; rotate_left; exact qK6_c0
         refine pure_ (i := 5) (N := some 20) (v := ?_) (a' := ?_) qKb17 rfl rfl (qK9) (fun _ _ _ h => h) (zU ⟨by rfl, ?_⟩) ?_ ?_
         rotate_left; exact qK6_c1; rotate_left; exact qK6_c0
         refine take_ (i := 6) (N := some 21) (v := ?_) (a' := ?_) qKb18 rfl rfl (take_ofW HT_.1 HW_.1 (qK18)) (fun _ _ _ h => h) (zU ⟨by rfl, ?_⟩) hHeld ?_ ?_
         rotate_left; exact qK6_c6; rotate_left; exact qK6_c0
         refine one_ (i := 7) (N := some 22) qKb19 rfl rfl (qK88) (by decide) (fun K hK => ?_)
         refine goes_ Try.func64 (qK18) rfl #[.int .i64 ((rd_T44 l0 x3_1).f1), .int .i64 (-1000), .int .i64 1000] (by rfl) rfl rfl (qK5) ?_
         with_reducible refine (spec_l1In.calls ((rd_T44 l0 x3_1).f1) (-1000) 1000 true _ A6.1).mono ?_
         rintro e w' ⟨rfl, ⟨nd, rfl⟩⟩
         refine ⟨_, rfl, ?_⟩
         refine hK.out _ _ ⟨(blk_cell BK131.1 0).trans rfl, (blk_cell BK131.1 1).trans rfl, (blk_cell BK131.1 2).trans rfl⟩ (fun hHeld => ?_)
         clear hK K
         refine norm_ (a' := ?_) ?_ ?_
         rotate_left
         ·exact qK6_c3
         refine pure_ (i := 8) (N := some 23) (v := ?_) (a' := ?_) qKb20 rfl rfl (qK9) (fun _ _ _ h => h) (zU ⟨by rfl, ?_⟩) ?_ ?_
         rotate_left; exact qK6_c1; rotate_left; exact qK6_c0
         refine pure_ (i := 9) (N := some 24) (v := ?_) (a' := ?_) qKb21 rfl rfl (qK9) (fun _ _ _ h => h) (zU ⟨by rfl, ?_⟩) ?_ ?_
         rotate_left; exact qK6_c1; rotate_left; exact qK6_c0
         refine pure_ (i := 10) (N := some 25) (v := ?_) (a' := ?_) qKb22 rfl rfl (qK9) (fun _ _ _ h => h) (zU ⟨by rfl, ?_⟩) ?_ ?_
         rotate_left; exact qK6_c1; rotate_left; exact qK6_c0
         refine pure_ (i := 11) (N := some 26) (v := ?_) (a' := ?_) qKb23 rfl rfl (qK9) (fun _ _ _ h => h) (zU ⟨by rfl, ?_⟩) ?_ ?_
         rotate_left; exact qK6_c1; rotate_left; exact qK6_c0
         refine take_ (i := 12) (N := some 27) (v := ?_) (a' := ?_) qKb24 rfl rfl (take_ofW HT_.1 HW_.1 (qK18)) (fun _ _ _ h => h) (zU ⟨by rfl, ?_⟩) hHeld ?_ ?_
         rotate_left; exact qK6_c6; rotate_left; exact qK6_c0
         refine one_ (i := 13) (N := some 28) qKb25 rfl rfl (qK88) (by decide) (fun K hK => ?_)
         refine goes_ Try.func64 (qK18) rfl #[.int .i64 ((rd_T44 l0 x3_1).f2), .int .i64 (-1000), .int .i64 1000] (by rfl) rfl rfl (qK5) ?_
         with_reducible refine (spec_l1In.calls ((rd_T44 l0 x3_1).f2) (-1000) 1000 true _ A8.1).mono ?_
         rintro e w' ⟨rfl, ⟨nd, rfl⟩⟩
         refine ⟨_, rfl, ?_⟩
         refine hK.out _ _ ⟨(blk_cell BK131.1 0).trans rfl, (blk_cell BK131.1 1).trans rfl, (blk_cell BK131.1 2).trans rfl⟩ (fun hHeld => ?_)
         clear hK K
         refine norm_ (a' := ?_) ?_ ?_
         rotate_left
         ·exact qK6_c5
         refine pure_ (i := 14) (N := some 29) (v := ?_) (a' := ?_) qKb26 rfl rfl (qK9) (fun _ _ _ h => h) (zU ⟨by rfl, ?_⟩) ?_ ?_
         rotate_left; exact qK6_c1; rotate_left; exact qK6_c0
         refine pure_ (i := 15) (N := some 30) (v := ?_) (a' := ?_) qKb27 rfl rfl (qK9) (fun _ _ _ h => h) (zU ⟨by rfl, ?_⟩) ?_ ?_
         rotate_left; exact qK6_c1; rotate_left; exact qK6_c0
         refine pure_ (i := 16) (N := some 31) (v := ?_) (a' := ?_) qKb28 rfl rfl (qK9) (fun _ _ _ h => h) (zU ⟨by rfl, ?_⟩) ?_ ?_
         rotate_left; exact qK6_c1; rotate_left; exact qK6_c0
         refine pure_ (i := 17) (N := some 32) (v := ?_) (a' := ?_) qKb29 rfl rfl (qK9) (fun _ _ _ h => h) (zU ⟨by rfl, ?_⟩) ?_ ?_
         rotate_left; exact qK6_c1; rotate_left; exact qK6_c0
         refine pure_ (i := 18) (N := some 33) (v := ?_) (a' := ?_) qKb30 rfl rfl (qK9) (fun _ _ _ h => h) (zU ⟨by rfl, ?_⟩) ?_ ?_
         rotate_left; exact qK6_c1; rotate_left; exact qK6_c0
         refine pure_ (i := 19) (N := some 34) (v := ?_) (a' := ?_) qKb31 rfl rfl (qK9) (fun _ _ _ h => h) (zU ⟨by rfl, ?_⟩) ?_ ?_
         rotate_left; exact qK6_c1; rotate_left; exact qK6_c0
         refine pure_ (i := 20) (N := some 35) (v := undef) (a' := ?_) qKb32 rfl rfl (qK9) (fun _ _ _ h => h) (Or.inr ⟨by rfl, rfl⟩) ?_ ?_
         rotate_left
         ·exact qK6_c0
         refine pure_ (i := 21) (N := some 36) (v := undef) (a' := ?_) qKb33 rfl rfl (qK9) (fun _ _ _ h => h) (Or.inr ⟨by rfl, rfl⟩) ?_ ?_
         rotate_left
         ·exact qK6_c0
         refine pure_ (i := 22) (N := some 37) (v := undef) (a' := ?_) qKb34 rfl rfl (qK9) (fun _ _ _ h => h) (Or.inr ⟨by rfl, rfl⟩) ?_ ?_
         rotate_left
         ·exact qK6_c0
         refine pure_ (i := 23) (N := some 38) (v := undef) (a' := ?_) qKb35 rfl rfl (qK9) (fun _ _ _ h => h) (Or.inr ⟨by rfl, rfl⟩) ?_ ?_
         rotate_left
         ·exact qK6_c0
         refine pure_ (i := 24) (N := some 39) (v := undef) (a' := ?_) qKb36 rfl rfl (qK9) (fun _ _ _ h => h) (Or.inr ⟨by rfl, rfl⟩) ?_ ?_
         rotate_left
         ·exact qK6_c0
         refine pure_ (i := 25) (N := some 40) (v := undef) (a' := ?_) qKb43 rfl rfl (qK9) (fun _ _ _ h => h) (Or.inr ⟨by rfl, rfl⟩) ?_ ?_
         rotate_left
         ·exact qK6_c0
         refine pure_ (i := 26) (N := some 41) (v := undef) (a' := ?_) qKb38 rfl rfl (qK9) (fun _ _ _ h => h) (Or.inr ⟨by rfl, rfl⟩) ?_ ?_
         rotate_left
         ·exact qK6_c0
         refine pure_ (i := 27) (N := some 42) (v := undef) (a' := ?_) qKb39 rfl rfl (qK9) (fun _ _ _ h => h) (Or.inr ⟨by rfl, rfl⟩) ?_ ?_
         rotate_left
         ·exact qK6_c0
         refine pure_ (i := 28) (N := some 43) (v := undef) (a' := ?_) qKb40 rfl rfl (qK9) (fun _ _ _ h => h) (Or.inr ⟨by rfl, rfl⟩) ?_ ?_
         rotate_left
         ·exact qK6_c0
         refine pure_ (i := 29) (N := some 44) (v := ?_) (a' := ?_) qKb41 rfl rfl (qK9) (fun _ _ _ h => h) (zU ⟨by rfl, ?_⟩) ?_ ?_
         rotate_left; exact qK6_c1; rotate_left; exact qK6_c0
         refine pure_ (i := 30) (N := some 45) (v := ?_) (a' := ?_) qKb42 rfl rfl (qK9) (fun _ _ _ h => h) (zU ⟨by rfl, ?_⟩) ?_ ?_
         rotate_left; exact qK6_c1; rotate_left; exact qK6_c0
         refine done_ (qK101) ?_
         try go_wp2
         go_roundg k1
         case measure => have := HK1.1; omega
         case rel => exact ⟨(wrap64 (x3_1 + 1)), (qK17), H', ⟨by have := HK1.1; omega⟩, ⟨(qK6 GE131.1)⟩⟩
       ·replace c9 := zm c9; subst c9; rw [zY (show ¬ (false = true) by decide)] at H; obtain rfl := zl H; have p130 : 0 ≤ (x3_1 : Int) := zb (qK12); have q130 : x3_1 < (l0.length : Int) := zb (qK12); obtain ⟨ad130, e130, hx130_0, hx130_1, hx130_2⟩ := at_T44 HR0.1 x3_1 p130 q130; cases e130; replace hx130_0 := (HB.1.cell (zd w _ hx130_0)).trans hx130_0; replace hx130_1 := (HB.1.cell (zd w _ hx130_1)).trans hx130_1; replace hx130_2 := (HB.1.cell (zd w _ hx130_2)).trans hx130_2; replace p130 := zv p130; replace q130 := zv q130
        try go_wp2_with (first | ((with_reducible refine zp (N := 4) rfl ?_); refine zA ?hg (N := 4) ?hd (cs := #[.string (⟨#[]⟩ : ByteArray), .int .i64 0, .int .i64 0]) (t := 44) ?hr ?_; (case hd | hg => rfl); (case hr => exact (qK21)); intro gb131 hg w27 hbox hb; have BK131 := za hbox; have GW131 := za qK90; have GE131 := za qK90; replace HB := za qK85; clear hb hbox hg; have hcz28_0 : w27.cell? ⟨gb131, 0, none⟩ = some (.string (⟨#[]⟩ : ByteArray)) := (blk_cell BK131.1 0).trans rfl; have hcz28_1 : w27.cell? ⟨gb131, 1, none⟩ = some (.int .i64 0) := (blk_cell BK131.1 1).trans rfl; have hcz28_2 : w27.cell? ⟨gb131, 2, none⟩ = some (.int .i64 0) := (blk_cell BK131.1 2).trans rfl; have hfz28_0 := ze BK131.1 0; have hfz28_1 := ze BK131.1 1; have hfz28_2 := ze BK131.1 2))
        have n0_ : Aside0 ((((w27.setCell ⟨gb131, 0, none⟩ (.string ((rd_T44 l0 x3_1).f0))).setCell ⟨gb131, 1, none⟩ (.int .i64 ((rd_T44 l0 x3_1).f1))).setCell ⟨gb131, 2, none⟩ (.int .i64 ((rd_T44 l0 x3_1).f2))).heap[gb131]? = some (.cells #[.string ((rd_T44 l0 x3_1).f0), .int .i64 ((rd_T44 l0 x3_1).f1), .int .i64 ((rd_T44 l0 x3_1).f2)] 44 (0, 0))) := ⟨(qK20)⟩; have n1_ : Aside0 (Below w.heap.size w (((w27.setCell ⟨gb131, 0, none⟩ (.string ((rd_T44 l0 x3_1).f0))).setCell ⟨gb131, 1, none⟩ (.int .i64 ((rd_T44 l0 x3_1).f1))).setCell ⟨gb131, 2, none⟩ (.int .i64 ((rd_T44 l0 x3_1).f2)))) := ⟨(qK6 GE131.1)⟩
        (try clear BK131)
        (try clear HB)
        generalize (((w27.setCell ⟨gb131, 0, none⟩ (.string ((rd_T44 l0 x3_1).f0))).setCell ⟨gb131, 1, none⟩ (.int .i64 ((rd_T44 l0 x3_1).f1))).setCell ⟨gb131, 2, none⟩ (.int .i64 ((rd_T44 l0 x3_1).f2))) = w29 at n0_ n1_ ⊢
        have BK131 := n0_; have HB := n1_; clear n0_ n1_; replace BK131 := za (zh BK131.1); replace HB := za (below_drew1 HB.1)
        refine start_ (n := 31) (S := fun w' => w'.cell? ⟨gb131, 0, none⟩ = some (.string ((rd_T44 l0 x3_1).f0)) ∧ w'.cell? ⟨gb131, 1, none⟩ = some (.int .i64 ((rd_T44 l0 x3_1).f1)) ∧ w'.cell? ⟨gb131, 2, none⟩ = some (.int .i64 ((rd_T44 l0 x3_1).f2))) (ds := []) qKb11 (qK18) rfl rfl ⟨(blk_cell BK131.1 0).trans rfl, (blk_cell BK131.1 1).trans rfl, (blk_cell BK131.1 2).trans rfl⟩ (fun hHeld => ?_); refine with_tabW spec_l13Good.tab5 spec_l13Good.bits5 (fun HT_ HW_ => ?_)
        generalize w29.drew = w30 at BK131 HB hHeld ⊢
        refine pure_ (i := 0) (N := some 15) (v := ?_) (a' := ?_) qKb12 rfl rfl (qK9) (fun _ _ _ h => h) (zU ⟨by rfl, ?_⟩) ?_ ?_
        rotate_left; exact qK6_c1; rotate_left; exact qK6_c0
        refine take_ (i := 1) (N := some 16) (v := ?_) (a' := ?_) qKb13 rfl rfl (take_ofW HT_.1 HW_.1 (qK18)) (fun _ _ _ h => h) (zU ⟨by rfl, ?_⟩) hHeld ?_ ?_
        rotate_left; exact qK6_c6; rotate_left; exact qK6_c0
        refine one_ (i := 2) (N := some 17) qKb14 rfl rfl (qK88) (by decide) (fun K hK => ?_)
        refine goes_ Try.func68 (qK18) rfl #[.string ((rd_T44 l0 x3_1).f0)] (by rfl) rfl rfl (qK5) ?_
        with_reducible refine (spec_l13Letter.calls ((rd_T44 l0 x3_1).f0) true _ A4.1).mono ?_
        rintro e w' ⟨rfl, ⟨nd, rfl⟩⟩
        refine ⟨_, rfl, ?_⟩
        refine hK.out _ _ ⟨(blk_cell BK131.1 0).trans rfl, (blk_cell BK131.1 1).trans rfl, (blk_cell BK131.1 2).trans rfl⟩ (fun hHeld => ?_)
        clear hK K
        refine norm_ (a' := ?_) ?_ ?_
        rotate_left
        ·exact qK6_c2
        refine pure_ (i := 3) (N := some 18) (v := ?_) (a' := ?_) qKb15 rfl rfl (qK9) (fun _ _ _ h => h) (zU ⟨by rfl, ?_⟩) ?_ ?_
        rotate_left; exact qK6_c1; rotate_left; exact qK6_c0
        refine pure_ (i := 4) (N := some 19) (v := ?_) (a' := ?_) qKb16 rfl rfl (qK9) (fun _ _ _ h => h) (zU ⟨by rfl, ?_⟩) ?_ ?_
        rotate_left; exact qK6_c1; rotate_left; exact qK6_c0
        refine pure_ (i := 5) (N := some 20) (v := ?_) (a' := ?_) qKb17 rfl rfl (qK9) (fun _ _ _ h => h) (zU ⟨by rfl, ?_⟩) ?_ ?_
        rotate_left; exact qK6_c1; rotate_left; exact qK6_c0
        refine take_ (i := 6) (N := some 21) (v := ?_) (a' := ?_) qKb18 rfl rfl (take_ofW HT_.1 HW_.1 (qK18)) (fun _ _ _ h => h) (zU ⟨by rfl, ?_⟩) hHeld ?_ ?_
        rotate_left; exact qK6_c6; rotate_left; exact qK6_c0
        refine one_ (i := 7) (N := some 22) qKb19 rfl rfl (qK88) (by decide) (fun K hK => ?_)
        refine goes_ Try.func64 (qK18) rfl #[.int .i64 ((rd_T44 l0 x3_1).f1), .int .i64 (-1000), .int .i64 1000] (by rfl) rfl rfl (qK5) ?_
        with_reducible refine (spec_l1In.calls ((rd_T44 l0 x3_1).f1) (-1000) 1000 true _ A6.1).mono ?_
        rintro e w' ⟨rfl, ⟨nd, rfl⟩⟩
        refine ⟨_, rfl, ?_⟩
        refine hK.out _ _ ⟨(blk_cell BK131.1 0).trans rfl, (blk_cell BK131.1 1).trans rfl, (blk_cell BK131.1 2).trans rfl⟩ (fun hHeld => ?_)
        clear hK K
        refine norm_ (a' := ?_) ?_ ?_
        rotate_left
        ·exact qK6_c3
        refine pure_ (i := 8) (N := some 23) (v := ?_) (a' := ?_) qKb20 rfl rfl (qK9) (fun _ _ _ h => h) (zU ⟨by rfl, ?_⟩) ?_ ?_
        rotate_left; exact qK6_c1; rotate_left; exact qK6_c0
        refine pure_ (i := 9) (N := some 24) (v := ?_) (a' := ?_) qKb21 rfl rfl (qK9) (fun _ _ _ h => h) (zU ⟨by rfl, ?_⟩) ?_ ?_
        rotate_left; exact qK6_c1; rotate_left; exact qK6_c0
        refine pure_ (i := 10) (N := some 25) (v := ?_) (a' := ?_) qKb22 rfl rfl (qK9) (fun _ _ _ h => h) (zU ⟨by rfl, ?_⟩) ?_ ?_
        rotate_left; exact qK6_c1; rotate_left; exact qK6_c0
        refine pure_ (i := 11) (N := some 26) (v := ?_) (a' := ?_) qKb23 rfl rfl (qK9) (fun _ _ _ h => h) (zU ⟨by rfl, ?_⟩) ?_ ?_
        rotate_left; exact qK6_c1; rotate_left; exact qK6_c0
        refine take_ (i := 12) (N := some 27) (v := ?_) (a' := ?_) qKb24 rfl rfl (take_ofW HT_.1 HW_.1 (qK18)) (fun _ _ _ h => h) (zU ⟨by rfl, ?_⟩) hHeld ?_ ?_
        rotate_left; exact qK6_c6; rotate_left; exact qK6_c0
        refine one_ (i := 13) (N := some 28) qKb25 rfl rfl (qK88) (by decide) (fun K hK => ?_)
        refine goes_ Try.func64 (qK18) rfl #[.int .i64 ((rd_T44 l0 x3_1).f2), .int .i64 (-1000), .int .i64 1000] (by rfl) rfl rfl (qK5) ?_
        with_reducible refine (spec_l1In.calls ((rd_T44 l0 x3_1).f2) (-1000) 1000 false _ A8.1).mono ?_
        rintro e w' ⟨rfl, ⟨nd, rfl⟩⟩
        refine ⟨_, rfl, ?_⟩
        refine hK.out _ _ ⟨(blk_cell BK131.1 0).trans rfl, (blk_cell BK131.1 1).trans rfl, (blk_cell BK131.1 2).trans rfl⟩ (fun hHeld => ?_)
        clear hK K
        refine norm_ (a' := ?_) ?_ ?_
        rotate_left
        ·exact qK6_c5
        refine pure_ (i := 14) (N := some 29) (v := ?_) (a' := ?_) qKb26 rfl rfl (qK9) (fun _ _ _ h => h) (zU ⟨by rfl, ?_⟩) ?_ ?_
        rotate_left; exact qK6_c1; rotate_left; exact qK6_c0
        refine pure_ (i := 15) (N := some 30) (v := ?_) (a' := ?_) qKb27 rfl rfl (qK9) (fun _ _ _ h => h) (zU ⟨by rfl, ?_⟩) ?_ ?_
        rotate_left; exact qK6_c1; rotate_left; exact qK6_c0
        refine pure_ (i := 16) (N := some 31) (v := ?_) (a' := ?_) qKb28 rfl rfl (qK9) (fun _ _ _ h => h) (zU ⟨by rfl, ?_⟩) ?_ ?_
        rotate_left; exact qK6_c1; rotate_left; exact qK6_c0
        refine pure_ (i := 17) (N := some 32) (v := undef) (a' := ?_) qKb29 rfl rfl (qK9) (fun _ _ _ h => h) (Or.inr ⟨by rfl, rfl⟩) ?_ ?_
        rotate_left
        ·exact qK6_c0
        refine pure_ (i := 18) (N := some 33) (v := undef) (a' := ?_) qKb30 rfl rfl (qK9) (fun _ _ _ h => h) (Or.inr ⟨by rfl, rfl⟩) ?_ ?_
        rotate_left
        ·exact qK6_c0
        refine pure_ (i := 19) (N := some 34) (v := undef) (a' := ?_) qKb31 rfl rfl (qK9) (fun _ _ _ h => h) (Or.inr ⟨by rfl, rfl⟩) ?_ ?_
        rotate_left
        ·exact qK6_c0
        refine pure_ (i := 20) (N := some 35) (v := undef) (a' := ?_) qKb32 rfl rfl (qK9) (fun _ _ _ h => h) (Or.inr ⟨by rfl, rfl⟩) ?_ ?_
        rotate_left
        ·exact qK6_c0
        refine pure_ (i := 21) (N := some 36) (v := undef) (a' := ?_) qKb33 rfl rfl (qK9) (fun _ _ _ h => h) (Or.inr ⟨by rfl, rfl⟩) ?_ ?_
        rotate_left
        ·exact qK6_c0
        refine pure_ (i := 22) (N := some 37) (v := undef) (a' := ?_) qKb34 rfl rfl (qK9) (fun _ _ _ h => h) (Or.inr ⟨by rfl, rfl⟩) ?_ ?_
        rotate_left
        ·exact qK6_c0
        refine pure_ (i := 23) (N := some 38) (v := undef) (a' := ?_) qKb35 rfl rfl (qK9) (fun _ _ _ h => h) (Or.inr ⟨by rfl, rfl⟩) ?_ ?_
        rotate_left
        ·exact qK6_c0
        refine pure_ (i := 24) (N := some 39) (v := undef) (a' := ?_) qKb36 rfl rfl (qK9) (fun _ _ _ h => h) (Or.inr ⟨by rfl, rfl⟩) ?_ ?_
        rotate_left
        ·exact qK6_c0
        refine pure_ (i := 25) (N := some 40) (v := undef) (a' := ?_) qKb43 rfl rfl (qK9) (fun _ _ _ h => h) (Or.inr ⟨by rfl, rfl⟩) ?_ ?_
        rotate_left
        ·exact qK6_c0
        refine pure_ (i := 26) (N := some 41) (v := undef) (a' := ?_) qKb38 rfl rfl (qK9) (fun _ _ _ h => h) (Or.inr ⟨by rfl, rfl⟩) ?_ ?_
        rotate_left
        ·exact qK6_c0
        refine pure_ (i := 27) (N := some 42) (v := undef) (a' := ?_) qKb39 rfl rfl (qK9) (fun _ _ _ h => h) (Or.inr ⟨by rfl, rfl⟩) ?_ ?_
        rotate_left
        ·exact qK6_c0
        refine pure_ (i := 28) (N := some 43) (v := undef) (a' := ?_) qKb40 rfl rfl (qK9) (fun _ _ _ h => h) (Or.inr ⟨by rfl, rfl⟩) ?_ ?_
        rotate_left
        ·exact qK6_c0
        refine pure_ (i := 29) (N := some 44) (v := undef) (a' := ?_) qKb41 rfl rfl (qK9) (fun _ _ _ h => h) (Or.inr ⟨by rfl, rfl⟩) ?_ ?_
        rotate_left
        ·exact qK6_c0
        refine pure_ (i := 30) (N := some 45) (v := ?_) (a' := ?_) qKb42 rfl rfl (qK9) (fun _ _ _ h => h) (zU ⟨by rfl, ?_⟩) ?_ ?_
        rotate_left; exact qK6_c1; rotate_left; exact qK6_c0
        refine done_ (qK101) ?_
        try go_wp2
        go_ret
        exact ⟨(qK15), (qK6 GE131.1)⟩
      ·replace c7 := zm c7; subst c7; rw [zY (show ¬ (false = true) by decide)] at H; obtain rfl := zl H; have p130 : 0 ≤ (x3_1 : Int) := zb (qK12); have q130 : x3_1 < (l0.length : Int) := zb (qK12); obtain ⟨ad130, e130, hx130_0, hx130_1, hx130_2⟩ := at_T44 HR0.1 x3_1 p130 q130; cases e130; replace hx130_0 := (HB.1.cell (zd w _ hx130_0)).trans hx130_0; replace hx130_1 := (HB.1.cell (zd w _ hx130_1)).trans hx130_1; replace hx130_2 := (HB.1.cell (zd w _ hx130_2)).trans hx130_2; replace p130 := zv p130; replace q130 := zv q130
       try go_wp2_with (first | ((with_reducible refine zp (N := 4) rfl ?_); refine zA ?hg (N := 4) ?hd (cs := #[.string (⟨#[]⟩ : ByteArray), .int .i64 0, .int .i64 0]) (t := 44) ?hr ?_; (case hd | hg => rfl); (case hr => exact (qK21)); intro gb131 hg w31 hbox hb; have BK131 := za hbox; have GW131 := za qK90; have GE131 := za qK90; replace HB := za qK85; clear hb hbox hg; have hcz32_0 : w31.cell? ⟨gb131, 0, none⟩ = some (.string (⟨#[]⟩ : ByteArray)) := (blk_cell BK131.1 0).trans rfl; have hcz32_1 : w31.cell? ⟨gb131, 1, none⟩ = some (.int .i64 0) := (blk_cell BK131.1 1).trans rfl; have hcz32_2 : w31.cell? ⟨gb131, 2, none⟩ = some (.int .i64 0) := (blk_cell BK131.1 2).trans rfl; have hfz32_0 := ze BK131.1 0; have hfz32_1 := ze BK131.1 1; have hfz32_2 := ze BK131.1 2))
       have n0_ : Aside0 ((((w31.setCell ⟨gb131, 0, none⟩ (.string ((rd_T44 l0 x3_1).f0))).setCell ⟨gb131, 1, none⟩ (.int .i64 ((rd_T44 l0 x3_1).f1))).setCell ⟨gb131, 2, none⟩ (.int .i64 ((rd_T44 l0 x3_1).f2))).heap[gb131]? = some (.cells #[.string ((rd_T44 l0 x3_1).f0), .int .i64 ((rd_T44 l0 x3_1).f1), .int .i64 ((rd_T44 l0 x3_1).f2)] 44 (0, 0))) := ⟨(qK20)⟩; have n1_ : Aside0 (Below w.heap.size w (((w31.setCell ⟨gb131, 0, none⟩ (.string ((rd_T44 l0 x3_1).f0))).setCell ⟨gb131, 1, none⟩ (.int .i64 ((rd_T44 l0 x3_1).f1))).setCell ⟨gb131, 2, none⟩ (.int .i64 ((rd_T44 l0 x3_1).f2)))) := ⟨(qK6 GE131.1)⟩
       (try clear BK131)
       (try clear HB)
       generalize (((w31.setCell ⟨gb131, 0, none⟩ (.string ((rd_T44 l0 x3_1).f0))).setCell ⟨gb131, 1, none⟩ (.int .i64 ((rd_T44 l0 x3_1).f1))).setCell ⟨gb131, 2, none⟩ (.int .i64 ((rd_T44 l0 x3_1).f2))) = w33 at n0_ n1_ ⊢
       have BK131 := n0_; have HB := n1_; clear n0_ n1_; replace BK131 := za (zh BK131.1); replace HB := za (below_drew1 HB.1)
       refine start_ (n := 31) (S := fun w' => w'.cell? ⟨gb131, 0, none⟩ = some (.string ((rd_T44 l0 x3_1).f0)) ∧ w'.cell? ⟨gb131, 1, none⟩ = some (.int .i64 ((rd_T44 l0 x3_1).f1)) ∧ w'.cell? ⟨gb131, 2, none⟩ = some (.int .i64 ((rd_T44 l0 x3_1).f2))) (ds := []) qKb11 (qK18) rfl rfl ⟨(blk_cell BK131.1 0).trans rfl, (blk_cell BK131.1 1).trans rfl, (blk_cell BK131.1 2).trans rfl⟩ (fun hHeld => ?_); refine with_tabW spec_l13Good.tab5 spec_l13Good.bits5 (fun HT_ HW_ => ?_)
       generalize w33.drew = w34 at BK131 HB hHeld ⊢
       refine pure_ (i := 0) (N := some 15) (v := ?_) (a' := ?_) qKb12 rfl rfl (qK9) (fun _ _ _ h => h) (zU ⟨by rfl, ?_⟩) ?_ ?_
       rotate_left; exact qK6_c1; rotate_left; exact qK6_c0
       refine take_ (i := 1) (N := some 16) (v := ?_) (a' := ?_) qKb13 rfl rfl (take_ofW HT_.1 HW_.1 (qK18)) (fun _ _ _ h => h) (zU ⟨by rfl, ?_⟩) hHeld ?_ ?_
       rotate_left; exact qK6_c6; rotate_left; exact qK6_c0
       refine one_ (i := 2) (N := some 17) qKb14 rfl rfl (qK88) (by decide) (fun K hK => ?_)
       refine goes_ Try.func68 (qK18) rfl #[.string ((rd_T44 l0 x3_1).f0)] (by rfl) rfl rfl (qK5) ?_
       with_reducible refine (spec_l13Letter.calls ((rd_T44 l0 x3_1).f0) true _ A4.1).mono ?_
       rintro e w' ⟨rfl, ⟨nd, rfl⟩⟩
       refine ⟨_, rfl, ?_⟩
       refine hK.out _ _ ⟨(blk_cell BK131.1 0).trans rfl, (blk_cell BK131.1 1).trans rfl, (blk_cell BK131.1 2).trans rfl⟩ (fun hHeld => ?_)
       clear hK K
       refine norm_ (a' := ?_) ?_ ?_
       rotate_left
       ·exact qK6_c2
       refine pure_ (i := 3) (N := some 18) (v := ?_) (a' := ?_) qKb15 rfl rfl (qK9) (fun _ _ _ h => h) (zU ⟨by rfl, ?_⟩) ?_ ?_
       rotate_left; exact qK6_c1; rotate_left; exact qK6_c0
       refine pure_ (i := 4) (N := some 19) (v := ?_) (a' := ?_) qKb16 rfl rfl (qK9) (fun _ _ _ h => h) (zU ⟨by rfl, ?_⟩) ?_ ?_
       rotate_left; exact qK6_c1; rotate_left; exact qK6_c0
       refine pure_ (i := 5) (N := some 20) (v := ?_) (a' := ?_) qKb17 rfl rfl (qK9) (fun _ _ _ h => h) (zU ⟨by rfl, ?_⟩) ?_ ?_
       rotate_left; exact qK6_c1; rotate_left; exact qK6_c0
       refine take_ (i := 6) (N := some 21) (v := ?_) (a' := ?_) qKb18 rfl rfl (take_ofW HT_.1 HW_.1 (qK18)) (fun _ _ _ h => h) (zU ⟨by rfl, ?_⟩) hHeld ?_ ?_
       rotate_left; exact qK6_c6; rotate_left; exact qK6_c0
       refine one_ (i := 7) (N := some 22) qKb19 rfl rfl (qK88) (by decide) (fun K hK => ?_)
       refine goes_ Try.func64 (qK18) rfl #[.int .i64 ((rd_T44 l0 x3_1).f1), .int .i64 (-1000), .int .i64 1000] (by rfl) rfl rfl (qK5) ?_
       with_reducible refine (spec_l1In.calls ((rd_T44 l0 x3_1).f1) (-1000) 1000 false _ A6.1).mono ?_
       rintro e w' ⟨rfl, ⟨nd, rfl⟩⟩
       refine ⟨_, rfl, ?_⟩
       refine hK.out _ _ ⟨(blk_cell BK131.1 0).trans rfl, (blk_cell BK131.1 1).trans rfl, (blk_cell BK131.1 2).trans rfl⟩ (fun hHeld => ?_)
       clear hK K
       refine norm_ (a' := ?_) ?_ ?_
       rotate_left
       ·exact qK6_c3
       refine pure_ (i := 8) (N := some 23) (v := ?_) (a' := ?_) qKb20 rfl rfl (qK9) (fun _ _ _ h => h) (zU ⟨by rfl, ?_⟩) ?_ ?_
       rotate_left; exact qK6_c1; rotate_left; exact qK6_c0
       refine pure_ (i := 9) (N := some 24) (v := ?_) (a' := ?_) qKb21 rfl rfl (qK9) (fun _ _ _ h => h) (zU ⟨by rfl, ?_⟩) ?_ ?_
       rotate_left; exact qK6_c1; rotate_left; exact qK6_c0
       refine pure_ (i := 10) (N := some 25) (v := ?_) (a' := ?_) qKb22 rfl rfl (qK9) (fun _ _ _ h => h) (zU ⟨by rfl, ?_⟩) ?_ ?_
       rotate_left; exact qK6_c1; rotate_left; exact qK6_c0
       refine pure_ (i := 11) (N := some 26) (v := undef) (a' := ?_) qKb23 rfl rfl (qK9) (fun _ _ _ h => h) (Or.inr ⟨by rfl, rfl⟩) ?_ ?_
       rotate_left
       ·exact qK6_c0
       refine pure_ (i := 12) (N := some 27) (v := undef) (a' := ?_) qKb24 rfl rfl (qK9) (fun _ _ _ h => h) (Or.inr ⟨by rfl, rfl⟩) ?_ ?_
       rotate_left
       ·exact qK6_c0
       refine pure_ (i := 13) (N := some 28) (v := undef) (a' := ?_) qKb25 rfl rfl (qK9) (fun _ _ _ h => h) (Or.inr ⟨by rfl, rfl⟩) ?_ ?_
       rotate_left
       ·exact qK6_c0
       refine pure_ (i := 14) (N := some 29) (v := undef) (a' := ?_) qKb26 rfl rfl (qK9) (fun _ _ _ h => h) (Or.inr ⟨by rfl, rfl⟩) ?_ ?_
       rotate_left
       ·exact qK6_c0
       refine pure_ (i := 15) (N := some 30) (v := ?_) (a' := ?_) qKb27 rfl rfl (qK9) (fun _ _ _ h => h) (zU ⟨by rfl, ?_⟩) ?_ ?_
       rotate_left; exact qK6_c1; rotate_left; exact qK6_c0
       refine pure_ (i := 16) (N := some 31) (v := ?_) (a' := ?_) qKb28 rfl rfl (qK9) (fun _ _ _ h => h) (zU ⟨by rfl, ?_⟩) ?_ ?_
       rotate_left; exact qK6_c1; rotate_left; exact qK6_c0
       refine pure_ (i := 17) (N := some 32) (v := undef) (a' := ?_) qKb29 rfl rfl (qK9) (fun _ _ _ h => h) (Or.inr ⟨by rfl, rfl⟩) ?_ ?_
       rotate_left
       ·exact qK6_c0
       refine pure_ (i := 18) (N := some 33) (v := undef) (a' := ?_) qKb30 rfl rfl (qK9) (fun _ _ _ h => h) (Or.inr ⟨by rfl, rfl⟩) ?_ ?_
       rotate_left
       ·exact qK6_c0
       refine pure_ (i := 19) (N := some 34) (v := undef) (a' := ?_) qKb31 rfl rfl (qK9) (fun _ _ _ h => h) (Or.inr ⟨by rfl, rfl⟩) ?_ ?_
       rotate_left
       ·exact qK6_c0
       refine pure_ (i := 20) (N := some 35) (v := undef) (a' := ?_) qKb32 rfl rfl (qK9) (fun _ _ _ h => h) (Or.inr ⟨by rfl, rfl⟩) ?_ ?_
       rotate_left
       ·exact qK6_c0
       refine pure_ (i := 21) (N := some 36) (v := undef) (a' := ?_) qKb33 rfl rfl (qK9) (fun _ _ _ h => h) (Or.inr ⟨by rfl, rfl⟩) ?_ ?_
       rotate_left
       ·exact qK6_c0
       refine pure_ (i := 22) (N := some 37) (v := undef) (a' := ?_) qKb34 rfl rfl (qK9) (fun _ _ _ h => h) (Or.inr ⟨by rfl, rfl⟩) ?_ ?_
       rotate_left
       ·exact qK6_c0
       refine pure_ (i := 23) (N := some 38) (v := undef) (a' := ?_) qKb35 rfl rfl (qK9) (fun _ _ _ h => h) (Or.inr ⟨by rfl, rfl⟩) ?_ ?_
       rotate_left
       ·exact qK6_c0
       refine pure_ (i := 24) (N := some 39) (v := undef) (a' := ?_) qKb36 rfl rfl (qK9) (fun _ _ _ h => h) (Or.inr ⟨by rfl, rfl⟩) ?_ ?_
       rotate_left
       ·exact qK6_c0
       refine pure_ (i := 25) (N := some 40) (v := undef) (a' := ?_) qKb43 rfl rfl (qK9) (fun _ _ _ h => h) (Or.inr ⟨by rfl, rfl⟩) ?_ ?_
       rotate_left
       ·exact qK6_c0
       refine pure_ (i := 26) (N := some 41) (v := undef) (a' := ?_) qKb38 rfl rfl (qK9) (fun _ _ _ h => h) (Or.inr ⟨by rfl, rfl⟩) ?_ ?_
       rotate_left
       ·exact qK6_c0
       refine pure_ (i := 27) (N := some 42) (v := undef) (a' := ?_) qKb39 rfl rfl (qK9) (fun _ _ _ h => h) (Or.inr ⟨by rfl, rfl⟩) ?_ ?_
       rotate_left
       ·exact qK6_c0
       refine pure_ (i := 28) (N := some 43) (v := undef) (a' := ?_) qKb40 rfl rfl (qK9) (fun _ _ _ h => h) (Or.inr ⟨by rfl, rfl⟩) ?_ ?_
       rotate_left
       ·exact qK6_c0
       refine pure_ (i := 29) (N := some 44) (v := undef) (a' := ?_) qKb41 rfl rfl (qK9) (fun _ _ _ h => h) (Or.inr ⟨by rfl, rfl⟩) ?_ ?_
       rotate_left
       ·exact qK6_c0
       refine pure_ (i := 30) (N := some 45) (v := ?_) (a' := ?_) qKb42 rfl rfl (qK9) (fun _ _ _ h => h) (zU ⟨by rfl, ?_⟩) ?_ ?_
       rotate_left; exact qK6_c1; rotate_left; exact qK6_c0
       refine done_ (qK101) ?_
       try go_wp2
       go_ret
       exact ⟨(qK15), (qK6 GE131.1)⟩
     ·replace c5 := zm c5; subst c5; rw [zY (show ¬ (false = true) by decide)] at H; obtain rfl := zl H; have p130 : 0 ≤ (x3_1 : Int) := zb (qK12); have q130 : x3_1 < (l0.length : Int) := zb (qK12); obtain ⟨ad130, e130, hx130_0, hx130_1, hx130_2⟩ := at_T44 HR0.1 x3_1 p130 q130; cases e130; replace hx130_0 := (HB.1.cell (zd w _ hx130_0)).trans hx130_0; replace hx130_1 := (HB.1.cell (zd w _ hx130_1)).trans hx130_1; replace hx130_2 := (HB.1.cell (zd w _ hx130_2)).trans hx130_2; replace p130 := zv p130; replace q130 := zv q130
      try go_wp2_with (first | ((with_reducible refine zp (N := 4) rfl ?_); refine zA ?hg (N := 4) ?hd (cs := #[.string (⟨#[]⟩ : ByteArray), .int .i64 0, .int .i64 0]) (t := 44) ?hr ?_; (case hd | hg => rfl); (case hr => exact (qK21)); intro gb131 hg w35 hbox hb; have BK131 := za hbox; have GW131 := za qK90; have GE131 := za qK90; replace HB := za qK85; clear hb hbox hg; have hcz36_0 : w35.cell? ⟨gb131, 0, none⟩ = some (.string (⟨#[]⟩ : ByteArray)) := (blk_cell BK131.1 0).trans rfl; have hcz36_1 : w35.cell? ⟨gb131, 1, none⟩ = some (.int .i64 0) := (blk_cell BK131.1 1).trans rfl; have hcz36_2 : w35.cell? ⟨gb131, 2, none⟩ = some (.int .i64 0) := (blk_cell BK131.1 2).trans rfl; have hfz36_0 := ze BK131.1 0; have hfz36_1 := ze BK131.1 1; have hfz36_2 := ze BK131.1 2))
      have n0_ : Aside0 ((((w35.setCell ⟨gb131, 0, none⟩ (.string ((rd_T44 l0 x3_1).f0))).setCell ⟨gb131, 1, none⟩ (.int .i64 ((rd_T44 l0 x3_1).f1))).setCell ⟨gb131, 2, none⟩ (.int .i64 ((rd_T44 l0 x3_1).f2))).heap[gb131]? = some (.cells #[.string ((rd_T44 l0 x3_1).f0), .int .i64 ((rd_T44 l0 x3_1).f1), .int .i64 ((rd_T44 l0 x3_1).f2)] 44 (0, 0))) := ⟨(qK20)⟩; have n1_ : Aside0 (Below w.heap.size w (((w35.setCell ⟨gb131, 0, none⟩ (.string ((rd_T44 l0 x3_1).f0))).setCell ⟨gb131, 1, none⟩ (.int .i64 ((rd_T44 l0 x3_1).f1))).setCell ⟨gb131, 2, none⟩ (.int .i64 ((rd_T44 l0 x3_1).f2)))) := ⟨(qK6 GE131.1)⟩
      (try clear BK131)
      (try clear HB)
      generalize (((w35.setCell ⟨gb131, 0, none⟩ (.string ((rd_T44 l0 x3_1).f0))).setCell ⟨gb131, 1, none⟩ (.int .i64 ((rd_T44 l0 x3_1).f1))).setCell ⟨gb131, 2, none⟩ (.int .i64 ((rd_T44 l0 x3_1).f2))) = w37 at n0_ n1_ ⊢
      have BK131 := n0_; have HB := n1_; clear n0_ n1_; replace BK131 := za (zh BK131.1); replace HB := za (below_drew1 HB.1)
      refine start_ (n := 31) (S := fun w' => w'.cell? ⟨gb131, 0, none⟩ = some (.string ((rd_T44 l0 x3_1).f0)) ∧ w'.cell? ⟨gb131, 1, none⟩ = some (.int .i64 ((rd_T44 l0 x3_1).f1)) ∧ w'.cell? ⟨gb131, 2, none⟩ = some (.int .i64 ((rd_T44 l0 x3_1).f2))) (ds := []) qKb11 (qK18) rfl rfl ⟨(blk_cell BK131.1 0).trans rfl, (blk_cell BK131.1 1).trans rfl, (blk_cell BK131.1 2).trans rfl⟩ (fun hHeld => ?_); refine with_tabW spec_l13Good.tab5 spec_l13Good.bits5 (fun HT_ HW_ => ?_)
      generalize w37.drew = w38 at BK131 HB hHeld ⊢
      refine pure_ (i := 0) (N := some 15) (v := ?_) (a' := ?_) qKb12 rfl rfl (qK9) (fun _ _ _ h => h) (zU ⟨by rfl, ?_⟩) ?_ ?_
      rotate_left; exact qK6_c1; rotate_left; exact qK6_c0
      refine take_ (i := 1) (N := some 16) (v := ?_) (a' := ?_) qKb13 rfl rfl (take_ofW HT_.1 HW_.1 (qK18)) (fun _ _ _ h => h) (zU ⟨by rfl, ?_⟩) hHeld ?_ ?_
      rotate_left; exact qK6_c6; rotate_left; exact qK6_c0
      refine one_ (i := 2) (N := some 17) qKb14 rfl rfl (qK88) (by decide) (fun K hK => ?_)
      refine goes_ Try.func68 (qK18) rfl #[.string ((rd_T44 l0 x3_1).f0)] (by rfl) rfl rfl (qK5) ?_
      with_reducible refine (spec_l13Letter.calls ((rd_T44 l0 x3_1).f0) false _ A4.1).mono ?_
      rintro e w' ⟨rfl, ⟨nd, rfl⟩⟩
      refine ⟨_, rfl, ?_⟩
      refine hK.out _ _ ⟨(blk_cell BK131.1 0).trans rfl, (blk_cell BK131.1 1).trans rfl, (blk_cell BK131.1 2).trans rfl⟩ (fun hHeld => ?_)
      clear hK K
      refine norm_ (a' := ?_) ?_ ?_
      rotate_left
      ·exact qK6_c2
      refine pure_ (i := 3) (N := some 18) (v := ?_) (a' := ?_) qKb15 rfl rfl (qK9) (fun _ _ _ h => h) (zU ⟨by rfl, ?_⟩) ?_ ?_
      rotate_left; exact qK6_c1; rotate_left; exact qK6_c0
      refine pure_ (i := 4) (N := some 19) (v := ?_) (a' := ?_) qKb16 rfl rfl (qK9) (fun _ _ _ h => h) (zU ⟨by rfl, ?_⟩) ?_ ?_
      rotate_left; exact qK6_c1; rotate_left; exact qK6_c0
      refine pure_ (i := 5) (N := some 20) (v := undef) (a' := ?_) qKb17 rfl rfl (qK9) (fun _ _ _ h => h) (Or.inr ⟨by rfl, rfl⟩) ?_ ?_
      rotate_left
      ·exact qK6_c0
      refine pure_ (i := 6) (N := some 21) (v := undef) (a' := ?_) qKb18 rfl rfl (qK9) (fun _ _ _ h => h) (Or.inr ⟨by rfl, rfl⟩) ?_ ?_
      rotate_left
      ·exact qK6_c0
      refine pure_ (i := 7) (N := some 22) (v := undef) (a' := ?_) qKb19 rfl rfl (qK9) (fun _ _ _ h => h) (Or.inr ⟨by rfl, rfl⟩) ?_ ?_
      rotate_left
      ·exact qK6_c0
      refine pure_ (i := 8) (N := some 23) (v := undef) (a' := ?_) qKb20 rfl rfl (qK9) (fun _ _ _ h => h) (Or.inr ⟨by rfl, rfl⟩) ?_ ?_
      rotate_left
      ·exact qK6_c0
      refine pure_ (i := 9) (N := some 24) (v := ?_) (a' := ?_) qKb21 rfl rfl (qK9) (fun _ _ _ h => h) (zU ⟨by rfl, ?_⟩) ?_ ?_
      rotate_left; exact qK6_c1; rotate_left; exact qK6_c0
      refine pure_ (i := 10) (N := some 25) (v := ?_) (a' := ?_) qKb22 rfl rfl (qK9) (fun _ _ _ h => h) (zU ⟨by rfl, ?_⟩) ?_ ?_
      rotate_left; exact qK6_c1; rotate_left; exact qK6_c0
      refine pure_ (i := 11) (N := some 26) (v := undef) (a' := ?_) qKb23 rfl rfl (qK9) (fun _ _ _ h => h) (Or.inr ⟨by rfl, rfl⟩) ?_ ?_
      rotate_left
      ·exact qK6_c0
      refine pure_ (i := 12) (N := some 27) (v := undef) (a' := ?_) qKb24 rfl rfl (qK9) (fun _ _ _ h => h) (Or.inr ⟨by rfl, rfl⟩) ?_ ?_
      rotate_left
      ·exact qK6_c0
      refine pure_ (i := 13) (N := some 28) (v := undef) (a' := ?_) qKb25 rfl rfl (qK9) (fun _ _ _ h => h) (Or.inr ⟨by rfl, rfl⟩) ?_ ?_
      rotate_left
      ·exact qK6_c0
      refine pure_ (i := 14) (N := some 29) (v := undef) (a' := ?_) qKb26 rfl rfl (qK9) (fun _ _ _ h => h) (Or.inr ⟨by rfl, rfl⟩) ?_ ?_
      rotate_left
      ·exact qK6_c0
      refine pure_ (i := 15) (N := some 30) (v := ?_) (a' := ?_) qKb27 rfl rfl (qK9) (fun _ _ _ h => h) (zU ⟨by rfl, ?_⟩) ?_ ?_
      rotate_left; exact qK6_c1; rotate_left; exact qK6_c0
      refine pure_ (i := 16) (N := some 31) (v := ?_) (a' := ?_) qKb28 rfl rfl (qK9) (fun _ _ _ h => h) (zU ⟨by rfl, ?_⟩) ?_ ?_
      rotate_left; exact qK6_c1; rotate_left; exact qK6_c0
      refine pure_ (i := 17) (N := some 32) (v := undef) (a' := ?_) qKb29 rfl rfl (qK9) (fun _ _ _ h => h) (Or.inr ⟨by rfl, rfl⟩) ?_ ?_
      rotate_left
      ·exact qK6_c0
      refine pure_ (i := 18) (N := some 33) (v := undef) (a' := ?_) qKb30 rfl rfl (qK9) (fun _ _ _ h => h) (Or.inr ⟨by rfl, rfl⟩) ?_ ?_
      rotate_left
      ·exact qK6_c0
      refine pure_ (i := 19) (N := some 34) (v := undef) (a' := ?_) qKb31 rfl rfl (qK9) (fun _ _ _ h => h) (Or.inr ⟨by rfl, rfl⟩) ?_ ?_
      rotate_left
      ·exact qK6_c0
      refine pure_ (i := 20) (N := some 35) (v := undef) (a' := ?_) qKb32 rfl rfl (qK9) (fun _ _ _ h => h) (Or.inr ⟨by rfl, rfl⟩) ?_ ?_
      rotate_left
      ·exact qK6_c0
      refine pure_ (i := 21) (N := some 36) (v := undef) (a' := ?_) qKb33 rfl rfl (qK9) (fun _ _ _ h => h) (Or.inr ⟨by rfl, rfl⟩) ?_ ?_
      rotate_left
      ·exact qK6_c0
      refine pure_ (i := 22) (N := some 37) (v := undef) (a' := ?_) qKb34 rfl rfl (qK9) (fun _ _ _ h => h) (Or.inr ⟨by rfl, rfl⟩) ?_ ?_
      rotate_left
      ·exact qK6_c0
      refine pure_ (i := 23) (N := some 38) (v := undef) (a' := ?_) qKb35 rfl rfl (qK9) (fun _ _ _ h => h) (Or.inr ⟨by rfl, rfl⟩) ?_ ?_
      rotate_left
      ·exact qK6_c0
      refine pure_ (i := 24) (N := some 39) (v := undef) (a' := ?_) qKb36 rfl rfl (qK9) (fun _ _ _ h => h) (Or.inr ⟨by rfl, rfl⟩) ?_ ?_
      rotate_left
      ·exact qK6_c0
      refine pure_ (i := 25) (N := some 40) (v := undef) (a' := ?_) qKb43 rfl rfl (qK9) (fun _ _ _ h => h) (Or.inr ⟨by rfl, rfl⟩) ?_ ?_
      rotate_left
      ·exact qK6_c0
      refine pure_ (i := 26) (N := some 41) (v := undef) (a' := ?_) qKb38 rfl rfl (qK9) (fun _ _ _ h => h) (Or.inr ⟨by rfl, rfl⟩) ?_ ?_
      rotate_left
      ·exact qK6_c0
      refine pure_ (i := 27) (N := some 42) (v := undef) (a' := ?_) qKb39 rfl rfl (qK9) (fun _ _ _ h => h) (Or.inr ⟨by rfl, rfl⟩) ?_ ?_
      rotate_left
      ·exact qK6_c0
      refine pure_ (i := 28) (N := some 43) (v := undef) (a' := ?_) qKb40 rfl rfl (qK9) (fun _ _ _ h => h) (Or.inr ⟨by rfl, rfl⟩) ?_ ?_
      rotate_left
      ·exact qK6_c0
      refine pure_ (i := 29) (N := some 44) (v := undef) (a' := ?_) qKb41 rfl rfl (qK9) (fun _ _ _ h => h) (Or.inr ⟨by rfl, rfl⟩) ?_ ?_
      rotate_left
      ·exact qK6_c0
      refine pure_ (i := 30) (N := some 45) (v := ?_) (a' := ?_) qKb42 rfl rfl (qK9) (fun _ _ _ h => h) (zU ⟨by rfl, ?_⟩) ?_ ?_
      rotate_left; exact qK6_c1; rotate_left; exact qK6_c0
      refine done_ (qK101) ?_
      try go_wp2
      go_ret
      exact ⟨(qK15), (qK6 GE131.1)⟩
    ·rw [zY c3] at H
     exact zM H (by simp)
   ·rw [zY c2] at H; have c2b0 : decide (x3_1 < (l0.length : Int)) = false := zu c2; clear c2; obtain rfl := zl H
    go_wp2
    go_ret
    exact ⟨(qK15), (qK2)⟩
set_option maxHeartbeats 8000000
set_option maxRecDepth 100000

def spec_l13Fits.f (k : Nat) (l0 : List (S44)) (a1 : Int) : Option (Bool) := (spec_l13Good.f k l0).bind fun t136 => (if t136 = true then ((spec_l1In.f a1 1 500).bind fun t137 => (if t137 = true then (if (l0.length : Int) = 0 then (some false) else ((spec_l13Bounds.f k l0 a1).bind fun bt138 => (if (wrap64 (bt138.2.1 - bt138.1)) < 20 then (some (decide ((wrap64 (bt138.2.2.2 - bt138.2.2.1)) < 20))) else (some false)))) else (some false))) else (some false))
theorem spec_l13Fits.calls (k : Nat) (A0 : Option Addr) (c0 : Nat) (l0 : List (S44)) (a1 : Int) (r : Bool) (w : World) (hr0 : Kd.C k44 w A0 l0.length l0) (hc0 : l0.length ≤ c0) (h : spec_l13Fits.f k l0 a1 = some r) :
  Calls Try.prog 44 #[.slice A0 l0.length c0, .int .i64 a1] w fun e w' => e = .returned (.bool r) ∧ Below w.heap.size w w' := by
 have HR0 := za hr0; have HC0 := za hc0; clear hr0 hc0; have HB := za (zr w.heap.size w); have H : ((spec_l13Good.f k l0).bind fun t136 => (if t136 = true then ((spec_l1In.f a1 1 500).bind fun t137 => (if t137 = true then (if (l0.length : Int) = 0 then (some false) else ((spec_l13Bounds.f k l0 a1).bind fun bt138 => (if (wrap64 (bt138.2.1 - bt138.1)) < 20 then (some (decide ((wrap64 (bt138.2.2.2 - bt138.2.2.1)) < 20))) else (some false)))) else (some false))) else (some false))) = some r := h; clear h; replace H := bindA H; obtain ⟨t136, A3, H⟩ := H; (try dsimp only at H)
 by_cases c4 : t136 = true
 ·subst c4; rw [zX rfl] at H; replace H := bindA H; obtain ⟨t137, A5, H⟩ := H; (try dsimp only at H)
  by_cases c6 : t137 = true
  ·subst c6; rw [zX rfl] at H
   by_cases c7 : (l0.length : Int) = 0
   ·rw [zX c7] at H; have c7b0 : ((l0.length : Int) == 0) = true := zP c7; have c7b1 : ((l0.length : Int) != 0) = false := zx c7; clear c7; obtain rfl := zl H
    go_enter Try.func44, Try.ntmps44
    go_wp2_with (first | ((with_reducible refine zo (f := 63) rfl ?_); refine zR (some 10) rfl rfl Try.func63 (qK18) rfl #[.slice A0 l0.length c0] rfl (qK5) ?_; (with_reducible refine (spec_l13Good.calls k _ _ l0 true _ ?s1 ?s2 A3.1).mono ?_); (case s1 => exact (qK32)); (case s2 => exact HC0.1); rintro e w8 ⟨rfl, hb⟩; refine ⟨_, rfl, ?_⟩; replace HB := za qK85; clear hb) | (go_at_call 64; (with_reducible refine (spec_l1In.calls a1 1 500 true _ A5.1).mono ?_); rintro e w' ⟨rfl, ⟨nd, rfl⟩⟩))
    go_ret
    exact ⟨(qK15), (qK2)⟩
   ·rw [zY c7] at H; have c7b0 : ((l0.length : Int) == 0) = false := zw c7; have c7b1 : ((l0.length : Int) != 0) = true := zQ c7; have c7b2 : ¬ (l0 = []) := fun h_ => c7 (by rw [h_]; rfl); replace H := bindA H; obtain ⟨⟨t138, t139, t140, t141⟩, A9, H⟩ := H; (try dsimp only at H)
    by_cases c10 : (wrap64 (t139 - t138)) < 20
    ·rw [zX c10] at H; have c10b0 : decide ((wrap64 (t139 - t138)) < 20) = true := zc c10; clear c10; obtain rfl := zl H
     go_enter Try.func44, Try.ntmps44
     go_wp2_with (first | ((with_reducible refine zo (f := 63) rfl ?_); refine zR (some 10) rfl rfl Try.func63 (qK18) rfl #[.slice A0 l0.length c0] rfl (qK5) ?_; (with_reducible refine (spec_l13Good.calls k _ _ l0 true _ ?s1 ?s2 A3.1).mono ?_); (case s1 => exact (qK32)); (case s2 => exact HC0.1); rintro e w11 ⟨rfl, hb⟩; refine ⟨_, rfl, ?_⟩; replace HB := za qK85; clear hb) | (go_at_call 64; (with_reducible refine (spec_l1In.calls a1 1 500 true _ A5.1).mono ?_); rintro e w' ⟨rfl, ⟨nd, rfl⟩⟩) | ((with_reducible refine zo (f := 45) rfl ?_); refine zR (some 25) rfl rfl Try.func45 (qK18) rfl #[.slice A0 l0.length c0, .int .i64 a1] rfl (qK5) ?_; (with_reducible refine (spec_l13Bounds.calls k _ _ l0 a1 t138 t139 t140 t141 _ ?s1 ?s2 A9.1).mono ?_); (case s1 => exact (qK114)); (case s2 => exact HC0.1); rintro e w' ⟨rfl, ⟨nd, rfl⟩⟩; refine ⟨_, rfl, ?_⟩))
     go_ret
     exact ⟨(qK15), (qK2)⟩
    ·rw [zY c10] at H; have c10b0 : decide ((wrap64 (t139 - t138)) < 20) = false := zu c10; clear c10; obtain rfl := zl H
     go_enter Try.func44, Try.ntmps44
     go_wp2_with (first | ((with_reducible refine zo (f := 63) rfl ?_); refine zR (some 10) rfl rfl Try.func63 (qK18) rfl #[.slice A0 l0.length c0] rfl (qK5) ?_; (with_reducible refine (spec_l13Good.calls k _ _ l0 true _ ?s1 ?s2 A3.1).mono ?_); (case s1 => exact (qK32)); (case s2 => exact HC0.1); rintro e w12 ⟨rfl, hb⟩; refine ⟨_, rfl, ?_⟩; replace HB := za qK85; clear hb) | (go_at_call 64; (with_reducible refine (spec_l1In.calls a1 1 500 true _ A5.1).mono ?_); rintro e w' ⟨rfl, ⟨nd, rfl⟩⟩) | ((with_reducible refine zo (f := 45) rfl ?_); refine zR (some 25) rfl rfl Try.func45 (qK18) rfl #[.slice A0 l0.length c0, .int .i64 a1] rfl (qK5) ?_; (with_reducible refine (spec_l13Bounds.calls k _ _ l0 a1 t138 t139 t140 t141 _ ?s1 ?s2 A9.1).mono ?_); (case s1 => exact (qK114)); (case s2 => exact HC0.1); rintro e w' ⟨rfl, ⟨nd, rfl⟩⟩; refine ⟨_, rfl, ?_⟩))
     go_ret
     exact ⟨(qK15), (qK2)⟩
  ·replace c6 := zm c6; subst c6; rw [zY (show ¬ (false = true) by decide)] at H; obtain rfl := zl H
   go_enter Try.func44, Try.ntmps44
   go_wp2_with (first | ((with_reducible refine zo (f := 63) rfl ?_); refine zR (some 10) rfl rfl Try.func63 (qK18) rfl #[.slice A0 l0.length c0] rfl (qK5) ?_; (with_reducible refine (spec_l13Good.calls k _ _ l0 true _ ?s1 ?s2 A3.1).mono ?_); (case s1 => exact (qK32)); (case s2 => exact HC0.1); rintro e w13 ⟨rfl, hb⟩; refine ⟨_, rfl, ?_⟩; replace HB := za qK85; clear hb) | (go_at_call 64; (with_reducible refine (spec_l1In.calls a1 1 500 false _ A5.1).mono ?_); rintro e w' ⟨rfl, ⟨nd, rfl⟩⟩))
   go_ret
   exact ⟨(qK15), (qK2)⟩
 ·replace c4 := zm c4; subst c4; rw [zY (show ¬ (false = true) by decide)] at H; obtain rfl := zl H
  go_enter Try.func44, Try.ntmps44
  go_wp2_with (first | ((with_reducible refine zo (f := 63) rfl ?_); refine zR (some 10) rfl rfl Try.func63 (qK18) rfl #[.slice A0 l0.length c0] rfl (qK5) ?_; (with_reducible refine (spec_l13Good.calls k _ _ l0 false _ ?s1 ?s2 A3.1).mono ?_); (case s1 => exact (qK32)); (case s2 => exact HC0.1); rintro e w14 ⟨rfl, hb⟩; refine ⟨_, rfl, ?_⟩; replace HB := za qK85; clear hb))
  go_ret
  exact ⟨(qK15), (qK2)⟩

def spec_l13At.l0 : Nat → List (S44) → Int → Int → Int → Int → Option (ByteArray)
 | 0, _, _, _, _, _ => none
 | k + 1, x0, x1, x2, x3, x9 => if x9 < (x0.length : Int) then (if 0 ≤ x9 then ((spec_l13Square.f ((rd_T44 x0 x9).f1) x1).bind fun t143 => (if t143 = x2 then ((spec_l13Square.f ((rd_T44 x0 x9).f2) x1).bind fun t145 => (if t145 = x3 then (some ((rd_T44 x0 x9).f0)) else (spec_l13At.l0 k x0 x1 x2 x3 (wrap64 (x9 + 1))))) else (spec_l13At.l0 k x0 x1 x2 x3 (wrap64 (x9 + 1))))) else (none)) else (some (⟨#[46]⟩ : ByteArray))
def spec_l13At.f (k : Nat) (l0 : List (S44)) (a1 : Int) (a2 : Int) (a3 : Int) : Option (ByteArray) := spec_l13At.l0 k l0 a1 a2 a3 0
theorem spec_l13At.calls (k : Nat) (A0 : Option Addr) (c0 : Nat) (l0 : List (S44)) (a1 : Int) (a2 : Int) (a3 : Int) (r : ByteArray) (w : World) (hr0 : Kd.C k44 w A0 l0.length l0) (hc0 : l0.length ≤ c0) (h : spec_l13At.f k l0 a1 a2 a3 = some r) :
  Calls Try.prog 46 #[.slice A0 l0.length c0, .int .i64 a1, .int .i64 a2, .int .i64 a3] w fun e w' => e = .returned (.string r) ∧ Drawn0 w w' := by
 have HR0 := za hr0; have HC0 := za hc0; clear hr0 hc0; have H : (spec_l13At.l0 k l0 a1 a2 a3 0) = some r := h; clear h; have H' := za H; clear H
 go_enter Try.func46, Try.ntmps46
 go_wp2
 go_loopg [9] k (fun kq v9 w' => ∃ (x9_1 : Int), v9 = .int .i64 x9_1 ∧ Aside0 (spec_l13At.l0 kq l0 a1 a2 a3 x9_1 = some r) ∧ Aside0 (kq ≤ k) ∧ Drawn0 w w')
 case atStart => exact ⟨(0), (qK17), H', ⟨zn _⟩, (qK35)⟩
 case round =>
  clear H'; obtain ⟨x9_1, rfl, HA, HK1, ⟨m1, rfl⟩⟩ := hrel
  cases gk with
  | zero => exact zM HA.1 (by simp [spec_l13At.l0])
  | succ k1 =>
   have H := HA.1; clear HA; simp only [spec_l13At.l0] at H
   by_cases c5 : x9_1 < (l0.length : Int)
   ·rw [zX c5] at H; have c5b0 : decide (x9_1 < (l0.length : Int)) = true := zc c5; clear c5
    by_cases c6 : 0 ≤ x9_1
    ·rw [zX c6] at H; have c6b0 : decide (0 ≤ x9_1) = true := zc c6; clear c6; replace H := bindA H; obtain ⟨t143, A7, H⟩ := H; (try dsimp only at H)
     by_cases c8 : t143 = a2
     ·rw [zX c8] at H; have c8b0 : (t143 == a2) = true := zP c8; have c8b1 : (t143 != a2) = false := zx c8; clear c8; replace H := bindA H; obtain ⟨t145, A9, H⟩ := H; (try dsimp only at H)
      by_cases c10 : t145 = a3
      ·rw [zX c10] at H; have c10b0 : (t145 == a3) = true := zP c10; have c10b1 : (t145 != a3) = false := zx c10; clear c10; obtain rfl := zl H; have p142 : 0 ≤ (x9_1 : Int) := zb (qK12); have q142 : x9_1 < (l0.length : Int) := zb (qK12); obtain ⟨ad142, e142, hx142_0, hx142_1, hx142_2⟩ := at_T44 HR0.1 x9_1 p142 q142; cases e142; replace p142 := zv p142; replace q142 := zv q142
       go_wp2_with (first | ((with_reducible refine zo (f := 51) rfl ?_); refine zR (some 22) rfl rfl Try.func51 (qK18) rfl #[.int .i64 ((rd_T44 l0 x9_1).f1), .int .i64 a1] rfl (qK5) ?_; (with_reducible refine (spec_l13Square.calls ((rd_T44 l0 x9_1).f1) a1 t143 _ A7.1).mono ?_); rintro e w' ⟨rfl, ⟨nd, rfl⟩⟩; refine ⟨_, rfl, ?_⟩; have p144 : 0 ≤ (x9_1 : Int) := zb (qK12); have q144 : x9_1 < (l0.length : Int) := zb (qK12); obtain ⟨ad144, e144, hx144_0, hx144_1, hx144_2⟩ := at_T44 HR0.1 x9_1 p144 q144; obtain rfl : ad142 = ad144 := (by injection e144); replace p144 := zv p144; replace q144 := zv q144) | (go_at_call 51; (with_reducible refine (spec_l13Square.calls ((rd_T44 l0 x9_1).f2) a1 t145 _ A9.1).mono ?_); rintro e w' ⟨rfl, ⟨nd, rfl⟩⟩; have p146 : 0 ≤ (x9_1 : Int) := zb (qK12); have q146 : x9_1 < (l0.length : Int) := zb (qK12); obtain ⟨ad146, e146, hx146_0, hx146_1, hx146_2⟩ := at_T44 HR0.1 x9_1 p146 q146; obtain rfl : ad142 = ad146 := (by injection e146); replace p146 := zv p146; replace q146 := zv q146))
       go_ret
       exact ⟨(qK17), (qK35)⟩
      ·rw [zY c10] at H; have c10b0 : (t145 == a3) = false := zw c10; have c10b1 : (t145 != a3) = true := zQ c10; have H' := za H; clear H; have p142 : 0 ≤ (x9_1 : Int) := zb (qK12); have q142 : x9_1 < (l0.length : Int) := zb (qK12); obtain ⟨ad142, e142, hx142_0, hx142_1, hx142_2⟩ := at_T44 HR0.1 x9_1 p142 q142; cases e142; replace p142 := zv p142; replace q142 := zv q142
       go_wp2_with (first | ((with_reducible refine zo (f := 51) rfl ?_); refine zR (some 22) rfl rfl Try.func51 (qK18) rfl #[.int .i64 ((rd_T44 l0 x9_1).f1), .int .i64 a1] rfl (qK5) ?_; (with_reducible refine (spec_l13Square.calls ((rd_T44 l0 x9_1).f1) a1 t143 _ A7.1).mono ?_); rintro e w' ⟨rfl, ⟨nd, rfl⟩⟩; refine ⟨_, rfl, ?_⟩; have p144 : 0 ≤ (x9_1 : Int) := zb (qK12); have q144 : x9_1 < (l0.length : Int) := zb (qK12); obtain ⟨ad144, e144, hx144_0, hx144_1, hx144_2⟩ := at_T44 HR0.1 x9_1 p144 q144; obtain rfl : ad142 = ad144 := (by injection e144); replace p144 := zv p144; replace q144 := zv q144) | (go_at_call 51; (with_reducible refine (spec_l13Square.calls ((rd_T44 l0 x9_1).f2) a1 t145 _ A9.1).mono ?_); rintro e w' ⟨rfl, ⟨nd, rfl⟩⟩))
       go_roundg k1
       case measure => have := HK1.1; omega
       case rel => exact ⟨(wrap64 (x9_1 + 1)), (qK17), H', ⟨by have := HK1.1; omega⟩, (qK35)⟩
     ·rw [zY c8] at H; have c8b0 : (t143 == a2) = false := zw c8; have c8b1 : (t143 != a2) = true := zQ c8; have H' := za H; clear H; have p142 : 0 ≤ (x9_1 : Int) := zb (qK12); have q142 : x9_1 < (l0.length : Int) := zb (qK12); obtain ⟨ad142, e142, hx142_0, hx142_1, hx142_2⟩ := at_T44 HR0.1 x9_1 p142 q142; cases e142; replace p142 := zv p142; replace q142 := zv q142
      go_wp2_with (first | ((with_reducible refine zo (f := 51) rfl ?_); refine zR (some 22) rfl rfl Try.func51 (qK18) rfl #[.int .i64 ((rd_T44 l0 x9_1).f1), .int .i64 a1] rfl (qK5) ?_; (with_reducible refine (spec_l13Square.calls ((rd_T44 l0 x9_1).f1) a1 t143 _ A7.1).mono ?_); rintro e w' ⟨rfl, ⟨nd, rfl⟩⟩; refine ⟨_, rfl, ?_⟩))
      go_roundg k1
      case measure => have := HK1.1; omega
      case rel => exact ⟨(wrap64 (x9_1 + 1)), (qK17), H', ⟨by have := HK1.1; omega⟩, (qK35)⟩
    ·rw [zY c6] at H
     exact zM H (by simp)
   ·rw [zY c5] at H; have c5b0 : decide (x9_1 < (l0.length : Int)) = false := zu c5; clear c5; obtain rfl := zl H
    go_wp2
    go_ret
    exact ⟨(qK17), (qK35)⟩

mutual
def spec_PlanText.l0 : Nat → List (S44) → Int → Int → Int → Int → ByteArray → Int → Option (ByteArray × Bool)
 | 0, _, _, _, _, _, _, _ => none
 | k + 1, x0, x1, x6, x7, x8, x10, x11 => if x11 ≥ x8 then (spec_PlanText.l1 k x0 x1 x6 x7 x8 x10 x11 x6) else (some (x10, true))
def spec_PlanText.l1 : Nat → List (S44) → Int → Int → Int → Int → ByteArray → Int → Int → Option (ByteArray × Bool)
 | 0, _, _, _, _, _, _, _, _ => none
 | k + 1, x0, x1, x6, x7, x8, x10, x11, x12 => if x12 ≤ x7 then ((spec_l13At.f k x0 x1 x12 x11).bind fun t152 => (if x10.size + t152.size ≤ 9223372036854775807 then (spec_PlanText.l1 k x0 x1 x6 x7 x8 (x10 ++ t152) x11 (wrap64 (x12 + 1))) else (none))) else (if x10.size + 1 ≤ 9223372036854775807 then (spec_PlanText.l0 k x0 x1 x6 x7 x8 (x10 ++ (⟨#[10]⟩ : ByteArray)) (wrap64 (x11 - 1))) else (none))
end
def spec_PlanText.f (k : Nat) (l0 : List (S44)) (a1 : Int) : Option (ByteArray × Bool) := (spec_l13Fits.f k l0 a1).bind fun t147 => (if t147 = true then ((spec_l13Bounds.f k l0 a1).bind fun bt148 => (spec_PlanText.l0 k l0 a1 bt148.1 bt148.2.1 bt148.2.2.1 (⟨#[]⟩ : ByteArray) bt148.2.2.2)) else (some ((⟨#[]⟩ : ByteArray), false)))
theorem spec_PlanText.calls (k : Nat) (A0 : Option Addr) (c0 : Nat) (l0 : List (S44)) (a1 : Int) (r1 : ByteArray) (r2 : Bool) (w : World) (hr0 : Kd.C k44 w A0 l0.length l0) (hc0 : l0.length ≤ c0) (h : spec_PlanText.f k l0 a1 = some (r1, r2)) :
  Calls Try.prog 9 #[.slice A0 l0.length c0, .int .i64 a1] w fun e w' => e = .returned (.tuple #[.string r1, .bool r2]) ∧ Below w.heap.size w w' := by
 have HR0 := za hr0; have HC0 := za hc0; clear hr0 hc0; have HB := za (zr w.heap.size w); have H : ((spec_l13Fits.f k l0 a1).bind fun t147 => (if t147 = true then ((spec_l13Bounds.f k l0 a1).bind fun bt148 => (spec_PlanText.l0 k l0 a1 bt148.1 bt148.2.1 bt148.2.2.1 (⟨#[]⟩ : ByteArray) bt148.2.2.2)) else (some ((⟨#[]⟩ : ByteArray), false)))) = some (r1, r2) := h; clear h; replace H := bindA H; obtain ⟨t147, A3, H⟩ := H; (try dsimp only at H)
 by_cases c4 : t147 = true
 ·subst c4; rw [zX rfl] at H; replace H := bindA H; obtain ⟨⟨t148, t149, t150, t151⟩, A5, H⟩ := H; (try dsimp only at H); have H' := za H; clear H
  go_enter Try.func9, Try.ntmps9
  go_wp2_with (first | ((with_reducible refine zo (f := 44) rfl ?_); refine zR (some 15) rfl rfl Try.func44 (qK18) rfl #[.slice A0 l0.length c0, .int .i64 a1] rfl (qK5) ?_; (with_reducible refine (spec_l13Fits.calls k _ _ l0 a1 true _ ?s1 ?s2 A3.1).mono ?_); (case s1 => exact (qK32)); (case s2 => exact HC0.1); rintro e w6 ⟨rfl, hb⟩; refine ⟨_, rfl, ?_⟩; replace HB := za qK85; clear hb) | ((with_reducible refine zo (f := 45) rfl ?_); refine zR (some 20) rfl rfl Try.func45 (qK18) rfl #[.slice A0 l0.length c0, .int .i64 a1] rfl (qK5) ?_; (with_reducible refine (spec_l13Bounds.calls k _ _ l0 a1 t148 t149 t150 t151 _ ?s1 ?s2 A5.1).mono ?_); (case s1 => exact (qK25)); (case s2 => exact HC0.1); rintro e w' ⟨rfl, ⟨nd, rfl⟩⟩; refine ⟨_, rfl, ?_⟩))
  go_loopg [10, 11] k (fun kq v10 v11 w' => ∃ (x10_1 : ByteArray) (x11_1 : Int), v10 = .string x10_1 ∧ v11 = .int .i64 x11_1 ∧ Aside0 (spec_PlanText.l0 kq l0 a1 t148 t149 t150 x10_1 x11_1 = some (r1, r2)) ∧ Aside0 (kq ≤ k) ∧ Aside0 (Below w.heap.size w w'))
  case atStart => exact ⟨((⟨#[]⟩ : ByteArray)), (t151), (qK17), (qK17), H', ⟨zn _⟩, ⟨(qK2)⟩⟩
  case round =>
   clear H'; (try clear c4); obtain ⟨x10_1, x11_1, rfl, rfl, HA, HK1, HB⟩ := hrel
   cases gk with
   | zero => exact zM HA.1 (by simp [spec_PlanText.l0])
   | succ k1 =>
    have H := HA.1; clear HA; simp only [spec_PlanText.l0] at H
    by_cases c7 : x11_1 ≥ t150
    ·rw [zX c7] at H; have c7b0 : decide (t150 ≤ x11_1) = true := zc c7; clear c7; have H' := za H; clear H
     go_wp2
     go_loopg [10, 12] k1 (fun kq v10 v12 w' => ∃ (x10_2 : ByteArray) (x12_2 : Int), v10 = .string x10_2 ∧ v12 = .int .i64 x12_2 ∧ Aside0 (spec_PlanText.l1 kq l0 a1 t148 t149 t150 x10_2 x11_1 x12_2 = some (r1, r2)) ∧ Aside0 (kq ≤ k1) ∧ Aside0 (Below w.heap.size w w'))
     case atStart => exact ⟨(x10_1), (t148), (qK17), (qK17), H', ⟨zn _⟩, ⟨(qK2)⟩⟩
     case round =>
      clear H'; (try clear c7b0); obtain ⟨x10_2, x12_2, rfl, rfl, HA, HK2, HB⟩ := hrel
      cases gk with
      | zero => exact zM HA.1 (by simp [spec_PlanText.l1])
      | succ k2 =>
       have H := HA.1; clear HA; simp only [spec_PlanText.l1] at H
       by_cases c8 : x12_2 ≤ t149
       ·rw [zX c8] at H; have c8b0 : decide (x12_2 ≤ t149) = true := zc c8; clear c8; replace H := bindA H; obtain ⟨t152, A9, H⟩ := H; (try dsimp only at H)
        by_cases c10 : x10_2.size + t152.size ≤ 9223372036854775807
        ·rw [zX c10] at H; have c10b0 := zv c10; have c10b1 : decide (x10_2.size + t152.size ≤ 9223372036854775807) = true := zc c10
         try have c10b2 : (9223372036854775807 < x10_2.size + t152.size) = False := eq_false (Nat.not_lt.2 c10)
         have H' := za H; clear H
         go_wp2_with (first | ((with_reducible refine zo (f := 46) rfl ?_); refine zR (some 42) rfl rfl Try.func46 (qK18) rfl #[.slice A0 l0.length c0, .int .i64 a1, .int .i64 x12_2, .int .i64 x11_1] rfl (qK5) ?_; (with_reducible refine (spec_l13At.calls k2 _ _ l0 a1 x12_2 x11_1 t152 _ ?s1 ?s2 A9.1).mono ?_); (case s1 => exact (qK25)); (case s2 => exact HC0.1); rintro e w' ⟨rfl, ⟨nd, rfl⟩⟩; refine ⟨_, rfl, ?_⟩))
         go_roundg k2
         case measure => have := HK1.1; have := HK2.1; omega
         case rel => exact ⟨(x10_2 ++ t152), (wrap64 (x12_2 + 1)), (qK17), (qK17), H', ⟨by have := HK1.1; have := HK2.1; omega⟩, ⟨(qK2)⟩⟩
        ·rw [zY c10] at H
         exact zM H (by simp)
       ·rw [zY c8] at H; have c8b0 : decide (x12_2 ≤ t149) = false := zu c8; clear c8
        by_cases c11 : x10_2.size + 1 ≤ 9223372036854775807
        ·rw [zX c11] at H; have c11b0 := zv c11; have c11b1 : decide (x10_2.size + 1 ≤ 9223372036854775807) = true := zc c11
         try have c11b2 : (9223372036854775807 < x10_2.size + 1) = False := eq_false (Nat.not_lt.2 c11)
         have H' := za H; clear H
         go_wp2
         go_roundg k2
         case measure => have := HK1.1; have := HK2.1; omega
         case rel => exact ⟨(x10_2 ++ (⟨#[10]⟩ : ByteArray)), (wrap64 (x11_1 - 1)), (qK17), (qK17), H', ⟨by have := HK1.1; have := HK2.1; omega⟩, ⟨(qK2)⟩⟩
        ·rw [zY c11] at H
         exact zM H (by simp)
    ·rw [zY c7] at H; have c7b0 : decide (t150 ≤ x11_1) = false := zu c7; clear c7; simp only [zZ, ya] at H; obtain ⟨rfl, rfl⟩ := H
     go_wp2
     go_ret2
     exact ⟨(qK15), (qK2)⟩
 ·replace c4 := zm c4; subst c4; rw [zY (show ¬ (false = true) by decide)] at H; simp only [zZ, ya] at H; obtain ⟨rfl, rfl⟩ := H
  go_enter Try.func9, Try.ntmps9
  go_wp2_with (first | ((with_reducible refine zo (f := 44) rfl ?_); refine zR (some 15) rfl rfl Try.func44 (qK18) rfl #[.slice A0 l0.length c0, .int .i64 a1] rfl (qK5) ?_; (with_reducible refine (spec_l13Fits.calls k _ _ l0 a1 false _ ?s1 ?s2 A3.1).mono ?_); (case s1 => exact (qK32)); (case s2 => exact HC0.1); rintro e w12 ⟨rfl, hb⟩; refine ⟨_, rfl, ?_⟩; replace HB := za qK85; clear hb))
  go_ret2
  exact ⟨(qK15), (qK2)⟩

def spec_l1Split.l0 : Nat → ByteArray → Int → List ByteArray → Int → Int → Option (List ByteArray)
 | 0, _, _, _, _, _ => none
 | k + 1, x0, x1, x5, x6, x7 => if x7 < (x0.size : Int) then (if 0 ≤ x7 then (if (bt x0 x7) = x1 then (if 0 ≤ x6 then (if x6 ≤ x7 then (if x7 ≤ (x0.size : Int) then (if x5.length < 8796093022208 then (spec_l1Split.l0 k x0 x1 (x5 ++ [x0.extract (x6 : Int).toNat (x7 : Int).toNat]) (wrap64 (x7 + 1)) (wrap64 (x7 + 1))) else (none)) else (none)) else (none)) else (none)) else (spec_l1Split.l0 k x0 x1 x5 x6 (wrap64 (x7 + 1)))) else (none)) else (if 0 ≤ x6 then (if x6 ≤ (x0.size : Int) then (if x5.length < 8796093022208 then (some (x5 ++ [x0.extract (x6 : Int).toNat x0.size])) else (none)) else (none)) else (none))
def spec_l1Split.f (k : Nat) (a0 : ByteArray) (a1 : Int) : Option (List ByteArray) := spec_l1Split.l0 k a0 a1 (([] : List ByteArray)) 0 0
theorem spec_l1Split.calls (k : Nat) (a0 : ByteArray) (a1 : Int) (r : List ByteArray) (w : World) (h : spec_l1Split.f k a0 a1 = some r) :
  Calls Try.prog 67 #[.string a0, .int .u8 a1] w fun e w' => ∃ v0_ : Value, e = .returned (v0_) ∧ Kd.R Kd.string 9 w' w.heap.size (fun _ => True) v0_ r ∧ Below w.heap.size w w' := by
 have HB := za (zr w.heap.size w); have H : (spec_l1Split.l0 k a0 a1 (([] : List ByteArray)) 0 0) = some r := h; clear h; obtain ⟨y153, hy153⟩ : ∃ y_ : List ByteArray, y_ = (([] : List ByteArray)) := ⟨_, rfl⟩; replace H : (spec_l1Split.l0 k a0 a1 y153 0 0) = some r := (qK7 hy153); have Ny153 := za hy153; clear hy153; have H' := za H; clear H
 go_enter Try.func67, Try.ntmps67
 go_wp2_with (first | ((with_reducible refine zp (N := 8) rfl ?_); refine zL Kd.string _ 9 ?hg (N := 8) ?hd (xs := ([] : List ByteArray)) (inner := []) (ok := fun _ => True) (okp := fun _ => True) ?hr ?hp (fun _ hk => hk) trivial (zr _ _) (zn _) (by simp) ?_; (case hd | hg => rfl); (case hr => exact (qK21)); (case hp => exact (zt _ _)); intro v154 w3 ho4 hb hg_ hnew_; clear hg_ hnew_; (first | rw [← Ny153.1] at ho4 | (simp only [Int.reduceToNat] at ho4; rw [← Ny153.1] at ho4)); have HO155 := za (qK106 ho4); replace HB := za qK85; clear hb ho4))
 go_loopg [5, 6, 7] k (fun kq v5 v6 v7 w' => ∃ (x5_1 : List ByteArray) (x6_1 : Int) (x7_1 : Int), v6 = .int .i64 x6_1 ∧ v7 = .int .i64 x7_1 ∧ Aside0 (spec_l1Split.l0 kq a0 a1 x5_1 x6_1 x7_1 = some r) ∧ Aside0 (kq ≤ k) ∧ Aside0 (Kd.R Kd.string 9 w' w.heap.size (fun _ => True) v5 x5_1) ∧ Aside0 (Below w.heap.size w w'))
 case atStart => exact ⟨(y153), (0), (0), (qK17), (qK17), H', ⟨zn _⟩, ⟨(qK0 HO155.1)⟩, ⟨(qK2)⟩⟩
 case round =>
  clear H'; obtain ⟨x5_1, x6_1, x7_1, rfl, rfl, HA, HK1, HO_5, HB⟩ := hrel
  cases gk with
  | zero => exact zM HA.1 (by simp [spec_l1Split.l0])
  | succ k1 =>
   have H := HA.1; clear HA; simp only [spec_l1Split.l0] at H
   by_cases c5 : x7_1 < (a0.size : Int)
   ·rw [zX c5] at H; have c5b0 : decide (x7_1 < (a0.size : Int)) = true := zc c5; clear c5
    by_cases c6 : 0 ≤ x7_1
    ·rw [zX c6] at H; have c6b0 : decide (0 ≤ x7_1) = true := zc c6; clear c6
     by_cases c8 : (bt a0 x7_1) = a1
     ·rw [zX c8] at H; have c8b0 : ((bt a0 x7_1) == a1) = true := zP c8; have c8b1 : ((bt a0 x7_1) != a1) = false := zx c8; clear c8
      by_cases c9 : 0 ≤ x6_1
      ·rw [zX c9] at H; have c9b0 := zv c9; have c9b1 : decide (0 ≤ x6_1) = true := zc c9; clear c9
       by_cases c10 : x6_1 ≤ x7_1
       ·rw [zX c10] at H; have c10b0 := zv c10; have c10b1 : decide (x6_1 ≤ x7_1) = true := zc c10; clear c10
        by_cases c11 : x7_1 ≤ (a0.size : Int)
        ·rw [zX c11] at H; have c11b0 := zv c11; have c11b1 : decide (x7_1 ≤ (a0.size : Int)) = true := zc c11; clear c11
         by_cases c12 : x5_1.length < 8796093022208
         ·rw [zX c12] at H; have LMc12 := za c12; clear c12; obtain ⟨y156, hy156⟩ : ∃ y_ : List ByteArray, y_ = (x5_1 ++ [a0.extract (x6_1 : Int).toNat (x7_1 : Int).toNat]) := ⟨_, rfl⟩; replace H : (spec_l1Split.l0 k1 a0 a1 y156 (wrap64 (x7_1 + 1)) (wrap64 (x7_1 + 1))) = some r := (qK7 hy156); have Ny156 := za hy156; clear hy156; have H' := za H; clear H; have p7 : 0 ≤ (x7_1 : Int) := zb (qK12); have q7 : x7_1 < (a0.size : Int) := zb (qK12); have hx7 := bt_at a0 x7_1; replace p7 := zv p7; replace q7 := zv q7
          go_wp2_with (first | ((with_reducible refine zq (b := .append) (xs := #[.tmp 20, .tmp 25]) rfl ?_); at_builtin; refine Kd.R_append Kd.string (w0 := w) w.heap.size rfl (.tmp 20) (.tmp 25) 30 9 (.string ⟨#[]⟩) 16 rfl Try.underlying30 info9 rfl (by decide) (by omega) u5 x5_1 (a0.extract (x6_1 : Int).toNat (x7_1 : Int).toNat) [.string (a0.extract (x6_1 : Int).toNat (x7_1 : Int).toNat)] (fun _ => True) (fun _ => False) rfl rfl ?aP (fun _ hk => hk.elim) ?aF ?aO ?aB ?aS ?aL ?_; (case aP => exact rfl); (case aB => exact (qK2)); (case aF => exact (fun _ _ => trivial)); (case aO => exact (qK0 HO_5.1)); (case aS => exact (by exact (zT (qK2)))); (case aL => have := LMc12.1; omega); intro v157 w13 ho hb hg hat; rw [← Ny156.1] at ho; replace HB := za hb; have HO158 := za ho; clear HO_5; clear ho hb hg hat))
          go_roundg k1
          case measure => have := HK1.1; omega
          case rel => exact ⟨(y156), (wrap64 (x7_1 + 1)), (wrap64 (x7_1 + 1)), (qK17), (qK17), H', ⟨by have := HK1.1; omega⟩, ⟨(qK0 HO158.1)⟩, ⟨(qK2)⟩⟩
         ·rw [zY c12] at H
          exact zM H (by simp)
        ·rw [zY c11] at H
         exact zM H (by simp)
       ·rw [zY c10] at H
        exact zM H (by simp)
      ·rw [zY c9] at H
       exact zM H (by simp)
     ·rw [zY c8] at H; have c8b0 : ((bt a0 x7_1) == a1) = false := zw c8; have c8b1 : ((bt a0 x7_1) != a1) = true := zQ c8; have H' := za H; clear H; have p7 : 0 ≤ (x7_1 : Int) := zb (qK12); have q7 : x7_1 < (a0.size : Int) := zb (qK12); have hx7 := bt_at a0 x7_1; replace p7 := zv p7; replace q7 := zv q7
      go_wp2
      go_roundg k1
      case measure => have := HK1.1; omega
      case rel => exact ⟨(x5_1), (x6_1), (wrap64 (x7_1 + 1)), (qK17), (qK17), H', ⟨by have := HK1.1; omega⟩, ⟨(qK0 HO_5.1)⟩, ⟨(qK2)⟩⟩
    ·rw [zY c6] at H
     exact zM H (by simp)
   ·rw [zY c5] at H; have c5b0 : decide (x7_1 < (a0.size : Int)) = false := zu c5; clear c5
    by_cases c14 : 0 ≤ x6_1
    ·rw [zX c14] at H; have c14b0 := zv c14; have c14b1 : decide (0 ≤ x6_1) = true := zc c14; clear c14
     by_cases c15 : x6_1 ≤ (a0.size : Int)
     ·rw [zX c15] at H; have c15b0 := zv c15; have c15b1 : decide (x6_1 ≤ (a0.size : Int)) = true := zc c15; clear c15
      by_cases c16 : x5_1.length < 8796093022208
      ·rw [zX c16] at H; have LMc16 := za c16; clear c16; obtain ⟨y159, hy159⟩ : ∃ y_ : List ByteArray, y_ = (x5_1 ++ [a0.extract (x6_1 : Int).toNat a0.size]) := ⟨_, rfl⟩; replace H : (some y159) = some r := (qK7 hy159); have Ny159 := za hy159; clear hy159; obtain rfl := zl H
       go_wp2_with (first | ((with_reducible refine zq (b := .append) (xs := #[.tmp 29, .tmp 33]) rfl ?_); at_builtin; refine Kd.R_append Kd.string (w0 := w) w.heap.size rfl (.tmp 29) (.tmp 33) 30 9 (.string ⟨#[]⟩) 16 rfl Try.underlying30 info9 rfl (by decide) (by omega) u5 x5_1 (a0.extract (x6_1 : Int).toNat a0.size) [.string (a0.extract (x6_1 : Int).toNat a0.size)] (fun _ => True) (fun _ => False) rfl rfl ?aP (fun _ hk => hk.elim) ?aF ?aO ?aB ?aS ?aL ?_; (case aP => exact rfl); (case aB => exact (qK2)); (case aF => exact (fun _ _ => trivial)); (case aO => exact (qK0 HO_5.1)); (case aS => exact (by exact (zT (qK2)))); (case aL => have := LMc16.1; omega); intro v160 w17 ho hb hg hat; rw [← Ny159.1] at ho; replace HB := za hb; have HO161 := za ho; clear HO_5; clear ho hb hg hat))
       go_ret
       exact ⟨_, (qK15), (qK0 HO161.1), (qK2)⟩
      ·rw [zY c16] at H
       exact zM H (by simp)
     ·rw [zY c15] at H
      exact zM H (by simp)
    ·rw [zY c14] at H
     exact zM H (by simp)

end Go.Proofs.Ytckidmhkhlbkeaa.MK
