-- tight2 (a walk)
import Derived.Test.YtckidmhkhlbkeaaStr
import Derived.Test.YtckidmhkhlbkeaaMPx0
namespace Go.Proofs.Ytckidmhkhlbkeaa.MP
open Go.RowKit Go.Proofs.YtckidmhkhlbkeaaW.PrintWords Go.Proofs.YtckidmhkhlbkeaaW.PrintLast
theorem qP2_c0 {p : Prop} (h : p := by
  simp only [Act.put, zY, zZ, ya, i64_w, i32_w]
  rfl) : p := h
theorem qP2_c1 {p : Prop} (h : p := by
  intro w'
  go_simp
  with_reducible rfl) : p := h
theorem qP2_c2 {p : Prop} (h : p := by
  show Act.put _ (some 17) _ = _
  simp only [Act.put, zY, zZ, ya, i64_w, i32_w]
  rfl) : p := h
theorem qP2_c3 {p : Prop} (h : p := by
  show Act.put _ (some 22) _ = _
  simp only [Act.put, zY, zZ, ya, i64_w, i32_w]
  rfl) : p := h
theorem qP2_c4 {p : Prop} (h : p := by
  rintro w' ⟨s0, s1, s2, s3, s4, s5⟩
  go_simp
  with_reducible rfl) : p := h
theorem qP2_c5 {p : Prop} (h : p := by
  show Act.put _ (some 28) _ = _
  simp only [Act.put, zY, zZ, ya, i64_w, i32_w]
  rfl) : p := h
theorem qP2_c6 {p : Prop} (h : p := by
  rintro w' ⟨s0, s1, s2⟩
  go_simp
  with_reducible rfl) : p := h
attribute [local go_sem] max2_int min2_int max_two min_two
set_option linter.unusedVariables false
set_option linter.unusedSimpArgs false

def spec_l13Good.l0 : Nat → List (S44) → Int → Option (Bool)
 | 0, _, _ => none
 | k + 1, x0, x3 => if x3 < (x0.length : Int) then (if 0 ≤ x3 then ((spec_l13Letter.f ((rd_T44 x0 x3).f0)).bind fun t115 => (if t115 = true then ((spec_l1In.f ((rd_T44 x0 x3).f1) (-1000) 1000).bind fun t116 => (if t116 = true then ((spec_l1In.f ((rd_T44 x0 x3).f2) (-1000) 1000).bind fun t117 => (if t117 = true then (if x3 > 0 then (if 0 ≤ (wrap64 (x3 - 1)) then (if (wrap64 (x3 - 1)) < (x0.length : Int) then (if ((Op.bytesLess (((rd_T44 x0 (wrap64 (x3 - 1))).f0).toList) (((rd_T44 x0 x3).f0).toList)) = true) then (spec_l13Good.l0 k x0 (wrap64 (x3 + 1))) else (some false)) else (none)) else (none)) else (spec_l13Good.l0 k x0 (wrap64 (x3 + 1)))) else (some false))) else (some false))) else (some false))) else (none)) else (some (decide ((x0.length : Int) ≤ 12)))
def spec_l13Good.f (k : Nat) (l0 : List (S44)) : Option (Bool) := spec_l13Good.l0 k l0 0
def spec_l13Good.T5 : Bool × List (List Nat × List Nat) := (true, [([], []), ([0], [0]), ([1], [1]), ([2], [2]), ([3, 2], [3]), ([4], [4]), ([5, 4], [4, 5]), ([6, 4, 4], [4, 6]), ([7, 4], [4, 7]), ([4, 8], [4, 8]), ([9, 7], [9]), ([10], [10]), ([11, 10], [10, 11]), ([12, 10, 10], [10, 12]), ([13, 10], [10, 13]), ([10, 14], [10, 14]), ([15, 13], [15]), ([16], [16]), ([17, 16], [16, 17]), ([18, 16, 16], [16, 18]), ([19], [19]), ([19], [19]), ([21, 19], [19, 21]), ([20, 22, 19], [19, 20, 22]), ([23, 19], [19, 23]), ([24, 19], [19, 24]), ([19], [19]), ([26, 19], [19, 26]), ([25, 27, 19], [19, 25, 27]), ([19, 28, 16], [16, 19, 28]), ([16, 29], [16, 29])])
def spec_l13Good.B5 : List Nat := [0, 1, 3, 7, 15, 31, 63, 127, 255, 511, 1023, 2047, 4095, 8191, 16383, 32767, 65535, 131071, 262143, 524287, 1048575, 1048575, 3145727, 8388607, 16777215, 33554431, 1048575, 68157439, 268435455, 536870911, 1073741823]
theorem spec_l13Good.tab5 : rtab .any (opsOf Try.f63 5) = spec_l13Good.T5 := by kernel_rfl
theorem spec_l13Good.bits5 : waitsOk spec_l13Good.T5.2 spec_l13Good.B5 = true := by kernel_rfl
set_option maxHeartbeats 8000000 in
set_option maxRecDepth 100000 in
theorem spec_l13Good.calls (k : Nat) (A0 : Option Addr) (c0 : Nat) (l0 : List (S44)) (r : Bool) (w : World) (hr0 : Kd.C k44 w A0 l0.length l0) (hc0 : l0.length ≤ c0) (h : spec_l13Good.f k l0 = some r) :
  Calls Try.prog 63 #[.slice A0 l0.length c0] w fun e w' => e = .returned (.bool r) ∧ Below w.heap.size w w' := by
 have hu44 := Try.underlying44; have HR0 := za hr0; have HC0 := za hc0; clear hr0 hc0; have HB := za (zp w.heap.size w); have H : (spec_l13Good.l0 k l0 0) = some r := h; clear h; have H' := za H; clear H
 go_enter Try.func63, Try.ntmps63
 go_wp2
 go_loopg [3] k (fun kq v3 w' => ∃ (x3_1 : Int), v3 = .int .i64 x3_1 ∧ Aside0 (spec_l13Good.l0 kq l0 x3_1 = some r) ∧ Aside0 (kq ≤ k) ∧ Aside0 (Below w.heap.size w w'))
 case atStart => exact ⟨(0), (qP17), H', ⟨zm _⟩, ⟨(qP1)⟩⟩
 case round =>
  clear H'; obtain ⟨x3_1, rfl, HA, HK1, HB⟩ := hrel
  cases gk with
  | zero => exact zJ HA.1 (by simp [spec_l13Good.l0])
  | succ k1 =>
   have H := HA.1; clear HA; simp only [spec_l13Good.l0] at H
   by_cases c2 : x3_1 < (l0.length : Int)
   ·rw [zU c2] at H; have c2b0 : decide (x3_1 < (l0.length : Int)) = true := zc c2; clear c2
    by_cases c3 : 0 ≤ x3_1
    ·rw [zU c3] at H; have c3b0 : decide (0 ≤ x3_1) = true := zc c3; clear c3; replace H := bindA H; obtain ⟨t115, A4, H⟩ := H; (try dsimp only at H)
     by_cases c5 : t115 = true
     ·subst c5; rw [zU rfl] at H; replace H := bindA H; obtain ⟨t116, A6, H⟩ := H; (try dsimp only at H)
      by_cases c7 : t116 = true
      ·subst c7; rw [zU rfl] at H; replace H := bindA H; obtain ⟨t117, A8, H⟩ := H; (try dsimp only at H)
       by_cases c9 : t117 = true
       ·subst c9; rw [zU rfl] at H
        by_cases c10 : x3_1 > 0
        ·rw [zU c10] at H; have c10b0 : decide (0 < x3_1) = true := zc c10; clear c10; obtain ⟨ji11, hji11⟩ : ∃ j_ : Int, (wrap64 (x3_1 - 1)) = j_ := ⟨_, rfl⟩
         replace H : (if 0 ≤ (ji11) then (if (ji11) < (l0.length : Int) then (if ((Op.bytesLess (((rd_T44 l0 (ji11)).f0).toList) (((rd_T44 l0 x3_1).f0).toList)) = true) then (spec_l13Good.l0 k1 l0 (wrap64 (x3_1 + 1))) else (some false)) else (none)) else (none)) = some r := by first | (rw [hji11] at H; exact H) | (simp only [hji11] at H ⊢; exact H)
         (try rw [hji11] at A4)
         (try rw [hji11] at A6)
         (try rw [hji11] at A8); have hji11w : (IntKind.i64.wrap (x3_1 - 1)) = ji11 := (i64_w _).trans hji11
         by_cases c12 : 0 ≤ (ji11)
         ·rw [zU c12] at H; have c12b0 : decide (0 ≤ (ji11)) = true := zc c12; clear c12
          by_cases c13 : (ji11) < (l0.length : Int)
          ·rw [zU c13] at H; have c13b0 : decide ((ji11) < (l0.length : Int)) = true := zc c13; clear c13
           by_cases c14 : ((Op.bytesLess (((rd_T44 l0 (ji11)).f0).toList) (((rd_T44 l0 x3_1).f0).toList)) = true)
           ·rw [zU c14] at H; have c14b0 : (Op.bytesLess (((rd_T44 l0 (ji11)).f0).toList) (((rd_T44 l0 x3_1).f0).toList)) = true := c14; clear c14; have H' := za H; clear H; have p113 : 0 ≤ (x3_1 : Int) := zb (qP9); have q113 : x3_1 < (l0.length : Int) := zb (qP9); obtain ⟨ad113, e113, hx113_0, hx113_1, hx113_2⟩ := at_T44 HR0.1 x3_1 p113 q113; cases e113; replace hx113_0 := (HB.1.cell (zd w _ hx113_0)).trans hx113_0; replace hx113_1 := (HB.1.cell (zd w _ hx113_1)).trans hx113_1; replace hx113_2 := (HB.1.cell (zd w _ hx113_2)).trans hx113_2; replace p113 := zt p113; replace q113 := zt q113
            try go_wp2_with (first | ((with_reducible refine zo (N := 4) rfl ?_); refine zy ?hg (N := 4) ?hd (cs := #[.string (⟨#[]⟩ : ByteArray), .int .i64 0, .int .i64 0]) (t := 44) ?hr ?_; (case hd | hg => rfl); (case hr => exact (qP24)); intro gb114 hg w15 hbox hb; have BK114 := za hbox; have GW114 := za qP69; have GE114 := za qP69; replace HB := za qP64; clear hb hbox hg; have hcz16_0 : w15.cell? ⟨gb114, 0, none⟩ = some (.string (⟨#[]⟩ : ByteArray)) := (blk_cell BK114.1 0).trans rfl; have hcz16_1 : w15.cell? ⟨gb114, 1, none⟩ = some (.int .i64 0) := (blk_cell BK114.1 1).trans rfl; have hcz16_2 : w15.cell? ⟨gb114, 2, none⟩ = some (.int .i64 0) := (blk_cell BK114.1 2).trans rfl; have hfz16_0 := ze BK114.1 0; have hfz16_1 := ze BK114.1 1; have hfz16_2 := ze BK114.1 2))
            have n0_ : Aside0 ((((w15.setCell ⟨gb114, 0, none⟩ (.string ((rd_T44 l0 x3_1).f0))).setCell ⟨gb114, 1, none⟩ (.int .i64 ((rd_T44 l0 x3_1).f1))).setCell ⟨gb114, 2, none⟩ (.int .i64 ((rd_T44 l0 x3_1).f2))).heap[gb114]? = some (.cells #[.string ((rd_T44 l0 x3_1).f0), .int .i64 ((rd_T44 l0 x3_1).f1), .int .i64 ((rd_T44 l0 x3_1).f2)] 44 (0, 0))) := ⟨(qP21)⟩; have n1_ : Aside0 (Below w.heap.size w (((w15.setCell ⟨gb114, 0, none⟩ (.string ((rd_T44 l0 x3_1).f0))).setCell ⟨gb114, 1, none⟩ (.int .i64 ((rd_T44 l0 x3_1).f1))).setCell ⟨gb114, 2, none⟩ (.int .i64 ((rd_T44 l0 x3_1).f2)))) := ⟨(qP14 GE114.1)⟩
            (try clear BK114)
            (try clear HB)
            generalize (((w15.setCell ⟨gb114, 0, none⟩ (.string ((rd_T44 l0 x3_1).f0))).setCell ⟨gb114, 1, none⟩ (.int .i64 ((rd_T44 l0 x3_1).f1))).setCell ⟨gb114, 2, none⟩ (.int .i64 ((rd_T44 l0 x3_1).f2))) = w17 at n0_ n1_ ⊢
            have BK114 := n0_; have HB := n1_; clear n0_ n1_; replace BK114 := za (zh BK114.1); replace HB := za (below_drew1 HB.1); have p118 : 0 ≤ ((ji11) : Int) := zb (qP9); have q118 : (ji11) < (l0.length : Int) := zb (qP9); obtain ⟨ad118, e118, hx118_0, hx118_1, hx118_2⟩ := at_T44 HR0.1 (ji11) p118 q118; have hw118_2 := hx118_2; have hw118_1 := hx118_1; have hw118_0 := hx118_0; obtain rfl : ad113 = ad118 := (by injection e118); replace hx118_0 := (HB.1.cell (zd w _ hx118_0)).trans hx118_0; replace hx118_1 := (HB.1.cell (zd w _ hx118_1)).trans hx118_1; replace hx118_2 := (HB.1.cell (zd w _ hx118_2)).trans hx118_2; replace p118 := zt p118; replace q118 := zt q118
            refine start_ (n := 31) (S := fun w' => w'.cell? ⟨gb114, 0, none⟩ = some (.string ((rd_T44 l0 x3_1).f0)) ∧ w'.cell? ⟨gb114, 1, none⟩ = some (.int .i64 ((rd_T44 l0 x3_1).f1)) ∧ w'.cell? ⟨gb114, 2, none⟩ = some (.int .i64 ((rd_T44 l0 x3_1).f2)) ∧ w'.cell? (ad113.add (((ji11)).toNat * 3)) = some (.string ((rd_T44 l0 (ji11)).f0)) ∧ w'.cell? ⟨(ad113.add (((ji11)).toNat * 3)).block, (ad113.add (((ji11)).toNat * 3)).off + 1, none⟩ = some (.int .i64 ((rd_T44 l0 (ji11)).f1)) ∧ w'.cell? ⟨(ad113.add (((ji11)).toNat * 3)).block, (ad113.add (((ji11)).toNat * 3)).off + 2, none⟩ = some (.int .i64 ((rd_T44 l0 (ji11)).f2))) (ds := []) qPb0 (qP22) rfl rfl ⟨(blk_cell BK114.1 0).trans rfl, (blk_cell BK114.1 1).trans rfl, (blk_cell BK114.1 2).trans rfl, ((HB.1.cell (zd w _ hw118_0)).trans hw118_0), ((HB.1.cell (zd w _ hw118_1)).trans hw118_1), ((HB.1.cell (zd w _ hw118_2)).trans hw118_2)⟩ (fun hHeld => ?_); refine with_tabW spec_l13Good.tab5 spec_l13Good.bits5 (fun HT_ HW_ => ?_)
            generalize w17.drew = w18 at BK114 HB hx118_0 hx118_1 hx118_2 hHeld ⊢
            refine pure_ (i := 0) (N := some 15) (v := ?_) (a' := ?_) qPb1 rfl rfl (qP10) (fun _ _ _ h => h) (zR ⟨by rfl, ?_⟩) ?_ ?_
            rotate_left; exact qP2_c1; rotate_left; exact qP2_c0
            refine take_ (i := 1) (N := some 16) (v := ?_) (a' := ?_) qPb2 rfl rfl (take_ofW HT_.1 HW_.1 (qP22)) (fun _ _ _ h => h) (zR ⟨by rfl, ?_⟩) hHeld ?_ ?_
            rotate_left; exact qP2_c4; rotate_left; exact qP2_c0
            refine one_ (i := 2) (N := some 17) qPb3 rfl rfl (qP70) (by decide) (fun K hK => ?_)
            refine goes_ Try.func68 (qP22) rfl #[.string ((rd_T44 l0 x3_1).f0)] (by rfl) rfl rfl (qP5) ?_
            with_reducible refine (spec_l13Letter.calls ((rd_T44 l0 x3_1).f0) true _ A4.1).mono ?_
            rintro e w' ⟨rfl, ⟨nd, rfl⟩⟩
            refine ⟨_, rfl, ?_⟩
            refine hK.out _ _ ⟨(blk_cell BK114.1 0).trans rfl, (blk_cell BK114.1 1).trans rfl, (blk_cell BK114.1 2).trans rfl, ((HB.1.cell (zd w _ hw118_0)).trans hw118_0), ((HB.1.cell (zd w _ hw118_1)).trans hw118_1), ((HB.1.cell (zd w _ hw118_2)).trans hw118_2)⟩ (fun hHeld => ?_)
            clear hK K
            refine norm_ (a' := ?_) ?_ ?_
            rotate_left
            ·exact qP2_c2
            refine pure_ (i := 3) (N := some 18) (v := ?_) (a' := ?_) qPb4 rfl rfl (qP10) (fun _ _ _ h => h) (zR ⟨by rfl, ?_⟩) ?_ ?_
            rotate_left; exact qP2_c1; rotate_left; exact qP2_c0
            refine pure_ (i := 4) (N := some 19) (v := ?_) (a' := ?_) qPb5 rfl rfl (qP10) (fun _ _ _ h => h) (zR ⟨by rfl, ?_⟩) ?_ ?_
            rotate_left; exact qP2_c1; rotate_left; exact qP2_c0
            refine pure_ (i := 5) (N := some 20) (v := ?_) (a' := ?_) qPb6 rfl rfl (qP10) (fun _ _ _ h => h) (zR ⟨by rfl, ?_⟩) ?_ ?_
            rotate_left; exact qP2_c1; rotate_left; exact qP2_c0
            refine take_ (i := 6) (N := some 21) (v := ?_) (a' := ?_) qPb7 rfl rfl (take_ofW HT_.1 HW_.1 (qP22)) (fun _ _ _ h => h) (zR ⟨by rfl, ?_⟩) hHeld ?_ ?_
            rotate_left; exact qP2_c4; rotate_left; exact qP2_c0
            refine one_ (i := 7) (N := some 22) qPb8 rfl rfl (qP70) (by decide) (fun K hK => ?_)
            refine goes_ Try.func64 (qP22) rfl #[.int .i64 ((rd_T44 l0 x3_1).f1), .int .i64 (-1000), .int .i64 1000] (by rfl) rfl rfl (qP5) ?_
            with_reducible refine (spec_l1In.calls ((rd_T44 l0 x3_1).f1) (-1000) 1000 true _ A6.1).mono ?_
            rintro e w' ⟨rfl, ⟨nd, rfl⟩⟩
            refine ⟨_, rfl, ?_⟩
            refine hK.out _ _ ⟨(blk_cell BK114.1 0).trans rfl, (blk_cell BK114.1 1).trans rfl, (blk_cell BK114.1 2).trans rfl, ((HB.1.cell (zd w _ hw118_0)).trans hw118_0), ((HB.1.cell (zd w _ hw118_1)).trans hw118_1), ((HB.1.cell (zd w _ hw118_2)).trans hw118_2)⟩ (fun hHeld => ?_)
            clear hK K
            refine norm_ (a' := ?_) ?_ ?_
            rotate_left
            ·exact qP2_c3
            refine pure_ (i := 8) (N := some 23) (v := ?_) (a' := ?_) qPb9 rfl rfl (qP10) (fun _ _ _ h => h) (zR ⟨by rfl, ?_⟩) ?_ ?_
            rotate_left; exact qP2_c1; rotate_left; exact qP2_c0
            refine pure_ (i := 9) (N := some 24) (v := ?_) (a' := ?_) qPb10 rfl rfl (qP10) (fun _ _ _ h => h) (zR ⟨by rfl, ?_⟩) ?_ ?_
            rotate_left; exact qP2_c1; rotate_left; exact qP2_c0
            refine pure_ (i := 10) (N := some 25) (v := ?_) (a' := ?_) qPb11 rfl rfl (qP10) (fun _ _ _ h => h) (zR ⟨by rfl, ?_⟩) ?_ ?_
            rotate_left; exact qP2_c1; rotate_left; exact qP2_c0
            refine pure_ (i := 11) (N := some 26) (v := ?_) (a' := ?_) qPb12 rfl rfl (qP10) (fun _ _ _ h => h) (zR ⟨by rfl, ?_⟩) ?_ ?_
            rotate_left; exact qP2_c1; rotate_left; exact qP2_c0
            refine take_ (i := 12) (N := some 27) (v := ?_) (a' := ?_) qPb13 rfl rfl (take_ofW HT_.1 HW_.1 (qP22)) (fun _ _ _ h => h) (zR ⟨by rfl, ?_⟩) hHeld ?_ ?_
            rotate_left; exact qP2_c4; rotate_left; exact qP2_c0
            refine one_ (i := 13) (N := some 28) qPb14 rfl rfl (qP70) (by decide) (fun K hK => ?_)
            refine goes_ Try.func64 (qP22) rfl #[.int .i64 ((rd_T44 l0 x3_1).f2), .int .i64 (-1000), .int .i64 1000] (by rfl) rfl rfl (qP5) ?_
            with_reducible refine (spec_l1In.calls ((rd_T44 l0 x3_1).f2) (-1000) 1000 true _ A8.1).mono ?_
            rintro e w' ⟨rfl, ⟨nd, rfl⟩⟩
            refine ⟨_, rfl, ?_⟩
            refine hK.out _ _ ⟨(blk_cell BK114.1 0).trans rfl, (blk_cell BK114.1 1).trans rfl, (blk_cell BK114.1 2).trans rfl, ((HB.1.cell (zd w _ hw118_0)).trans hw118_0), ((HB.1.cell (zd w _ hw118_1)).trans hw118_1), ((HB.1.cell (zd w _ hw118_2)).trans hw118_2)⟩ (fun hHeld => ?_)
            clear hK K
            refine norm_ (a' := ?_) ?_ ?_
            rotate_left
            ·exact qP2_c5
            refine pure_ (i := 14) (N := some 29) (v := ?_) (a' := ?_) qPb15 rfl rfl (qP10) (fun _ _ _ h => h) (zR ⟨by rfl, ?_⟩) ?_ ?_
            rotate_left; exact qP2_c1; rotate_left; exact qP2_c0
            refine pure_ (i := 15) (N := some 30) (v := ?_) (a' := ?_) qPb16 rfl rfl (qP10) (fun _ _ _ h => h) (zR ⟨by rfl, ?_⟩) ?_ ?_
            rotate_left; exact qP2_c1; rotate_left; exact qP2_c0
            refine pure_ (i := 16) (N := some 31) (v := ?_) (a' := ?_) qPb17 rfl rfl (qP10) (fun _ _ _ h => h) (zR ⟨by rfl, ?_⟩) ?_ ?_
            rotate_left; exact qP2_c1; rotate_left; exact qP2_c0
            refine pure_ (i := 17) (N := some 32) (v := ?_) (a' := ?_) qPb18 rfl rfl (qP10) (fun _ _ _ h => h) (zR ⟨by rfl, ?_⟩) ?_ ?_
            rotate_left; exact qP2_c1; rotate_left; exact qP2_c0
            refine pure_ (i := 18) (N := some 33) (v := ?_) (a' := ?_) qPb19 rfl rfl (qP10) (fun _ _ _ h => h) (zR ⟨by rfl, ?_⟩) ?_ ?_
            rotate_left; exact qP2_c1; rotate_left; exact qP2_c0
            refine pure_ (i := 19) (N := some 34) (v := ?_) (a' := ?_) qPb20 rfl rfl (qP10) (fun _ _ _ h => h) (zR ⟨by rfl, ?_⟩) ?_ ?_
            rotate_left; exact qP2_c1; rotate_left; exact qP2_c0
            refine pure_ (i := 20) (N := some 35) (v := ?_) (a' := ?_) qPb21 rfl rfl (qP10) (fun _ _ _ h => h) (zR ⟨by rfl, ?_⟩) ?_ ?_
            rotate_left; exact qP2_c1; rotate_left; exact qP2_c0
            refine pure_ (i := 21) (N := some 36) (v := ?_) (a' := ?_) qPb22 rfl rfl (qP10) (fun _ _ _ h => h) (zR ⟨by rfl, ?_⟩) ?_ ?_
            rotate_left; exact qP2_c1; rotate_left; exact qP2_c0
            refine pure_ (i := 22) (N := some 37) (v := ?_) (a' := ?_) qPb23 rfl rfl (qP10) (fun _ _ _ h => h) (zR ⟨by rfl, ?_⟩) ?_ ?_
            rotate_left; exact qP2_c1; rotate_left; exact qP2_c0
            refine pure_ (i := 23) (N := some 38) (v := ?_) (a' := ?_) qPb24 rfl rfl (qP10) (fun _ _ _ h => h) (zR ⟨by rfl, ?_⟩) ?_ ?_
            rotate_left; exact qP2_c1; rotate_left; exact qP2_c0
            refine pure_ (i := 24) (N := some 39) (v := ?_) (a' := ?_) qPb25 rfl rfl (qP10) (fun _ _ _ h => h) (zR ⟨by rfl, ?_⟩) ?_ ?_
            rotate_left; exact qP2_c1; rotate_left; exact qP2_c0
            refine pure_ (i := 26) (N := some 41) (v := ?_) (a' := ?_) qPb26 rfl rfl (qP10) (fun _ _ _ h => h) (zR ⟨by rfl, ?_⟩) ?_ ?_
            rotate_left; exact qP2_c1; rotate_left; exact qP2_c0
            refine take_ (i := 25) (N := some 40) (v := ?_) (a' := ?_) qPb27 rfl rfl (take_ofW HT_.1 HW_.1 (qP22)) (fun _ _ _ h => h) (zR ⟨by rfl, ?_⟩) hHeld ?_ ?_
            rotate_left; exact qP2_c4; rotate_left; exact qP2_c0
            refine take_ (i := 27) (N := some 42) (v := ?_) (a' := ?_) qPb28 rfl rfl (take_ofW HT_.1 HW_.1 (qP22)) (fun _ _ _ h => h) (zR ⟨by rfl, ?_⟩) hHeld ?_ ?_
            rotate_left; exact qP2_c4; rotate_left; exact qP2_c0
            refine pure_ (i := 28) (N := some 43) (v := ?_) (a' := ?_) qPb29 rfl rfl (qP10) (fun _ _ _ h => h) (zR ⟨by rfl, ?_⟩) ?_ ?_
            rotate_left; exact qP2_c1; rotate_left; exact qP2_c0
            refine pure_ (i := 29) (N := some 44) (v := ?_) (a' := ?_) qPb30 rfl rfl (qP10) (fun _ _ _ h => h) (zR ⟨by rfl, ?_⟩) ?_ ?_
            rotate_left; exact qP2_c1; rotate_left; exact qP2_c0
            refine pure_ (i := 30) (N := some 45) (v := ?_) (a' := ?_) qPb31 rfl rfl (qP10) (fun _ _ _ h => h) (zR ⟨by rfl, ?_⟩) ?_ ?_
            rotate_left; exact qP2_c1; rotate_left; exact qP2_c0
            refine done_ (qP85) ?_
            try go_wp2
            go_roundg k1
            case measure => have := HK1.1; omega
            case rel => exact ⟨(wrap64 (x3_1 + 1)), (qP17), H', ⟨by have := HK1.1; omega⟩, ⟨(qP14 GE114.1)⟩⟩
           ·rw [zV c14] at H
            have c14b0 : (Op.bytesLess (((rd_T44 l0 (ji11)).f0).toList) (((rd_T44 l0 x3_1).f0).toList)) = false := by simpa using c14
            clear c14; obtain rfl := zk H; have p113 : 0 ≤ (x3_1 : Int) := zb (qP9); have q113 : x3_1 < (l0.length : Int) := zb (qP9); obtain ⟨ad113, e113, hx113_0, hx113_1, hx113_2⟩ := at_T44 HR0.1 x3_1 p113 q113; cases e113; replace hx113_0 := (HB.1.cell (zd w _ hx113_0)).trans hx113_0; replace hx113_1 := (HB.1.cell (zd w _ hx113_1)).trans hx113_1; replace hx113_2 := (HB.1.cell (zd w _ hx113_2)).trans hx113_2; replace p113 := zt p113; replace q113 := zt q113
            try go_wp2_with (first | ((with_reducible refine zo (N := 4) rfl ?_); refine zy ?hg (N := 4) ?hd (cs := #[.string (⟨#[]⟩ : ByteArray), .int .i64 0, .int .i64 0]) (t := 44) ?hr ?_; (case hd | hg => rfl); (case hr => exact (qP24)); intro gb114 hg w19 hbox hb; have BK114 := za hbox; have GW114 := za qP69; have GE114 := za qP69; replace HB := za qP64; clear hb hbox hg; have hcz20_0 : w19.cell? ⟨gb114, 0, none⟩ = some (.string (⟨#[]⟩ : ByteArray)) := (blk_cell BK114.1 0).trans rfl; have hcz20_1 : w19.cell? ⟨gb114, 1, none⟩ = some (.int .i64 0) := (blk_cell BK114.1 1).trans rfl; have hcz20_2 : w19.cell? ⟨gb114, 2, none⟩ = some (.int .i64 0) := (blk_cell BK114.1 2).trans rfl; have hfz20_0 := ze BK114.1 0; have hfz20_1 := ze BK114.1 1; have hfz20_2 := ze BK114.1 2))
            have n0_ : Aside0 ((((w19.setCell ⟨gb114, 0, none⟩ (.string ((rd_T44 l0 x3_1).f0))).setCell ⟨gb114, 1, none⟩ (.int .i64 ((rd_T44 l0 x3_1).f1))).setCell ⟨gb114, 2, none⟩ (.int .i64 ((rd_T44 l0 x3_1).f2))).heap[gb114]? = some (.cells #[.string ((rd_T44 l0 x3_1).f0), .int .i64 ((rd_T44 l0 x3_1).f1), .int .i64 ((rd_T44 l0 x3_1).f2)] 44 (0, 0))) := ⟨(qP21)⟩; have n1_ : Aside0 (Below w.heap.size w (((w19.setCell ⟨gb114, 0, none⟩ (.string ((rd_T44 l0 x3_1).f0))).setCell ⟨gb114, 1, none⟩ (.int .i64 ((rd_T44 l0 x3_1).f1))).setCell ⟨gb114, 2, none⟩ (.int .i64 ((rd_T44 l0 x3_1).f2)))) := ⟨(qP14 GE114.1)⟩
            (try clear BK114)
            (try clear HB)
            generalize (((w19.setCell ⟨gb114, 0, none⟩ (.string ((rd_T44 l0 x3_1).f0))).setCell ⟨gb114, 1, none⟩ (.int .i64 ((rd_T44 l0 x3_1).f1))).setCell ⟨gb114, 2, none⟩ (.int .i64 ((rd_T44 l0 x3_1).f2))) = w21 at n0_ n1_ ⊢
            have BK114 := n0_; have HB := n1_; clear n0_ n1_; replace BK114 := za (zh BK114.1); replace HB := za (below_drew1 HB.1); have p118 : 0 ≤ ((ji11) : Int) := zb (qP9); have q118 : (ji11) < (l0.length : Int) := zb (qP9); obtain ⟨ad118, e118, hx118_0, hx118_1, hx118_2⟩ := at_T44 HR0.1 (ji11) p118 q118; have hw118_2 := hx118_2; have hw118_1 := hx118_1; have hw118_0 := hx118_0; obtain rfl : ad113 = ad118 := (by injection e118); replace hx118_0 := (HB.1.cell (zd w _ hx118_0)).trans hx118_0; replace hx118_1 := (HB.1.cell (zd w _ hx118_1)).trans hx118_1; replace hx118_2 := (HB.1.cell (zd w _ hx118_2)).trans hx118_2; replace p118 := zt p118; replace q118 := zt q118
            refine start_ (n := 31) (S := fun w' => w'.cell? ⟨gb114, 0, none⟩ = some (.string ((rd_T44 l0 x3_1).f0)) ∧ w'.cell? ⟨gb114, 1, none⟩ = some (.int .i64 ((rd_T44 l0 x3_1).f1)) ∧ w'.cell? ⟨gb114, 2, none⟩ = some (.int .i64 ((rd_T44 l0 x3_1).f2)) ∧ w'.cell? (ad113.add (((ji11)).toNat * 3)) = some (.string ((rd_T44 l0 (ji11)).f0)) ∧ w'.cell? ⟨(ad113.add (((ji11)).toNat * 3)).block, (ad113.add (((ji11)).toNat * 3)).off + 1, none⟩ = some (.int .i64 ((rd_T44 l0 (ji11)).f1)) ∧ w'.cell? ⟨(ad113.add (((ji11)).toNat * 3)).block, (ad113.add (((ji11)).toNat * 3)).off + 2, none⟩ = some (.int .i64 ((rd_T44 l0 (ji11)).f2))) (ds := []) qPb0 (qP22) rfl rfl ⟨(blk_cell BK114.1 0).trans rfl, (blk_cell BK114.1 1).trans rfl, (blk_cell BK114.1 2).trans rfl, ((HB.1.cell (zd w _ hw118_0)).trans hw118_0), ((HB.1.cell (zd w _ hw118_1)).trans hw118_1), ((HB.1.cell (zd w _ hw118_2)).trans hw118_2)⟩ (fun hHeld => ?_); refine with_tabW spec_l13Good.tab5 spec_l13Good.bits5 (fun HT_ HW_ => ?_)
            generalize w21.drew = w22 at BK114 HB hx118_0 hx118_1 hx118_2 hHeld ⊢
            refine pure_ (i := 0) (N := some 15) (v := ?_) (a' := ?_) qPb1 rfl rfl (qP10) (fun _ _ _ h => h) (zR ⟨by rfl, ?_⟩) ?_ ?_
            rotate_left; exact qP2_c1; rotate_left; exact qP2_c0
            refine take_ (i := 1) (N := some 16) (v := ?_) (a' := ?_) qPb2 rfl rfl (take_ofW HT_.1 HW_.1 (qP22)) (fun _ _ _ h => h) (zR ⟨by rfl, ?_⟩) hHeld ?_ ?_
            rotate_left; exact qP2_c4; rotate_left; exact qP2_c0
            refine one_ (i := 2) (N := some 17) qPb3 rfl rfl (qP70) (by decide) (fun K hK => ?_)
            refine goes_ Try.func68 (qP22) rfl #[.string ((rd_T44 l0 x3_1).f0)] (by rfl) rfl rfl (qP5) ?_
            with_reducible refine (spec_l13Letter.calls ((rd_T44 l0 x3_1).f0) true _ A4.1).mono ?_
            rintro e w' ⟨rfl, ⟨nd, rfl⟩⟩
            refine ⟨_, rfl, ?_⟩
            refine hK.out _ _ ⟨(blk_cell BK114.1 0).trans rfl, (blk_cell BK114.1 1).trans rfl, (blk_cell BK114.1 2).trans rfl, ((HB.1.cell (zd w _ hw118_0)).trans hw118_0), ((HB.1.cell (zd w _ hw118_1)).trans hw118_1), ((HB.1.cell (zd w _ hw118_2)).trans hw118_2)⟩ (fun hHeld => ?_)
            clear hK K
            refine norm_ (a' := ?_) ?_ ?_
            rotate_left
            ·exact qP2_c2
            refine pure_ (i := 3) (N := some 18) (v := ?_) (a' := ?_) qPb4 rfl rfl (qP10) (fun _ _ _ h => h) (zR ⟨by rfl, ?_⟩) ?_ ?_
            rotate_left; exact qP2_c1; rotate_left; exact qP2_c0
            refine pure_ (i := 4) (N := some 19) (v := ?_) (a' := ?_) qPb5 rfl rfl (qP10) (fun _ _ _ h => h) (zR ⟨by rfl, ?_⟩) ?_ ?_
            rotate_left; exact qP2_c1; rotate_left; exact qP2_c0
            refine pure_ (i := 5) (N := some 20) (v := ?_) (a' := ?_) qPb6 rfl rfl (qP10) (fun _ _ _ h => h) (zR ⟨by rfl, ?_⟩) ?_ ?_
            rotate_left; exact qP2_c1; rotate_left; exact qP2_c0
            refine take_ (i := 6) (N := some 21) (v := ?_) (a' := ?_) qPb7 rfl rfl (take_ofW HT_.1 HW_.1 (qP22)) (fun _ _ _ h => h) (zR ⟨by rfl, ?_⟩) hHeld ?_ ?_
            rotate_left; exact qP2_c4; rotate_left; exact qP2_c0
            refine one_ (i := 7) (N := some 22) qPb8 rfl rfl (qP70) (by decide) (fun K hK => ?_)
            refine goes_ Try.func64 (qP22) rfl #[.int .i64 ((rd_T44 l0 x3_1).f1), .int .i64 (-1000), .int .i64 1000] (by rfl) rfl rfl (qP5) ?_
            with_reducible refine (spec_l1In.calls ((rd_T44 l0 x3_1).f1) (-1000) 1000 true _ A6.1).mono ?_
            rintro e w' ⟨rfl, ⟨nd, rfl⟩⟩
            refine ⟨_, rfl, ?_⟩
            refine hK.out _ _ ⟨(blk_cell BK114.1 0).trans rfl, (blk_cell BK114.1 1).trans rfl, (blk_cell BK114.1 2).trans rfl, ((HB.1.cell (zd w _ hw118_0)).trans hw118_0), ((HB.1.cell (zd w _ hw118_1)).trans hw118_1), ((HB.1.cell (zd w _ hw118_2)).trans hw118_2)⟩ (fun hHeld => ?_)
            clear hK K
            refine norm_ (a' := ?_) ?_ ?_
            rotate_left
            ·exact qP2_c3
            refine pure_ (i := 8) (N := some 23) (v := ?_) (a' := ?_) qPb9 rfl rfl (qP10) (fun _ _ _ h => h) (zR ⟨by rfl, ?_⟩) ?_ ?_
            rotate_left; exact qP2_c1; rotate_left; exact qP2_c0
            refine pure_ (i := 9) (N := some 24) (v := ?_) (a' := ?_) qPb10 rfl rfl (qP10) (fun _ _ _ h => h) (zR ⟨by rfl, ?_⟩) ?_ ?_
            rotate_left; exact qP2_c1; rotate_left; exact qP2_c0
            refine pure_ (i := 10) (N := some 25) (v := ?_) (a' := ?_) qPb11 rfl rfl (qP10) (fun _ _ _ h => h) (zR ⟨by rfl, ?_⟩) ?_ ?_
            rotate_left; exact qP2_c1; rotate_left; exact qP2_c0
            refine pure_ (i := 11) (N := some 26) (v := ?_) (a' := ?_) qPb12 rfl rfl (qP10) (fun _ _ _ h => h) (zR ⟨by rfl, ?_⟩) ?_ ?_
            rotate_left; exact qP2_c1; rotate_left; exact qP2_c0
            refine take_ (i := 12) (N := some 27) (v := ?_) (a' := ?_) qPb13 rfl rfl (take_ofW HT_.1 HW_.1 (qP22)) (fun _ _ _ h => h) (zR ⟨by rfl, ?_⟩) hHeld ?_ ?_
            rotate_left; exact qP2_c4; rotate_left; exact qP2_c0
            refine one_ (i := 13) (N := some 28) qPb14 rfl rfl (qP70) (by decide) (fun K hK => ?_)
            refine goes_ Try.func64 (qP22) rfl #[.int .i64 ((rd_T44 l0 x3_1).f2), .int .i64 (-1000), .int .i64 1000] (by rfl) rfl rfl (qP5) ?_
            with_reducible refine (spec_l1In.calls ((rd_T44 l0 x3_1).f2) (-1000) 1000 true _ A8.1).mono ?_
            rintro e w' ⟨rfl, ⟨nd, rfl⟩⟩
            refine ⟨_, rfl, ?_⟩
            refine hK.out _ _ ⟨(blk_cell BK114.1 0).trans rfl, (blk_cell BK114.1 1).trans rfl, (blk_cell BK114.1 2).trans rfl, ((HB.1.cell (zd w _ hw118_0)).trans hw118_0), ((HB.1.cell (zd w _ hw118_1)).trans hw118_1), ((HB.1.cell (zd w _ hw118_2)).trans hw118_2)⟩ (fun hHeld => ?_)
            clear hK K
            refine norm_ (a' := ?_) ?_ ?_
            rotate_left
            ·exact qP2_c5
            refine pure_ (i := 14) (N := some 29) (v := ?_) (a' := ?_) qPb15 rfl rfl (qP10) (fun _ _ _ h => h) (zR ⟨by rfl, ?_⟩) ?_ ?_
            rotate_left; exact qP2_c1; rotate_left; exact qP2_c0
            refine pure_ (i := 15) (N := some 30) (v := ?_) (a' := ?_) qPb16 rfl rfl (qP10) (fun _ _ _ h => h) (zR ⟨by rfl, ?_⟩) ?_ ?_
            rotate_left; exact qP2_c1; rotate_left; exact qP2_c0
            refine pure_ (i := 16) (N := some 31) (v := ?_) (a' := ?_) qPb17 rfl rfl (qP10) (fun _ _ _ h => h) (zR ⟨by rfl, ?_⟩) ?_ ?_
            rotate_left; exact qP2_c1; rotate_left; exact qP2_c0
            refine pure_ (i := 17) (N := some 32) (v := ?_) (a' := ?_) qPb18 rfl rfl (qP10) (fun _ _ _ h => h) (zR ⟨by rfl, ?_⟩) ?_ ?_
            rotate_left; exact qP2_c1; rotate_left; exact qP2_c0
            refine pure_ (i := 18) (N := some 33) (v := ?_) (a' := ?_) qPb19 rfl rfl (qP10) (fun _ _ _ h => h) (zR ⟨by rfl, ?_⟩) ?_ ?_
            rotate_left; exact qP2_c1; rotate_left; exact qP2_c0
            refine pure_ (i := 19) (N := some 34) (v := ?_) (a' := ?_) qPb20 rfl rfl (qP10) (fun _ _ _ h => h) (zR ⟨by rfl, ?_⟩) ?_ ?_
            rotate_left; exact qP2_c1; rotate_left; exact qP2_c0
            refine pure_ (i := 20) (N := some 35) (v := ?_) (a' := ?_) qPb21 rfl rfl (qP10) (fun _ _ _ h => h) (zR ⟨by rfl, ?_⟩) ?_ ?_
            rotate_left; exact qP2_c1; rotate_left; exact qP2_c0
            refine pure_ (i := 21) (N := some 36) (v := ?_) (a' := ?_) qPb22 rfl rfl (qP10) (fun _ _ _ h => h) (zR ⟨by rfl, ?_⟩) ?_ ?_
            rotate_left; exact qP2_c1; rotate_left; exact qP2_c0
            refine pure_ (i := 22) (N := some 37) (v := ?_) (a' := ?_) qPb23 rfl rfl (qP10) (fun _ _ _ h => h) (zR ⟨by rfl, ?_⟩) ?_ ?_
            rotate_left; exact qP2_c1; rotate_left; exact qP2_c0
            refine pure_ (i := 23) (N := some 38) (v := ?_) (a' := ?_) qPb24 rfl rfl (qP10) (fun _ _ _ h => h) (zR ⟨by rfl, ?_⟩) ?_ ?_
            rotate_left; exact qP2_c1; rotate_left; exact qP2_c0
            refine pure_ (i := 24) (N := some 39) (v := ?_) (a' := ?_) qPb25 rfl rfl (qP10) (fun _ _ _ h => h) (zR ⟨by rfl, ?_⟩) ?_ ?_
            rotate_left; exact qP2_c1; rotate_left; exact qP2_c0
            refine pure_ (i := 26) (N := some 41) (v := ?_) (a' := ?_) qPb26 rfl rfl (qP10) (fun _ _ _ h => h) (zR ⟨by rfl, ?_⟩) ?_ ?_
            rotate_left; exact qP2_c1; rotate_left; exact qP2_c0
            refine take_ (i := 25) (N := some 40) (v := ?_) (a' := ?_) qPb27 rfl rfl (take_ofW HT_.1 HW_.1 (qP22)) (fun _ _ _ h => h) (zR ⟨by rfl, ?_⟩) hHeld ?_ ?_
            rotate_left; exact qP2_c4; rotate_left; exact qP2_c0
            refine take_ (i := 27) (N := some 42) (v := ?_) (a' := ?_) qPb28 rfl rfl (take_ofW HT_.1 HW_.1 (qP22)) (fun _ _ _ h => h) (zR ⟨by rfl, ?_⟩) hHeld ?_ ?_
            rotate_left; exact qP2_c4; rotate_left; exact qP2_c0
            refine pure_ (i := 28) (N := some 43) (v := ?_) (a' := ?_) qPb29 rfl rfl (qP10) (fun _ _ _ h => h) (zR ⟨by rfl, ?_⟩) ?_ ?_
            rotate_left; exact qP2_c1; rotate_left; exact qP2_c0
            refine pure_ (i := 29) (N := some 44) (v := ?_) (a' := ?_) qPb30 rfl rfl (qP10) (fun _ _ _ h => h) (zR ⟨by rfl, ?_⟩) ?_ ?_
            rotate_left; exact qP2_c1; rotate_left; exact qP2_c0
            refine pure_ (i := 30) (N := some 45) (v := ?_) (a' := ?_) qPb31 rfl rfl (qP10) (fun _ _ _ h => h) (zR ⟨by rfl, ?_⟩) ?_ ?_
            rotate_left; exact qP2_c1; rotate_left; exact qP2_c0
            refine done_ (qP85) ?_
            try go_wp2
            go_ret
            exact ⟨(by first | rfl | (simp [errW_none, errW_some] <;> rfl) | (simp only [← hji11]; first | rfl | (simp [errW_none, errW_some] <;> rfl)) | (simp [*, errW_none, errW_some] <;> rfl)), (qP14 GE114.1)⟩
          ·rw [zV c13] at H
           exact zJ H (by simp)
         ·rw [zV c12] at H
          exact zJ H (by simp)
        ·rw [zV c10] at H; have c10b0 : decide (0 < x3_1) = false := zs c10; clear c10; have H' := za H; clear H; have p113 : 0 ≤ (x3_1 : Int) := zb (qP9); have q113 : x3_1 < (l0.length : Int) := zb (qP9); obtain ⟨ad113, e113, hx113_0, hx113_1, hx113_2⟩ := at_T44 HR0.1 x3_1 p113 q113; cases e113; replace hx113_0 := (HB.1.cell (zd w _ hx113_0)).trans hx113_0; replace hx113_1 := (HB.1.cell (zd w _ hx113_1)).trans hx113_1; replace hx113_2 := (HB.1.cell (zd w _ hx113_2)).trans hx113_2; replace p113 := zt p113; replace q113 := zt q113
         try go_wp2_with (first | ((with_reducible refine zo (N := 4) rfl ?_); refine zy ?hg (N := 4) ?hd (cs := #[.string (⟨#[]⟩ : ByteArray), .int .i64 0, .int .i64 0]) (t := 44) ?hr ?_; (case hd | hg => rfl); (case hr => exact (qP24)); intro gb114 hg w23 hbox hb; have BK114 := za hbox; have GW114 := za qP69; have GE114 := za qP69; replace HB := za qP64; clear hb hbox hg; have hcz24_0 : w23.cell? ⟨gb114, 0, none⟩ = some (.string (⟨#[]⟩ : ByteArray)) := (blk_cell BK114.1 0).trans rfl; have hcz24_1 : w23.cell? ⟨gb114, 1, none⟩ = some (.int .i64 0) := (blk_cell BK114.1 1).trans rfl; have hcz24_2 : w23.cell? ⟨gb114, 2, none⟩ = some (.int .i64 0) := (blk_cell BK114.1 2).trans rfl; have hfz24_0 := ze BK114.1 0; have hfz24_1 := ze BK114.1 1; have hfz24_2 := ze BK114.1 2))
         have n0_ : Aside0 ((((w23.setCell ⟨gb114, 0, none⟩ (.string ((rd_T44 l0 x3_1).f0))).setCell ⟨gb114, 1, none⟩ (.int .i64 ((rd_T44 l0 x3_1).f1))).setCell ⟨gb114, 2, none⟩ (.int .i64 ((rd_T44 l0 x3_1).f2))).heap[gb114]? = some (.cells #[.string ((rd_T44 l0 x3_1).f0), .int .i64 ((rd_T44 l0 x3_1).f1), .int .i64 ((rd_T44 l0 x3_1).f2)] 44 (0, 0))) := ⟨(qP21)⟩; have n1_ : Aside0 (Below w.heap.size w (((w23.setCell ⟨gb114, 0, none⟩ (.string ((rd_T44 l0 x3_1).f0))).setCell ⟨gb114, 1, none⟩ (.int .i64 ((rd_T44 l0 x3_1).f1))).setCell ⟨gb114, 2, none⟩ (.int .i64 ((rd_T44 l0 x3_1).f2)))) := ⟨(qP14 GE114.1)⟩
         (try clear BK114)
         (try clear HB)
         generalize (((w23.setCell ⟨gb114, 0, none⟩ (.string ((rd_T44 l0 x3_1).f0))).setCell ⟨gb114, 1, none⟩ (.int .i64 ((rd_T44 l0 x3_1).f1))).setCell ⟨gb114, 2, none⟩ (.int .i64 ((rd_T44 l0 x3_1).f2))) = w25 at n0_ n1_ ⊢
         have BK114 := n0_; have HB := n1_; clear n0_ n1_; replace BK114 := za (zh BK114.1); replace HB := za (below_drew1 HB.1)
         refine start_ (n := 31) (S := fun w' => w'.cell? ⟨gb114, 0, none⟩ = some (.string ((rd_T44 l0 x3_1).f0)) ∧ w'.cell? ⟨gb114, 1, none⟩ = some (.int .i64 ((rd_T44 l0 x3_1).f1)) ∧ w'.cell? ⟨gb114, 2, none⟩ = some (.int .i64 ((rd_T44 l0 x3_1).f2))) (ds := []) qPb0 (qP22) rfl rfl ⟨(blk_cell BK114.1 0).trans rfl, (blk_cell BK114.1 1).trans rfl, (blk_cell BK114.1 2).trans rfl⟩ (fun hHeld => ?_); refine with_tabW spec_l13Good.tab5 spec_l13Good.bits5 (fun HT_ HW_ => ?_)
         generalize w25.drew = w26 at BK114 HB hHeld ⊢
         refine pure_ (i := 0) (N := some 15) (v := ?_) (a' := ?_) qPb1 rfl rfl (qP10) (fun _ _ _ h => h) (zR ⟨by rfl, ?_⟩) ?_ ?_
         rotate_left; exact qP2_c1; rotate_left; exact qP2_c0
         refine take_ (i := 1) (N := some 16) (v := ?_) (a' := ?_) qPb2 rfl rfl (take_ofW HT_.1 HW_.1 (qP22)) (fun _ _ _ h => h) (zR ⟨by rfl, ?_⟩) hHeld ?_ ?_
         rotate_left; exact qP2_c6; rotate_left; exact qP2_c0
         refine one_ (i := 2) (N := some 17) qPb3 rfl rfl (qP70) (by decide) (fun K hK => ?_)
         refine goes_ Try.func68 (qP22) rfl #[.string ((rd_T44 l0 x3_1).f0)] (by rfl) rfl rfl (qP5) ?_
         with_reducible refine (spec_l13Letter.calls ((rd_T44 l0 x3_1).f0) true _ A4.1).mono ?_
         rintro e w' ⟨rfl, ⟨nd, rfl⟩⟩
         refine ⟨_, rfl, ?_⟩
         refine hK.out _ _ ⟨(blk_cell BK114.1 0).trans rfl, (blk_cell BK114.1 1).trans rfl, (blk_cell BK114.1 2).trans rfl⟩ (fun hHeld => ?_)
         clear hK K
         refine norm_ (a' := ?_) ?_ ?_
         rotate_left
         ·exact qP2_c2
         refine pure_ (i := 3) (N := some 18) (v := ?_) (a' := ?_) qPb4 rfl rfl (qP10) (fun _ _ _ h => h) (zR ⟨by rfl, ?_⟩) ?_ ?_
         rotate_left; exact qP2_c1; rotate_left; exact qP2_c0
         refine pure_ (i := 4) (N := some 19) (v := ?_) (a' := ?_) qPb5 rfl rfl (qP10) (fun _ _ _ h => h) (zR ⟨by rfl, ?_⟩) ?_ ?_
         rotate_left; exact qP2_c1; rotate_left; exact qP2_c0
         refine pure_ (i := 5) (N := some 20) (v := ?_) (a' := ?_) qPb6 rfl rfl (qP10) (fun _ _ _ h => h) (zR ⟨by rfl, ?_⟩) ?_ ?_
         rotate_left; exact qP2_c1; rotate_left; exact qP2_c0
         refine take_ (i := 6) (N := some 21) (v := ?_) (a' := ?_) qPb7 rfl rfl (take_ofW HT_.1 HW_.1 (qP22)) (fun _ _ _ h => h) (zR ⟨by rfl, ?_⟩) hHeld ?_ ?_
         rotate_left; exact qP2_c6; rotate_left; exact qP2_c0
         refine one_ (i := 7) (N := some 22) qPb8 rfl rfl (qP70) (by decide) (fun K hK => ?_)
         refine goes_ Try.func64 (qP22) rfl #[.int .i64 ((rd_T44 l0 x3_1).f1), .int .i64 (-1000), .int .i64 1000] (by rfl) rfl rfl (qP5) ?_
         with_reducible refine (spec_l1In.calls ((rd_T44 l0 x3_1).f1) (-1000) 1000 true _ A6.1).mono ?_
         rintro e w' ⟨rfl, ⟨nd, rfl⟩⟩
         refine ⟨_, rfl, ?_⟩
         refine hK.out _ _ ⟨(blk_cell BK114.1 0).trans rfl, (blk_cell BK114.1 1).trans rfl, (blk_cell BK114.1 2).trans rfl⟩ (fun hHeld => ?_)
         clear hK K
         refine norm_ (a' := ?_) ?_ ?_
         rotate_left
         ·exact qP2_c3
         refine pure_ (i := 8) (N := some 23) (v := ?_) (a' := ?_) qPb9 rfl rfl (qP10) (fun _ _ _ h => h) (zR ⟨by rfl, ?_⟩) ?_ ?_
         rotate_left; exact qP2_c1; rotate_left; exact qP2_c0
         refine pure_ (i := 9) (N := some 24) (v := ?_) (a' := ?_) qPb10 rfl rfl (qP10) (fun _ _ _ h => h) (zR ⟨by rfl, ?_⟩) ?_ ?_
         rotate_left; exact qP2_c1; rotate_left; exact qP2_c0
         refine pure_ (i := 10) (N := some 25) (v := ?_) (a' := ?_) qPb11 rfl rfl (qP10) (fun _ _ _ h => h) (zR ⟨by rfl, ?_⟩) ?_ ?_
         rotate_left; exact qP2_c1; rotate_left; exact qP2_c0
         refine pure_ (i := 11) (N := some 26) (v := ?_) (a' := ?_) qPb12 rfl rfl (qP10) (fun _ _ _ h => h) (zR ⟨by rfl, ?_⟩) ?_ ?_
         rotate_left; exact qP2_c1; rotate_left; exact qP2_c0
         refine take_ (i := 12) (N := some 27) (v := ?_) (a' := ?_) qPb13 rfl rfl (take_ofW HT_.1 HW_.1 (qP22)) (fun _ _ _ h => h) (zR ⟨by rfl, ?_⟩) hHeld ?_ ?_
         rotate_left; exact qP2_c6; rotate_left; exact qP2_c0
         refine one_ (i := 13) (N := some 28) qPb14 rfl rfl (qP70) (by decide) (fun K hK => ?_)
         refine goes_ Try.func64 (qP22) rfl #[.int .i64 ((rd_T44 l0 x3_1).f2), .int .i64 (-1000), .int .i64 1000] (by rfl) rfl rfl (qP5) ?_
         with_reducible refine (spec_l1In.calls ((rd_T44 l0 x3_1).f2) (-1000) 1000 true _ A8.1).mono ?_
         rintro e w' ⟨rfl, ⟨nd, rfl⟩⟩
         refine ⟨_, rfl, ?_⟩
         refine hK.out _ _ ⟨(blk_cell BK114.1 0).trans rfl, (blk_cell BK114.1 1).trans rfl, (blk_cell BK114.1 2).trans rfl⟩ (fun hHeld => ?_)
         clear hK K
         refine norm_ (a' := ?_) ?_ ?_
         rotate_left
         ·exact qP2_c5
         refine pure_ (i := 14) (N := some 29) (v := ?_) (a' := ?_) qPb15 rfl rfl (qP10) (fun _ _ _ h => h) (zR ⟨by rfl, ?_⟩) ?_ ?_
         rotate_left; exact qP2_c1; rotate_left; exact qP2_c0
         refine pure_ (i := 15) (N := some 30) (v := ?_) (a' := ?_) qPb16 rfl rfl (qP10) (fun _ _ _ h => h) (zR ⟨by rfl, ?_⟩) ?_ ?_
         rotate_left; exact qP2_c1; rotate_left; exact qP2_c0
         refine pure_ (i := 16) (N := some 31) (v := ?_) (a' := ?_) qPb17 rfl rfl (qP10) (fun _ _ _ h => h) (zR ⟨by rfl, ?_⟩) ?_ ?_
         rotate_left; exact qP2_c1; rotate_left; exact qP2_c0
         refine pure_ (i := 17) (N := some 32) (v := ?_) (a' := ?_) qPb18 rfl rfl (qP10) (fun _ _ _ h => h) (zR ⟨by rfl, ?_⟩) ?_ ?_
         rotate_left; exact qP2_c1; rotate_left; exact qP2_c0
         refine pure_ (i := 18) (N := some 33) (v := ?_) (a' := ?_) qPb19 rfl rfl (qP10) (fun _ _ _ h => h) (zR ⟨by rfl, ?_⟩) ?_ ?_
         rotate_left; exact qP2_c1; rotate_left; exact qP2_c0
         refine pure_ (i := 19) (N := some 34) (v := ?_) (a' := ?_) qPb20 rfl rfl (qP10) (fun _ _ _ h => h) (zR ⟨by rfl, ?_⟩) ?_ ?_
         rotate_left; exact qP2_c1; rotate_left; exact qP2_c0
         refine pure_ (i := 20) (N := some 35) (v := undef) (a' := ?_) qPb21 rfl rfl (qP10) (fun _ _ _ h => h) (Or.inr ⟨by rfl, rfl⟩) ?_ ?_
         rotate_left
         ·exact qP2_c0
         refine pure_ (i := 21) (N := some 36) (v := undef) (a' := ?_) qPb22 rfl rfl (qP10) (fun _ _ _ h => h) (Or.inr ⟨by rfl, rfl⟩) ?_ ?_
         rotate_left
         ·exact qP2_c0
         refine pure_ (i := 22) (N := some 37) (v := undef) (a' := ?_) qPb23 rfl rfl (qP10) (fun _ _ _ h => h) (Or.inr ⟨by rfl, rfl⟩) ?_ ?_
         rotate_left
         ·exact qP2_c0
         refine pure_ (i := 23) (N := some 38) (v := undef) (a' := ?_) qPb24 rfl rfl (qP10) (fun _ _ _ h => h) (Or.inr ⟨by rfl, rfl⟩) ?_ ?_
         rotate_left
         ·exact qP2_c0
         refine pure_ (i := 24) (N := some 39) (v := undef) (a' := ?_) qPb25 rfl rfl (qP10) (fun _ _ _ h => h) (Or.inr ⟨by rfl, rfl⟩) ?_ ?_
         rotate_left
         ·exact qP2_c0
         refine pure_ (i := 25) (N := some 40) (v := undef) (a' := ?_) qPb32 rfl rfl (qP10) (fun _ _ _ h => h) (Or.inr ⟨by rfl, rfl⟩) ?_ ?_
         rotate_left
         ·exact qP2_c0
         refine pure_ (i := 26) (N := some 41) (v := undef) (a' := ?_) qPb27 rfl rfl (qP10) (fun _ _ _ h => h) (Or.inr ⟨by rfl, rfl⟩) ?_ ?_
         rotate_left
         ·exact qP2_c0
         refine pure_ (i := 27) (N := some 42) (v := undef) (a' := ?_) qPb28 rfl rfl (qP10) (fun _ _ _ h => h) (Or.inr ⟨by rfl, rfl⟩) ?_ ?_
         rotate_left
         ·exact qP2_c0
         refine pure_ (i := 28) (N := some 43) (v := undef) (a' := ?_) qPb29 rfl rfl (qP10) (fun _ _ _ h => h) (Or.inr ⟨by rfl, rfl⟩) ?_ ?_
         rotate_left
         ·exact qP2_c0
         refine pure_ (i := 29) (N := some 44) (v := ?_) (a' := ?_) qPb30 rfl rfl (qP10) (fun _ _ _ h => h) (zR ⟨by rfl, ?_⟩) ?_ ?_
         rotate_left; exact qP2_c1; rotate_left; exact qP2_c0
         refine pure_ (i := 30) (N := some 45) (v := ?_) (a' := ?_) qPb31 rfl rfl (qP10) (fun _ _ _ h => h) (zR ⟨by rfl, ?_⟩) ?_ ?_
         rotate_left; exact qP2_c1; rotate_left; exact qP2_c0
         refine done_ (qP85) ?_
         try go_wp2
         go_roundg k1
         case measure => have := HK1.1; omega
         case rel => exact ⟨(wrap64 (x3_1 + 1)), (qP17), H', ⟨by have := HK1.1; omega⟩, ⟨(qP14 GE114.1)⟩⟩
       ·replace c9 := zl c9; subst c9; rw [zV (show ¬ (false = true) by decide)] at H; obtain rfl := zk H; have p113 : 0 ≤ (x3_1 : Int) := zb (qP9); have q113 : x3_1 < (l0.length : Int) := zb (qP9); obtain ⟨ad113, e113, hx113_0, hx113_1, hx113_2⟩ := at_T44 HR0.1 x3_1 p113 q113; cases e113; replace hx113_0 := (HB.1.cell (zd w _ hx113_0)).trans hx113_0; replace hx113_1 := (HB.1.cell (zd w _ hx113_1)).trans hx113_1; replace hx113_2 := (HB.1.cell (zd w _ hx113_2)).trans hx113_2; replace p113 := zt p113; replace q113 := zt q113
        try go_wp2_with (first | ((with_reducible refine zo (N := 4) rfl ?_); refine zy ?hg (N := 4) ?hd (cs := #[.string (⟨#[]⟩ : ByteArray), .int .i64 0, .int .i64 0]) (t := 44) ?hr ?_; (case hd | hg => rfl); (case hr => exact (qP24)); intro gb114 hg w27 hbox hb; have BK114 := za hbox; have GW114 := za qP69; have GE114 := za qP69; replace HB := za qP64; clear hb hbox hg; have hcz28_0 : w27.cell? ⟨gb114, 0, none⟩ = some (.string (⟨#[]⟩ : ByteArray)) := (blk_cell BK114.1 0).trans rfl; have hcz28_1 : w27.cell? ⟨gb114, 1, none⟩ = some (.int .i64 0) := (blk_cell BK114.1 1).trans rfl; have hcz28_2 : w27.cell? ⟨gb114, 2, none⟩ = some (.int .i64 0) := (blk_cell BK114.1 2).trans rfl; have hfz28_0 := ze BK114.1 0; have hfz28_1 := ze BK114.1 1; have hfz28_2 := ze BK114.1 2))
        have n0_ : Aside0 ((((w27.setCell ⟨gb114, 0, none⟩ (.string ((rd_T44 l0 x3_1).f0))).setCell ⟨gb114, 1, none⟩ (.int .i64 ((rd_T44 l0 x3_1).f1))).setCell ⟨gb114, 2, none⟩ (.int .i64 ((rd_T44 l0 x3_1).f2))).heap[gb114]? = some (.cells #[.string ((rd_T44 l0 x3_1).f0), .int .i64 ((rd_T44 l0 x3_1).f1), .int .i64 ((rd_T44 l0 x3_1).f2)] 44 (0, 0))) := ⟨(qP21)⟩; have n1_ : Aside0 (Below w.heap.size w (((w27.setCell ⟨gb114, 0, none⟩ (.string ((rd_T44 l0 x3_1).f0))).setCell ⟨gb114, 1, none⟩ (.int .i64 ((rd_T44 l0 x3_1).f1))).setCell ⟨gb114, 2, none⟩ (.int .i64 ((rd_T44 l0 x3_1).f2)))) := ⟨(qP14 GE114.1)⟩
        (try clear BK114)
        (try clear HB)
        generalize (((w27.setCell ⟨gb114, 0, none⟩ (.string ((rd_T44 l0 x3_1).f0))).setCell ⟨gb114, 1, none⟩ (.int .i64 ((rd_T44 l0 x3_1).f1))).setCell ⟨gb114, 2, none⟩ (.int .i64 ((rd_T44 l0 x3_1).f2))) = w29 at n0_ n1_ ⊢
        have BK114 := n0_; have HB := n1_; clear n0_ n1_; replace BK114 := za (zh BK114.1); replace HB := za (below_drew1 HB.1)
        refine start_ (n := 31) (S := fun w' => w'.cell? ⟨gb114, 0, none⟩ = some (.string ((rd_T44 l0 x3_1).f0)) ∧ w'.cell? ⟨gb114, 1, none⟩ = some (.int .i64 ((rd_T44 l0 x3_1).f1)) ∧ w'.cell? ⟨gb114, 2, none⟩ = some (.int .i64 ((rd_T44 l0 x3_1).f2))) (ds := []) qPb0 (qP22) rfl rfl ⟨(blk_cell BK114.1 0).trans rfl, (blk_cell BK114.1 1).trans rfl, (blk_cell BK114.1 2).trans rfl⟩ (fun hHeld => ?_); refine with_tabW spec_l13Good.tab5 spec_l13Good.bits5 (fun HT_ HW_ => ?_)
        generalize w29.drew = w30 at BK114 HB hHeld ⊢
        refine pure_ (i := 0) (N := some 15) (v := ?_) (a' := ?_) qPb1 rfl rfl (qP10) (fun _ _ _ h => h) (zR ⟨by rfl, ?_⟩) ?_ ?_
        rotate_left; exact qP2_c1; rotate_left; exact qP2_c0
        refine take_ (i := 1) (N := some 16) (v := ?_) (a' := ?_) qPb2 rfl rfl (take_ofW HT_.1 HW_.1 (qP22)) (fun _ _ _ h => h) (zR ⟨by rfl, ?_⟩) hHeld ?_ ?_
        rotate_left; exact qP2_c6; rotate_left; exact qP2_c0
        refine one_ (i := 2) (N := some 17) qPb3 rfl rfl (qP70) (by decide) (fun K hK => ?_)
        refine goes_ Try.func68 (qP22) rfl #[.string ((rd_T44 l0 x3_1).f0)] (by rfl) rfl rfl (qP5) ?_
        with_reducible refine (spec_l13Letter.calls ((rd_T44 l0 x3_1).f0) true _ A4.1).mono ?_
        rintro e w' ⟨rfl, ⟨nd, rfl⟩⟩
        refine ⟨_, rfl, ?_⟩
        refine hK.out _ _ ⟨(blk_cell BK114.1 0).trans rfl, (blk_cell BK114.1 1).trans rfl, (blk_cell BK114.1 2).trans rfl⟩ (fun hHeld => ?_)
        clear hK K
        refine norm_ (a' := ?_) ?_ ?_
        rotate_left
        ·exact qP2_c2
        refine pure_ (i := 3) (N := some 18) (v := ?_) (a' := ?_) qPb4 rfl rfl (qP10) (fun _ _ _ h => h) (zR ⟨by rfl, ?_⟩) ?_ ?_
        rotate_left; exact qP2_c1; rotate_left; exact qP2_c0
        refine pure_ (i := 4) (N := some 19) (v := ?_) (a' := ?_) qPb5 rfl rfl (qP10) (fun _ _ _ h => h) (zR ⟨by rfl, ?_⟩) ?_ ?_
        rotate_left; exact qP2_c1; rotate_left; exact qP2_c0
        refine pure_ (i := 5) (N := some 20) (v := ?_) (a' := ?_) qPb6 rfl rfl (qP10) (fun _ _ _ h => h) (zR ⟨by rfl, ?_⟩) ?_ ?_
        rotate_left; exact qP2_c1; rotate_left; exact qP2_c0
        refine take_ (i := 6) (N := some 21) (v := ?_) (a' := ?_) qPb7 rfl rfl (take_ofW HT_.1 HW_.1 (qP22)) (fun _ _ _ h => h) (zR ⟨by rfl, ?_⟩) hHeld ?_ ?_
        rotate_left; exact qP2_c6; rotate_left; exact qP2_c0
        refine one_ (i := 7) (N := some 22) qPb8 rfl rfl (qP70) (by decide) (fun K hK => ?_)
        refine goes_ Try.func64 (qP22) rfl #[.int .i64 ((rd_T44 l0 x3_1).f1), .int .i64 (-1000), .int .i64 1000] (by rfl) rfl rfl (qP5) ?_
        with_reducible refine (spec_l1In.calls ((rd_T44 l0 x3_1).f1) (-1000) 1000 true _ A6.1).mono ?_
        rintro e w' ⟨rfl, ⟨nd, rfl⟩⟩
        refine ⟨_, rfl, ?_⟩
        refine hK.out _ _ ⟨(blk_cell BK114.1 0).trans rfl, (blk_cell BK114.1 1).trans rfl, (blk_cell BK114.1 2).trans rfl⟩ (fun hHeld => ?_)
        clear hK K
        refine norm_ (a' := ?_) ?_ ?_
        rotate_left
        ·exact qP2_c3
        refine pure_ (i := 8) (N := some 23) (v := ?_) (a' := ?_) qPb9 rfl rfl (qP10) (fun _ _ _ h => h) (zR ⟨by rfl, ?_⟩) ?_ ?_
        rotate_left; exact qP2_c1; rotate_left; exact qP2_c0
        refine pure_ (i := 9) (N := some 24) (v := ?_) (a' := ?_) qPb10 rfl rfl (qP10) (fun _ _ _ h => h) (zR ⟨by rfl, ?_⟩) ?_ ?_
        rotate_left; exact qP2_c1; rotate_left; exact qP2_c0
        refine pure_ (i := 10) (N := some 25) (v := ?_) (a' := ?_) qPb11 rfl rfl (qP10) (fun _ _ _ h => h) (zR ⟨by rfl, ?_⟩) ?_ ?_
        rotate_left; exact qP2_c1; rotate_left; exact qP2_c0
        refine pure_ (i := 11) (N := some 26) (v := ?_) (a' := ?_) qPb12 rfl rfl (qP10) (fun _ _ _ h => h) (zR ⟨by rfl, ?_⟩) ?_ ?_
        rotate_left; exact qP2_c1; rotate_left; exact qP2_c0
        refine take_ (i := 12) (N := some 27) (v := ?_) (a' := ?_) qPb13 rfl rfl (take_ofW HT_.1 HW_.1 (qP22)) (fun _ _ _ h => h) (zR ⟨by rfl, ?_⟩) hHeld ?_ ?_
        rotate_left; exact qP2_c6; rotate_left; exact qP2_c0
        refine one_ (i := 13) (N := some 28) qPb14 rfl rfl (qP70) (by decide) (fun K hK => ?_)
        refine goes_ Try.func64 (qP22) rfl #[.int .i64 ((rd_T44 l0 x3_1).f2), .int .i64 (-1000), .int .i64 1000] (by rfl) rfl rfl (qP5) ?_
        with_reducible refine (spec_l1In.calls ((rd_T44 l0 x3_1).f2) (-1000) 1000 false _ A8.1).mono ?_
        rintro e w' ⟨rfl, ⟨nd, rfl⟩⟩
        refine ⟨_, rfl, ?_⟩
        refine hK.out _ _ ⟨(blk_cell BK114.1 0).trans rfl, (blk_cell BK114.1 1).trans rfl, (blk_cell BK114.1 2).trans rfl⟩ (fun hHeld => ?_)
        clear hK K
        refine norm_ (a' := ?_) ?_ ?_
        rotate_left
        ·exact qP2_c5
        refine pure_ (i := 14) (N := some 29) (v := ?_) (a' := ?_) qPb15 rfl rfl (qP10) (fun _ _ _ h => h) (zR ⟨by rfl, ?_⟩) ?_ ?_
        rotate_left; exact qP2_c1; rotate_left; exact qP2_c0
        refine pure_ (i := 15) (N := some 30) (v := ?_) (a' := ?_) qPb16 rfl rfl (qP10) (fun _ _ _ h => h) (zR ⟨by rfl, ?_⟩) ?_ ?_
        rotate_left; exact qP2_c1; rotate_left; exact qP2_c0
        refine pure_ (i := 16) (N := some 31) (v := ?_) (a' := ?_) qPb17 rfl rfl (qP10) (fun _ _ _ h => h) (zR ⟨by rfl, ?_⟩) ?_ ?_
        rotate_left; exact qP2_c1; rotate_left; exact qP2_c0
        refine pure_ (i := 17) (N := some 32) (v := undef) (a' := ?_) qPb18 rfl rfl (qP10) (fun _ _ _ h => h) (Or.inr ⟨by rfl, rfl⟩) ?_ ?_
        rotate_left
        ·exact qP2_c0
        refine pure_ (i := 18) (N := some 33) (v := undef) (a' := ?_) qPb19 rfl rfl (qP10) (fun _ _ _ h => h) (Or.inr ⟨by rfl, rfl⟩) ?_ ?_
        rotate_left
        ·exact qP2_c0
        refine pure_ (i := 19) (N := some 34) (v := undef) (a' := ?_) qPb20 rfl rfl (qP10) (fun _ _ _ h => h) (Or.inr ⟨by rfl, rfl⟩) ?_ ?_
        rotate_left
        ·exact qP2_c0
        refine pure_ (i := 20) (N := some 35) (v := undef) (a' := ?_) qPb21 rfl rfl (qP10) (fun _ _ _ h => h) (Or.inr ⟨by rfl, rfl⟩) ?_ ?_
        rotate_left
        ·exact qP2_c0
        refine pure_ (i := 21) (N := some 36) (v := undef) (a' := ?_) qPb22 rfl rfl (qP10) (fun _ _ _ h => h) (Or.inr ⟨by rfl, rfl⟩) ?_ ?_
        rotate_left
        ·exact qP2_c0
        refine pure_ (i := 22) (N := some 37) (v := undef) (a' := ?_) qPb23 rfl rfl (qP10) (fun _ _ _ h => h) (Or.inr ⟨by rfl, rfl⟩) ?_ ?_
        rotate_left
        ·exact qP2_c0
        refine pure_ (i := 23) (N := some 38) (v := undef) (a' := ?_) qPb24 rfl rfl (qP10) (fun _ _ _ h => h) (Or.inr ⟨by rfl, rfl⟩) ?_ ?_
        rotate_left
        ·exact qP2_c0
        refine pure_ (i := 24) (N := some 39) (v := undef) (a' := ?_) qPb25 rfl rfl (qP10) (fun _ _ _ h => h) (Or.inr ⟨by rfl, rfl⟩) ?_ ?_
        rotate_left
        ·exact qP2_c0
        refine pure_ (i := 25) (N := some 40) (v := undef) (a' := ?_) qPb32 rfl rfl (qP10) (fun _ _ _ h => h) (Or.inr ⟨by rfl, rfl⟩) ?_ ?_
        rotate_left
        ·exact qP2_c0
        refine pure_ (i := 26) (N := some 41) (v := undef) (a' := ?_) qPb27 rfl rfl (qP10) (fun _ _ _ h => h) (Or.inr ⟨by rfl, rfl⟩) ?_ ?_
        rotate_left
        ·exact qP2_c0
        refine pure_ (i := 27) (N := some 42) (v := undef) (a' := ?_) qPb28 rfl rfl (qP10) (fun _ _ _ h => h) (Or.inr ⟨by rfl, rfl⟩) ?_ ?_
        rotate_left
        ·exact qP2_c0
        refine pure_ (i := 28) (N := some 43) (v := undef) (a' := ?_) qPb29 rfl rfl (qP10) (fun _ _ _ h => h) (Or.inr ⟨by rfl, rfl⟩) ?_ ?_
        rotate_left
        ·exact qP2_c0
        refine pure_ (i := 29) (N := some 44) (v := undef) (a' := ?_) qPb30 rfl rfl (qP10) (fun _ _ _ h => h) (Or.inr ⟨by rfl, rfl⟩) ?_ ?_
        rotate_left
        ·exact qP2_c0
        refine pure_ (i := 30) (N := some 45) (v := ?_) (a' := ?_) qPb31 rfl rfl (qP10) (fun _ _ _ h => h) (zR ⟨by rfl, ?_⟩) ?_ ?_
        rotate_left; exact qP2_c1; rotate_left; exact qP2_c0
        refine done_ (qP85) ?_
        try go_wp2
        go_ret
        exact ⟨(qP19), (qP14 GE114.1)⟩
      ·replace c7 := zl c7; subst c7; rw [zV (show ¬ (false = true) by decide)] at H; obtain rfl := zk H; have p113 : 0 ≤ (x3_1 : Int) := zb (qP9); have q113 : x3_1 < (l0.length : Int) := zb (qP9); obtain ⟨ad113, e113, hx113_0, hx113_1, hx113_2⟩ := at_T44 HR0.1 x3_1 p113 q113; cases e113; replace hx113_0 := (HB.1.cell (zd w _ hx113_0)).trans hx113_0; replace hx113_1 := (HB.1.cell (zd w _ hx113_1)).trans hx113_1; replace hx113_2 := (HB.1.cell (zd w _ hx113_2)).trans hx113_2; replace p113 := zt p113; replace q113 := zt q113
       try go_wp2_with (first | ((with_reducible refine zo (N := 4) rfl ?_); refine zy ?hg (N := 4) ?hd (cs := #[.string (⟨#[]⟩ : ByteArray), .int .i64 0, .int .i64 0]) (t := 44) ?hr ?_; (case hd | hg => rfl); (case hr => exact (qP24)); intro gb114 hg w31 hbox hb; have BK114 := za hbox; have GW114 := za qP69; have GE114 := za qP69; replace HB := za qP64; clear hb hbox hg; have hcz32_0 : w31.cell? ⟨gb114, 0, none⟩ = some (.string (⟨#[]⟩ : ByteArray)) := (blk_cell BK114.1 0).trans rfl; have hcz32_1 : w31.cell? ⟨gb114, 1, none⟩ = some (.int .i64 0) := (blk_cell BK114.1 1).trans rfl; have hcz32_2 : w31.cell? ⟨gb114, 2, none⟩ = some (.int .i64 0) := (blk_cell BK114.1 2).trans rfl; have hfz32_0 := ze BK114.1 0; have hfz32_1 := ze BK114.1 1; have hfz32_2 := ze BK114.1 2))
       have n0_ : Aside0 ((((w31.setCell ⟨gb114, 0, none⟩ (.string ((rd_T44 l0 x3_1).f0))).setCell ⟨gb114, 1, none⟩ (.int .i64 ((rd_T44 l0 x3_1).f1))).setCell ⟨gb114, 2, none⟩ (.int .i64 ((rd_T44 l0 x3_1).f2))).heap[gb114]? = some (.cells #[.string ((rd_T44 l0 x3_1).f0), .int .i64 ((rd_T44 l0 x3_1).f1), .int .i64 ((rd_T44 l0 x3_1).f2)] 44 (0, 0))) := ⟨(qP21)⟩; have n1_ : Aside0 (Below w.heap.size w (((w31.setCell ⟨gb114, 0, none⟩ (.string ((rd_T44 l0 x3_1).f0))).setCell ⟨gb114, 1, none⟩ (.int .i64 ((rd_T44 l0 x3_1).f1))).setCell ⟨gb114, 2, none⟩ (.int .i64 ((rd_T44 l0 x3_1).f2)))) := ⟨(qP14 GE114.1)⟩
       (try clear BK114)
       (try clear HB)
       generalize (((w31.setCell ⟨gb114, 0, none⟩ (.string ((rd_T44 l0 x3_1).f0))).setCell ⟨gb114, 1, none⟩ (.int .i64 ((rd_T44 l0 x3_1).f1))).setCell ⟨gb114, 2, none⟩ (.int .i64 ((rd_T44 l0 x3_1).f2))) = w33 at n0_ n1_ ⊢
       have BK114 := n0_; have HB := n1_; clear n0_ n1_; replace BK114 := za (zh BK114.1); replace HB := za (below_drew1 HB.1)
       refine start_ (n := 31) (S := fun w' => w'.cell? ⟨gb114, 0, none⟩ = some (.string ((rd_T44 l0 x3_1).f0)) ∧ w'.cell? ⟨gb114, 1, none⟩ = some (.int .i64 ((rd_T44 l0 x3_1).f1)) ∧ w'.cell? ⟨gb114, 2, none⟩ = some (.int .i64 ((rd_T44 l0 x3_1).f2))) (ds := []) qPb0 (qP22) rfl rfl ⟨(blk_cell BK114.1 0).trans rfl, (blk_cell BK114.1 1).trans rfl, (blk_cell BK114.1 2).trans rfl⟩ (fun hHeld => ?_); refine with_tabW spec_l13Good.tab5 spec_l13Good.bits5 (fun HT_ HW_ => ?_)
       generalize w33.drew = w34 at BK114 HB hHeld ⊢
       refine pure_ (i := 0) (N := some 15) (v := ?_) (a' := ?_) qPb1 rfl rfl (qP10) (fun _ _ _ h => h) (zR ⟨by rfl, ?_⟩) ?_ ?_
       rotate_left; exact qP2_c1; rotate_left; exact qP2_c0
       refine take_ (i := 1) (N := some 16) (v := ?_) (a' := ?_) qPb2 rfl rfl (take_ofW HT_.1 HW_.1 (qP22)) (fun _ _ _ h => h) (zR ⟨by rfl, ?_⟩) hHeld ?_ ?_
       rotate_left; exact qP2_c6; rotate_left; exact qP2_c0
       refine one_ (i := 2) (N := some 17) qPb3 rfl rfl (qP70) (by decide) (fun K hK => ?_)
       refine goes_ Try.func68 (qP22) rfl #[.string ((rd_T44 l0 x3_1).f0)] (by rfl) rfl rfl (qP5) ?_
       with_reducible refine (spec_l13Letter.calls ((rd_T44 l0 x3_1).f0) true _ A4.1).mono ?_
       rintro e w' ⟨rfl, ⟨nd, rfl⟩⟩
       refine ⟨_, rfl, ?_⟩
       refine hK.out _ _ ⟨(blk_cell BK114.1 0).trans rfl, (blk_cell BK114.1 1).trans rfl, (blk_cell BK114.1 2).trans rfl⟩ (fun hHeld => ?_)
       clear hK K
       refine norm_ (a' := ?_) ?_ ?_
       rotate_left
       ·exact qP2_c2
       refine pure_ (i := 3) (N := some 18) (v := ?_) (a' := ?_) qPb4 rfl rfl (qP10) (fun _ _ _ h => h) (zR ⟨by rfl, ?_⟩) ?_ ?_
       rotate_left; exact qP2_c1; rotate_left; exact qP2_c0
       refine pure_ (i := 4) (N := some 19) (v := ?_) (a' := ?_) qPb5 rfl rfl (qP10) (fun _ _ _ h => h) (zR ⟨by rfl, ?_⟩) ?_ ?_
       rotate_left; exact qP2_c1; rotate_left; exact qP2_c0
       refine pure_ (i := 5) (N := some 20) (v := ?_) (a' := ?_) qPb6 rfl rfl (qP10) (fun _ _ _ h => h) (zR ⟨by rfl, ?_⟩) ?_ ?_
       rotate_left; exact qP2_c1; rotate_left; exact qP2_c0
       refine take_ (i := 6) (N := some 21) (v := ?_) (a' := ?_) qPb7 rfl rfl (take_ofW HT_.1 HW_.1 (qP22)) (fun _ _ _ h => h) (zR ⟨by rfl, ?_⟩) hHeld ?_ ?_
       rotate_left; exact qP2_c6; rotate_left; exact qP2_c0
       refine one_ (i := 7) (N := some 22) qPb8 rfl rfl (qP70) (by decide) (fun K hK => ?_)
       refine goes_ Try.func64 (qP22) rfl #[.int .i64 ((rd_T44 l0 x3_1).f1), .int .i64 (-1000), .int .i64 1000] (by rfl) rfl rfl (qP5) ?_
       with_reducible refine (spec_l1In.calls ((rd_T44 l0 x3_1).f1) (-1000) 1000 false _ A6.1).mono ?_
       rintro e w' ⟨rfl, ⟨nd, rfl⟩⟩
       refine ⟨_, rfl, ?_⟩
       refine hK.out _ _ ⟨(blk_cell BK114.1 0).trans rfl, (blk_cell BK114.1 1).trans rfl, (blk_cell BK114.1 2).trans rfl⟩ (fun hHeld => ?_)
       clear hK K
       refine norm_ (a' := ?_) ?_ ?_
       rotate_left
       ·exact qP2_c3
       refine pure_ (i := 8) (N := some 23) (v := ?_) (a' := ?_) qPb9 rfl rfl (qP10) (fun _ _ _ h => h) (zR ⟨by rfl, ?_⟩) ?_ ?_
       rotate_left; exact qP2_c1; rotate_left; exact qP2_c0
       refine pure_ (i := 9) (N := some 24) (v := ?_) (a' := ?_) qPb10 rfl rfl (qP10) (fun _ _ _ h => h) (zR ⟨by rfl, ?_⟩) ?_ ?_
       rotate_left; exact qP2_c1; rotate_left; exact qP2_c0
       refine pure_ (i := 10) (N := some 25) (v := ?_) (a' := ?_) qPb11 rfl rfl (qP10) (fun _ _ _ h => h) (zR ⟨by rfl, ?_⟩) ?_ ?_
       rotate_left; exact qP2_c1; rotate_left; exact qP2_c0
       refine pure_ (i := 11) (N := some 26) (v := undef) (a' := ?_) qPb12 rfl rfl (qP10) (fun _ _ _ h => h) (Or.inr ⟨by rfl, rfl⟩) ?_ ?_
       rotate_left
       ·exact qP2_c0
       refine pure_ (i := 12) (N := some 27) (v := undef) (a' := ?_) qPb13 rfl rfl (qP10) (fun _ _ _ h => h) (Or.inr ⟨by rfl, rfl⟩) ?_ ?_
       rotate_left
       ·exact qP2_c0
       refine pure_ (i := 13) (N := some 28) (v := undef) (a' := ?_) qPb14 rfl rfl (qP10) (fun _ _ _ h => h) (Or.inr ⟨by rfl, rfl⟩) ?_ ?_
       rotate_left
       ·exact qP2_c0
       refine pure_ (i := 14) (N := some 29) (v := undef) (a' := ?_) qPb15 rfl rfl (qP10) (fun _ _ _ h => h) (Or.inr ⟨by rfl, rfl⟩) ?_ ?_
       rotate_left
       ·exact qP2_c0
       refine pure_ (i := 15) (N := some 30) (v := ?_) (a' := ?_) qPb16 rfl rfl (qP10) (fun _ _ _ h => h) (zR ⟨by rfl, ?_⟩) ?_ ?_
       rotate_left; exact qP2_c1; rotate_left; exact qP2_c0
       refine pure_ (i := 16) (N := some 31) (v := ?_) (a' := ?_) qPb17 rfl rfl (qP10) (fun _ _ _ h => h) (zR ⟨by rfl, ?_⟩) ?_ ?_
       rotate_left; exact qP2_c1; rotate_left; exact qP2_c0
       refine pure_ (i := 17) (N := some 32) (v := undef) (a' := ?_) qPb18 rfl rfl (qP10) (fun _ _ _ h => h) (Or.inr ⟨by rfl, rfl⟩) ?_ ?_
       rotate_left
       ·exact qP2_c0
       refine pure_ (i := 18) (N := some 33) (v := undef) (a' := ?_) qPb19 rfl rfl (qP10) (fun _ _ _ h => h) (Or.inr ⟨by rfl, rfl⟩) ?_ ?_
       rotate_left
       ·exact qP2_c0
       refine pure_ (i := 19) (N := some 34) (v := undef) (a' := ?_) qPb20 rfl rfl (qP10) (fun _ _ _ h => h) (Or.inr ⟨by rfl, rfl⟩) ?_ ?_
       rotate_left
       ·exact qP2_c0
       refine pure_ (i := 20) (N := some 35) (v := undef) (a' := ?_) qPb21 rfl rfl (qP10) (fun _ _ _ h => h) (Or.inr ⟨by rfl, rfl⟩) ?_ ?_
       rotate_left
       ·exact qP2_c0
       refine pure_ (i := 21) (N := some 36) (v := undef) (a' := ?_) qPb22 rfl rfl (qP10) (fun _ _ _ h => h) (Or.inr ⟨by rfl, rfl⟩) ?_ ?_
       rotate_left
       ·exact qP2_c0
       refine pure_ (i := 22) (N := some 37) (v := undef) (a' := ?_) qPb23 rfl rfl (qP10) (fun _ _ _ h => h) (Or.inr ⟨by rfl, rfl⟩) ?_ ?_
       rotate_left
       ·exact qP2_c0
       refine pure_ (i := 23) (N := some 38) (v := undef) (a' := ?_) qPb24 rfl rfl (qP10) (fun _ _ _ h => h) (Or.inr ⟨by rfl, rfl⟩) ?_ ?_
       rotate_left
       ·exact qP2_c0
       refine pure_ (i := 24) (N := some 39) (v := undef) (a' := ?_) qPb25 rfl rfl (qP10) (fun _ _ _ h => h) (Or.inr ⟨by rfl, rfl⟩) ?_ ?_
       rotate_left
       ·exact qP2_c0
       refine pure_ (i := 25) (N := some 40) (v := undef) (a' := ?_) qPb32 rfl rfl (qP10) (fun _ _ _ h => h) (Or.inr ⟨by rfl, rfl⟩) ?_ ?_
       rotate_left
       ·exact qP2_c0
       refine pure_ (i := 26) (N := some 41) (v := undef) (a' := ?_) qPb27 rfl rfl (qP10) (fun _ _ _ h => h) (Or.inr ⟨by rfl, rfl⟩) ?_ ?_
       rotate_left
       ·exact qP2_c0
       refine pure_ (i := 27) (N := some 42) (v := undef) (a' := ?_) qPb28 rfl rfl (qP10) (fun _ _ _ h => h) (Or.inr ⟨by rfl, rfl⟩) ?_ ?_
       rotate_left
       ·exact qP2_c0
       refine pure_ (i := 28) (N := some 43) (v := undef) (a' := ?_) qPb29 rfl rfl (qP10) (fun _ _ _ h => h) (Or.inr ⟨by rfl, rfl⟩) ?_ ?_
       rotate_left
       ·exact qP2_c0
       refine pure_ (i := 29) (N := some 44) (v := undef) (a' := ?_) qPb30 rfl rfl (qP10) (fun _ _ _ h => h) (Or.inr ⟨by rfl, rfl⟩) ?_ ?_
       rotate_left
       ·exact qP2_c0
       refine pure_ (i := 30) (N := some 45) (v := ?_) (a' := ?_) qPb31 rfl rfl (qP10) (fun _ _ _ h => h) (zR ⟨by rfl, ?_⟩) ?_ ?_
       rotate_left; exact qP2_c1; rotate_left; exact qP2_c0
       refine done_ (qP85) ?_
       try go_wp2
       go_ret
       exact ⟨(qP19), (qP14 GE114.1)⟩
     ·replace c5 := zl c5; subst c5; rw [zV (show ¬ (false = true) by decide)] at H; obtain rfl := zk H; have p113 : 0 ≤ (x3_1 : Int) := zb (qP9); have q113 : x3_1 < (l0.length : Int) := zb (qP9); obtain ⟨ad113, e113, hx113_0, hx113_1, hx113_2⟩ := at_T44 HR0.1 x3_1 p113 q113; cases e113; replace hx113_0 := (HB.1.cell (zd w _ hx113_0)).trans hx113_0; replace hx113_1 := (HB.1.cell (zd w _ hx113_1)).trans hx113_1; replace hx113_2 := (HB.1.cell (zd w _ hx113_2)).trans hx113_2; replace p113 := zt p113; replace q113 := zt q113
      try go_wp2_with (first | ((with_reducible refine zo (N := 4) rfl ?_); refine zy ?hg (N := 4) ?hd (cs := #[.string (⟨#[]⟩ : ByteArray), .int .i64 0, .int .i64 0]) (t := 44) ?hr ?_; (case hd | hg => rfl); (case hr => exact (qP24)); intro gb114 hg w35 hbox hb; have BK114 := za hbox; have GW114 := za qP69; have GE114 := za qP69; replace HB := za qP64; clear hb hbox hg; have hcz36_0 : w35.cell? ⟨gb114, 0, none⟩ = some (.string (⟨#[]⟩ : ByteArray)) := (blk_cell BK114.1 0).trans rfl; have hcz36_1 : w35.cell? ⟨gb114, 1, none⟩ = some (.int .i64 0) := (blk_cell BK114.1 1).trans rfl; have hcz36_2 : w35.cell? ⟨gb114, 2, none⟩ = some (.int .i64 0) := (blk_cell BK114.1 2).trans rfl; have hfz36_0 := ze BK114.1 0; have hfz36_1 := ze BK114.1 1; have hfz36_2 := ze BK114.1 2))
      have n0_ : Aside0 ((((w35.setCell ⟨gb114, 0, none⟩ (.string ((rd_T44 l0 x3_1).f0))).setCell ⟨gb114, 1, none⟩ (.int .i64 ((rd_T44 l0 x3_1).f1))).setCell ⟨gb114, 2, none⟩ (.int .i64 ((rd_T44 l0 x3_1).f2))).heap[gb114]? = some (.cells #[.string ((rd_T44 l0 x3_1).f0), .int .i64 ((rd_T44 l0 x3_1).f1), .int .i64 ((rd_T44 l0 x3_1).f2)] 44 (0, 0))) := ⟨(qP21)⟩; have n1_ : Aside0 (Below w.heap.size w (((w35.setCell ⟨gb114, 0, none⟩ (.string ((rd_T44 l0 x3_1).f0))).setCell ⟨gb114, 1, none⟩ (.int .i64 ((rd_T44 l0 x3_1).f1))).setCell ⟨gb114, 2, none⟩ (.int .i64 ((rd_T44 l0 x3_1).f2)))) := ⟨(qP14 GE114.1)⟩
      (try clear BK114)
      (try clear HB)
      generalize (((w35.setCell ⟨gb114, 0, none⟩ (.string ((rd_T44 l0 x3_1).f0))).setCell ⟨gb114, 1, none⟩ (.int .i64 ((rd_T44 l0 x3_1).f1))).setCell ⟨gb114, 2, none⟩ (.int .i64 ((rd_T44 l0 x3_1).f2))) = w37 at n0_ n1_ ⊢
      have BK114 := n0_; have HB := n1_; clear n0_ n1_; replace BK114 := za (zh BK114.1); replace HB := za (below_drew1 HB.1)
      refine start_ (n := 31) (S := fun w' => w'.cell? ⟨gb114, 0, none⟩ = some (.string ((rd_T44 l0 x3_1).f0)) ∧ w'.cell? ⟨gb114, 1, none⟩ = some (.int .i64 ((rd_T44 l0 x3_1).f1)) ∧ w'.cell? ⟨gb114, 2, none⟩ = some (.int .i64 ((rd_T44 l0 x3_1).f2))) (ds := []) qPb0 (qP22) rfl rfl ⟨(blk_cell BK114.1 0).trans rfl, (blk_cell BK114.1 1).trans rfl, (blk_cell BK114.1 2).trans rfl⟩ (fun hHeld => ?_); refine with_tabW spec_l13Good.tab5 spec_l13Good.bits5 (fun HT_ HW_ => ?_)
      generalize w37.drew = w38 at BK114 HB hHeld ⊢
      refine pure_ (i := 0) (N := some 15) (v := ?_) (a' := ?_) qPb1 rfl rfl (qP10) (fun _ _ _ h => h) (zR ⟨by rfl, ?_⟩) ?_ ?_
      rotate_left; exact qP2_c1; rotate_left; exact qP2_c0
      refine take_ (i := 1) (N := some 16) (v := ?_) (a' := ?_) qPb2 rfl rfl (take_ofW HT_.1 HW_.1 (qP22)) (fun _ _ _ h => h) (zR ⟨by rfl, ?_⟩) hHeld ?_ ?_
      rotate_left; exact qP2_c6; rotate_left; exact qP2_c0
      refine one_ (i := 2) (N := some 17) qPb3 rfl rfl (qP70) (by decide) (fun K hK => ?_)
      refine goes_ Try.func68 (qP22) rfl #[.string ((rd_T44 l0 x3_1).f0)] (by rfl) rfl rfl (qP5) ?_
      with_reducible refine (spec_l13Letter.calls ((rd_T44 l0 x3_1).f0) false _ A4.1).mono ?_
      rintro e w' ⟨rfl, ⟨nd, rfl⟩⟩
      refine ⟨_, rfl, ?_⟩
      refine hK.out _ _ ⟨(blk_cell BK114.1 0).trans rfl, (blk_cell BK114.1 1).trans rfl, (blk_cell BK114.1 2).trans rfl⟩ (fun hHeld => ?_)
      clear hK K
      refine norm_ (a' := ?_) ?_ ?_
      rotate_left
      ·exact qP2_c2
      refine pure_ (i := 3) (N := some 18) (v := ?_) (a' := ?_) qPb4 rfl rfl (qP10) (fun _ _ _ h => h) (zR ⟨by rfl, ?_⟩) ?_ ?_
      rotate_left; exact qP2_c1; rotate_left; exact qP2_c0
      refine pure_ (i := 4) (N := some 19) (v := ?_) (a' := ?_) qPb5 rfl rfl (qP10) (fun _ _ _ h => h) (zR ⟨by rfl, ?_⟩) ?_ ?_
      rotate_left; exact qP2_c1; rotate_left; exact qP2_c0
      refine pure_ (i := 5) (N := some 20) (v := undef) (a' := ?_) qPb6 rfl rfl (qP10) (fun _ _ _ h => h) (Or.inr ⟨by rfl, rfl⟩) ?_ ?_
      rotate_left
      ·exact qP2_c0
      refine pure_ (i := 6) (N := some 21) (v := undef) (a' := ?_) qPb7 rfl rfl (qP10) (fun _ _ _ h => h) (Or.inr ⟨by rfl, rfl⟩) ?_ ?_
      rotate_left
      ·exact qP2_c0
      refine pure_ (i := 7) (N := some 22) (v := undef) (a' := ?_) qPb8 rfl rfl (qP10) (fun _ _ _ h => h) (Or.inr ⟨by rfl, rfl⟩) ?_ ?_
      rotate_left
      ·exact qP2_c0
      refine pure_ (i := 8) (N := some 23) (v := undef) (a' := ?_) qPb9 rfl rfl (qP10) (fun _ _ _ h => h) (Or.inr ⟨by rfl, rfl⟩) ?_ ?_
      rotate_left
      ·exact qP2_c0
      refine pure_ (i := 9) (N := some 24) (v := ?_) (a' := ?_) qPb10 rfl rfl (qP10) (fun _ _ _ h => h) (zR ⟨by rfl, ?_⟩) ?_ ?_
      rotate_left; exact qP2_c1; rotate_left; exact qP2_c0
      refine pure_ (i := 10) (N := some 25) (v := ?_) (a' := ?_) qPb11 rfl rfl (qP10) (fun _ _ _ h => h) (zR ⟨by rfl, ?_⟩) ?_ ?_
      rotate_left; exact qP2_c1; rotate_left; exact qP2_c0
      refine pure_ (i := 11) (N := some 26) (v := undef) (a' := ?_) qPb12 rfl rfl (qP10) (fun _ _ _ h => h) (Or.inr ⟨by rfl, rfl⟩) ?_ ?_
      rotate_left
      ·exact qP2_c0
      refine pure_ (i := 12) (N := some 27) (v := undef) (a' := ?_) qPb13 rfl rfl (qP10) (fun _ _ _ h => h) (Or.inr ⟨by rfl, rfl⟩) ?_ ?_
      rotate_left
      ·exact qP2_c0
      refine pure_ (i := 13) (N := some 28) (v := undef) (a' := ?_) qPb14 rfl rfl (qP10) (fun _ _ _ h => h) (Or.inr ⟨by rfl, rfl⟩) ?_ ?_
      rotate_left
      ·exact qP2_c0
      refine pure_ (i := 14) (N := some 29) (v := undef) (a' := ?_) qPb15 rfl rfl (qP10) (fun _ _ _ h => h) (Or.inr ⟨by rfl, rfl⟩) ?_ ?_
      rotate_left
      ·exact qP2_c0
      refine pure_ (i := 15) (N := some 30) (v := ?_) (a' := ?_) qPb16 rfl rfl (qP10) (fun _ _ _ h => h) (zR ⟨by rfl, ?_⟩) ?_ ?_
      rotate_left; exact qP2_c1; rotate_left; exact qP2_c0
      refine pure_ (i := 16) (N := some 31) (v := ?_) (a' := ?_) qPb17 rfl rfl (qP10) (fun _ _ _ h => h) (zR ⟨by rfl, ?_⟩) ?_ ?_
      rotate_left; exact qP2_c1; rotate_left; exact qP2_c0
      refine pure_ (i := 17) (N := some 32) (v := undef) (a' := ?_) qPb18 rfl rfl (qP10) (fun _ _ _ h => h) (Or.inr ⟨by rfl, rfl⟩) ?_ ?_
      rotate_left
      ·exact qP2_c0
      refine pure_ (i := 18) (N := some 33) (v := undef) (a' := ?_) qPb19 rfl rfl (qP10) (fun _ _ _ h => h) (Or.inr ⟨by rfl, rfl⟩) ?_ ?_
      rotate_left
      ·exact qP2_c0
      refine pure_ (i := 19) (N := some 34) (v := undef) (a' := ?_) qPb20 rfl rfl (qP10) (fun _ _ _ h => h) (Or.inr ⟨by rfl, rfl⟩) ?_ ?_
      rotate_left
      ·exact qP2_c0
      refine pure_ (i := 20) (N := some 35) (v := undef) (a' := ?_) qPb21 rfl rfl (qP10) (fun _ _ _ h => h) (Or.inr ⟨by rfl, rfl⟩) ?_ ?_
      rotate_left
      ·exact qP2_c0
      refine pure_ (i := 21) (N := some 36) (v := undef) (a' := ?_) qPb22 rfl rfl (qP10) (fun _ _ _ h => h) (Or.inr ⟨by rfl, rfl⟩) ?_ ?_
      rotate_left
      ·exact qP2_c0
      refine pure_ (i := 22) (N := some 37) (v := undef) (a' := ?_) qPb23 rfl rfl (qP10) (fun _ _ _ h => h) (Or.inr ⟨by rfl, rfl⟩) ?_ ?_
      rotate_left
      ·exact qP2_c0
      refine pure_ (i := 23) (N := some 38) (v := undef) (a' := ?_) qPb24 rfl rfl (qP10) (fun _ _ _ h => h) (Or.inr ⟨by rfl, rfl⟩) ?_ ?_
      rotate_left
      ·exact qP2_c0
      refine pure_ (i := 24) (N := some 39) (v := undef) (a' := ?_) qPb25 rfl rfl (qP10) (fun _ _ _ h => h) (Or.inr ⟨by rfl, rfl⟩) ?_ ?_
      rotate_left
      ·exact qP2_c0
      refine pure_ (i := 25) (N := some 40) (v := undef) (a' := ?_) qPb32 rfl rfl (qP10) (fun _ _ _ h => h) (Or.inr ⟨by rfl, rfl⟩) ?_ ?_
      rotate_left
      ·exact qP2_c0
      refine pure_ (i := 26) (N := some 41) (v := undef) (a' := ?_) qPb27 rfl rfl (qP10) (fun _ _ _ h => h) (Or.inr ⟨by rfl, rfl⟩) ?_ ?_
      rotate_left
      ·exact qP2_c0
      refine pure_ (i := 27) (N := some 42) (v := undef) (a' := ?_) qPb28 rfl rfl (qP10) (fun _ _ _ h => h) (Or.inr ⟨by rfl, rfl⟩) ?_ ?_
      rotate_left
      ·exact qP2_c0
      refine pure_ (i := 28) (N := some 43) (v := undef) (a' := ?_) qPb29 rfl rfl (qP10) (fun _ _ _ h => h) (Or.inr ⟨by rfl, rfl⟩) ?_ ?_
      rotate_left
      ·exact qP2_c0
      refine pure_ (i := 29) (N := some 44) (v := undef) (a' := ?_) qPb30 rfl rfl (qP10) (fun _ _ _ h => h) (Or.inr ⟨by rfl, rfl⟩) ?_ ?_
      rotate_left
      ·exact qP2_c0
      refine pure_ (i := 30) (N := some 45) (v := ?_) (a' := ?_) qPb31 rfl rfl (qP10) (fun _ _ _ h => h) (zR ⟨by rfl, ?_⟩) ?_ ?_
      rotate_left; exact qP2_c1; rotate_left; exact qP2_c0
      refine done_ (qP85) ?_
      try go_wp2
      go_ret
      exact ⟨(qP19), (qP14 GE114.1)⟩
    ·rw [zV c3] at H
     exact zJ H (by simp)
   ·rw [zV c2] at H; have c2b0 : decide (x3_1 < (l0.length : Int)) = false := zs c2; clear c2; obtain rfl := zk H
    go_wp2
    go_ret
    exact ⟨(qP19), (qP1)⟩

end Go.Proofs.Ytckidmhkhlbkeaa.MP
