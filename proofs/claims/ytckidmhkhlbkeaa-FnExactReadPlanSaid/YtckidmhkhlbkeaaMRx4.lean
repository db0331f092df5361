-- tight2 (a walk)
import Derived.Test.YtckidmhkhlbkeaaStr
import Derived.Test.YtckidmhkhlbkeaaMRx0
import Derived.Test.YtckidmhkhlbkeaaMRx1
import Derived.Test.YtckidmhkhlbkeaaMRx2
namespace Go.Proofs.Ytckidmhkhlbkeaa.MR
open Go.RowKit Go.Proofs.YtckidmhkhlbkeaaW.PrintWords Go.Proofs.YtckidmhkhlbkeaaW.PrintLast Go.Proofs.YtckidmhkhlbkeaaW.PrintMore
theorem qR4_c0 {p : Prop} (h : p := by
  simp only [Act.put, zT, zU, zV, i64_w, i32_w]
  rfl) : p := h
theorem qR4_c1 {p : Prop} (h : p := by
  intro w'
  go_simp
  with_reducible rfl) : p := h
theorem qR4_c2 {p : Prop} (h : p := by
  show Act.put _ (some 70) _ = _
  simp only [Act.put, zT, zU, zV, i64_w, i32_w]
  rfl) : p := h
theorem qR4_c3 {p : Prop} (h : p := by
  show Act.put _ (some 72) _ = _
  simp only [Act.put, zT, zU, zV, i64_w, i32_w]
  rfl) : p := h
theorem qR4_c4 {p : Prop} (h : p := by
  show Act.put _ (some 66) _ = _
  simp only [Act.put, zT, zU, zV, i64_w, i32_w]
  rfl) : p := h
attribute [local go_sem] max2_int min2_int max_two min_two max_three min_three max_four min_four
set_option linter.unusedVariables false
set_option linter.unusedSimpArgs false

mutual
def spec_ReadPlan.l0 : Nat → ByteArray → List (S44) → List ByteArray → Int → Option ((List (S44)) × Bool)
 | 0, _, _, _, _ => none
 | k + 1, x0, x4, x5, x6 => if x6 < (x5.length : Int) then (spec_ReadPlan.l1 k x0 x4 x5 x6 0) else ((spec_PlanText.f k x4 1).bind fun bt166 => (if bt166.2 = true then (if bt166.1.toList = x0.toList then (some (x4, true)) else (some ((([] : List (S44))), false))) else (some ((([] : List (S44))), false))))
def spec_ReadPlan.l1 : Nat → ByteArray → List (S44) → List ByteArray → Int → Int → Option ((List (S44)) × Bool)
 | 0, _, _, _, _, _ => none
 | k + 1, x0, x4, x5, x6, x7 => if 0 ≤ x6 then (if x6 < (x5.length : Int) then (if x7 < ((rdOf ByteArray.empty x5 x6).size : Int) then (if 0 ≤ x7 then (if x7 ≤ (wrap64 (x7 + 1)) then (if (wrap64 (x7 + 1)) ≤ ((rdOf ByteArray.empty x5 x6).size : Int) then ((spec_l13Letter.f ((rdOf ByteArray.empty x5 x6).extract (x7 : Int).toNat ((wrap64 (x7 + 1)) : Int).toNat)).bind fun t177 => (if t177 = true then (spec_ReadPlan.l2 k x0 x4 x5 x6 x7 0 ((rdOf ByteArray.empty x5 x6).extract (x7 : Int).toNat ((wrap64 (x7 + 1)) : Int).toNat) x7 (wrap64 (-x6))) else (spec_ReadPlan.l1 k x0 x4 x5 x6 (wrap64 (x7 + 1))))) else (none)) else (none)) else (none)) else (spec_ReadPlan.l0 k x0 x4 x5 (wrap64 (x6 + 1)))) else (none)) else (none)
def spec_ReadPlan.l2 : Nat → ByteArray → List (S44) → List ByteArray → Int → Int → Int → ByteArray → Int → Int → Option ((List (S44)) × Bool)
 | 0, _, _, _, _, _, _, _, _, _ => none
 | k + 1, x0, x4, x5, x6, x7, x9, x177000, x177001, x177002 => if x9 < (x4.length : Int) then (if 0 ≤ x9 then (if (Op.bytesLess (((rd_T44 x4 x9).f0).toList) x177000.toList) = true then (spec_ReadPlan.l2 k x0 x4 x5 x6 x7 (wrap64 (x9 + 1)) x177000 x177001 x177002) else ((some (([] : List (S44)) : List (S44))).bind fun y179 => (if x9 ≤ (x4.length : Int) then ((some (x4.take (x9 : Int).toNat : List (S44))).bind fun y182 => (if y179.length + y182.length < 4398046511104 then ((some (y179 ++ y182 : List (S44))).bind fun y186 => ((some (([(⟨x177000, x177001, x177002⟩ : S44)] : List (S44)) : List (S44))).bind fun y189 => (if y186.length + y189.length < 4398046511104 then ((some (y186 ++ y189 : List (S44))).bind fun y192 => ((some (x4.drop (x9 : Int).toNat : List (S44))).bind fun y195 => (if y192.length + y195.length < 4398046511104 then (spec_ReadPlan.l1 k x0 (y192 ++ y195) x5 x6 (wrap64 (x7 + 1))) else (none)))) else (none)))) else (none))) else (none)))) else (none)) else ((some (([] : List (S44)) : List (S44))).bind fun y202 => (if 0 ≤ x9 then (if x9 ≤ (x4.length : Int) then ((some (x4.take (x9 : Int).toNat : List (S44))).bind fun y205 => (if y202.length + y205.length < 4398046511104 then ((some (y202 ++ y205 : List (S44))).bind fun y209 => ((some (([(⟨x177000, x177001, x177002⟩ : S44)] : List (S44)) : List (S44))).bind fun y212 => (if y209.length + y212.length < 4398046511104 then ((some (y209 ++ y212 : List (S44))).bind fun y215 => ((some (x4.drop (x9 : Int).toNat : List (S44))).bind fun y218 => (if y215.length + y218.length < 4398046511104 then (spec_ReadPlan.l1 k x0 (y215 ++ y218) x5 x6 (wrap64 (x7 + 1))) else (none)))) else (none)))) else (none))) else (none)) else (none)))
end
def spec_ReadPlan.f (k : Nat) (a0 : ByteArray) : Option ((List (S44)) × Bool) := if (a0.size : Int) > 420 then (some ((([] : List (S44))), false)) else ((spec_l1Split.f k a0 10).bind fun t163 => (spec_ReadPlan.l0 k a0 (([] : List (S44))) t163 0))
def spec_ReadPlan.T14 : Bool × List (List Nat × List Nat) := (true, [([], []), ([], []), ([1], [1]), ([0, 2], [0, 2]), ([3], [3]), ([4], [4]), ([4], [4]), ([5, 6, 4], [4, 5, 6]), ([7, 4], [4, 7]), ([8, 4], [4, 8]), ([4], [4]), ([10, 4], [4, 10]), ([9, 11, 4], [4, 9, 11]), ([4, 12], [4, 12])])
def spec_ReadPlan.B14 : List Nat := [0, 0, 2, 7, 15, 31, 31, 127, 255, 511, 31, 1055, 4095, 8191]
theorem spec_ReadPlan.tab14 : rtab .any (opsOf Try.f31 14) = spec_ReadPlan.T14 := by kernel_rfl
theorem spec_ReadPlan.bits14 : waitsOk spec_ReadPlan.T14.2 spec_ReadPlan.B14 = true := by kernel_rfl
def spec_ReadPlan.T16 : Bool × List (List Nat × List Nat) := (true, [([], []), ([], []), ([], []), ([1, 2], [1, 2]), ([0, 3], [0, 3]), ([], []), ([5], [5]), ([4, 6, 4], [4, 6]), ([], []), ([], []), ([8, 9], [8, 9]), ([7, 10, 7], [7, 10]), ([11, 11, 0, 1, 2, 3, 4, 5, 6, 7, 8, 9, 10, 11], [1, 8, 11])])
def spec_ReadPlan.B16 : List Nat := [0, 0, 0, 6, 15, 0, 32, 127, 0, 0, 768, 2047, 4095]
theorem spec_ReadPlan.tab16 : rtab .any (opsOf Try.f31 16) = spec_ReadPlan.T16 := by kernel_rfl
theorem spec_ReadPlan.bits16 : waitsOk spec_ReadPlan.T16.2 spec_ReadPlan.B16 = true := by kernel_rfl
set_option maxHeartbeats 8000000 in
set_option maxRecDepth 100000 in
theorem spec_ReadPlan.calls (k : Nat) (a0 : ByteArray) (r1 : List (S44)) (r2 : Bool) (w : World) (h : spec_ReadPlan.f k a0 = some (r1, r2)) :
  Calls Try.prog 31 #[.string a0] w fun e w' => ∃ v0_ : Value, e = .returned (.tuple #[v0_, .bool r2]) ∧ Kd.R k44 44 w' w.heap.size (fun _ => True) v0_ r1 ∧ Below w.heap.size w w' := by
 have hu44 := Try.underlying44; have HB := za (zq w.heap.size w); have H : (if (a0.size : Int) > 420 then (some ((([] : List (S44))), false)) else ((spec_l1Split.f k a0 10).bind fun t163 => (spec_ReadPlan.l0 k a0 (([] : List (S44))) t163 0))) = some (r1, r2) := h; clear h
 by_cases c2 : (a0.size : Int) > 420
 ·rw [zP c2] at H; have c2b0 : decide (420 < (a0.size : Int)) = true := zc c2; have c2b1 : decide (420 < a0.size) = true := zc (by omega); clear c2; obtain ⟨y157, hy157⟩ : ∃ y_ : List (S44), y_ = (([] : List (S44))) := ⟨_, rfl⟩; replace H : (some (y157, false)) = some (r1, r2) := (qR5 hy157); have Ny157 := za hy157; clear hy157; simp only [zR, zS] at H; obtain ⟨rfl, rfl⟩ := H
  go_enter Try.func31, Try.ntmps31
  go_wp2_with (first | ((with_reducible refine zp (N := 15) rfl ?_); refine Kd.R_lit k44 _ 44 ?hg (N := 15) ?hd (xs := ([] : List (S44))) (inner := []) (ok := fun _ => True) (okp := fun _ => True) ?hr ?hp (fun _ hk => hk) trivial (zq _ _) (zn _) (by simp) ?_; (case hd | hg => rfl); (case hr => exact (qR16)); (case hp => exact (zr _ _)); intro v158 w3 ho4 hb hg_ hnew_; clear hg_ hnew_; (first | rw [← Ny157.1] at ho4 | (simp only [Int.reduceToNat] at ho4; rw [← Ny157.1] at ho4)); have HO159 := za (qR81 ho4); replace HB := za qR61; clear hb ho4))
  go_ret2
  exact ⟨_, (qR9), (qR1 HO159.1), (qR0)⟩
 ·rw [zQ c2] at H; have c2b0 : decide (420 < (a0.size : Int)) = false := zs c2; have c2b1 : decide (420 < a0.size) = false := zs (by omega); clear c2; obtain ⟨y160, hy160⟩ : ∃ y_ : List (S44), y_ = (([] : List (S44))) := ⟨_, rfl⟩; replace H : ((spec_l1Split.f k a0 10).bind fun t163 => (spec_ReadPlan.l0 k a0 y160 t163 0)) = some (r1, r2) := (qR5 hy160); have Ny160 := za hy160; clear hy160; replace H := zx H; obtain ⟨t163, A50, H⟩ := H; replace H : (spec_ReadPlan.l0 k a0 y160 t163 0) = some (r1, r2) := H; have A5 := za A50; clear A50; have H' := za H; clear H
  go_enter Try.func31, Try.ntmps31
  go_wp2_with (first | ((with_reducible refine zp (N := 16) rfl ?_); refine Kd.R_lit k44 _ 44 ?hg (N := 16) ?hd (xs := ([] : List (S44))) (inner := []) (ok := fun _ => True) (okp := fun _ => True) ?hr ?hp (fun _ hk => hk) trivial (zq _ _) (zn _) (by simp) ?_; (case hd | hg => rfl); (case hr => exact (qR16)); (case hp => exact (zr _ _)); intro v161 w6 ho7 hb hg_ hnew_; clear hg_ hnew_; (first | rw [← Ny160.1] at ho7 | (simp only [Int.reduceToNat] at ho7; rw [← Ny160.1] at ho7)); have HO162 := za (qR81 ho7); replace HB := za qR61; clear hb ho7) | ((with_reducible refine zo (f := 67) rfl ?_); refine zJ (some 18) rfl rfl Try.func67 (qR8) rfl #[.string a0, .int .u8 10] rfl (qR4) ?_; (with_reducible refine (spec_l1Split.calls k a0 10 t163 _ A5.1).mono ?_); rintro e w8 ⟨v164, rfl, ho0, hb⟩; refine ⟨_, rfl, ?_⟩; replace HO162 := za (qR64 HO162.1); have HO165 := za (qR81 ho0); replace HB := za qR61; clear hb ho0))
  go_loopg [4, 6] k (fun kq v4 v6 w' => ∃ (x4_1 : List (S44)) (x6_1 : Int), v6 = .int .i64 x6_1 ∧ Aside0 (spec_ReadPlan.l0 kq a0 x4_1 t163 x6_1 = some (r1, r2)) ∧ Aside0 (kq ≤ k) ∧ Aside0 (Kd.R k44 44 w' w.heap.size (fun _ => True) v4 x4_1) ∧ Aside0 (Kd.R Kd.string 9 w' w.heap.size (fun _ => True) v164 t163) ∧ Aside0 (Below w.heap.size w w'))
  case atStart => exact ⟨(y160), (0), (qR10), H', ⟨zn _⟩, ⟨(qR1 HO162.1)⟩, ⟨(qR1 HO165.1)⟩, ⟨(qR0)⟩⟩
  case round =>
   clear H'; (try clear c2b0); (try clear c2b1); obtain ⟨x4_1, x6_1, rfl, HA, HK1, HO_4, HO_5, HB⟩ := hrel
   cases gk with
   | zero => exact zF HA.1 (by simp [spec_ReadPlan.l0])
   | succ k1 =>
    have H := HA.1; clear HA; simp only [spec_ReadPlan.l0] at H
    by_cases c9 : x6_1 < (t163.length : Int)
    ·rw [zP c9] at H; have c9b0 : decide (x6_1 < (t163.length : Int)) = true := zc c9; clear c9; have H' := za H; clear H; obtain ⟨Ao10, co10, eo10⟩ := zz HO_5.1; subst eo10
     go_wp2
     go_loopg [4, 7] k1 (fun kq v4 v7 w' => ∃ (x4_2 : List (S44)) (x7_2 : Int), v7 = .int .i64 x7_2 ∧ Aside0 (spec_ReadPlan.l1 kq a0 x4_2 t163 x6_1 x7_2 = some (r1, r2)) ∧ Aside0 (kq ≤ k1) ∧ Aside0 (Kd.R k44 44 w' w.heap.size (fun _ => True) v4 x4_2) ∧ Aside0 (Kd.R Kd.string 9 w' w.heap.size (fun _ => True) (.slice Ao10 t163.length co10) t163) ∧ Aside0 (Below w.heap.size w w'))
     case atStart => exact ⟨(x4_1), (0), (qR10), H', ⟨zn _⟩, ⟨(qR1 HO_4.1)⟩, ⟨(qR1 HO_5.1)⟩, ⟨(qR0)⟩⟩
     case round =>
      clear H'; (try clear c9b0); obtain ⟨x4_2, x7_2, rfl, HA, HK2, HO_4, HO_5, HB⟩ := hrel
      cases gk with
      | zero => exact zF HA.1 (by simp [spec_ReadPlan.l1])
      | succ k2 =>
       have H := HA.1; clear HA; simp only [spec_ReadPlan.l1] at H
       by_cases c11 : 0 ≤ x6_1
       ·rw [zP c11] at H; have c11b0 : decide (0 ≤ x6_1) = true := zc c11; clear c11
        by_cases c12 : x6_1 < (t163.length : Int)
        ·rw [zP c12] at H; have c12b0 : decide (x6_1 < (t163.length : Int)) = true := zc c12; clear c12
         by_cases c13 : x7_2 < ((rdOf ByteArray.empty t163 x6_1).size : Int)
         ·rw [zP c13] at H; have c13b0 : decide (x7_2 < ((rdOf ByteArray.empty t163 x6_1).size : Int)) = true := zc c13; clear c13
          by_cases c14 : 0 ≤ x7_2
          ·rw [zP c14] at H; have c14b0 := zt c14; have c14b1 : decide (0 ≤ x7_2) = true := zc c14; clear c14
           by_cases c15 : x7_2 ≤ (wrap64 (x7_2 + 1))
           ·rw [zP c15] at H; have c15b0 := zt c15; have c15b1 : decide (x7_2 ≤ (wrap64 (x7_2 + 1))) = true := zc c15
            by_cases c16 : (wrap64 (x7_2 + 1)) ≤ ((rdOf ByteArray.empty t163 x6_1).size : Int)
            ·rw [zP c16] at H; have c16b0 := zt c16; have c16b1 : decide ((wrap64 (x7_2 + 1)) ≤ ((rdOf ByteArray.empty t163 x6_1).size : Int)) = true := zc c16; replace H := bindA H; obtain ⟨t177, A17, H⟩ := H; (try dsimp only at H)
             by_cases c18 : t177 = true
             ·subst c18; rw [zP rfl] at H; have H' := za H; clear H; have p174 : 0 ≤ (x6_1 : Int) := zb (qR6); have q174 : x6_1 < (t163.length : Int) := zb (qR6); obtain ⟨ad174, e174, hx174_0⟩ := Kd.at_string (Kd.R_reads' HO_5.1).2.2 x6_1 p174 q174; cases e174; replace p174 := zt p174; replace q174 := zt q174; have p175 : 0 ≤ (x6_1 : Int) := zb (qR6); have q175 : x6_1 < (t163.length : Int) := zb (qR6); obtain ⟨ad175, e175, hx175_0⟩ := Kd.at_string (Kd.R_reads' HO_5.1).2.2 x6_1 p175 q175; obtain rfl : ad174 = ad175 := (by injection e175); replace p175 := zt p175; replace q175 := zt q175
              go_wp2_with (first | ((with_reducible refine zp (N := 8) rfl ?_); refine zw ?hg (N := 8) ?hd (cs := #[.string (⟨#[]⟩ : ByteArray), .int .i64 0, .int .i64 0]) (t := 44) ?hr ?_; (case hd | hg => rfl); (case hr => exact (qR16)); intro gb176 hg w19 hbox hb; replace HO_4 := za qR83; replace HO_5 := za (qR64 HO_5.1); have BK176 := za hbox; have GW176 := za qR77; have GE176 := za qR77; replace HB := za qR61; clear hb hbox hg; have hcz20_0 : w19.cell? ⟨gb176, 0, none⟩ = some (.string (⟨#[]⟩ : ByteArray)) := (blk_cell BK176.1 0).trans rfl; have hcz20_1 : w19.cell? ⟨gb176, 1, none⟩ = some (.int .i64 0) := (blk_cell BK176.1 1).trans rfl; have hcz20_2 : w19.cell? ⟨gb176, 2, none⟩ = some (.int .i64 0) := (blk_cell BK176.1 2).trans rfl; have hfz20_0 := ze BK176.1 0; have hfz20_1 := ze BK176.1 1; have hfz20_2 := ze BK176.1 2) | ((with_reducible refine zo (f := 68) rfl ?_); refine zJ (some 48) rfl rfl Try.func68 (qR8) rfl #[.string ((rdOf ByteArray.empty t163 x6_1).extract (x7_2 : Int).toNat ((wrap64 (x7_2 + 1)) : Int).toNat)] rfl (qR4) ?_; (with_reducible refine (spec_l13Letter.calls ((rdOf ByteArray.empty t163 x6_1).extract (x7_2 : Int).toNat ((wrap64 (x7_2 + 1)) : Int).toNat) true _ A17.1).mono ?_); rintro e w' ⟨rfl, ⟨nd, rfl⟩⟩; refine ⟨_, rfl, ?_⟩))
              go_loopg [9] k2 (fun kq v9 w' => ∃ (x9_3 : Int), v9 = .int .i64 x9_3 ∧ Aside0 (spec_ReadPlan.l2 kq a0 x4_2 t163 x6_1 x7_2 x9_3 ((rdOf ByteArray.empty t163 x6_1).extract (x7_2 : Int).toNat ((wrap64 (x7_2 + 1)) : Int).toNat) x7_2 (wrap64 (-x6_1)) = some (r1, r2)) ∧ Aside0 (kq ≤ k2) ∧ Aside0 (Kd.R k44 44 w' w.heap.size (fun k_ => k_ ≠ gb176) u4 x4_2) ∧ Aside0 (Kd.R Kd.string 9 w' w.heap.size (fun _ => True) (.slice (some ad174) t163.length co10) t163) ∧ Aside0 (w'.heap[gb176]? = some (.cells #[.string ((rdOf ByteArray.empty t163 x6_1).extract (x7_2 : Int).toNat ((wrap64 (x7_2 + 1)) : Int).toNat), .int .i64 x7_2, .int .i64 (wrap64 (-x6_1))] 44 (0, 0))) ∧ Aside0 (Below w.heap.size w w'))
              case atStart => exact ⟨(0), (qR10), H', ⟨zn _⟩, ⟨(by (with_reducible repeat (first | apply Kd.R_alloc | apply Kd.R_drewN | apply zD)); exact zA (zB (p := ⟨gb176, 2, none⟩) (zB (p := ⟨gb176, 1, none⟩) (zB (p := ⟨gb176, 0, none⟩) (zA HO_4.1 (fun k_ hk => (⟨hk, hk.2⟩ : _ ∧ k_ ≠ gb176))) (fun _ hk => hk.2) (.string ((rdOf ByteArray.empty t163 x6_1).extract (x7_2 : Int).toNat ((wrap64 (x7_2 + 1)) : Int).toNat))) (fun _ hk => hk.2) (.int .i64 x7_2)) (fun _ hk => hk.2) (.int .i64 (wrap64 (-x6_1)))) (fun _ hk => hk.1.2))⟩, ⟨(qR34)⟩, ⟨(by (with_reducible repeat (first | refine zg ?_ _ | refine zh ?_ | refine zf ?_ _)); refine zi (cs := #[.string ((rdOf ByteArray.empty t163 x6_1).extract (x7_2 : Int).toNat ((wrap64 (x7_2 + 1)) : Int).toNat), .int .i64 x7_2, .int .i64 0]) ?_ 2 _ rfl; (with_reducible repeat (first | refine zg ?_ _ | refine zh ?_ | refine zf ?_ _)); refine zi (cs := #[.string ((rdOf ByteArray.empty t163 x6_1).extract (x7_2 : Int).toNat ((wrap64 (x7_2 + 1)) : Int).toNat), .int .i64 0, .int .i64 0]) ?_ 1 _ rfl; (with_reducible repeat (first | refine zg ?_ _ | refine zh ?_ | refine zf ?_ _)); refine zi (cs := #[.string (⟨#[]⟩ : ByteArray), .int .i64 0, .int .i64 0]) ?_ 0 _ rfl; (with_reducible repeat (first | refine zg ?_ _ | refine zh ?_ | refine zf ?_ _)); exact BK176.1)⟩, ⟨(qR2 GE176.1)⟩⟩
              case round =>
               clear H'; (try clear c11b0); (try clear c12b0); (try clear c13b0); (try clear c14b0); (try clear c14b1); (try clear c15); (try clear c15b0); (try clear c15b1); (try clear c16); (try clear c16b0); (try clear c16b1); (try clear c18); (try clear hcz20_0); (try clear hcz20_1); (try clear hcz20_2); (try clear hfz20_0); (try clear hfz20_1); (try clear hfz20_2); (try clear hx174_0); (try clear hx175_0); (try clear p174); (try clear p175); (try clear q174); (try clear q175); obtain ⟨x9_3, rfl, HA, HK3, HO_4, HO_5, BK176, HB⟩ := hrel
               cases gk with
               | zero => exact zF HA.1 (by simp [spec_ReadPlan.l2])
               | succ k3 =>
                have H := HA.1; clear HA; simp only [spec_ReadPlan.l2] at H
                by_cases c21 : x9_3 < (x4_2.length : Int)
                ·rw [zP c21] at H; have c21b0 : decide (x9_3 < (x4_2.length : Int)) = true := zc c21; clear c21
                 by_cases c22 : 0 ≤ x9_3
                 ·rw [zP c22] at H; have c22b0 : decide (0 ≤ x9_3) = true := zc c22; clear c22
                  by_cases c23 : (Op.bytesLess (((rd_T44 x4_2 x9_3).f0).toList) ((rdOf ByteArray.empty t163 x6_1).extract (x7_2 : Int).toNat ((wrap64 (x7_2 + 1)) : Int).toNat).toList) = true
                  ·rw [zP c23] at H; have c23b0 : (Op.bytesLess (((rd_T44 x4_2 x9_3).f0).toList) ((rdOf ByteArray.empty t163 x6_1).extract (x7_2 : Int).toNat ((wrap64 (x7_2 + 1)) : Int).toNat).toList) = true := c23; clear c23; have H' := za H; clear H
                   try go_wp2
                   replace HO_4 := za (zD HO_4.1); replace HO_5 := za (zD HO_5.1); replace BK176 := za (zh BK176.1); replace HB := za (below_drew1 HB.1); obtain ⟨Ao25, co25, eo25⟩ := zz HO_4.1
                   (first | subst eo25 | (injection eo25 with f1_ f2_ f3_; have f4_ := f1_.symm; have f5_ := f3_.symm; clear f1_ f2_ f3_; subst f4_; subst f5_))
                   have p178 : 0 ≤ (x9_3 : Int) := zb (qR6); have q178 : x9_3 < (x4_2.length : Int) := zb (qR6); obtain ⟨ad178, e178, hx178_0, hx178_1, hx178_2⟩ := at_T44 (Kd.R_reads' HO_4.1).2.2 x9_3 p178 q178; cases e178; replace p178 := zt p178; replace q178 := zt q178
                   refine start_ (n := 14) (S := fun w' => w'.cell? ⟨gb176, 0, none⟩ = some (.string ((rdOf ByteArray.empty t163 x6_1).extract (x7_2 : Int).toNat ((wrap64 (x7_2 + 1)) : Int).toNat)) ∧ w'.cell? ⟨gb176, 1, none⟩ = some (.int .i64 x7_2) ∧ w'.cell? ⟨gb176, 2, none⟩ = some (.int .i64 (wrap64 (-x6_1))) ∧ w'.cell? (ad178.add ((x9_3).toNat * 3)) = some (.string ((rd_T44 x4_2 x9_3).f0)) ∧ w'.cell? ⟨(ad178.add ((x9_3).toNat * 3)).block, (ad178.add ((x9_3).toNat * 3)).off + 1, none⟩ = some (.int .i64 ((rd_T44 x4_2 x9_3).f1)) ∧ w'.cell? ⟨(ad178.add ((x9_3).toNat * 3)).block, (ad178.add ((x9_3).toNat * 3)).off + 2, none⟩ = some (.int .i64 ((rd_T44 x4_2 x9_3).f2))) (ds := []) qRb44 (qR8) rfl rfl ⟨(blk_cell BK176.1 0).trans rfl, (blk_cell BK176.1 1).trans rfl, (blk_cell BK176.1 2).trans rfl, hx178_0, hx178_1, hx178_2⟩ (fun hHeld => ?_); refine with_tabW spec_ReadPlan.tab14 spec_ReadPlan.bits14 (fun HT_ HW_ => ?_)
                   generalize wr.drew = w24 at HO_4 HO_5 BK176 HB hx178_0 hx178_1 hx178_2 hHeld ⊢
                   refine pure_ (i := 0) (N := some 50) (v := ?_) (a' := ?_) qRb45 rfl rfl (qR3) (fun _ _ _ h => h) (zM ⟨by rfl, ?_⟩) ?_ ?_
                   rotate_left; exact qR4_c1; rotate_left; exact qR4_c0
                   refine pure_ (i := 1) (N := some 51) (v := ?_) (a' := ?_) qRb46 rfl rfl (qR3) (fun _ _ _ h => h) (zM ⟨by rfl, ?_⟩) ?_ ?_
                   rotate_left; exact qR4_c1; rotate_left; exact qR4_c0
                   refine pure_ (i := 2) (N := some 52) (v := ?_) (a' := ?_) qRb47 rfl rfl (qR3) (fun _ _ _ h => h) (zM ⟨by rfl, ?_⟩) ?_ ?_
                   rotate_left; exact qR4_c1; rotate_left; exact qR4_c0
                   refine pure_ (i := 3) (N := some 53) (v := ?_) (a' := ?_) qRb48 rfl rfl (qR3) (fun _ _ _ h => h) (zM ⟨by rfl, ?_⟩) ?_ ?_
                   rotate_left; exact qR4_c1; rotate_left; exact qR4_c0
                   refine pure_ (i := 4) (N := some 54) (v := ?_) (a' := ?_) qRb49 rfl rfl (qR3) (fun _ _ _ h => h) (zM ⟨by rfl, ?_⟩) ?_ ?_
                   rotate_left; exact qR4_c1; rotate_left; exact qR4_c0
                   refine pure_ (i := 5) (N := some 55) (v := ?_) (a' := ?_) qRb50 rfl rfl (qR3) (fun _ _ _ h => h) (zM ⟨by rfl, ?_⟩) ?_ ?_
                   rotate_left; exact qR4_c1; rotate_left; exact qR4_c0
                   refine pure_ (i := 6) (N := some 56) (v := ?_) (a' := ?_) qRb51 rfl rfl (qR3) (fun _ _ _ h => h) (zM ⟨by rfl, ?_⟩) ?_ ?_
                   rotate_left; exact qR4_c1; rotate_left; exact qR4_c0
                   refine pure_ (i := 7) (N := some 57) (v := ?_) (a' := ?_) qRb52 rfl rfl (qR3) (fun _ _ _ h => h) (zM ⟨by rfl, ?_⟩) ?_ ?_
                   rotate_left; exact qR4_c1; rotate_left; exact qR4_c0
                   refine pure_ (i := 8) (N := some 58) (v := ?_) (a' := ?_) qRb53 rfl rfl (qR3) (fun _ _ _ h => h) (zM ⟨by rfl, ?_⟩) ?_ ?_
                   rotate_left; exact qR4_c1; rotate_left; exact qR4_c0
                   refine pure_ (i := 10) (N := some 60) (v := ?_) (a' := ?_) qRb54 rfl rfl (qR3) (fun _ _ _ h => h) (zM ⟨by rfl, ?_⟩) ?_ ?_
                   rotate_left; exact qR4_c1; rotate_left; exact qR4_c0
                   refine take_ (i := 9) (N := some 59) (v := ?_) (a' := ?_) qRb55 rfl rfl (take_ofW HT_.1 HW_.1 (qR8)) (fun _ _ _ h => h) (zM ⟨by rfl, ?_⟩) hHeld ?_ ?_
                   rotate_left
                   ·rintro w' ⟨s0, s1, s2, s3, s4, s5⟩
                    go_simp
                    with_reducible rfl
                   rotate_left
                   ·exact qR4_c0
                   refine take_ (i := 11) (N := some 61) (v := ?_) (a' := ?_) qRb56 rfl rfl (take_ofW HT_.1 HW_.1 (qR8)) (fun _ _ _ h => h) (zM ⟨by rfl, ?_⟩) hHeld ?_ ?_
                   rotate_left
                   ·rintro w' ⟨s0, s1, s2, s3, s4, s5⟩
                    go_simp
                    with_reducible rfl
                   rotate_left
                   ·exact qR4_c0
                   refine pure_ (i := 12) (N := some 62) (v := ?_) (a' := ?_) qRb57 rfl rfl (qR3) (fun _ _ _ h => h) (zM ⟨by rfl, ?_⟩) ?_ ?_
                   rotate_left; exact qR4_c1; rotate_left; exact qR4_c0
                   refine pure_ (i := 13) (N := some 63) (v := ?_) (a' := ?_) qRb58 rfl rfl (qR3) (fun _ _ _ h => h) (zM ⟨by rfl, ?_⟩) ?_ ?_
                   rotate_left; exact qR4_c1; rotate_left; exact qR4_c0
                   refine done_ (qR68) ?_
                   try go_wp2
                   go_roundg k3
                   case measure => have := HK1.1; have := HK2.1; have := HK3.1; omega
                   case rel => exact ⟨(wrap64 (x9_3 + 1)), (qR10), H', ⟨by have := HK1.1; have := HK2.1; have := HK3.1; omega⟩, ⟨(qR1 HO_4.1)⟩, ⟨(qR1 HO_5.1)⟩, ⟨(qR29)⟩, ⟨(qR2 GE176.1)⟩⟩
                  ·rw [zQ c23] at H
                   have c23b0 : (Op.bytesLess (((rd_T44 x4_2 x9_3).f0).toList) ((rdOf ByteArray.empty t163 x6_1).extract (x7_2 : Int).toNat ((wrap64 (x7_2 + 1)) : Int).toNat).toList) = false := by simpa using c23
                   clear c23; obtain ⟨y179, hy179⟩ : ∃ y_ : List (S44), y_ = (([] : List (S44))) := ⟨_, rfl⟩; replace H : (if x9_3 ≤ (x4_2.length : Int) then ((some (x4_2.take (x9_3 : Int).toNat : List (S44))).bind fun y182 => (if y179.length + y182.length < 4398046511104 then ((some (y179 ++ y182 : List (S44))).bind fun y186 => ((some (([(⟨((rdOf ByteArray.empty t163 x6_1).extract (x7_2 : Int).toNat ((wrap64 (x7_2 + 1)) : Int).toNat), x7_2, (wrap64 (-x6_1))⟩ : S44)] : List (S44)) : List (S44))).bind fun y189 => (if y186.length + y189.length < 4398046511104 then ((some (y186 ++ y189 : List (S44))).bind fun y192 => ((some (x4_2.drop (x9_3 : Int).toNat : List (S44))).bind fun y195 => (if y192.length + y195.length < 4398046511104 then (spec_ReadPlan.l1 k3 a0 (y192 ++ y195) t163 x6_1 (wrap64 (x7_2 + 1))) else (none)))) else (none)))) else (none))) else (none)) = some (r1, r2) := (qR5 hy179); have Ny179 := za hy179; clear hy179; have c26b0 := zt (zb (qR6) : 0 ≤ x9_3)
                   by_cases c27 : x9_3 ≤ (x4_2.length : Int)
                   ·rw [zP c27] at H; have c27b0 := zt c27; have c27b1 : decide (x9_3 ≤ (x4_2.length : Int)) = true := zc c27; clear c27; obtain ⟨y182, hy182⟩ : ∃ y_ : List (S44), y_ = (x4_2.take (x9_3 : Int).toNat) := ⟨_, rfl⟩; replace H : (if y179.length + y182.length < 4398046511104 then ((some (y179 ++ y182 : List (S44))).bind fun y186 => ((some (([(⟨((rdOf ByteArray.empty t163 x6_1).extract (x7_2 : Int).toNat ((wrap64 (x7_2 + 1)) : Int).toNat), x7_2, (wrap64 (-x6_1))⟩ : S44)] : List (S44)) : List (S44))).bind fun y189 => (if y186.length + y189.length < 4398046511104 then ((some (y186 ++ y189 : List (S44))).bind fun y192 => ((some (x4_2.drop (x9_3 : Int).toNat : List (S44))).bind fun y195 => (if y192.length + y195.length < 4398046511104 then (spec_ReadPlan.l1 k3 a0 (y192 ++ y195) t163 x6_1 (wrap64 (x7_2 + 1))) else (none)))) else (none)))) else (none)) = some (r1, r2) := (qR5 hy182); have Ny182 := za hy182; clear hy182
                    by_cases c28 : y179.length + y182.length < 4398046511104
                    ·rw [zP c28] at H; have LMc28 := za c28; clear c28; obtain ⟨y186, hy186⟩ : ∃ y_ : List (S44), y_ = (y179 ++ y182) := ⟨_, rfl⟩; replace H : ((some (([(⟨((rdOf ByteArray.empty t163 x6_1).extract (x7_2 : Int).toNat ((wrap64 (x7_2 + 1)) : Int).toNat), x7_2, (wrap64 (-x6_1))⟩ : S44)] : List (S44)) : List (S44))).bind fun y189 => (if y186.length + y189.length < 4398046511104 then ((some (y186 ++ y189 : List (S44))).bind fun y192 => ((some (x4_2.drop (x9_3 : Int).toNat : List (S44))).bind fun y195 => (if y192.length + y195.length < 4398046511104 then (spec_ReadPlan.l1 k3 a0 (y192 ++ y195) t163 x6_1 (wrap64 (x7_2 + 1))) else (none)))) else (none))) = some (r1, r2) := (qR5 hy186); have Ny186 := za hy186; clear hy186; obtain ⟨y189, hy189⟩ : ∃ y_ : List (S44), y_ = (([(⟨((rdOf ByteArray.empty t163 x6_1).extract (x7_2 : Int).toNat ((wrap64 (x7_2 + 1)) : Int).toNat), x7_2, (wrap64 (-x6_1))⟩ : S44)] : List (S44))) := ⟨_, rfl⟩; replace H : (if y186.length + y189.length < 4398046511104 then ((some (y186 ++ y189 : List (S44))).bind fun y192 => ((some (x4_2.drop (x9_3 : Int).toNat : List (S44))).bind fun y195 => (if y192.length + y195.length < 4398046511104 then (spec_ReadPlan.l1 k3 a0 (y192 ++ y195) t163 x6_1 (wrap64 (x7_2 + 1))) else (none)))) else (none)) = some (r1, r2) := (qR5 hy189); have Ny189 := za hy189; clear hy189
                     by_cases c29 : y186.length + y189.length < 4398046511104
                     ·rw [zP c29] at H; have LMc29 := za c29; clear c29; obtain ⟨y192, hy192⟩ : ∃ y_ : List (S44), y_ = (y186 ++ y189) := ⟨_, rfl⟩; replace H : ((some (x4_2.drop (x9_3 : Int).toNat : List (S44))).bind fun y195 => (if y192.length + y195.length < 4398046511104 then (spec_ReadPlan.l1 k3 a0 (y192 ++ y195) t163 x6_1 (wrap64 (x7_2 + 1))) else (none))) = some (r1, r2) := (qR5 hy192); have Ny192 := za hy192; clear hy192; have c30b0 := zt (zb (qR6) : 0 ≤ x9_3); have c31b0 := zt (zb (qR6) : x9_3 ≤ (x4_2.length : Int)); obtain ⟨y195, hy195⟩ : ∃ y_ : List (S44), y_ = (x4_2.drop (x9_3 : Int).toNat) := ⟨_, rfl⟩; replace H : (if y192.length + y195.length < 4398046511104 then (spec_ReadPlan.l1 k3 a0 (y192 ++ y195) t163 x6_1 (wrap64 (x7_2 + 1))) else (none)) = some (r1, r2) := (qR5 hy195); have Ny195 := za hy195; clear hy195
                      by_cases c32 : y192.length + y195.length < 4398046511104
                      ·rw [zP c32] at H; have LMc32 := za c32; clear c32; obtain ⟨y199, hy199⟩ : ∃ y_ : List (S44), y_ = (y192 ++ y195) := ⟨_, rfl⟩; replace H : (spec_ReadPlan.l1 k3 a0 y199 t163 x6_1 (wrap64 (x7_2 + 1))) = some (r1, r2) := (qR5 hy199); have Ny199 := za hy199; clear hy199; have H' := za H; clear H
                       try go_wp2
                       replace HO_4 := za (zD HO_4.1); replace HO_5 := za (zD HO_5.1); replace BK176 := za (zh BK176.1); replace HB := za (below_drew1 HB.1); obtain ⟨Ao34, co34, eo34⟩ := zz HO_4.1
                       (first | subst eo34 | (injection eo34 with f1_ f2_ f3_; have f4_ := f1_.symm; have f5_ := f3_.symm; clear f1_ f2_ f3_; subst f4_; subst f5_))
                       have p178 : 0 ≤ (x9_3 : Int) := zb (qR6); have q178 : x9_3 < (x4_2.length : Int) := zb (qR6); obtain ⟨ad178, e178, hx178_0, hx178_1, hx178_2⟩ := at_T44 (Kd.R_reads' HO_4.1).2.2 x9_3 p178 q178; cases e178; replace p178 := zt p178; replace q178 := zt q178
                       refine start_ (n := 14) (S := fun w' => w'.cell? ⟨gb176, 0, none⟩ = some (.string ((rdOf ByteArray.empty t163 x6_1).extract (x7_2 : Int).toNat ((wrap64 (x7_2 + 1)) : Int).toNat)) ∧ w'.cell? ⟨gb176, 1, none⟩ = some (.int .i64 x7_2) ∧ w'.cell? ⟨gb176, 2, none⟩ = some (.int .i64 (wrap64 (-x6_1))) ∧ w'.cell? (ad178.add ((x9_3).toNat * 3)) = some (.string ((rd_T44 x4_2 x9_3).f0)) ∧ w'.cell? ⟨(ad178.add ((x9_3).toNat * 3)).block, (ad178.add ((x9_3).toNat * 3)).off + 1, none⟩ = some (.int .i64 ((rd_T44 x4_2 x9_3).f1)) ∧ w'.cell? ⟨(ad178.add ((x9_3).toNat * 3)).block, (ad178.add ((x9_3).toNat * 3)).off + 2, none⟩ = some (.int .i64 ((rd_T44 x4_2 x9_3).f2))) (ds := []) qRb44 (qR8) rfl rfl ⟨(blk_cell BK176.1 0).trans rfl, (blk_cell BK176.1 1).trans rfl, (blk_cell BK176.1 2).trans rfl, hx178_0, hx178_1, hx178_2⟩ (fun hHeld => ?_); refine with_tabW spec_ReadPlan.tab14 spec_ReadPlan.bits14 (fun HT_ HW_ => ?_)
                       generalize wr.drew = w33 at HO_4 HO_5 BK176 HB hx178_0 hx178_1 hx178_2 hHeld ⊢
                       refine pure_ (i := 0) (N := some 50) (v := ?_) (a' := ?_) qRb45 rfl rfl (qR3) (fun _ _ _ h => h) (zM ⟨by rfl, ?_⟩) ?_ ?_
                       rotate_left; exact qR4_c1; rotate_left; exact qR4_c0
                       refine pure_ (i := 1) (N := some 51) (v := ?_) (a' := ?_) qRb46 rfl rfl (qR3) (fun _ _ _ h => h) (zM ⟨by rfl, ?_⟩) ?_ ?_
                       rotate_left; exact qR4_c1; rotate_left; exact qR4_c0
                       refine pure_ (i := 2) (N := some 52) (v := ?_) (a' := ?_) qRb47 rfl rfl (qR3) (fun _ _ _ h => h) (zM ⟨by rfl, ?_⟩) ?_ ?_
                       rotate_left; exact qR4_c1; rotate_left; exact qR4_c0
                       refine pure_ (i := 3) (N := some 53) (v := ?_) (a' := ?_) qRb48 rfl rfl (qR3) (fun _ _ _ h => h) (zM ⟨by rfl, ?_⟩) ?_ ?_
                       rotate_left; exact qR4_c1; rotate_left; exact qR4_c0
                       refine pure_ (i := 4) (N := some 54) (v := ?_) (a' := ?_) qRb49 rfl rfl (qR3) (fun _ _ _ h => h) (zM ⟨by rfl, ?_⟩) ?_ ?_
                       rotate_left; exact qR4_c1; rotate_left; exact qR4_c0
                       refine pure_ (i := 5) (N := some 55) (v := ?_) (a' := ?_) qRb50 rfl rfl (qR3) (fun _ _ _ h => h) (zM ⟨by rfl, ?_⟩) ?_ ?_
                       rotate_left; exact qR4_c1; rotate_left; exact qR4_c0
                       refine pure_ (i := 6) (N := some 56) (v := ?_) (a' := ?_) qRb51 rfl rfl (qR3) (fun _ _ _ h => h) (zM ⟨by rfl, ?_⟩) ?_ ?_
                       rotate_left; exact qR4_c1; rotate_left; exact qR4_c0
                       refine pure_ (i := 7) (N := some 57) (v := ?_) (a' := ?_) qRb52 rfl rfl (qR3) (fun _ _ _ h => h) (zM ⟨by rfl, ?_⟩) ?_ ?_
                       rotate_left; exact qR4_c1; rotate_left; exact qR4_c0
                       refine pure_ (i := 8) (N := some 58) (v := ?_) (a' := ?_) qRb53 rfl rfl (qR3) (fun _ _ _ h => h) (zM ⟨by rfl, ?_⟩) ?_ ?_
                       rotate_left; exact qR4_c1; rotate_left; exact qR4_c0
                       refine pure_ (i := 10) (N := some 60) (v := ?_) (a' := ?_) qRb54 rfl rfl (qR3) (fun _ _ _ h => h) (zM ⟨by rfl, ?_⟩) ?_ ?_
                       rotate_left; exact qR4_c1; rotate_left; exact qR4_c0
                       refine take_ (i := 9) (N := some 59) (v := ?_) (a' := ?_) qRb55 rfl rfl (take_ofW HT_.1 HW_.1 (qR8)) (fun _ _ _ h => h) (zM ⟨by rfl, ?_⟩) hHeld ?_ ?_
                       rotate_left
                       ·rintro w' ⟨s0, s1, s2, s3, s4, s5⟩
                        go_simp
                        with_reducible rfl
                       rotate_left
                       ·exact qR4_c0
                       refine take_ (i := 11) (N := some 61) (v := ?_) (a' := ?_) qRb56 rfl rfl (take_ofW HT_.1 HW_.1 (qR8)) (fun _ _ _ h => h) (zM ⟨by rfl, ?_⟩) hHeld ?_ ?_
                       rotate_left
                       ·rintro w' ⟨s0, s1, s2, s3, s4, s5⟩
                        go_simp
                        with_reducible rfl
                       rotate_left
                       ·exact qR4_c0
                       refine pure_ (i := 12) (N := some 62) (v := ?_) (a' := ?_) qRb57 rfl rfl (qR3) (fun _ _ _ h => h) (zM ⟨by rfl, ?_⟩) ?_ ?_
                       rotate_left; exact qR4_c1; rotate_left; exact qR4_c0
                       refine pure_ (i := 13) (N := some 63) (v := ?_) (a' := ?_) qRb58 rfl rfl (qR3) (fun _ _ _ h => h) (zM ⟨by rfl, ?_⟩) ?_ ?_
                       rotate_left; exact qR4_c1; rotate_left; exact qR4_c0
                       refine done_ (qR68) ?_
                       try go_wp2
                       replace HO_4 := za (zD HO_4.1); replace HO_5 := za (zD HO_5.1); replace BK176 := za (zh BK176.1); replace HB := za (below_drew1 HB.1); have q36 : (x9_3 : Int) ≤ ((x4_2.length : Int) : Int) := zb (qR6); obtain ⟨i036, hi036, _, hsz36, _⟩ := info_parts info44; have hroom36 : x4_2.length ≤ co34 := (Kd.R_reads' HO_4.1).2.1; have hC36 : Kd.C k44 _ (some ad178) x4_2.length x4_2 := (Kd.R_reads' HO_4.1).2.2; have hcut36 := cut_to (P := Try.prog) 26 44 .i64 Try.underlying26 hi036 (some ad178) x4_2.length co34 x9_3 (zb (qR6)) q36 hroom36; have hr36 := Kd.C_take (m := (x9_3 : Int).toNat) hC36 (by omega); have hy36 : y182.length = (x9_3 : Int).toNat := (by rw [Ny182.1, List.length_take]; omega); rw [← Ny182.1] at hr36; rw [← hy36] at hcut36; have HR185 := za hr36
                       have HC185 := za (by exact show y182.length ≤ co34 from by omega)
                       clear hr36 hC36 hroom36 hi036 hsz36; have KY36 := za hy36; clear hy36; have KL36 := za qR43; replace q36 := zt q36; have q37 : (x9_3 : Int) ≤ ((x4_2.length : Int) : Int) := zb (qR6); obtain ⟨i037, hi037, _, hsz37, _⟩ := info_parts info44; have hroom37 : x4_2.length ≤ co34 := (Kd.R_reads' HO_4.1).2.1; have hC37 : Kd.C k44 _ (some ad178) x4_2.length x4_2 := (Kd.R_reads' HO_4.1).2.2; have q037 : (0 : Int) ≤ (x9_3 : Int) := zb (qR6); have hcut37 := cut_from (P := Try.prog) 26 44 .i64 Try.underlying26 hi037 3 hsz37 (some ad178) x4_2.length co34 x9_3 q037 q37; have hr37 := Kd.C_drop (m := (x9_3 : Int).toNat) (c := co34) hC37 (by omega) hroom37; obtain ⟨A37, hA37⟩ : ∃ A1, A1 = (if co34 = (x9_3 : Int).toNat then (some ad178) else ((some ad178) : Option Addr).map (·.add ((x9_3 : Int).toNat * 3))) := ⟨_, rfl⟩; obtain ⟨c37, hc37⟩ : ∃ c1, c1 = co34 - (x9_3 : Int).toNat := ⟨_, rfl⟩; have hy37 : y195.length = x4_2.length - (x9_3 : Int).toNat := (by rw [Ny195.1, List.length_drop] <;> omega); rw [show (x4_2).drop (x9_3 : Int).toNat = y195 from Ny195.1.symm] at hr37; replace hr37 : Kd.C k44 _ A37 y195.length y195 := (by rw [hA37]; exact hr37); rw [← hy37, ← hA37, ← hc37] at hcut37; have HR198 := za hr37
                       have HC198 := za (by exact show y195.length ≤ c37 from by rw [hy37, hc37]; exact Nat.sub_le_sub_right hroom37 _)
                       clear hr37 hC37 hroom37 hi037 hsz37 hc37; have KY37 := za hy37; have KA37 := za hA37; clear hy37 hA37; have KL37 := za qR43; replace q37 := zt q37
                       refine start_ (n := 13) (S := fun w' => w'.cell? ⟨gb176, 0, none⟩ = some (.string ((rdOf ByteArray.empty t163 x6_1).extract (x7_2 : Int).toNat ((wrap64 (x7_2 + 1)) : Int).toNat)) ∧ w'.cell? ⟨gb176, 1, none⟩ = some (.int .i64 x7_2) ∧ w'.cell? ⟨gb176, 2, none⟩ = some (.int .i64 (wrap64 (-x6_1)))) (ds := []) qRb59 (qR8) rfl rfl ⟨(blk_cell BK176.1 0).trans rfl, (blk_cell BK176.1 1).trans rfl, (blk_cell BK176.1 2).trans rfl⟩ (fun hHeld => ?_); refine with_tabW spec_ReadPlan.tab16 spec_ReadPlan.bits16 (fun HT_ HW_ => ?_)
                       generalize w33.drew = w35 at HO_4 HO_5 BK176 HB HR185 HR198 hHeld ⊢
                       refine pure_ (i := 1) (N := some 67) (v := ?_) (a' := ?_) qRb60 rfl rfl (qR3) (fun _ _ _ h => h) (zM ⟨by rfl, ?_⟩) ?_ ?_
                       rotate_left; exact qR4_c1; rotate_left; exact qR4_c0
                       refine pure_ (i := 2) (N := some 68) (v := ?_) (a' := ?_) qRb61 rfl rfl (qR3) (fun _ _ _ h => h) (zM ⟨by rfl, ?_⟩) ?_ ?_
                       rotate_left; exact qR4_c1; rotate_left; exact qR4_c0
                       refine pure_ (i := 3) (N := some 69) (v := ?_) (a' := ?_) qRb62 rfl rfl (qR3) (fun _ _ _ h => h) (zM ⟨by rfl, ?_⟩) ?_ ?_
                       rotate_left; exact qR4_c1; rotate_left; exact qR4_c0
                       refine pure_ (i := 8) (N := some 74) (v := ?_) (a' := ?_) qRb63 rfl rfl (qR3) (fun _ _ _ h => h) (zM ⟨by rfl, ?_⟩) ?_ ?_
                       rotate_left; exact qR4_c1; rotate_left; exact qR4_c0
                       refine pure_ (i := 9) (N := some 75) (v := ?_) (a' := ?_) qRb64 rfl rfl (qR3) (fun _ _ _ h => h) (zM ⟨by rfl, ?_⟩) ?_ ?_
                       rotate_left; exact qR4_c1; rotate_left; exact qR4_c0
                       refine pure_ (i := 10) (N := some 76) (v := ?_) (a' := ?_) qRb65 rfl rfl (qR3) (fun _ _ _ h => h) (zM ⟨by rfl, ?_⟩) ?_ ?_
                       rotate_left; exact qR4_c1; rotate_left; exact qR4_c0
                       refine take_ (i := 5) (N := some 71) (v := ?_) (a' := ?_) qRb66 rfl rfl (take_ofW HT_.1 HW_.1 (qR8)) (fun _ _ _ h => h) (zM ⟨by rfl, ?_⟩) hHeld ?_ ?_
                       rotate_left
                       ·rintro w' ⟨s0, s1, s2⟩
                        go_simp
                        with_reducible rfl
                       rotate_left
                       ·exact qR4_c0
                       refine join_ (σ := Value × Value × Value) 3 qRb67 (fun s_ => [(66, s_.1), (70, s_.2.1), (72, s_.2.2)]) (fun s_ w' => (w'.cell? ⟨gb176, 0, none⟩ = some (.string ((rdOf ByteArray.empty t163 x6_1).extract (x7_2 : Int).toNat ((wrap64 (x7_2 + 1)) : Int).toNat)) ∧ w'.cell? ⟨gb176, 1, none⟩ = some (.int .i64 x7_2) ∧ w'.cell? ⟨gb176, 2, none⟩ = some (.int .i64 (wrap64 (-x6_1)))) ∧ (Kd.R k44 44 w' w.heap.size (fun k_ => some k_ ≠ (s_.2.2 : Value).ownBlock ∧ some k_ ≠ (.slice (some ad178) x4_2.length co34 : Value).ownBlock ∧ k_ ≠ gb176) s_.2.1 y186) ∧ (Kd.R k44 44 w' w.heap.size (fun k_ => some k_ ≠ (s_.2.1 : Value).ownBlock ∧ some k_ ≠ (.slice (some ad178) x4_2.length co34 : Value).ownBlock ∧ k_ ≠ gb176) s_.2.2 y189) ∧ (Kd.R k44 44 w' w.heap.size (fun k_ => some k_ ≠ (s_.2.1 : Value).ownBlock ∧ some k_ ≠ (s_.2.2 : Value).ownBlock ∧ k_ ≠ gb176) (.slice (some ad178) x4_2.length co34) x4_2) ∧ (Kd.R Kd.string 9 w' w.heap.size (fun _ => True) (.slice (some ad174) t163.length co10) t163) ∧ (w'.heap[gb176]? = some (.cells #[.string ((rdOf ByteArray.empty t163 x6_1).extract (x7_2 : Int).toNat ((wrap64 (x7_2 + 1)) : Int).toNat), .int .i64 x7_2, .int .i64 (wrap64 (-x6_1))] 44 (0, 0))) ∧ (Below w.heap.size w w')) ?_ ?_
                       rotate_left
                       ·intro hCont
                        refine two_ (i := 0) (j := 6) (Ni := some 66) (Nj := some 72) qRb68 qRb69 rfl rfl rfl rfl (two_of HT_.1 (qR8)) (by decide) (by decide) (fun K hK => ?_) (fun K hK => ?_)
                        ·skip
                         refine Kd.R_lit_step k44 _ 44 ?hg (N := 66) ?hd (xs := ([] : List (S44))) (inner := []) (ok := fun _ => True) (okp := fun _ => True) ?hr ?hp (fun _ hk => hk) trivial (zq _ _) (zn _) (by simp) ?_; (case hd | hg => rfl); (case hr => exact (qR16)); (case hp => exact (zr _ _))
                         intro v180 w38 ho39 hb hg_ hnew_; clear hg_ hnew_
                         (first | rw [← Ny179.1] at ho39 | (simp only [Int.reduceToNat] at ho39; rw [← Ny179.1] at ho39))
                         replace HO_5 := za (qR64 HO_5.1); have HO181 := za (zE (Kd.R_newB (Kd.R_new' ho39 (Kd.R_lt (qR1 HO_4.1))) (qB BK176.1)) (zL (qR2 GE176.1))); replace HO_4 := za (qR67 HO_4.1 ho39); replace BK176 := za (zk (qB BK176.1) hb); replace HR185 := za (zy (qR7 HR185.1) hb); replace HR198 := za (zy (qR7 HR198.1) hb); replace HB := za (zK (qR2 GE176.1) hb); clear hb ho39
                         refine hK.out _ _ ⟨(blk_cell BK176.1 0).trans rfl, (blk_cell BK176.1 1).trans rfl, (blk_cell BK176.1 2).trans rfl⟩ (fun hHeld => ?_)
                         clear hK K
                         refine norm_ (a' := ?_) ?_ ?_
                         rotate_left
                         ·exact qR4_c4
                         refine two_ (i := 4) (j := 6) (Ni := some 70) (Nj := some 72) qRb70 qRb71 rfl rfl rfl rfl (two_of HT_.1 (qR8)) (by decide) (by decide) (fun K hK => ?_) (fun K hK => ?_)
                         ·skip
                          refine zC k44 (w0 := w) w.heap.size (by rfl) (.tmp 66) (.tmp 69) 26 44 (.agg #[(.string ⟨#[]⟩), (.int .i64 0), (.int .i64 0)]) 32 rfl Try.underlying26 info44 rfl (by decide) (by omega) v180 y179 y182 _ _ _ (fun k_ => some k_ ≠ (.slice (some ad178) x4_2.length co34 : Value).ownBlock ∧ k_ ≠ gb176) (fun _ => False) rfl rfl ?aO ?aR (fun _ _ h => h) (fun _ h => h.elim) ?aF ?aB ?aS ?aL ?_
                          (case aR => exact (qR62 HR185.1))
                          (case aB => exact (qR2 GE176.1))
                          (case aF => exact (qR82))
                          (case aO => exact (qR58 HO181.1))
                          (case aS => exact (qR72))
                          (case aL => have := LMc28.1; omega)
                          intro v187 w40 ho hb hg hat; rw [← Ny186.1] at ho; replace HO_5 := za (qR70 HO_5.1 HO181.1); replace BK176 := za (qR57 BK176.1 HO181.1); replace HB := za hb
                          replace HR185 := za (by exact (show Kd.C k44 w40 (some ad178) y182.length y182 from by rw [Ny182.1]; exact Kd.C_take (m := (x9_3 : Int).toNat) ((Kd.R_reads' (Kd.R_after (ok := (fun k_ => k_ ≠ gb176)) (qR1 HO_4.1) hg hat)).2.2) KL36.1))
                          replace HR198 := za (by exact (show Kd.C k44 w40 A37 y195.length y195 from by rw [Ny195.1, KA37.1]; exact Kd.C_drop (m := (x9_3 : Int).toNat) (c := co34) ((Kd.R_reads' (Kd.R_after (ok := (fun k_ => k_ ≠ gb176)) (qR1 HO_4.1) hg hat)).2.2) KL37.1 ((Kd.R_reads' (Kd.R_after (ok := (fun k_ => k_ ≠ gb176)) (qR1 HO_4.1) hg hat)).2.1)))
                          replace HO_4 := za (by exact Kd.R_after (ok := (fun k_ => k_ ≠ gb176)) (qR1 HO_4.1) hg hat); have HO188 := za ho; clear HO181; clear ho hb hg hat
                          refine hK.out _ _ ⟨(blk_cell BK176.1 0).trans rfl, (blk_cell BK176.1 1).trans rfl, (blk_cell BK176.1 2).trans rfl⟩ (fun hHeld => ?_)
                          clear hK K
                          refine norm_ (a' := ?_) ?_ ?_
                          rotate_left
                          ·exact qR4_c2
                          refine one_ (i := 6) (N := some 72) qRb67 rfl rfl (qR63) (by decide) (fun K hK => ?_)
                          refine Kd.R_lit_step k44 _ 44 ?hg (N := 72) ?hd (xs := ([(⟨((rdOf ByteArray.empty t163 x6_1).extract (x7_2 : Int).toNat ((wrap64 (x7_2 + 1)) : Int).toNat), x7_2, (wrap64 (-x6_1))⟩ : S44)] : List (S44))) (inner := [.string ((rdOf ByteArray.empty t163 x6_1).extract (x7_2 : Int).toNat ((wrap64 (x7_2 + 1)) : Int).toNat), .int .i64 x7_2, .int .i64 (wrap64 (-x6_1))]) (ok := fun _ => True) (okp := fun _ => True) ?hr ?hp (fun _ hk => hk) trivial (zq _ _) (zn _) (by simp) ?_; (case hd | hg => rfl); (case hr => exact (qR16)); (case hp => exact (qR14))
                          intro v190 w41 ho42 hb hg_ hnew_; clear hg_ hnew_
                          (first | rw [← Ny189.1] at ho42 | (simp only [Int.reduceToNat] at ho42; rw [← Ny189.1] at ho42))
                          replace HO_5 := za (qR64 HO_5.1); have HO191 := za (zE (Kd.R_newB (Kd.R_new' (Kd.R_new' ho42 (Kd.R_lt (qR1 HO_4.1))) (Kd.R_lt (qR1 HO188.1))) (qB BK176.1)) (zL (qR2 GE176.1))); replace HO_4 := za (qR67 HO_4.1 ho42); replace HO188 := za (qR67 HO188.1 ho42); replace BK176 := za (zk (qB BK176.1) hb); replace HR185 := za (zy (qR7 HR185.1) hb); replace HR198 := za (zy (qR7 HR198.1) hb); replace HB := za (zK (qR2 GE176.1) hb); clear hb ho42
                          refine hK.out _ _ ⟨(blk_cell BK176.1 0).trans rfl, (blk_cell BK176.1 1).trans rfl, (blk_cell BK176.1 2).trans rfl⟩ (fun hHeld => ?_)
                          clear hK K
                          refine norm_ (a' := ?_) ?_ ?_
                          rotate_left
                          ·exact qR4_c3
                          exact norm_ (qR35) (hCont (v180, v187, v190) _ ⟨hHeld, (qR18 HO188.1), (qR53 HO191.1), (qR44), (qR1 HO_5.1), (qR29), (qR2 GE176.1)⟩)
                         ·skip
                          refine Kd.R_lit_step k44 _ 44 ?hg (N := 72) ?hd (xs := ([(⟨((rdOf ByteArray.empty t163 x6_1).extract (x7_2 : Int).toNat ((wrap64 (x7_2 + 1)) : Int).toNat), x7_2, (wrap64 (-x6_1))⟩ : S44)] : List (S44))) (inner := [.string ((rdOf ByteArray.empty t163 x6_1).extract (x7_2 : Int).toNat ((wrap64 (x7_2 + 1)) : Int).toNat), .int .i64 x7_2, .int .i64 (wrap64 (-x6_1))]) (ok := fun _ => True) (okp := fun _ => True) ?hr ?hp (fun _ hk => hk) trivial (zq _ _) (zn _) (by simp) ?_; (case hd | hg => rfl); (case hr => exact (qR16)); (case hp => exact (qR14))
                          intro v190 w40 ho41 hb hg_ hnew_; clear hg_ hnew_
                          (first | rw [← Ny189.1] at ho41 | (simp only [Int.reduceToNat] at ho41; rw [← Ny189.1] at ho41))
                          replace HO_5 := za (qR64 HO_5.1); have HO191 := za (zE (Kd.R_newB (Kd.R_new' (Kd.R_new' ho41 (Kd.R_lt (qR1 HO_4.1))) (Kd.R_lt (qR1 HO181.1))) (qB BK176.1)) (zL (qR2 GE176.1))); replace HO_4 := za (qR67 HO_4.1 ho41); replace HO181 := za (qR67 HO181.1 ho41); replace BK176 := za (zk (qB BK176.1) hb); replace HR185 := za (zy (qR7 HR185.1) hb); replace HR198 := za (zy (qR7 HR198.1) hb); replace HB := za (zK (qR2 GE176.1) hb); clear hb ho41
                          refine hK.out _ _ ⟨(blk_cell BK176.1 0).trans rfl, (blk_cell BK176.1 1).trans rfl, (blk_cell BK176.1 2).trans rfl⟩ (fun hHeld => ?_)
                          clear hK K
                          refine norm_ (a' := ?_) ?_ ?_
                          rotate_left
                          ·exact qR4_c3
                          refine one_ (i := 4) (N := some 70) qRb67 rfl rfl (qR63) (by decide) (fun K hK => ?_)
                          refine zC k44 (w0 := w) w.heap.size (by rfl) (.tmp 66) (.tmp 69) 26 44 (.agg #[(.string ⟨#[]⟩), (.int .i64 0), (.int .i64 0)]) 32 rfl Try.underlying26 info44 rfl (by decide) (by omega) v180 y179 y182 _ _ _ (fun k_ => some k_ ≠ (.slice (some ad178) x4_2.length co34 : Value).ownBlock ∧ some k_ ≠ (v190 : Value).ownBlock ∧ k_ ≠ gb176) (fun _ => False) rfl rfl ?aO ?aR (fun _ _ h => h) (fun _ h => h.elim) ?aF ?aB ?aS ?aL ?_
                          (case aR => exact (qR62 HR185.1))
                          (case aB => exact (qR2 GE176.1))
                          (case aF => exact (qR66 HO_4.1 HO191.1 BK176.1))
                          (case aO => exact (qR54 HO181.1))
                          (case aS => exact (qR72))
                          (case aL => have := LMc28.1; omega)
                          intro v187 w42 ho hb hg hat; rw [← Ny186.1] at ho; replace HO_5 := za (qR70 HO_5.1 HO181.1); replace BK176 := za (by exact blk_grown (qB BK176.1) hg (Kd.R_away HO181.1 (fun _ hk => hk.1.2))); replace HO191 := za (by exact Kd.R_after (ok := (fun k_ => some k_ ≠ (.slice (some ad178) x4_2.length co34 : Value).ownBlock ∧ k_ ≠ gb176)) (qR51 HO191.1) hg hat); replace HB := za hb
                          replace HR185 := za (by exact (show Kd.C k44 w42 (some ad178) y182.length y182 from by rw [Ny182.1]; exact Kd.C_take (m := (x9_3 : Int).toNat) ((Kd.R_reads' (Kd.R_after (ok := (fun k_ => some k_ ≠ (v190 : Value).ownBlock ∧ k_ ≠ gb176)) (qR23) hg hat)).2.2) KL36.1))
                          replace HR198 := za (by exact (show Kd.C k44 w42 A37 y195.length y195 from by rw [Ny195.1, KA37.1]; exact Kd.C_drop (m := (x9_3 : Int).toNat) (c := co34) ((Kd.R_reads' (Kd.R_after (ok := (fun k_ => some k_ ≠ (v190 : Value).ownBlock ∧ k_ ≠ gb176)) (qR23) hg hat)).2.2) KL37.1 ((Kd.R_reads' (Kd.R_after (ok := (fun k_ => some k_ ≠ (v190 : Value).ownBlock ∧ k_ ≠ gb176)) (qR23) hg hat)).2.1)))
                          replace HO_4 := za (by exact Kd.R_after (ok := (fun k_ => some k_ ≠ (v190 : Value).ownBlock ∧ k_ ≠ gb176)) (qR23) hg hat); have HO188 := za ho; clear HO181; clear ho hb hg hat
                          refine hK.out _ _ ⟨(blk_cell BK176.1 0).trans rfl, (blk_cell BK176.1 1).trans rfl, (blk_cell BK176.1 2).trans rfl⟩ (fun hHeld => ?_)
                          clear hK K
                          refine norm_ (a' := ?_) ?_ ?_
                          rotate_left
                          ·exact qR4_c2
                          exact norm_ (qR35) (hCont (v180, v187, v190) _ ⟨hHeld, (qR30 HO188.1), (qR18 HO191.1), (qR18 HO_4.1), (qR1 HO_5.1), (qR29), (qR2 GE176.1)⟩)
                        ·skip
                         refine Kd.R_lit_step k44 _ 44 ?hg (N := 72) ?hd (xs := ([(⟨((rdOf ByteArray.empty t163 x6_1).extract (x7_2 : Int).toNat ((wrap64 (x7_2 + 1)) : Int).toNat), x7_2, (wrap64 (-x6_1))⟩ : S44)] : List (S44))) (inner := [.string ((rdOf ByteArray.empty t163 x6_1).extract (x7_2 : Int).toNat ((wrap64 (x7_2 + 1)) : Int).toNat), .int .i64 x7_2, .int .i64 (wrap64 (-x6_1))]) (ok := fun _ => True) (okp := fun _ => True) ?hr ?hp (fun _ hk => hk) trivial (zq _ _) (zn _) (by simp) ?_; (case hd | hg => rfl); (case hr => exact (qR16)); (case hp => exact (qR14))
                         intro v190 w38 ho39 hb hg_ hnew_; clear hg_ hnew_
                         (first | rw [← Ny189.1] at ho39 | (simp only [Int.reduceToNat] at ho39; rw [← Ny189.1] at ho39))
                         replace HO_5 := za (qR64 HO_5.1); have HO191 := za (zE (Kd.R_newB (Kd.R_new' ho39 (Kd.R_lt (qR1 HO_4.1))) (qB BK176.1)) (zL (qR2 GE176.1))); replace HO_4 := za (qR67 HO_4.1 ho39); replace BK176 := za (zk (qB BK176.1) hb); replace HR185 := za (zy (qR7 HR185.1) hb); replace HR198 := za (zy (qR7 HR198.1) hb); replace HB := za (zK (qR2 GE176.1) hb); clear hb ho39
                         refine hK.out _ _ ⟨(blk_cell BK176.1 0).trans rfl, (blk_cell BK176.1 1).trans rfl, (blk_cell BK176.1 2).trans rfl⟩ (fun hHeld => ?_)
                         clear hK K
                         refine norm_ (a' := ?_) ?_ ?_
                         rotate_left
                         ·exact qR4_c3
                         refine one_ (i := 0) (N := some 66) qRb71 rfl rfl (qR63) (by decide) (fun K hK => ?_)
                         refine Kd.R_lit_step k44 _ 44 ?hg (N := 66) ?hd (xs := ([] : List (S44))) (inner := []) (ok := fun _ => True) (okp := fun _ => True) ?hr ?hp (fun _ hk => hk) trivial (zq _ _) (zn _) (by simp) ?_; (case hd | hg => rfl); (case hr => exact (qR16)); (case hp => exact (zr _ _))
                         intro v180 w40 ho41 hb hg_ hnew_; clear hg_ hnew_
                         (first | rw [← Ny179.1] at ho41 | (simp only [Int.reduceToNat] at ho41; rw [← Ny179.1] at ho41))
                         replace HO_5 := za (qR64 HO_5.1); have HO181 := za (zE (Kd.R_newB (Kd.R_new' (Kd.R_new' ho41 (Kd.R_lt (qR1 HO_4.1))) (Kd.R_lt (qR1 HO191.1))) (qB BK176.1)) (zL (qR2 GE176.1))); replace HO_4 := za (qR67 HO_4.1 ho41); replace HO191 := za (qR67 HO191.1 ho41); replace BK176 := za (zk (qB BK176.1) hb); replace HR185 := za (zy (qR7 HR185.1) hb); replace HR198 := za (zy (qR7 HR198.1) hb); replace HB := za (zK (qR2 GE176.1) hb); clear hb ho41
                         refine hK.out _ _ ⟨(blk_cell BK176.1 0).trans rfl, (blk_cell BK176.1 1).trans rfl, (blk_cell BK176.1 2).trans rfl⟩ (fun hHeld => ?_)
                         clear hK K
                         refine norm_ (a' := ?_) ?_ ?_
                         rotate_left
                         ·exact qR4_c4
                         refine one_ (i := 4) (N := some 70) qRb67 rfl rfl (qR63) (by decide) (fun K hK => ?_)
                         refine zC k44 (w0 := w) w.heap.size (by rfl) (.tmp 66) (.tmp 69) 26 44 (.agg #[(.string ⟨#[]⟩), (.int .i64 0), (.int .i64 0)]) 32 rfl Try.underlying26 info44 rfl (by decide) (by omega) v180 y179 y182 _ _ _ (fun k_ => some k_ ≠ (.slice (some ad178) x4_2.length co34 : Value).ownBlock ∧ some k_ ≠ (v190 : Value).ownBlock ∧ k_ ≠ gb176) (fun _ => False) rfl rfl ?aO ?aR (fun _ _ h => h) (fun _ h => h.elim) ?aF ?aB ?aS ?aL ?_
                         (case aR => exact (qR62 HR185.1))
                         (case aB => exact (qR2 GE176.1))
                         (case aF => exact (qR66 HO_4.1 HO191.1 BK176.1))
                         (case aO => exact (qR55 HO181.1))
                         (case aS => exact (qR72))
                         (case aL => have := LMc28.1; omega)
                         intro v187 w42 ho hb hg hat; rw [← Ny186.1] at ho; replace HO_5 := za (qR70 HO_5.1 HO181.1); replace BK176 := za (qR57 BK176.1 HO181.1); replace HO191 := za (by exact Kd.R_after (ok := (fun k_ => some k_ ≠ (.slice (some ad178) x4_2.length co34 : Value).ownBlock ∧ k_ ≠ gb176)) (qR52 HO191.1) hg hat); replace HB := za hb
                         replace HR185 := za (by exact (show Kd.C k44 w42 (some ad178) y182.length y182 from by rw [Ny182.1]; exact Kd.C_take (m := (x9_3 : Int).toNat) ((Kd.R_reads' (Kd.R_after (ok := (fun k_ => some k_ ≠ (v190 : Value).ownBlock ∧ k_ ≠ gb176)) (qR24) hg hat)).2.2) KL36.1))
                         replace HR198 := za (by exact (show Kd.C k44 w42 A37 y195.length y195 from by rw [Ny195.1, KA37.1]; exact Kd.C_drop (m := (x9_3 : Int).toNat) (c := co34) ((Kd.R_reads' (Kd.R_after (ok := (fun k_ => some k_ ≠ (v190 : Value).ownBlock ∧ k_ ≠ gb176)) (qR24) hg hat)).2.2) KL37.1 ((Kd.R_reads' (Kd.R_after (ok := (fun k_ => some k_ ≠ (v190 : Value).ownBlock ∧ k_ ≠ gb176)) (qR24) hg hat)).2.1)))
                         replace HO_4 := za (by exact Kd.R_after (ok := (fun k_ => some k_ ≠ (v190 : Value).ownBlock ∧ k_ ≠ gb176)) (qR24) hg hat); have HO188 := za ho; clear HO181; clear ho hb hg hat
                         refine hK.out _ _ ⟨(blk_cell BK176.1 0).trans rfl, (blk_cell BK176.1 1).trans rfl, (blk_cell BK176.1 2).trans rfl⟩ (fun hHeld => ?_)
                         clear hK K
                         refine norm_ (a' := ?_) ?_ ?_
                         rotate_left
                         ·exact qR4_c2
                         exact norm_ (qR35) (hCont (v180, v187, v190) _ ⟨hHeld, (qR30 HO188.1), (qR18 HO191.1), (qR18 HO_4.1), (qR1 HO_5.1), (qR29), (qR2 GE176.1)⟩)
                       rintro ⟨v180, v187, v190⟩ w43 ⟨hS_, h0_, h1_, h2_, h3_, h4_, h5_⟩
                       have HO188 : Aside0 (Kd.R k44 44 w43 w.heap.size (fun k_ => some k_ ≠ (v190 : Value).ownBlock ∧ some k_ ≠ (.slice (some ad178) x4_2.length co34 : Value).ownBlock ∧ k_ ≠ gb176) v187 y186) := ⟨h0_⟩; have HO191 : Aside0 (Kd.R k44 44 w43 w.heap.size (fun k_ => some k_ ≠ (v187 : Value).ownBlock ∧ some k_ ≠ (.slice (some ad178) x4_2.length co34 : Value).ownBlock ∧ k_ ≠ gb176) v190 y189) := ⟨h1_⟩; replace HO_4 : Aside0 (Kd.R k44 44 w43 w.heap.size (fun k_ => some k_ ≠ (v187 : Value).ownBlock ∧ some k_ ≠ (v190 : Value).ownBlock ∧ k_ ≠ gb176) (.slice (some ad178) x4_2.length co34) x4_2) := ⟨h2_⟩; replace HO_5 : Aside0 (Kd.R Kd.string 9 w43 w.heap.size (fun _ => True) (.slice (some ad174) t163.length co10) t163) := ⟨h3_⟩; replace BK176 : Aside0 (w43.heap[gb176]? = some (.cells #[.string ((rdOf ByteArray.empty t163 x6_1).extract (x7_2 : Int).toNat ((wrap64 (x7_2 + 1)) : Int).toNat), .int .i64 x7_2, .int .i64 (wrap64 (-x6_1))] 44 (0, 0))) := ⟨h4_⟩; replace HB : Aside0 (Below w.heap.size w w43) := ⟨h5_⟩; clear h0_ h1_ h2_ h3_ h4_ h5_; have hHeld : w43.cell? ⟨gb176, 0, none⟩ = some (.string ((rdOf ByteArray.empty t163 x6_1).extract (x7_2 : Int).toNat ((wrap64 (x7_2 + 1)) : Int).toNat)) ∧ w43.cell? ⟨gb176, 1, none⟩ = some (.int .i64 x7_2) ∧ w43.cell? ⟨gb176, 2, none⟩ = some (.int .i64 (wrap64 (-x6_1))) := hS_; clear HR185
                       have HR185 := za (by exact show Kd.C k44 w43 (some ad178) y182.length y182 from by rw [Ny182.1]; exact Kd.C_take (m := (x9_3 : Int).toNat) ((Kd.R_reads' HO_4.1).2.2) KL36.1)
                       clear HR198
                       have HR198 := za (by exact show Kd.C k44 w43 A37 y195.length y195 from by rw [Ny195.1, KA37.1]; exact Kd.C_drop (m := (x9_3 : Int).toNat) (c := co34) ((Kd.R_reads' HO_4.1).2.2) KL37.1 ((Kd.R_reads' HO_4.1).2.1))
                       obtain ⟨Ao45, co45, eo45⟩ := zz HO191.1
                       (first | subst eo45 | (injection eo45 with f1_ f2_ f3_; have f4_ := f1_.symm; have f5_ := f3_.symm; clear f1_ f2_ f3_; subst f4_; subst f5_))
                       refine norm_ (a' := ?_) ?_ ?_
                       rotate_left
                       ·simp only [putAll, Act.put, zT, zU, zV]
                        rfl
                       refine one_ (i := 7) (N := some 73) qRb72 rfl rfl (qR63) (by decide) (fun K hK => ?_)
                       refine zC k44 (w0 := w) w.heap.size (by rfl) (.tmp 70) (.tmp 72) 26 44 (.agg #[(.string ⟨#[]⟩), (.int .i64 0), (.int .i64 0)]) 32 rfl Try.underlying26 info44 rfl (by decide) (by omega) v187 y186 y189 _ _ _ (fun k_ => some k_ ≠ (.slice (some ad178) x4_2.length co34 : Value).ownBlock ∧ some k_ ≠ (.slice Ao45 y189.length co45 : Value).ownBlock ∧ k_ ≠ gb176) (fun _ => False) rfl rfl ?aO ?aR (fun _ _ h => h) (fun _ h => h.elim) ?aF ?aB ?aS ?aL ?_
                       (case aR => exact (qR13 HO191.1))
                       (case aB => exact (qR2 GE176.1))
                       (case aF => exact (qR66 HO_4.1 HO191.1 BK176.1))
                       (case aO => exact (qR30 HO188.1))
                       (case aS => exact (qR72))
                       (case aL => have := LMc29.1; omega)
                       intro v193 w44 ho hb hg hat; rw [← Ny192.1] at ho; replace HO_5 := za (qR70 HO_5.1 HO188.1); replace BK176 := za (qR56 BK176.1 HO188.1); replace HO191 := za (by exact Kd.R_after (ok := (fun k_ => some k_ ≠ (.slice (some ad178) x4_2.length co34 : Value).ownBlock ∧ k_ ≠ gb176)) (qR17 HO191.1) hg hat); replace HB := za hb
                       replace HR185 := za (by exact (show Kd.C k44 w44 (some ad178) y182.length y182 from by rw [Ny182.1]; exact Kd.C_take (m := (x9_3 : Int).toNat) ((Kd.R_reads' (Kd.R_after (ok := (fun k_ => some k_ ≠ (.slice Ao45 y189.length co45 : Value).ownBlock ∧ k_ ≠ gb176)) (qR17 HO_4.1) hg hat)).2.2) KL36.1))
                       replace HR198 := za (by exact (show Kd.C k44 w44 A37 y195.length y195 from by rw [Ny195.1, KA37.1]; exact Kd.C_drop (m := (x9_3 : Int).toNat) (c := co34) ((Kd.R_reads' (Kd.R_after (ok := (fun k_ => some k_ ≠ (.slice Ao45 y189.length co45 : Value).ownBlock ∧ k_ ≠ gb176)) (qR17 HO_4.1) hg hat)).2.2) KL37.1 ((Kd.R_reads' (Kd.R_after (ok := (fun k_ => some k_ ≠ (.slice Ao45 y189.length co45 : Value).ownBlock ∧ k_ ≠ gb176)) (qR17 HO_4.1) hg hat)).2.1)))
                       replace HO_4 := za (by exact Kd.R_after (ok := (fun k_ => some k_ ≠ (.slice Ao45 y189.length co45 : Value).ownBlock ∧ k_ ≠ gb176)) (qR17 HO_4.1) hg hat); have HO194 := za ho; clear HO188; clear ho hb hg hat
                       refine hK.out _ _ ⟨(blk_cell BK176.1 0).trans rfl, (blk_cell BK176.1 1).trans rfl, (blk_cell BK176.1 2).trans rfl⟩ (fun hHeld => ?_)
                       clear hK K
                       refine norm_ (a' := ?_) ?_ ?_
                       rotate_left
                       ·show Act.put _ (some 73) _ = _
                        simp only [Act.put, zT, zU, zV, i64_w, i32_w]
                        rfl
                       refine one_ (i := 11) (N := some 77) qRb73 rfl rfl (qR63) (by decide) (fun K hK => ?_)
                       refine zC k44 (w0 := w) w.heap.size (by rfl) (.tmp 73) (.tmp 76) 26 44 (.agg #[(.string ⟨#[]⟩), (.int .i64 0), (.int .i64 0)]) 32 rfl Try.underlying26 info44 rfl (by decide) (by omega) v193 y192 y195 _ _ _ (fun k_ => some k_ ≠ (.slice (some ad178) x4_2.length co34 : Value).ownBlock ∧ some k_ ≠ (.slice Ao45 y189.length co45 : Value).ownBlock ∧ k_ ≠ gb176) (fun _ => False) rfl rfl ?aO ?aR (fun _ _ h => h) (fun _ h => h.elim) ?aF ?aB ?aS ?aL ?_
                       (case aR => exact (qR62 HR198.1))
                       (case aB => exact (qR2 GE176.1))
                       (case aF => exact (qR66 HO_4.1 HO191.1 BK176.1))
                       (case aO => exact (qR1 HO194.1))
                       (case aS => exact (qR72))
                       (case aL => have := LMc32.1; omega)
                       intro v200 w46 ho hb hg hat; rw [← Ny199.1] at ho; replace HO_5 := za (qR70 HO_5.1 HO194.1); replace BK176 := za (qR56 BK176.1 HO194.1); replace HO191 := za (by exact Kd.R_after (ok := (fun k_ => some k_ ≠ (.slice (some ad178) x4_2.length co34 : Value).ownBlock ∧ k_ ≠ gb176)) (qR1 HO191.1) hg hat); replace HB := za hb
                       replace HR185 := za (by exact (show Kd.C k44 w46 (some ad178) y182.length y182 from by rw [Ny182.1]; exact Kd.C_take (m := (x9_3 : Int).toNat) ((Kd.R_reads' (Kd.R_after (ok := (fun k_ => some k_ ≠ (.slice Ao45 y189.length co45 : Value).ownBlock ∧ k_ ≠ gb176)) (qR1 HO_4.1) hg hat)).2.2) KL36.1))
                       replace HR198 := za (by exact (show Kd.C k44 w46 A37 y195.length y195 from by rw [Ny195.1, KA37.1]; exact Kd.C_drop (m := (x9_3 : Int).toNat) (c := co34) ((Kd.R_reads' (Kd.R_after (ok := (fun k_ => some k_ ≠ (.slice Ao45 y189.length co45 : Value).ownBlock ∧ k_ ≠ gb176)) (qR1 HO_4.1) hg hat)).2.2) KL37.1 ((Kd.R_reads' (Kd.R_after (ok := (fun k_ => some k_ ≠ (.slice Ao45 y189.length co45 : Value).ownBlock ∧ k_ ≠ gb176)) (qR1 HO_4.1) hg hat)).2.1)))
                       replace HO_4 := za (by exact Kd.R_after (ok := (fun k_ => some k_ ≠ (.slice Ao45 y189.length co45 : Value).ownBlock ∧ k_ ≠ gb176)) (qR1 HO_4.1) hg hat); have HO201 := za ho; clear HO194; clear ho hb hg hat
                       refine hK.out _ _ ⟨(blk_cell BK176.1 0).trans rfl, (blk_cell BK176.1 1).trans rfl, (blk_cell BK176.1 2).trans rfl⟩ (fun hHeld => ?_)
                       clear hK K
                       refine norm_ (a' := ?_) ?_ ?_
                       rotate_left
                       ·show Act.put _ (some 77) _ = _
                        simp only [Act.put, zT, zU, zV, i64_w, i32_w]
                        rfl
                       refine pure_ (i := 12) (N := some 4) (v := ?_) (a' := ?_) qRb74 rfl rfl (qR3) (fun _ _ _ h => h) (zM ⟨by rfl, ?_⟩) ?_ ?_
                       rotate_left; exact qR4_c1; rotate_left; exact qR4_c0
                       refine done_ (qR68) ?_
                       try go_wp2
                       go_roundg k3
                       case measure => have := HK1.1; have := HK2.1; have := HK3.1; omega
                       case rel => exact ⟨(y199), (wrap64 (x7_2 + 1)), (qR10), H', ⟨by have := HK1.1; have := HK2.1; have := HK3.1; omega⟩, ⟨(qR32 HO201.1)⟩, ⟨(qR1 HO_5.1)⟩, ⟨(qR2 GE176.1)⟩⟩
                      ·rw [zQ c32] at H
                       exact zF H (by simp)
                     ·rw [zQ c29] at H
                      exact zF H (by simp)
                    ·rw [zQ c28] at H
                     exact zF H (by simp)
                   ·rw [zQ c27] at H
                    exact zF H (by simp)
                 ·rw [zQ c22] at H
                  exact zF H (by simp)
                ·rw [zQ c21] at H; have c21b0 : decide (x9_3 < (x4_2.length : Int)) = false := zs c21; clear c21; obtain ⟨y202, hy202⟩ : ∃ y_ : List (S44), y_ = (([] : List (S44))) := ⟨_, rfl⟩; replace H : (if 0 ≤ x9_3 then (if x9_3 ≤ (x4_2.length : Int) then ((some (x4_2.take (x9_3 : Int).toNat : List (S44))).bind fun y205 => (if y202.length + y205.length < 4398046511104 then ((some (y202 ++ y205 : List (S44))).bind fun y209 => ((some (([(⟨((rdOf ByteArray.empty t163 x6_1).extract (x7_2 : Int).toNat ((wrap64 (x7_2 + 1)) : Int).toNat), x7_2, (wrap64 (-x6_1))⟩ : S44)] : List (S44)) : List (S44))).bind fun y212 => (if y209.length + y212.length < 4398046511104 then ((some (y209 ++ y212 : List (S44))).bind fun y215 => ((some (x4_2.drop (x9_3 : Int).toNat : List (S44))).bind fun y218 => (if y215.length + y218.length < 4398046511104 then (spec_ReadPlan.l1 k3 a0 (y215 ++ y218) t163 x6_1 (wrap64 (x7_2 + 1))) else (none)))) else (none)))) else (none))) else (none)) else (none)) = some (r1, r2) := (qR5 hy202); have Ny202 := za hy202; clear hy202
                 by_cases c47 : 0 ≤ x9_3
                 ·rw [zP c47] at H; have c47b0 := zt c47; have c47b1 : decide (0 ≤ x9_3) = true := zc c47; clear c47
                  by_cases c48 : x9_3 ≤ (x4_2.length : Int)
                  ·rw [zP c48] at H; have c48b0 := zt c48; have c48b1 : decide (x9_3 ≤ (x4_2.length : Int)) = true := zc c48; clear c48; obtain ⟨y205, hy205⟩ : ∃ y_ : List (S44), y_ = (x4_2.take (x9_3 : Int).toNat) := ⟨_, rfl⟩; replace H : (if y202.length + y205.length < 4398046511104 then ((some (y202 ++ y205 : List (S44))).bind fun y209 => ((some (([(⟨((rdOf ByteArray.empty t163 x6_1).extract (x7_2 : Int).toNat ((wrap64 (x7_2 + 1)) : Int).toNat), x7_2, (wrap64 (-x6_1))⟩ : S44)] : List (S44)) : List (S44))).bind fun y212 => (if y209.length + y212.length < 4398046511104 then ((some (y209 ++ y212 : List (S44))).bind fun y215 => ((some (x4_2.drop (x9_3 : Int).toNat : List (S44))).bind fun y218 => (if y215.length + y218.length < 4398046511104 then (spec_ReadPlan.l1 k3 a0 (y215 ++ y218) t163 x6_1 (wrap64 (x7_2 + 1))) else (none)))) else (none)))) else (none)) = some (r1, r2) := (qR5 hy205); have Ny205 := za hy205; clear hy205
                   by_cases c49 : y202.length + y205.length < 4398046511104
                   ·rw [zP c49] at H; have LMc49 := za c49; clear c49; obtain ⟨y209, hy209⟩ : ∃ y_ : List (S44), y_ = (y202 ++ y205) := ⟨_, rfl⟩; replace H : ((some (([(⟨((rdOf ByteArray.empty t163 x6_1).extract (x7_2 : Int).toNat ((wrap64 (x7_2 + 1)) : Int).toNat), x7_2, (wrap64 (-x6_1))⟩ : S44)] : List (S44)) : List (S44))).bind fun y212 => (if y209.length + y212.length < 4398046511104 then ((some (y209 ++ y212 : List (S44))).bind fun y215 => ((some (x4_2.drop (x9_3 : Int).toNat : List (S44))).bind fun y218 => (if y215.length + y218.length < 4398046511104 then (spec_ReadPlan.l1 k3 a0 (y215 ++ y218) t163 x6_1 (wrap64 (x7_2 + 1))) else (none)))) else (none))) = some (r1, r2) := (qR5 hy209); have Ny209 := za hy209; clear hy209; obtain ⟨y212, hy212⟩ : ∃ y_ : List (S44), y_ = (([(⟨((rdOf ByteArray.empty t163 x6_1).extract (x7_2 : Int).toNat ((wrap64 (x7_2 + 1)) : Int).toNat), x7_2, (wrap64 (-x6_1))⟩ : S44)] : List (S44))) := ⟨_, rfl⟩; replace H : (if y209.length + y212.length < 4398046511104 then ((some (y209 ++ y212 : List (S44))).bind fun y215 => ((some (x4_2.drop (x9_3 : Int).toNat : List (S44))).bind fun y218 => (if y215.length + y218.length < 4398046511104 then (spec_ReadPlan.l1 k3 a0 (y215 ++ y218) t163 x6_1 (wrap64 (x7_2 + 1))) else (none)))) else (none)) = some (r1, r2) := (qR5 hy212); have Ny212 := za hy212; clear hy212
                    by_cases c50 : y209.length + y212.length < 4398046511104
                    ·rw [zP c50] at H; have LMc50 := za c50; clear c50; obtain ⟨y215, hy215⟩ : ∃ y_ : List (S44), y_ = (y209 ++ y212) := ⟨_, rfl⟩; replace H : ((some (x4_2.drop (x9_3 : Int).toNat : List (S44))).bind fun y218 => (if y215.length + y218.length < 4398046511104 then (spec_ReadPlan.l1 k3 a0 (y215 ++ y218) t163 x6_1 (wrap64 (x7_2 + 1))) else (none))) = some (r1, r2) := (qR5 hy215); have Ny215 := za hy215; clear hy215; have c51b0 := zt (zb (qR6) : 0 ≤ x9_3); have c52b0 := zt (zb (qR6) : x9_3 ≤ (x4_2.length : Int)); obtain ⟨y218, hy218⟩ : ∃ y_ : List (S44), y_ = (x4_2.drop (x9_3 : Int).toNat) := ⟨_, rfl⟩; replace H : (if y215.length + y218.length < 4398046511104 then (spec_ReadPlan.l1 k3 a0 (y215 ++ y218) t163 x6_1 (wrap64 (x7_2 + 1))) else (none)) = some (r1, r2) := (qR5 hy218); have Ny218 := za hy218; clear hy218
                     by_cases c53 : y215.length + y218.length < 4398046511104
                     ·rw [zP c53] at H; have LMc53 := za c53; clear c53; obtain ⟨y222, hy222⟩ : ∃ y_ : List (S44), y_ = (y215 ++ y218) := ⟨_, rfl⟩; replace H : (spec_ReadPlan.l1 k3 a0 y222 t163 x6_1 (wrap64 (x7_2 + 1))) = some (r1, r2) := (qR5 hy222); have Ny222 := za hy222; clear hy222; have H' := za H; clear H
                      try go_wp2
                      replace HO_4 := za (zD HO_4.1); replace HO_5 := za (zD HO_5.1); replace BK176 := za (zh BK176.1); replace HB := za (below_drew1 HB.1); obtain ⟨Ao55, co55, eo55⟩ := zz HO_4.1
                      (first | subst eo55 | (injection eo55 with f1_ f2_ f3_; have f4_ := f1_.symm; have f5_ := f3_.symm; clear f1_ f2_ f3_; subst f4_; subst f5_))
                      refine start_ (n := 14) (S := fun w' => True) (ds := []) qRb44 (qR8) rfl rfl trivial (fun hHeld => ?_); refine with_tabW spec_ReadPlan.tab14 spec_ReadPlan.bits14 (fun HT_ HW_ => ?_)
                      generalize wr.drew = w54 at HO_4 HO_5 BK176 HB hHeld ⊢
                      refine pure_ (i := 0) (N := some 50) (v := ?_) (a' := ?_) qRb45 rfl rfl (qR3) (fun _ _ _ h => h) (zM ⟨by rfl, ?_⟩) ?_ ?_
                      rotate_left; exact qR4_c1; rotate_left; exact qR4_c0
                      refine pure_ (i := 1) (N := some 51) (v := ?_) (a' := ?_) qRb46 rfl rfl (qR3) (fun _ _ _ h => h) (zM ⟨by rfl, ?_⟩) ?_ ?_
                      rotate_left; exact qR4_c1; rotate_left; exact qR4_c0
                      refine pure_ (i := 2) (N := some 52) (v := ?_) (a' := ?_) qRb47 rfl rfl (qR3) (fun _ _ _ h => h) (zM ⟨by rfl, ?_⟩) ?_ ?_
                      rotate_left; exact qR4_c1; rotate_left; exact qR4_c0
                      refine pure_ (i := 3) (N := some 53) (v := ?_) (a' := ?_) qRb48 rfl rfl (qR3) (fun _ _ _ h => h) (zM ⟨by rfl, ?_⟩) ?_ ?_
                      rotate_left; exact qR4_c1; rotate_left; exact qR4_c0
                      refine pure_ (i := 4) (N := some 54) (v := ?_) (a' := ?_) qRb49 rfl rfl (qR3) (fun _ _ _ h => h) (zM ⟨by rfl, ?_⟩) ?_ ?_
                      rotate_left; exact qR4_c1; rotate_left; exact qR4_c0
                      refine pure_ (i := 5) (N := some 55) (v := undef) (a' := ?_) qRb50 rfl rfl (qR3) (fun _ _ _ h => h) (Or.inr ⟨by rfl, rfl⟩) ?_ ?_
                      rotate_left
                      ·exact qR4_c0
                      refine pure_ (i := 6) (N := some 56) (v := undef) (a' := ?_) qRb51 rfl rfl (qR3) (fun _ _ _ h => h) (Or.inr ⟨by rfl, rfl⟩) ?_ ?_
                      rotate_left
                      ·exact qR4_c0
                      refine pure_ (i := 7) (N := some 57) (v := undef) (a' := ?_) qRb52 rfl rfl (qR3) (fun _ _ _ h => h) (Or.inr ⟨by rfl, rfl⟩) ?_ ?_
                      rotate_left
                      ·exact qR4_c0
                      refine pure_ (i := 8) (N := some 58) (v := undef) (a' := ?_) qRb53 rfl rfl (qR3) (fun _ _ _ h => h) (Or.inr ⟨by rfl, rfl⟩) ?_ ?_
                      rotate_left
                      ·exact qR4_c0
                      refine pure_ (i := 9) (N := some 59) (v := undef) (a' := ?_) #[true, true, true, true, true, true, true, true, true, true, false, false, false, false] rfl rfl (qR3) (fun _ _ _ h => h) (Or.inr ⟨by rfl, rfl⟩) ?_ ?_
                      rotate_left
                      ·exact qR4_c0
                      refine pure_ (i := 10) (N := some 60) (v := undef) (a' := ?_) qRb55 rfl rfl (qR3) (fun _ _ _ h => h) (Or.inr ⟨by rfl, rfl⟩) ?_ ?_
                      rotate_left
                      ·exact qR4_c0
                      refine pure_ (i := 11) (N := some 61) (v := undef) (a' := ?_) qRb56 rfl rfl (qR3) (fun _ _ _ h => h) (Or.inr ⟨by rfl, rfl⟩) ?_ ?_
                      rotate_left
                      ·exact qR4_c0
                      refine pure_ (i := 12) (N := some 62) (v := undef) (a' := ?_) qRb57 rfl rfl (qR3) (fun _ _ _ h => h) (Or.inr ⟨by rfl, rfl⟩) ?_ ?_
                      rotate_left
                      ·exact qR4_c0
                      refine pure_ (i := 13) (N := some 63) (v := ?_) (a' := ?_) qRb58 rfl rfl (qR3) (fun _ _ _ h => h) (zM ⟨by rfl, ?_⟩) ?_ ?_
                      rotate_left; exact qR4_c1; rotate_left; exact qR4_c0
                      refine done_ (qR68) ?_
                      try go_wp2
                      replace HO_4 := za (zD HO_4.1); replace HO_5 := za (zD HO_5.1); replace BK176 := za (zh BK176.1); replace HB := za (below_drew1 HB.1); have q57 : (x9_3 : Int) ≤ ((x4_2.length : Int) : Int) := zb (qR6); obtain ⟨i057, hi057, _, hsz57, _⟩ := info_parts info44; have hroom57 : x4_2.length ≤ co55 := (Kd.R_reads' HO_4.1).2.1; have hC57 : Kd.C k44 _ Ao55 x4_2.length x4_2 := (Kd.R_reads' HO_4.1).2.2; have hcut57 := cut_to (P := Try.prog) 26 44 .i64 Try.underlying26 hi057 Ao55 x4_2.length co55 x9_3 (zb (qR6)) q57 hroom57; have hr57 := Kd.C_take (m := (x9_3 : Int).toNat) hC57 (by omega); have hy57 : y205.length = (x9_3 : Int).toNat := (by rw [Ny205.1, List.length_take]; omega); rw [← Ny205.1] at hr57; rw [← hy57] at hcut57; have HR208 := za hr57
                      have HC208 := za (by exact show y205.length ≤ co55 from by omega)
                      clear hr57 hC57 hroom57 hi057 hsz57; have KY57 := za hy57; clear hy57; have KL57 := za qR43; replace q57 := zt q57; have q58 : (x9_3 : Int) ≤ ((x4_2.length : Int) : Int) := zb (qR6); obtain ⟨i058, hi058, _, hsz58, _⟩ := info_parts info44; have hroom58 : x4_2.length ≤ co55 := (Kd.R_reads' HO_4.1).2.1; have hC58 : Kd.C k44 _ Ao55 x4_2.length x4_2 := (Kd.R_reads' HO_4.1).2.2; have q058 : (0 : Int) ≤ (x9_3 : Int) := zb (qR6); have hcut58 := cut_from (P := Try.prog) 26 44 .i64 Try.underlying26 hi058 3 hsz58 Ao55 x4_2.length co55 x9_3 q058 q58; have hr58 := Kd.C_drop (m := (x9_3 : Int).toNat) (c := co55) hC58 (by omega) hroom58; obtain ⟨A58, hA58⟩ : ∃ A1, A1 = (if co55 = (x9_3 : Int).toNat then Ao55 else (Ao55 : Option Addr).map (·.add ((x9_3 : Int).toNat * 3))) := ⟨_, rfl⟩; obtain ⟨c58, hc58⟩ : ∃ c1, c1 = co55 - (x9_3 : Int).toNat := ⟨_, rfl⟩; have hy58 : y218.length = x4_2.length - (x9_3 : Int).toNat := (by rw [Ny218.1, List.length_drop] <;> omega); rw [show (x4_2).drop (x9_3 : Int).toNat = y218 from Ny218.1.symm] at hr58; replace hr58 : Kd.C k44 _ A58 y218.length y218 := (by rw [hA58]; exact hr58); rw [← hy58, ← hA58, ← hc58] at hcut58; have HR221 := za hr58
                      have HC221 := za (by exact show y218.length ≤ c58 from by rw [hy58, hc58]; exact Nat.sub_le_sub_right hroom58 _)
                      clear hr58 hC58 hroom58 hi058 hsz58 hc58; have KY58 := za hy58; have KA58 := za hA58; clear hy58 hA58; have KL58 := za qR43; replace q58 := zt q58
                      refine start_ (n := 13) (S := fun w' => w'.cell? ⟨gb176, 0, none⟩ = some (.string ((rdOf ByteArray.empty t163 x6_1).extract (x7_2 : Int).toNat ((wrap64 (x7_2 + 1)) : Int).toNat)) ∧ w'.cell? ⟨gb176, 1, none⟩ = some (.int .i64 x7_2) ∧ w'.cell? ⟨gb176, 2, none⟩ = some (.int .i64 (wrap64 (-x6_1)))) (ds := []) qRb59 (qR8) rfl rfl ⟨(blk_cell BK176.1 0).trans rfl, (blk_cell BK176.1 1).trans rfl, (blk_cell BK176.1 2).trans rfl⟩ (fun hHeld => ?_); refine with_tabW spec_ReadPlan.tab16 spec_ReadPlan.bits16 (fun HT_ HW_ => ?_)
                      generalize w54.drew = w56 at HO_4 HO_5 BK176 HB HR208 HR221 hHeld ⊢
                      refine pure_ (i := 1) (N := some 67) (v := ?_) (a' := ?_) qRb60 rfl rfl (qR3) (fun _ _ _ h => h) (zM ⟨by rfl, ?_⟩) ?_ ?_
                      rotate_left; exact qR4_c1; rotate_left; exact qR4_c0
                      refine pure_ (i := 2) (N := some 68) (v := ?_) (a' := ?_) qRb61 rfl rfl (qR3) (fun _ _ _ h => h) (zM ⟨by rfl, ?_⟩) ?_ ?_
                      rotate_left; exact qR4_c1; rotate_left; exact qR4_c0
                      refine pure_ (i := 3) (N := some 69) (v := ?_) (a' := ?_) qRb62 rfl rfl (qR3) (fun _ _ _ h => h) (zM ⟨by rfl, ?_⟩) ?_ ?_
                      rotate_left; exact qR4_c1; rotate_left; exact qR4_c0
                      refine pure_ (i := 8) (N := some 74) (v := ?_) (a' := ?_) qRb63 rfl rfl (qR3) (fun _ _ _ h => h) (zM ⟨by rfl, ?_⟩) ?_ ?_
                      rotate_left; exact qR4_c1; rotate_left; exact qR4_c0
                      refine pure_ (i := 9) (N := some 75) (v := ?_) (a' := ?_) qRb64 rfl rfl (qR3) (fun _ _ _ h => h) (zM ⟨by rfl, ?_⟩) ?_ ?_
                      rotate_left; exact qR4_c1; rotate_left; exact qR4_c0
                      refine pure_ (i := 10) (N := some 76) (v := ?_) (a' := ?_) qRb65 rfl rfl (qR3) (fun _ _ _ h => h) (zM ⟨by rfl, ?_⟩) ?_ ?_
                      rotate_left; exact qR4_c1; rotate_left; exact qR4_c0
                      refine take_ (i := 5) (N := some 71) (v := ?_) (a' := ?_) qRb66 rfl rfl (take_ofW HT_.1 HW_.1 (qR8)) (fun _ _ _ h => h) (zM ⟨by rfl, ?_⟩) hHeld ?_ ?_
                      rotate_left
                      ·rintro w' ⟨s0, s1, s2⟩
                       go_simp
                       with_reducible rfl
                      rotate_left
                      ·exact qR4_c0
                      refine join_ (σ := Value × Value × Value) 3 qRb67 (fun s_ => [(66, s_.1), (70, s_.2.1), (72, s_.2.2)]) (fun s_ w' => (w'.cell? ⟨gb176, 0, none⟩ = some (.string ((rdOf ByteArray.empty t163 x6_1).extract (x7_2 : Int).toNat ((wrap64 (x7_2 + 1)) : Int).toNat)) ∧ w'.cell? ⟨gb176, 1, none⟩ = some (.int .i64 x7_2) ∧ w'.cell? ⟨gb176, 2, none⟩ = some (.int .i64 (wrap64 (-x6_1)))) ∧ (Kd.R k44 44 w' w.heap.size (fun k_ => some k_ ≠ (s_.2.2 : Value).ownBlock ∧ some k_ ≠ (.slice Ao55 x4_2.length co55 : Value).ownBlock ∧ k_ ≠ gb176) s_.2.1 y209) ∧ (Kd.R k44 44 w' w.heap.size (fun k_ => some k_ ≠ (s_.2.1 : Value).ownBlock ∧ some k_ ≠ (.slice Ao55 x4_2.length co55 : Value).ownBlock ∧ k_ ≠ gb176) s_.2.2 y212) ∧ (Kd.R k44 44 w' w.heap.size (fun k_ => some k_ ≠ (s_.2.1 : Value).ownBlock ∧ some k_ ≠ (s_.2.2 : Value).ownBlock ∧ k_ ≠ gb176) (.slice Ao55 x4_2.length co55) x4_2) ∧ (Kd.R Kd.string 9 w' w.heap.size (fun _ => True) (.slice (some ad174) t163.length co10) t163) ∧ (w'.heap[gb176]? = some (.cells #[.string ((rdOf ByteArray.empty t163 x6_1).extract (x7_2 : Int).toNat ((wrap64 (x7_2 + 1)) : Int).toNat), .int .i64 x7_2, .int .i64 (wrap64 (-x6_1))] 44 (0, 0))) ∧ (Below w.heap.size w w')) ?_ ?_
                      rotate_left
                      ·intro hCont
                       refine two_ (i := 0) (j := 6) (Ni := some 66) (Nj := some 72) qRb68 qRb69 rfl rfl rfl rfl (two_of HT_.1 (qR8)) (by decide) (by decide) (fun K hK => ?_) (fun K hK => ?_)
                       ·skip
                        refine Kd.R_lit_step k44 _ 44 ?hg (N := 66) ?hd (xs := ([] : List (S44))) (inner := []) (ok := fun _ => True) (okp := fun _ => True) ?hr ?hp (fun _ hk => hk) trivial (zq _ _) (zn _) (by simp) ?_; (case hd | hg => rfl); (case hr => exact (qR16)); (case hp => exact (zr _ _))
                        intro v203 w59 ho60 hb hg_ hnew_; clear hg_ hnew_
                        (first | rw [← Ny202.1] at ho60 | (simp only [Int.reduceToNat] at ho60; rw [← Ny202.1] at ho60))
                        replace HO_5 := za (qR64 HO_5.1); have HO204 := za (zE (Kd.R_newB (Kd.R_new' ho60 (Kd.R_lt (qR1 HO_4.1))) (qB BK176.1)) (zL (qR2 GE176.1))); replace HO_4 := za (qR67 HO_4.1 ho60); replace BK176 := za (zk (qB BK176.1) hb); replace HR208 := za (zy (qR7 HR208.1) hb); replace HR221 := za (zy (qR7 HR221.1) hb); replace HB := za (zK (qR2 GE176.1) hb); clear hb ho60
                        refine hK.out _ _ ⟨(blk_cell BK176.1 0).trans rfl, (blk_cell BK176.1 1).trans rfl, (blk_cell BK176.1 2).trans rfl⟩ (fun hHeld => ?_)
                        clear hK K
                        refine norm_ (a' := ?_) ?_ ?_
                        rotate_left
                        ·exact qR4_c4
                        refine two_ (i := 4) (j := 6) (Ni := some 70) (Nj := some 72) qRb70 qRb71 rfl rfl rfl rfl (two_of HT_.1 (qR8)) (by decide) (by decide) (fun K hK => ?_) (fun K hK => ?_)
                        ·skip
                         refine zC k44 (w0 := w) w.heap.size (by rfl) (.tmp 66) (.tmp 69) 26 44 (.agg #[(.string ⟨#[]⟩), (.int .i64 0), (.int .i64 0)]) 32 rfl Try.underlying26 info44 rfl (by decide) (by omega) v203 y202 y205 _ _ _ (fun k_ => some k_ ≠ (.slice Ao55 x4_2.length co55 : Value).ownBlock ∧ k_ ≠ gb176) (fun _ => False) rfl rfl ?aO ?aR (fun _ _ h => h) (fun _ h => h.elim) ?aF ?aB ?aS ?aL ?_
                         (case aR => exact (qR62 HR208.1))
                         (case aB => exact (qR2 GE176.1))
                         (case aF => exact (qR82))
                         (case aO => exact (qR58 HO204.1))
                         (case aS => exact (qR72))
                         (case aL => have := LMc49.1; omega)
                         intro v210 w61 ho hb hg hat; rw [← Ny209.1] at ho; replace HO_5 := za (qR70 HO_5.1 HO204.1); replace BK176 := za (qR57 BK176.1 HO204.1); replace HB := za hb
                         replace HR208 := za (by exact (show Kd.C k44 w61 Ao55 y205.length y205 from by rw [Ny205.1]; exact Kd.C_take (m := (x9_3 : Int).toNat) ((Kd.R_reads' (Kd.R_after (ok := (fun k_ => k_ ≠ gb176)) (qR1 HO_4.1) hg hat)).2.2) KL57.1))
                         replace HR221 := za (by exact (show Kd.C k44 w61 A58 y218.length y218 from by rw [Ny218.1, KA58.1]; exact Kd.C_drop (m := (x9_3 : Int).toNat) (c := co55) ((Kd.R_reads' (Kd.R_after (ok := (fun k_ => k_ ≠ gb176)) (qR1 HO_4.1) hg hat)).2.2) KL58.1 ((Kd.R_reads' (Kd.R_after (ok := (fun k_ => k_ ≠ gb176)) (qR1 HO_4.1) hg hat)).2.1)))
                         replace HO_4 := za (by exact Kd.R_after (ok := (fun k_ => k_ ≠ gb176)) (qR1 HO_4.1) hg hat); have HO211 := za ho; clear HO204; clear ho hb hg hat
                         refine hK.out _ _ ⟨(blk_cell BK176.1 0).trans rfl, (blk_cell BK176.1 1).trans rfl, (blk_cell BK176.1 2).trans rfl⟩ (fun hHeld => ?_)
                         clear hK K
                         refine norm_ (a' := ?_) ?_ ?_
                         rotate_left
                         ·exact qR4_c2
                         refine one_ (i := 6) (N := some 72) qRb67 rfl rfl (qR63) (by decide) (fun K hK => ?_)
                         refine Kd.R_lit_step k44 _ 44 ?hg (N := 72) ?hd (xs := ([(⟨((rdOf ByteArray.empty t163 x6_1).extract (x7_2 : Int).toNat ((wrap64 (x7_2 + 1)) : Int).toNat), x7_2, (wrap64 (-x6_1))⟩ : S44)] : List (S44))) (inner := [.string ((rdOf ByteArray.empty t163 x6_1).extract (x7_2 : Int).toNat ((wrap64 (x7_2 + 1)) : Int).toNat), .int .i64 x7_2, .int .i64 (wrap64 (-x6_1))]) (ok := fun _ => True) (okp := fun _ => True) ?hr ?hp (fun _ hk => hk) trivial (zq _ _) (zn _) (by simp) ?_; (case hd | hg => rfl); (case hr => exact (qR16)); (case hp => exact (qR14))
                         intro v213 w62 ho63 hb hg_ hnew_; clear hg_ hnew_
                         (first | rw [← Ny212.1] at ho63 | (simp only [Int.reduceToNat] at ho63; rw [← Ny212.1] at ho63))
                         replace HO_5 := za (qR64 HO_5.1); have HO214 := za (zE (Kd.R_newB (Kd.R_new' (Kd.R_new' ho63 (Kd.R_lt (qR1 HO_4.1))) (Kd.R_lt (qR1 HO211.1))) (qB BK176.1)) (zL (qR2 GE176.1))); replace HO_4 := za (qR67 HO_4.1 ho63); replace HO211 := za (qR67 HO211.1 ho63); replace BK176 := za (zk (qB BK176.1) hb); replace HR208 := za (zy (qR7 HR208.1) hb); replace HR221 := za (zy (qR7 HR221.1) hb); replace HB := za (zK (qR2 GE176.1) hb); clear hb ho63
                         refine hK.out _ _ ⟨(blk_cell BK176.1 0).trans rfl, (blk_cell BK176.1 1).trans rfl, (blk_cell BK176.1 2).trans rfl⟩ (fun hHeld => ?_)
                         clear hK K
                         refine norm_ (a' := ?_) ?_ ?_
                         rotate_left
                         ·exact qR4_c3
                         exact norm_ (qR35) (hCont (v203, v210, v213) _ ⟨hHeld, (qR18 HO211.1), (qR53 HO214.1), (qR44), (qR1 HO_5.1), (qR29), (qR2 GE176.1)⟩)
                        ·skip
                         refine Kd.R_lit_step k44 _ 44 ?hg (N := 72) ?hd (xs := ([(⟨((rdOf ByteArray.empty t163 x6_1).extract (x7_2 : Int).toNat ((wrap64 (x7_2 + 1)) : Int).toNat), x7_2, (wrap64 (-x6_1))⟩ : S44)] : List (S44))) (inner := [.string ((rdOf ByteArray.empty t163 x6_1).extract (x7_2 : Int).toNat ((wrap64 (x7_2 + 1)) : Int).toNat), .int .i64 x7_2, .int .i64 (wrap64 (-x6_1))]) (ok := fun _ => True) (okp := fun _ => True) ?hr ?hp (fun _ hk => hk) trivial (zq _ _) (zn _) (by simp) ?_; (case hd | hg => rfl); (case hr => exact (qR16)); (case hp => exact (qR14))
                         intro v213 w61 ho62 hb hg_ hnew_; clear hg_ hnew_
                         (first | rw [← Ny212.1] at ho62 | (simp only [Int.reduceToNat] at ho62; rw [← Ny212.1] at ho62))
                         replace HO_5 := za (qR64 HO_5.1); have HO214 := za (zE (Kd.R_newB (Kd.R_new' (Kd.R_new' ho62 (Kd.R_lt (qR1 HO_4.1))) (Kd.R_lt (qR1 HO204.1))) (qB BK176.1)) (zL (qR2 GE176.1))); replace HO_4 := za (qR67 HO_4.1 ho62); replace HO204 := za (qR67 HO204.1 ho62); replace BK176 := za (zk (qB BK176.1) hb); replace HR208 := za (zy (qR7 HR208.1) hb); replace HR221 := za (zy (qR7 HR221.1) hb); replace HB := za (zK (qR2 GE176.1) hb); clear hb ho62
                         refine hK.out _ _ ⟨(blk_cell BK176.1 0).trans rfl, (blk_cell BK176.1 1).trans rfl, (blk_cell BK176.1 2).trans rfl⟩ (fun hHeld => ?_)
                         clear hK K
                         refine norm_ (a' := ?_) ?_ ?_
                         rotate_left
                         ·exact qR4_c3
                         refine one_ (i := 4) (N := some 70) qRb67 rfl rfl (qR63) (by decide) (fun K hK => ?_)
                         refine zC k44 (w0 := w) w.heap.size (by rfl) (.tmp 66) (.tmp 69) 26 44 (.agg #[(.string ⟨#[]⟩), (.int .i64 0), (.int .i64 0)]) 32 rfl Try.underlying26 info44 rfl (by decide) (by omega) v203 y202 y205 _ _ _ (fun k_ => some k_ ≠ (.slice Ao55 x4_2.length co55 : Value).ownBlock ∧ some k_ ≠ (v213 : Value).ownBlock ∧ k_ ≠ gb176) (fun _ => False) rfl rfl ?aO ?aR (fun _ _ h => h) (fun _ h => h.elim) ?aF ?aB ?aS ?aL ?_
                         (case aR => exact (qR62 HR208.1))
                         (case aB => exact (qR2 GE176.1))
                         (case aF => exact (qR66 HO_4.1 HO214.1 BK176.1))
                         (case aO => exact (qR54 HO204.1))
                         (case aS => exact (qR72))
                         (case aL => have := LMc49.1; omega)
                         intro v210 w63 ho hb hg hat; rw [← Ny209.1] at ho; replace HO_5 := za (qR70 HO_5.1 HO204.1); replace BK176 := za (by exact blk_grown (qB BK176.1) hg (Kd.R_away HO204.1 (fun _ hk => hk.1.2))); replace HO214 := za (by exact Kd.R_after (ok := (fun k_ => some k_ ≠ (.slice Ao55 x4_2.length co55 : Value).ownBlock ∧ k_ ≠ gb176)) (qR51 HO214.1) hg hat); replace HB := za hb
                         replace HR208 := za (by exact (show Kd.C k44 w63 Ao55 y205.length y205 from by rw [Ny205.1]; exact Kd.C_take (m := (x9_3 : Int).toNat) ((Kd.R_reads' (Kd.R_after (ok := (fun k_ => some k_ ≠ (v213 : Value).ownBlock ∧ k_ ≠ gb176)) (qR23) hg hat)).2.2) KL57.1))
                         replace HR221 := za (by exact (show Kd.C k44 w63 A58 y218.length y218 from by rw [Ny218.1, KA58.1]; exact Kd.C_drop (m := (x9_3 : Int).toNat) (c := co55) ((Kd.R_reads' (Kd.R_after (ok := (fun k_ => some k_ ≠ (v213 : Value).ownBlock ∧ k_ ≠ gb176)) (qR23) hg hat)).2.2) KL58.1 ((Kd.R_reads' (Kd.R_after (ok := (fun k_ => some k_ ≠ (v213 : Value).ownBlock ∧ k_ ≠ gb176)) (qR23) hg hat)).2.1)))
                         replace HO_4 := za (by exact Kd.R_after (ok := (fun k_ => some k_ ≠ (v213 : Value).ownBlock ∧ k_ ≠ gb176)) (qR23) hg hat); have HO211 := za ho; clear HO204; clear ho hb hg hat
                         refine hK.out _ _ ⟨(blk_cell BK176.1 0).trans rfl, (blk_cell BK176.1 1).trans rfl, (blk_cell BK176.1 2).trans rfl⟩ (fun hHeld => ?_)
                         clear hK K
                         refine norm_ (a' := ?_) ?_ ?_
                         rotate_left
                         ·exact qR4_c2
                         exact norm_ (qR35) (hCont (v203, v210, v213) _ ⟨hHeld, (qR30 HO211.1), (qR18 HO214.1), (qR18 HO_4.1), (qR1 HO_5.1), (qR29), (qR2 GE176.1)⟩)
                       ·skip
                        refine Kd.R_lit_step k44 _ 44 ?hg (N := 72) ?hd (xs := ([(⟨((rdOf ByteArray.empty t163 x6_1).extract (x7_2 : Int).toNat ((wrap64 (x7_2 + 1)) : Int).toNat), x7_2, (wrap64 (-x6_1))⟩ : S44)] : List (S44))) (inner := [.string ((rdOf ByteArray.empty t163 x6_1).extract (x7_2 : Int).toNat ((wrap64 (x7_2 + 1)) : Int).toNat), .int .i64 x7_2, .int .i64 (wrap64 (-x6_1))]) (ok := fun _ => True) (okp := fun _ => True) ?hr ?hp (fun _ hk => hk) trivial (zq _ _) (zn _) (by simp) ?_; (case hd | hg => rfl); (case hr => exact (qR16)); (case hp => exact (qR14))
                        intro v213 w59 ho60 hb hg_ hnew_; clear hg_ hnew_
                        (first | rw [← Ny212.1] at ho60 | (simp only [Int.reduceToNat] at ho60; rw [← Ny212.1] at ho60))
                        replace HO_5 := za (qR64 HO_5.1); have HO214 := za (zE (Kd.R_newB (Kd.R_new' ho60 (Kd.R_lt (qR1 HO_4.1))) (qB BK176.1)) (zL (qR2 GE176.1))); replace HO_4 := za (qR67 HO_4.1 ho60); replace BK176 := za (zk (qB BK176.1) hb); replace HR208 := za (zy (qR7 HR208.1) hb); replace HR221 := za (zy (qR7 HR221.1) hb); replace HB := za (zK (qR2 GE176.1) hb); clear hb ho60
                        refine hK.out _ _ ⟨(blk_cell BK176.1 0).trans rfl, (blk_cell BK176.1 1).trans rfl, (blk_cell BK176.1 2).trans rfl⟩ (fun hHeld => ?_)
                        clear hK K
                        refine norm_ (a' := ?_) ?_ ?_
                        rotate_left
                        ·exact qR4_c3
                        refine one_ (i := 0) (N := some 66) qRb71 rfl rfl (qR63) (by decide) (fun K hK => ?_)
                        refine Kd.R_lit_step k44 _ 44 ?hg (N := 66) ?hd (xs := ([] : List (S44))) (inner := []) (ok := fun _ => True) (okp := fun _ => True) ?hr ?hp (fun _ hk => hk) trivial (zq _ _) (zn _) (by simp) ?_; (case hd | hg => rfl); (case hr => exact (qR16)); (case hp => exact (zr _ _))
                        intro v203 w61 ho62 hb hg_ hnew_; clear hg_ hnew_
                        (first | rw [← Ny202.1] at ho62 | (simp only [Int.reduceToNat] at ho62; rw [← Ny202.1] at ho62))
                        replace HO_5 := za (qR64 HO_5.1); have HO204 := za (zE (Kd.R_newB (Kd.R_new' (Kd.R_new' ho62 (Kd.R_lt (qR1 HO_4.1))) (Kd.R_lt (qR1 HO214.1))) (qB BK176.1)) (zL (qR2 GE176.1))); replace HO_4 := za (qR67 HO_4.1 ho62); replace HO214 := za (qR67 HO214.1 ho62); replace BK176 := za (zk (qB BK176.1) hb); replace HR208 := za (zy (qR7 HR208.1) hb); replace HR221 := za (zy (qR7 HR221.1) hb); replace HB := za (zK (qR2 GE176.1) hb); clear hb ho62
                        refine hK.out _ _ ⟨(blk_cell BK176.1 0).trans rfl, (blk_cell BK176.1 1).trans rfl, (blk_cell BK176.1 2).trans rfl⟩ (fun hHeld => ?_)
                        clear hK K
                        refine norm_ (a' := ?_) ?_ ?_
                        rotate_left
                        ·exact qR4_c4
                        refine one_ (i := 4) (N := some 70) qRb67 rfl rfl (qR63) (by decide) (fun K hK => ?_)
                        refine zC k44 (w0 := w) w.heap.size (by rfl) (.tmp 66) (.tmp 69) 26 44 (.agg #[(.string ⟨#[]⟩), (.int .i64 0), (.int .i64 0)]) 32 rfl Try.underlying26 info44 rfl (by decide) (by omega) v203 y202 y205 _ _ _ (fun k_ => some k_ ≠ (.slice Ao55 x4_2.length co55 : Value).ownBlock ∧ some k_ ≠ (v213 : Value).ownBlock ∧ k_ ≠ gb176) (fun _ => False) rfl rfl ?aO ?aR (fun _ _ h => h) (fun _ h => h.elim) ?aF ?aB ?aS ?aL ?_
                        (case aR => exact (qR62 HR208.1))
                        (case aB => exact (qR2 GE176.1))
                        (case aF => exact (qR66 HO_4.1 HO214.1 BK176.1))
                        (case aO => exact (qR55 HO204.1))
                        (case aS => exact (qR72))
                        (case aL => have := LMc49.1; omega)
                        intro v210 w63 ho hb hg hat; rw [← Ny209.1] at ho; replace HO_5 := za (qR70 HO_5.1 HO204.1); replace BK176 := za (qR57 BK176.1 HO204.1); replace HO214 := za (by exact Kd.R_after (ok := (fun k_ => some k_ ≠ (.slice Ao55 x4_2.length co55 : Value).ownBlock ∧ k_ ≠ gb176)) (qR52 HO214.1) hg hat); replace HB := za hb
                        replace HR208 := za (by exact (show Kd.C k44 w63 Ao55 y205.length y205 from by rw [Ny205.1]; exact Kd.C_take (m := (x9_3 : Int).toNat) ((Kd.R_reads' (Kd.R_after (ok := (fun k_ => some k_ ≠ (v213 : Value).ownBlock ∧ k_ ≠ gb176)) (qR24) hg hat)).2.2) KL57.1))
                        replace HR221 := za (by exact (show Kd.C k44 w63 A58 y218.length y218 from by rw [Ny218.1, KA58.1]; exact Kd.C_drop (m := (x9_3 : Int).toNat) (c := co55) ((Kd.R_reads' (Kd.R_after (ok := (fun k_ => some k_ ≠ (v213 : Value).ownBlock ∧ k_ ≠ gb176)) (qR24) hg hat)).2.2) KL58.1 ((Kd.R_reads' (Kd.R_after (ok := (fun k_ => some k_ ≠ (v213 : Value).ownBlock ∧ k_ ≠ gb176)) (qR24) hg hat)).2.1)))
                        replace HO_4 := za (by exact Kd.R_after (ok := (fun k_ => some k_ ≠ (v213 : Value).ownBlock ∧ k_ ≠ gb176)) (qR24) hg hat); have HO211 := za ho; clear HO204; clear ho hb hg hat
                        refine hK.out _ _ ⟨(blk_cell BK176.1 0).trans rfl, (blk_cell BK176.1 1).trans rfl, (blk_cell BK176.1 2).trans rfl⟩ (fun hHeld => ?_)
                        clear hK K
                        refine norm_ (a' := ?_) ?_ ?_
                        rotate_left
                        ·exact qR4_c2
                        exact norm_ (qR35) (hCont (v203, v210, v213) _ ⟨hHeld, (qR30 HO211.1), (qR18 HO214.1), (qR18 HO_4.1), (qR1 HO_5.1), (qR29), (qR2 GE176.1)⟩)
                      rintro ⟨v203, v210, v213⟩ w64 ⟨hS_, h0_, h1_, h2_, h3_, h4_, h5_⟩
                      have HO211 : Aside0 (Kd.R k44 44 w64 w.heap.size (fun k_ => some k_ ≠ (v213 : Value).ownBlock ∧ some k_ ≠ (.slice Ao55 x4_2.length co55 : Value).ownBlock ∧ k_ ≠ gb176) v210 y209) := ⟨h0_⟩; have HO214 : Aside0 (Kd.R k44 44 w64 w.heap.size (fun k_ => some k_ ≠ (v210 : Value).ownBlock ∧ some k_ ≠ (.slice Ao55 x4_2.length co55 : Value).ownBlock ∧ k_ ≠ gb176) v213 y212) := ⟨h1_⟩; replace HO_4 : Aside0 (Kd.R k44 44 w64 w.heap.size (fun k_ => some k_ ≠ (v210 : Value).ownBlock ∧ some k_ ≠ (v213 : Value).ownBlock ∧ k_ ≠ gb176) (.slice Ao55 x4_2.length co55) x4_2) := ⟨h2_⟩; replace HO_5 : Aside0 (Kd.R Kd.string 9 w64 w.heap.size (fun _ => True) (.slice (some ad174) t163.length co10) t163) := ⟨h3_⟩; replace BK176 : Aside0 (w64.heap[gb176]? = some (.cells #[.string ((rdOf ByteArray.empty t163 x6_1).extract (x7_2 : Int).toNat ((wrap64 (x7_2 + 1)) : Int).toNat), .int .i64 x7_2, .int .i64 (wrap64 (-x6_1))] 44 (0, 0))) := ⟨h4_⟩; replace HB : Aside0 (Below w.heap.size w w64) := ⟨h5_⟩; clear h0_ h1_ h2_ h3_ h4_ h5_; have hHeld : w64.cell? ⟨gb176, 0, none⟩ = some (.string ((rdOf ByteArray.empty t163 x6_1).extract (x7_2 : Int).toNat ((wrap64 (x7_2 + 1)) : Int).toNat)) ∧ w64.cell? ⟨gb176, 1, none⟩ = some (.int .i64 x7_2) ∧ w64.cell? ⟨gb176, 2, none⟩ = some (.int .i64 (wrap64 (-x6_1))) := hS_; clear HR208
                      have HR208 := za (by exact show Kd.C k44 w64 Ao55 y205.length y205 from by rw [Ny205.1]; exact Kd.C_take (m := (x9_3 : Int).toNat) ((Kd.R_reads' HO_4.1).2.2) KL57.1)
                      clear HR221
                      have HR221 := za (by exact show Kd.C k44 w64 A58 y218.length y218 from by rw [Ny218.1, KA58.1]; exact Kd.C_drop (m := (x9_3 : Int).toNat) (c := co55) ((Kd.R_reads' HO_4.1).2.2) KL58.1 ((Kd.R_reads' HO_4.1).2.1))
                      obtain ⟨Ao66, co66, eo66⟩ := zz HO214.1
                      (first | subst eo66 | (injection eo66 with f1_ f2_ f3_; have f4_ := f1_.symm; have f5_ := f3_.symm; clear f1_ f2_ f3_; subst f4_; subst f5_))
                      refine norm_ (a' := ?_) ?_ ?_
                      rotate_left
                      ·simp only [putAll, Act.put, zT, zU, zV]
                       rfl
                      refine one_ (i := 7) (N := some 73) qRb72 rfl rfl (qR63) (by decide) (fun K hK => ?_)
                      refine zC k44 (w0 := w) w.heap.size (by rfl) (.tmp 70) (.tmp 72) 26 44 (.agg #[(.string ⟨#[]⟩), (.int .i64 0), (.int .i64 0)]) 32 rfl Try.underlying26 info44 rfl (by decide) (by omega) v210 y209 y212 _ _ _ (fun k_ => some k_ ≠ (.slice Ao55 x4_2.length co55 : Value).ownBlock ∧ some k_ ≠ (.slice Ao66 y212.length co66 : Value).ownBlock ∧ k_ ≠ gb176) (fun _ => False) rfl rfl ?aO ?aR (fun _ _ h => h) (fun _ h => h.elim) ?aF ?aB ?aS ?aL ?_
                      (case aR => exact (qR13 HO214.1))
                      (case aB => exact (qR2 GE176.1))
                      (case aF => exact (qR66 HO_4.1 HO214.1 BK176.1))
                      (case aO => exact (qR30 HO211.1))
                      (case aS => exact (qR72))
                      (case aL => have := LMc50.1; omega)
                      intro v216 w65 ho hb hg hat; rw [← Ny215.1] at ho; replace HO_5 := za (qR70 HO_5.1 HO211.1); replace BK176 := za (qR56 BK176.1 HO211.1); replace HO214 := za (by exact Kd.R_after (ok := (fun k_ => some k_ ≠ (.slice Ao55 x4_2.length co55 : Value).ownBlock ∧ k_ ≠ gb176)) (qR17 HO214.1) hg hat); replace HB := za hb
                      replace HR208 := za (by exact (show Kd.C k44 w65 Ao55 y205.length y205 from by rw [Ny205.1]; exact Kd.C_take (m := (x9_3 : Int).toNat) ((Kd.R_reads' (Kd.R_after (ok := (fun k_ => some k_ ≠ (.slice Ao66 y212.length co66 : Value).ownBlock ∧ k_ ≠ gb176)) (qR17 HO_4.1) hg hat)).2.2) KL57.1))
                      replace HR221 := za (by exact (show Kd.C k44 w65 A58 y218.length y218 from by rw [Ny218.1, KA58.1]; exact Kd.C_drop (m := (x9_3 : Int).toNat) (c := co55) ((Kd.R_reads' (Kd.R_after (ok := (fun k_ => some k_ ≠ (.slice Ao66 y212.length co66 : Value).ownBlock ∧ k_ ≠ gb176)) (qR17 HO_4.1) hg hat)).2.2) KL58.1 ((Kd.R_reads' (Kd.R_after (ok := (fun k_ => some k_ ≠ (.slice Ao66 y212.length co66 : Value).ownBlock ∧ k_ ≠ gb176)) (qR17 HO_4.1) hg hat)).2.1)))
                      replace HO_4 := za (by exact Kd.R_after (ok := (fun k_ => some k_ ≠ (.slice Ao66 y212.length co66 : Value).ownBlock ∧ k_ ≠ gb176)) (qR17 HO_4.1) hg hat); have HO217 := za ho; clear HO211; clear ho hb hg hat
                      refine hK.out _ _ ⟨(blk_cell BK176.1 0).trans rfl, (blk_cell BK176.1 1).trans rfl, (blk_cell BK176.1 2).trans rfl⟩ (fun hHeld => ?_)
                      clear hK K
                      refine norm_ (a' := ?_) ?_ ?_
                      rotate_left
                      ·show Act.put _ (some 73) _ = _
                       simp only [Act.put, zT, zU, zV, i64_w, i32_w]
                       rfl
                      refine one_ (i := 11) (N := some 77) qRb73 rfl rfl (qR63) (by decide) (fun K hK => ?_)
                      refine zC k44 (w0 := w) w.heap.size (by rfl) (.tmp 73) (.tmp 76) 26 44 (.agg #[(.string ⟨#[]⟩), (.int .i64 0), (.int .i64 0)]) 32 rfl Try.underlying26 info44 rfl (by decide) (by omega) v216 y215 y218 _ _ _ (fun k_ => some k_ ≠ (.slice Ao55 x4_2.length co55 : Value).ownBlock ∧ some k_ ≠ (.slice Ao66 y212.length co66 : Value).ownBlock ∧ k_ ≠ gb176) (fun _ => False) rfl rfl ?aO ?aR (fun _ _ h => h) (fun _ h => h.elim) ?aF ?aB ?aS ?aL ?_
                      (case aR => exact (qR62 HR221.1))
                      (case aB => exact (qR2 GE176.1))
                      (case aF => exact (qR66 HO_4.1 HO214.1 BK176.1))
                      (case aO => exact (qR1 HO217.1))
                      (case aS => exact (qR72))
                      (case aL => have := LMc53.1; omega)
                      intro v223 w67 ho hb hg hat; rw [← Ny222.1] at ho; replace HO_5 := za (qR70 HO_5.1 HO217.1); replace BK176 := za (qR56 BK176.1 HO217.1); replace HO214 := za (by exact Kd.R_after (ok := (fun k_ => some k_ ≠ (.slice Ao55 x4_2.length co55 : Value).ownBlock ∧ k_ ≠ gb176)) (qR1 HO214.1) hg hat); replace HB := za hb
                      replace HR208 := za (by exact (show Kd.C k44 w67 Ao55 y205.length y205 from by rw [Ny205.1]; exact Kd.C_take (m := (x9_3 : Int).toNat) ((Kd.R_reads' (Kd.R_after (ok := (fun k_ => some k_ ≠ (.slice Ao66 y212.length co66 : Value).ownBlock ∧ k_ ≠ gb176)) (qR1 HO_4.1) hg hat)).2.2) KL57.1))
                      replace HR221 := za (by exact (show Kd.C k44 w67 A58 y218.length y218 from by rw [Ny218.1, KA58.1]; exact Kd.C_drop (m := (x9_3 : Int).toNat) (c := co55) ((Kd.R_reads' (Kd.R_after (ok := (fun k_ => some k_ ≠ (.slice Ao66 y212.length co66 : Value).ownBlock ∧ k_ ≠ gb176)) (qR1 HO_4.1) hg hat)).2.2) KL58.1 ((Kd.R_reads' (Kd.R_after (ok := (fun k_ => some k_ ≠ (.slice Ao66 y212.length co66 : Value).ownBlock ∧ k_ ≠ gb176)) (qR1 HO_4.1) hg hat)).2.1)))
                      replace HO_4 := za (by exact Kd.R_after (ok := (fun k_ => some k_ ≠ (.slice Ao66 y212.length co66 : Value).ownBlock ∧ k_ ≠ gb176)) (qR1 HO_4.1) hg hat); have HO224 := za ho; clear HO217; clear ho hb hg hat
                      refine hK.out _ _ ⟨(blk_cell BK176.1 0).trans rfl, (blk_cell BK176.1 1).trans rfl, (blk_cell BK176.1 2).trans rfl⟩ (fun hHeld => ?_)
                      clear hK K
                      refine norm_ (a' := ?_) ?_ ?_
                      rotate_left
                      ·show Act.put _ (some 77) _ = _
                       simp only [Act.put, zT, zU, zV, i64_w, i32_w]
                       rfl
                      refine pure_ (i := 12) (N := some 4) (v := ?_) (a' := ?_) qRb74 rfl rfl (qR3) (fun _ _ _ h => h) (zM ⟨by rfl, ?_⟩) ?_ ?_
                      rotate_left; exact qR4_c1; rotate_left; exact qR4_c0
                      refine done_ (qR68) ?_
                      try go_wp2
                      go_roundg k3
                      case measure => have := HK1.1; have := HK2.1; have := HK3.1; omega
                      case rel => exact ⟨(y222), (wrap64 (x7_2 + 1)), (qR10), H', ⟨by have := HK1.1; have := HK2.1; have := HK3.1; omega⟩, ⟨(qR32 HO224.1)⟩, ⟨(qR1 HO_5.1)⟩, ⟨(qR2 GE176.1)⟩⟩
                     ·rw [zQ c53] at H
                      exact zF H (by simp)
                    ·rw [zQ c50] at H
                     exact zF H (by simp)
                   ·rw [zQ c49] at H
                    exact zF H (by simp)
                  ·rw [zQ c48] at H
                   exact zF H (by simp)
                 ·rw [zQ c47] at H
                  exact zF H (by simp)
             ·replace c18 := zm c18; subst c18; rw [zQ (show ¬ (false = true) by decide)] at H; have H' := za H; clear H; have p174 : 0 ≤ (x6_1 : Int) := zb (qR6); have q174 : x6_1 < (t163.length : Int) := zb (qR6); obtain ⟨ad174, e174, hx174_0⟩ := Kd.at_string (Kd.R_reads' HO_5.1).2.2 x6_1 p174 q174; cases e174; replace p174 := zt p174; replace q174 := zt q174; have p175 : 0 ≤ (x6_1 : Int) := zb (qR6); have q175 : x6_1 < (t163.length : Int) := zb (qR6); obtain ⟨ad175, e175, hx175_0⟩ := Kd.at_string (Kd.R_reads' HO_5.1).2.2 x6_1 p175 q175; obtain rfl : ad174 = ad175 := (by injection e175); replace p175 := zt p175; replace q175 := zt q175
              go_wp2_with (first | ((with_reducible refine zp (N := 8) rfl ?_); refine zw ?hg (N := 8) ?hd (cs := #[.string (⟨#[]⟩ : ByteArray), .int .i64 0, .int .i64 0]) (t := 44) ?hr ?_; (case hd | hg => rfl); (case hr => exact (qR16)); intro gb176 hg w68 hbox hb; replace HO_4 := za qR83; replace HO_5 := za (qR64 HO_5.1); have BK176 := za hbox; have GW176 := za qR77; have GE176 := za qR77; replace HB := za qR61; clear hb hbox hg; have hcz69_0 : w68.cell? ⟨gb176, 0, none⟩ = some (.string (⟨#[]⟩ : ByteArray)) := (blk_cell BK176.1 0).trans rfl; have hcz69_1 : w68.cell? ⟨gb176, 1, none⟩ = some (.int .i64 0) := (blk_cell BK176.1 1).trans rfl; have hcz69_2 : w68.cell? ⟨gb176, 2, none⟩ = some (.int .i64 0) := (blk_cell BK176.1 2).trans rfl; have hfz69_0 := ze BK176.1 0; have hfz69_1 := ze BK176.1 1; have hfz69_2 := ze BK176.1 2) | ((with_reducible refine zo (f := 68) rfl ?_); refine zJ (some 48) rfl rfl Try.func68 (qR8) rfl #[.string ((rdOf ByteArray.empty t163 x6_1).extract (x7_2 : Int).toNat ((wrap64 (x7_2 + 1)) : Int).toNat)] rfl (qR4) ?_; (with_reducible refine (spec_l13Letter.calls ((rdOf ByteArray.empty t163 x6_1).extract (x7_2 : Int).toNat ((wrap64 (x7_2 + 1)) : Int).toNat) false _ A17.1).mono ?_); rintro e w' ⟨rfl, ⟨nd, rfl⟩⟩; refine ⟨_, rfl, ?_⟩))
              go_roundg k2
              case measure => have := HK1.1; have := HK2.1; omega
              case rel => exact ⟨(x4_2), (wrap64 (x7_2 + 1)), (qR10), H', ⟨by have := HK1.1; have := HK2.1; omega⟩, ⟨(by (with_reducible repeat (first | apply Kd.R_alloc | apply Kd.R_drewN | apply zD)); exact zA (zB (p := ⟨gb176, 2, none⟩) (zB (p := ⟨gb176, 1, none⟩) (zB (p := ⟨gb176, 0, none⟩) (zA HO_4.1 (fun k_ hk => (⟨hk, hk.2⟩ : _ ∧ k_ ≠ gb176))) (fun _ hk => hk.2) (.string ((rdOf ByteArray.empty t163 x6_1).extract (x7_2 : Int).toNat ((wrap64 (x7_2 + 1)) : Int).toNat))) (fun _ hk => hk.2) (.int .i64 x7_2)) (fun _ hk => hk.2) (.int .i64 (wrap64 (-x6_1)))) (fun _ hk => trivial))⟩, ⟨(qR34)⟩, ⟨(qR2 GE176.1)⟩⟩
            ·rw [zQ c16] at H
             exact zF H (by simp)
           ·rw [zQ c15] at H
            exact zF H (by simp)
          ·rw [zQ c14] at H
           exact zF H (by simp)
         ·rw [zQ c13] at H; have c13b0 : decide (x7_2 < ((rdOf ByteArray.empty t163 x6_1).size : Int)) = false := zs c13; clear c13; have H' := za H; clear H; have p174 : 0 ≤ (x6_1 : Int) := zb (qR6); have q174 : x6_1 < (t163.length : Int) := zb (qR6); obtain ⟨ad174, e174, hx174_0⟩ := Kd.at_string (Kd.R_reads' HO_5.1).2.2 x6_1 p174 q174; cases e174; replace p174 := zt p174; replace q174 := zt q174
          go_wp2
          go_roundg k2
          case measure => have := HK1.1; have := HK2.1; omega
          case rel => exact ⟨(x4_2), (wrap64 (x6_1 + 1)), (qR10), H', ⟨by have := HK1.1; have := HK2.1; omega⟩, ⟨(qR1 HO_4.1)⟩, ⟨(qR1 HO_5.1)⟩, ⟨(qR0)⟩⟩
        ·rw [zQ c12] at H
         exact zF H (by simp)
       ·rw [zQ c11] at H
        exact zF H (by simp)
    ·rw [zQ c9] at H; have c9b0 : decide (x6_1 < (t163.length : Int)) = false := zs c9; clear c9; replace H := bindA H; obtain ⟨⟨t166, t167⟩, A70, H⟩ := H; (try dsimp only at H)
     by_cases c71 : t167 = true
     ·subst c71; rw [zP rfl] at H
      by_cases c72 : t166.toList = a0.toList
      ·rw [zP c72] at H; have c72b0 : (t166.toList == a0.toList) = true := zH c72; have c72b1 : (t166.toList != a0.toList) = false := zv c72; clear c72; simp only [zR, zS] at H; obtain ⟨rfl, rfl⟩ := H; obtain ⟨Ao73, co73, eo73⟩ := zz HO_5.1; subst eo73; obtain ⟨Ao74, co74, eo74⟩ := zz HO_4.1; subst eo74
       go_wp2_with (first | ((with_reducible refine zo (f := 9) rfl ?_); refine zJ (some 80) rfl rfl Try.func9 (qR8) rfl #[.slice Ao74 x4_1.length co74, .int .i64 1] rfl (qR4) ?_; (with_reducible refine (spec_PlanText.calls k1 _ _ x4_1 1 t166 true _ ?s1 ?s2 A70.1).mono ?_); (case s1 => exact (qR13 HO_4.1)); (case s2 => exact (qR41 HO_4.1)); rintro e w75 ⟨rfl, hb⟩; refine ⟨_, rfl, ?_⟩; replace HO_4 := za (qR64 HO_4.1); replace HO_5 := za (qR64 HO_5.1); replace HB := za qR61; clear hb))
       go_ret2
       exact ⟨_, (qR9), (qR1 HO_4.1), (qR0)⟩
      ·rw [zQ c72] at H; have c72b0 : (t166.toList == a0.toList) = false := zu c72; have c72b1 : (t166.toList != a0.toList) = true := zI c72; obtain ⟨y168, hy168⟩ : ∃ y_ : List (S44), y_ = (([] : List (S44))) := ⟨_, rfl⟩; replace H : (some (y168, false)) = some (r1, r2) := (qR5 hy168); have Ny168 := za hy168; clear hy168; simp only [zR, zS] at H; obtain ⟨rfl, rfl⟩ := H; obtain ⟨Ao76, co76, eo76⟩ := zz HO_5.1; subst eo76; obtain ⟨Ao77, co77, eo77⟩ := zz HO_4.1; subst eo77
       go_wp2_with (first | ((with_reducible refine zo (f := 9) rfl ?_); refine zJ (some 80) rfl rfl Try.func9 (qR8) rfl #[.slice Ao77 x4_1.length co77, .int .i64 1] rfl (qR4) ?_; (with_reducible refine (spec_PlanText.calls k1 _ _ x4_1 1 t166 true _ ?s1 ?s2 A70.1).mono ?_); (case s1 => exact (qR13 HO_4.1)); (case s2 => exact (qR41 HO_4.1)); rintro e w78 ⟨rfl, hb⟩; refine ⟨_, rfl, ?_⟩; replace HO_4 := za (qR64 HO_4.1); replace HO_5 := za (qR64 HO_5.1); replace HB := za qR61; clear hb) | ((with_reducible refine zp (N := 90) rfl ?_); refine Kd.R_lit k44 _ 44 ?hg (N := 90) ?hd (xs := ([] : List (S44))) (inner := []) (ok := fun _ => True) (okp := fun _ => True) ?hr ?hp (fun _ hk => hk) trivial (zq _ _) (zn _) (by simp) ?_; (case hd | hg => rfl); (case hr => exact (qR16)); (case hp => exact (zr _ _)); intro v169 w79 ho80 hb hg_ hnew_; clear hg_ hnew_; (first | rw [← Ny168.1] at ho80 | (simp only [Int.reduceToNat] at ho80; rw [← Ny168.1] at ho80)); replace HO_5 := za (qR64 HO_5.1); have HO170 := za (by exact zE (Kd.R_new' ho80 (Kd.R_lt (qR1 HO_4.1))) (zL (qR0))); replace HO_4 := za (qR67 HO_4.1 ho80); replace HB := za qR61; clear hb ho80))
       go_ret2
       exact ⟨_, (qR9), (qR32 HO170.1), (qR0)⟩
     ·replace c71 := zm c71; subst c71; rw [zQ (show ¬ (false = true) by decide)] at H; obtain ⟨y171, hy171⟩ : ∃ y_ : List (S44), y_ = (([] : List (S44))) := ⟨_, rfl⟩; replace H : (some (y171, false)) = some (r1, r2) := (qR5 hy171); have Ny171 := za hy171; clear hy171; simp only [zR, zS] at H; obtain ⟨rfl, rfl⟩ := H; obtain ⟨Ao81, co81, eo81⟩ := zz HO_5.1; subst eo81; obtain ⟨Ao82, co82, eo82⟩ := zz HO_4.1; subst eo82
      go_wp2_with (first | ((with_reducible refine zo (f := 9) rfl ?_); refine zJ (some 80) rfl rfl Try.func9 (qR8) rfl #[.slice Ao82 x4_1.length co82, .int .i64 1] rfl (qR4) ?_; (with_reducible refine (spec_PlanText.calls k1 _ _ x4_1 1 t166 false _ ?s1 ?s2 A70.1).mono ?_); (case s1 => exact (qR13 HO_4.1)); (case s2 => exact (qR41 HO_4.1)); rintro e w83 ⟨rfl, hb⟩; refine ⟨_, rfl, ?_⟩; replace HO_4 := za (qR64 HO_4.1); replace HO_5 := za (qR64 HO_5.1); replace HB := za qR61; clear hb) | ((with_reducible refine zp (N := 90) rfl ?_); refine Kd.R_lit k44 _ 44 ?hg (N := 90) ?hd (xs := ([] : List (S44))) (inner := []) (ok := fun _ => True) (okp := fun _ => True) ?hr ?hp (fun _ hk => hk) trivial (zq _ _) (zn _) (by simp) ?_; (case hd | hg => rfl); (case hr => exact (qR16)); (case hp => exact (zr _ _)); intro v172 w84 ho85 hb hg_ hnew_; clear hg_ hnew_; (first | rw [← Ny171.1] at ho85 | (simp only [Int.reduceToNat] at ho85; rw [← Ny171.1] at ho85)); replace HO_5 := za (qR64 HO_5.1); have HO173 := za (by exact zE (Kd.R_new' ho85 (Kd.R_lt (qR1 HO_4.1))) (zL (qR0))); replace HO_4 := za (qR67 HO_4.1 ho85); replace HB := za qR61; clear hb ho85))
      go_ret2
      exact ⟨_, (qR9), (qR32 HO173.1), (qR0)⟩

end Go.Proofs.Ytckidmhkhlbkeaa.MR
