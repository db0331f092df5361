-- tight2 (a walk)
import Derived.Test.YtckidmhkhlbkeaaStr
import Derived.Test.YtckidmhkhlbkeaaMKx0
import Derived.Test.YtckidmhkhlbkeaaMKx3
import Derived.Test.YtckidmhkhlbkeaaMKx6
namespace Go.Proofs.Ytckidmhkhlbkeaa.MK
open Go.RowKit Go.Proofs.YtckidmhkhlbkeaaW.PrintWords Go.Proofs.YtckidmhkhlbkeaaW.PrintLast
theorem qK8_c0 {p : Prop} (h : p := by
  simp only [Act.put, yb, yc, yd, i64_w, i32_w]
  rfl) : p := h
theorem qK8_c1 {p : Prop} (h : p := by
  intro w'
  go_simp
  with_reducible rfl) : p := h
theorem qK8_c2 {p : Prop} (h : p := by
  show Act.put _ (some 70) _ = _
  simp only [Act.put, yb, yc, yd, i64_w, i32_w]
  rfl) : p := h
theorem qK8_c3 {p : Prop} (h : p := by
  show Act.put _ (some 72) _ = _
  simp only [Act.put, yb, yc, yd, i64_w, i32_w]
  rfl) : p := h
theorem qK8_c4 {p : Prop} (h : p := by
  show Act.put _ (some 66) _ = _
  simp only [Act.put, yb, yc, yd, i64_w, i32_w]
  rfl) : p := h
attribute [local go_sem] max2_int min2_int max_two min_two
set_option linter.unusedVariables false
set_option linter.unusedSimpArgs false

mutual
def spec_ReadPlan.l0 : Nat → ByteArray → List (S44) → List ByteArray → Int → Option ((List (S44)) × Bool)
 | 0, _, _, _, _ => none
 | k + 1, x0, x4, x5, x6 => if x6 < (x5.length : Int) then (spec_ReadPlan.l1 k x0 x4 x5 x6 0) else ((spec_PlanText.f k x4 1).bind fun bt171 => (if bt171.2 = true then (if bt171.1.toList = x0.toList then (some (x4, true)) else (some ((([] : List (S44))), false))) else (some ((([] : List (S44))), false))))
def spec_ReadPlan.l1 : Nat → ByteArray → List (S44) → List ByteArray → Int → Int → Option ((List (S44)) × Bool)
 | 0, _, _, _, _, _ => none
 | k + 1, x0, x4, x5, x6, x7 => if 0 ≤ x6 then (if x6 < (x5.length : Int) then (if x7 < ((rdOf ByteArray.empty x5 x6).size : Int) then (if 0 ≤ x7 then (if x7 ≤ (wrap64 (x7 + 1)) then (if (wrap64 (x7 + 1)) ≤ ((rdOf ByteArray.empty x5 x6).size : Int) then ((spec_l13Letter.f ((rdOf ByteArray.empty x5 x6).extract (x7 : Int).toNat ((wrap64 (x7 + 1)) : Int).toNat)).bind fun t182 => (if t182 = true then (spec_ReadPlan.l2 k x0 x4 x5 x6 x7 0 ((rdOf ByteArray.empty x5 x6).extract (x7 : Int).toNat ((wrap64 (x7 + 1)) : Int).toNat) x7 (wrap64 (-x6))) else (spec_ReadPlan.l1 k x0 x4 x5 x6 (wrap64 (x7 + 1))))) else (none)) else (none)) else (none)) else (spec_ReadPlan.l0 k x0 x4 x5 (wrap64 (x6 + 1)))) else (none)) else (none)
def spec_ReadPlan.l2 : Nat → ByteArray → List (S44) → List ByteArray → Int → Int → Int → ByteArray → Int → Int → Option ((List (S44)) × Bool)
 | 0, _, _, _, _, _, _, _, _, _ => none
 | k + 1, x0, x4, x5, x6, x7, x9, x182000, x182001, x182002 => if x9 < (x4.length : Int) then (if 0 ≤ x9 then (if (Op.bytesLess (((rd_T44 x4 x9).f0).toList) x182000.toList) = true then (spec_ReadPlan.l2 k x0 x4 x5 x6 x7 (wrap64 (x9 + 1)) x182000 x182001 x182002) else ((some (([] : List (S44)) : List (S44))).bind fun y184 => (if x9 ≤ (x4.length : Int) then ((some (x4.take (x9 : Int).toNat : List (S44))).bind fun y187 => (if y184.length + y187.length < 4398046511104 then ((some (y184 ++ y187 : List (S44))).bind fun y191 => ((some (([(⟨x182000, x182001, x182002⟩ : S44)] : List (S44)) : List (S44))).bind fun y194 => (if y191.length + y194.length < 4398046511104 then ((some (y191 ++ y194 : List (S44))).bind fun y197 => ((some (x4.drop (x9 : Int).toNat : List (S44))).bind fun y200 => (if y197.length + y200.length < 4398046511104 then (spec_ReadPlan.l1 k x0 (y197 ++ y200) x5 x6 (wrap64 (x7 + 1))) else (none)))) else (none)))) else (none))) else (none)))) else (none)) else ((some (([] : List (S44)) : List (S44))).bind fun y207 => (if 0 ≤ x9 then (if x9 ≤ (x4.length : Int) then ((some (x4.take (x9 : Int).toNat : List (S44))).bind fun y210 => (if y207.length + y210.length < 4398046511104 then ((some (y207 ++ y210 : List (S44))).bind fun y214 => ((some (([(⟨x182000, x182001, x182002⟩ : S44)] : List (S44)) : List (S44))).bind fun y217 => (if y214.length + y217.length < 4398046511104 then ((some (y214 ++ y217 : List (S44))).bind fun y220 => ((some (x4.drop (x9 : Int).toNat : List (S44))).bind fun y223 => (if y220.length + y223.length < 4398046511104 then (spec_ReadPlan.l1 k x0 (y220 ++ y223) x5 x6 (wrap64 (x7 + 1))) else (none)))) else (none)))) else (none))) else (none)) else (none)))
end
def spec_ReadPlan.f (k : Nat) (a0 : ByteArray) : Option ((List (S44)) × Bool) := if (a0.size : Int) > 420 then (some ((([] : List (S44))), false)) else ((spec_l1Split.f k a0 10).bind fun t168 => (spec_ReadPlan.l0 k a0 (([] : List (S44))) t168 0))
def spec_ReadPlan.T14 : Bool × List (List Nat × List Nat) := (true, [([], []), ([], []), ([1], [1]), ([0, 2], [0, 2]), ([3], [3]), ([4], [4]), ([4], [4]), ([5, 6, 4], [4, 5, 6]), ([7, 4], [4, 7]), ([8, 4], [4, 8]), ([4], [4]), ([10, 4], [4, 10]), ([9, 11, 4], [4, 9, 11]), ([4, 12], [4, 12])])
def spec_ReadPlan.B14 : List Nat := [0, 0, 2, 7, 15, 31, 31, 127, 255, 511, 31, 1055, 4095, 8191]
theorem spec_ReadPlan.tab14 : rtab .any (opsOf Try.f31 14) = spec_ReadPlan.T14 := by kernel_rfl
theorem spec_ReadPlan.bits14 : waitsOk spec_ReadPlan.T14.2 spec_ReadPlan.B14 = true := by kernel_rfl
def spec_ReadPlan.T16 : Bool × List (List Nat × List Nat) := (true, [([], []), ([], []), ([], []), ([1, 2], [1, 2]), ([0, 3], [0, 3]), ([], []), ([5], [5]), ([4, 6, 4], [4, 6]), ([], []), ([], []), ([8, 9], [8, 9]), ([7, 10, 7], [7, 10]), ([11, 11, 0, 1, 2, 3, 4, 5, 6, 7, 8, 9, 10, 11], [1, 8, 11])])
def spec_ReadPlan.B16 : List Nat := [0, 0, 0, 6, 15, 0, 32, 127, 0, 0, 768, 2047, 4095]
theorem spec_ReadPlan.tab16 : rtab .any (opsOf Try.f31 16) = spec_ReadPlan.T16 := by kernel_rfl
theorem spec_ReadPlan.bits16 : waitsOk spec_ReadPlan.T16.2 spec_ReadPlan.B16 = true := by kernel_rfl
set_option maxHeartbeats 8000000 in
set_option maxRecDepth 100000 in
theorem spec_ReadPlan.calls (k : Nat) (a0 : ByteArray) (r1 : List (S44)) (r2 : Bool) (w : World) (h : spec_ReadPlan.f k a0 = some (r1, r2)) :
  Calls Try.prog 31 #[.string a0] w fun e w' => ∃ v0_ : Value, e = .returned (.tuple #[v0_, .bool r2]) ∧ Kd.R k44 44 w' w.heap.size (fun _ => True) v0_ r1 ∧ Below w.heap.size w w' := by
 have hu44 := Try.underlying44; have HB := za (zr w.heap.size w); have H : (if (a0.size : Int) > 420 then (some ((([] : List (S44))), false)) else ((spec_l1Split.f k a0 10).bind fun t168 => (spec_ReadPlan.l0 k a0 (([] : List (S44))) t168 0))) = some (r1, r2) := h; clear h
 by_cases c2 : (a0.size : Int) > 420
 ·rw [zX c2] at H; have c2b0 : decide (420 < (a0.size : Int)) = true := zc c2; have c2b1 : decide (420 < a0.size) = true := zc (by omega); clear c2; obtain ⟨y162, hy162⟩ : ∃ y_ : List (S44), y_ = (([] : List (S44))) := ⟨_, rfl⟩; replace H : (some (y162, false)) = some (r1, r2) := (qK7 hy162); have Ny162 := za hy162; clear hy162; simp only [zZ, ya] at H; obtain ⟨rfl, rfl⟩ := H
  go_enter Try.func31, Try.ntmps31
  go_wp2_with (first | ((with_reducible refine zp (N := 15) rfl ?_); refine zL k44 _ 44 ?hg (N := 15) ?hd (xs := ([] : List (S44))) (inner := []) (ok := fun _ => True) (okp := fun _ => True) ?hr ?hp (fun _ hk => hk) trivial (zr _ _) (zn _) (by simp) ?_; (case hd | hg => rfl); (case hr => exact (qK21)); (case hp => exact (zt _ _)); intro v163 w3 ho4 hb hg_ hnew_; clear hg_ hnew_; (first | rw [← Ny162.1] at ho4 | (simp only [Int.reduceToNat] at ho4; rw [← Ny162.1] at ho4)); have HO164 := za (qK106 ho4); replace HB := za qK85; clear hb ho4))
  go_ret2
  exact ⟨_, (qK15), (qK0 HO164.1), (qK2)⟩
 ·rw [zY c2] at H; have c2b0 : decide (420 < (a0.size : Int)) = false := zu c2; have c2b1 : decide (420 < a0.size) = false := zu (by omega); clear c2; obtain ⟨y165, hy165⟩ : ∃ y_ : List (S44), y_ = (([] : List (S44))) := ⟨_, rfl⟩; replace H : ((spec_l1Split.f k a0 10).bind fun t168 => (spec_ReadPlan.l0 k a0 y165 t168 0)) = some (r1, r2) := (qK7 hy165); have Ny165 := za hy165; clear hy165; replace H := zB H; obtain ⟨t168, A50, H⟩ := H; replace H : (spec_ReadPlan.l0 k a0 y165 t168 0) = some (r1, r2) := H; have A5 := za A50; clear A50; have H' := za H; clear H
  go_enter Try.func31, Try.ntmps31
  go_wp2_with (first | ((with_reducible refine zp (N := 16) rfl ?_); refine zL k44 _ 44 ?hg (N := 16) ?hd (xs := ([] : List (S44))) (inner := []) (ok := fun _ => True) (okp := fun _ => True) ?hr ?hp (fun _ hk => hk) trivial (zr _ _) (zn _) (by simp) ?_; (case hd | hg => rfl); (case hr => exact (qK21)); (case hp => exact (zt _ _)); intro v166 w6 ho7 hb hg_ hnew_; clear hg_ hnew_; (first | rw [← Ny165.1] at ho7 | (simp only [Int.reduceToNat] at ho7; rw [← Ny165.1] at ho7)); have HO167 := za (qK106 ho7); replace HB := za qK85; clear hb ho7) | ((with_reducible refine zo (f := 67) rfl ?_); refine zR (some 18) rfl rfl Try.func67 (qK18) rfl #[.string a0, .int .u8 10] rfl (qK5) ?_; (with_reducible refine (spec_l1Split.calls k a0 10 t168 _ A5.1).mono ?_); rintro e w8 ⟨v169, rfl, ho0, hb⟩; refine ⟨_, rfl, ?_⟩; replace HO167 := za (qK83 HO167.1); have HO170 := za (qK106 ho0); replace HB := za qK85; clear hb ho0))
  go_loopg [4, 6] k (fun kq v4 v6 w' => ∃ (x4_1 : List (S44)) (x6_1 : Int), v6 = .int .i64 x6_1 ∧ Aside0 (spec_ReadPlan.l0 kq a0 x4_1 t168 x6_1 = some (r1, r2)) ∧ Aside0 (kq ≤ k) ∧ Aside0 (Kd.R k44 44 w' w.heap.size (fun _ => True) v4 x4_1) ∧ Aside0 (Kd.R Kd.string 9 w' w.heap.size (fun _ => True) v169 t168) ∧ Aside0 (Below w.heap.size w w'))
  case atStart => exact ⟨(y165), (0), (qK17), H', ⟨zn _⟩, ⟨(qK0 HO167.1)⟩, ⟨(qK0 HO170.1)⟩, ⟨(qK2)⟩⟩
  case round =>
   clear H'; (try clear c2b0); (try clear c2b1); obtain ⟨x4_1, x6_1, rfl, HA, HK1, HO_4, HO_5, HB⟩ := hrel
   cases gk with
   | zero => exact zM HA.1 (by simp [spec_ReadPlan.l0])
   | succ k1 =>
    have H := HA.1; clear HA; simp only [spec_ReadPlan.l0] at H
    by_cases c9 : x6_1 < (t168.length : Int)
    ·rw [zX c9] at H; have c9b0 : decide (x6_1 < (t168.length : Int)) = true := zc c9; clear c9; have H' := za H; clear H; obtain ⟨Ao10, co10, eo10⟩ := zE HO_5.1; subst eo10
     go_wp2
     go_loopg [4, 7] k1 (fun kq v4 v7 w' => ∃ (x4_2 : List (S44)) (x7_2 : Int), v7 = .int .i64 x7_2 ∧ Aside0 (spec_ReadPlan.l1 kq a0 x4_2 t168 x6_1 x7_2 = some (r1, r2)) ∧ Aside0 (kq ≤ k1) ∧ Aside0 (Kd.R k44 44 w' w.heap.size (fun _ => True) v4 x4_2) ∧ Aside0 (Kd.R Kd.string 9 w' w.heap.size (fun _ => True) (.slice Ao10 t168.length co10) t168) ∧ Aside0 (Below w.heap.size w w'))
     case atStart => exact ⟨(x4_1), (0), (qK17), H', ⟨zn _⟩, ⟨(qK0 HO_4.1)⟩, ⟨(qK0 HO_5.1)⟩, ⟨(qK2)⟩⟩
     case round =>
      clear H'; (try clear c9b0); obtain ⟨x4_2, x7_2, rfl, HA, HK2, HO_4, HO_5, HB⟩ := hrel
      cases gk with
      | zero => exact zM HA.1 (by simp [spec_ReadPlan.l1])
      | succ k2 =>
       have H := HA.1; clear HA; simp only [spec_ReadPlan.l1] at H
       by_cases c11 : 0 ≤ x6_1
       ·rw [zX c11] at H; have c11b0 : decide (0 ≤ x6_1) = true := zc c11; clear c11
        by_cases c12 : x6_1 < (t168.length : Int)
        ·rw [zX c12] at H; have c12b0 : decide (x6_1 < (t168.length : Int)) = true := zc c12; clear c12
         by_cases c13 : x7_2 < ((rdOf ByteArray.empty t168 x6_1).size : Int)
         ·rw [zX c13] at H; have c13b0 : decide (x7_2 < ((rdOf ByteArray.empty t168 x6_1).size : Int)) = true := zc c13; clear c13
          by_cases c14 : 0 ≤ x7_2
          ·rw [zX c14] at H; have c14b0 := zv c14; have c14b1 : decide (0 ≤ x7_2) = true := zc c14; clear c14
           by_cases c15 : x7_2 ≤ (wrap64 (x7_2 + 1))
           ·rw [zX c15] at H; have c15b0 := zv c15; have c15b1 : decide (x7_2 ≤ (wrap64 (x7_2 + 1))) = true := zc c15
            by_cases c16 : (wrap64 (x7_2 + 1)) ≤ ((rdOf ByteArray.empty t168 x6_1).size : Int)
            ·rw [zX c16] at H; have c16b0 := zv c16; have c16b1 : decide ((wrap64 (x7_2 + 1)) ≤ ((rdOf ByteArray.empty t168 x6_1).size : Int)) = true := zc c16; replace H := bindA H; obtain ⟨t182, A17, H⟩ := H; (try dsimp only at H)
             by_cases c18 : t182 = true
             ·subst c18; rw [zX rfl] at H; have H' := za H; clear H; have p179 : 0 ≤ (x6_1 : Int) := zb (qK12); have q179 : x6_1 < (t168.length : Int) := zb (qK12); obtain ⟨ad179, e179, hx179_0⟩ := Kd.at_string (zD HO_5.1).2.2 x6_1 p179 q179; cases e179; replace p179 := zv p179; replace q179 := zv q179; have p180 : 0 ≤ (x6_1 : Int) := zb (qK12); have q180 : x6_1 < (t168.length : Int) := zb (qK12); obtain ⟨ad180, e180, hx180_0⟩ := Kd.at_string (zD HO_5.1).2.2 x6_1 p180 q180; obtain rfl : ad179 = ad180 := (by injection e180); replace p180 := zv p180; replace q180 := zv q180
              go_wp2_with (first | ((with_reducible refine zp (N := 8) rfl ?_); refine zA ?hg (N := 8) ?hd (cs := #[.string (⟨#[]⟩ : ByteArray), .int .i64 0, .int .i64 0]) (t := 44) ?hr ?_; (case hd | hg => rfl); (case hr => exact (qK21)); intro gb181 hg w19 hbox hb; replace HO_4 := za qK120; replace HO_5 := za (qK83 HO_5.1); have BK181 := za hbox; have GW181 := za qK112; have GE181 := za qK112; replace HB := za qK85; clear hb hbox hg; have hcz20_0 : w19.cell? ⟨gb181, 0, none⟩ = some (.string (⟨#[]⟩ : ByteArray)) := (blk_cell BK181.1 0).trans rfl; have hcz20_1 : w19.cell? ⟨gb181, 1, none⟩ = some (.int .i64 0) := (blk_cell BK181.1 1).trans rfl; have hcz20_2 : w19.cell? ⟨gb181, 2, none⟩ = some (.int .i64 0) := (blk_cell BK181.1 2).trans rfl; have hfz20_0 := ze BK181.1 0; have hfz20_1 := ze BK181.1 1; have hfz20_2 := ze BK181.1 2) | ((with_reducible refine zo (f := 68) rfl ?_); refine zR (some 48) rfl rfl Try.func68 (qK18) rfl #[.string ((rdOf ByteArray.empty t168 x6_1).extract (x7_2 : Int).toNat ((wrap64 (x7_2 + 1)) : Int).toNat)] rfl (qK5) ?_; (with_reducible refine (spec_l13Letter.calls ((rdOf ByteArray.empty t168 x6_1).extract (x7_2 : Int).toNat ((wrap64 (x7_2 + 1)) : Int).toNat) true _ A17.1).mono ?_); rintro e w' ⟨rfl, ⟨nd, rfl⟩⟩; refine ⟨_, rfl, ?_⟩))
              go_loopg [9] k2 (fun kq v9 w' => ∃ (x9_3 : Int), v9 = .int .i64 x9_3 ∧ Aside0 (spec_ReadPlan.l2 kq a0 x4_2 t168 x6_1 x7_2 x9_3 ((rdOf ByteArray.empty t168 x6_1).extract (x7_2 : Int).toNat ((wrap64 (x7_2 + 1)) : Int).toNat) x7_2 (wrap64 (-x6_1)) = some (r1, r2)) ∧ Aside0 (kq ≤ k2) ∧ Aside0 (Kd.R k44 44 w' w.heap.size (fun k_ => k_ ≠ gb181) u4 x4_2) ∧ Aside0 (Kd.R Kd.string 9 w' w.heap.size (fun _ => True) (.slice (some ad179) t168.length co10) t168) ∧ Aside0 (w'.heap[gb181]? = some (.cells #[.string ((rdOf ByteArray.empty t168 x6_1).extract (x7_2 : Int).toNat ((wrap64 (x7_2 + 1)) : Int).toNat), .int .i64 x7_2, .int .i64 (wrap64 (-x6_1))] 44 (0, 0))) ∧ Aside0 (Below w.heap.size w w'))
              case atStart => exact ⟨(0), (qK17), H', ⟨zn _⟩, ⟨(by (with_reducible repeat (first | apply Kd.R_alloc | apply Kd.R_drewN | apply zJ)); exact zF (zG (p := ⟨gb181, 2, none⟩) (zG (p := ⟨gb181, 1, none⟩) (zG (p := ⟨gb181, 0, none⟩) (zF HO_4.1 (fun k_ hk => (⟨hk, hk.2⟩ : _ ∧ k_ ≠ gb181))) (fun _ hk => hk.2) (.string ((rdOf ByteArray.empty t168 x6_1).extract (x7_2 : Int).toNat ((wrap64 (x7_2 + 1)) : Int).toNat))) (fun _ hk => hk.2) (.int .i64 x7_2)) (fun _ hk => hk.2) (.int .i64 (wrap64 (-x6_1)))) (fun _ hk => hk.1.2))⟩, ⟨(qK55)⟩, ⟨(by (with_reducible repeat (first | refine zg ?_ _ | refine zh ?_ | refine zf ?_ _)); refine zi (cs := #[.string ((rdOf ByteArray.empty t168 x6_1).extract (x7_2 : Int).toNat ((wrap64 (x7_2 + 1)) : Int).toNat), .int .i64 x7_2, .int .i64 0]) ?_ 2 _ rfl; (with_reducible repeat (first | refine zg ?_ _ | refine zh ?_ | refine zf ?_ _)); refine zi (cs := #[.string ((rdOf ByteArray.empty t168 x6_1).extract (x7_2 : Int).toNat ((wrap64 (x7_2 + 1)) : Int).toNat), .int .i64 0, .int .i64 0]) ?_ 1 _ rfl; (with_reducible repeat (first | refine zg ?_ _ | refine zh ?_ | refine zf ?_ _)); refine zi (cs := #[.string (⟨#[]⟩ : ByteArray), .int .i64 0, .int .i64 0]) ?_ 0 _ rfl; (with_reducible repeat (first | refine zg ?_ _ | refine zh ?_ | refine zf ?_ _)); exact BK181.1)⟩, ⟨(qK6 GE181.1)⟩⟩
              case round =>
               clear H'; (try clear c11b0); (try clear c12b0); (try clear c13b0); (try clear c14b0); (try clear c14b1); (try clear c15); (try clear c15b0); (try clear c15b1); (try clear c16); (try clear c16b0); (try clear c16b1); (try clear c18); (try clear hcz20_0); (try clear hcz20_1); (try clear hcz20_2); (try clear hfz20_0); (try clear hfz20_1); (try clear hfz20_2); (try clear hx179_0); (try clear hx180_0); (try clear p179); (try clear p180); (try clear q179); (try clear q180); obtain ⟨x9_3, rfl, HA, HK3, HO_4, HO_5, BK181, HB⟩ := hrel
               cases gk with
               | zero => exact zM HA.1 (by simp [spec_ReadPlan.l2])
               | succ k3 =>
                have H := HA.1; clear HA; simp only [spec_ReadPlan.l2] at H
                by_cases c21 : x9_3 < (x4_2.length : Int)
                ·rw [zX c21] at H; have c21b0 : decide (x9_3 < (x4_2.length : Int)) = true := zc c21; clear c21
                 by_cases c22 : 0 ≤ x9_3
                 ·rw [zX c22] at H; have c22b0 : decide (0 ≤ x9_3) = true := zc c22; clear c22
                  by_cases c23 : (Op.bytesLess (((rd_T44 x4_2 x9_3).f0).toList) ((rdOf ByteArray.empty t168 x6_1).extract (x7_2 : Int).toNat ((wrap64 (x7_2 + 1)) : Int).toNat).toList) = true
                  ·rw [zX c23] at H; have c23b0 : (Op.bytesLess (((rd_T44 x4_2 x9_3).f0).toList) ((rdOf ByteArray.empty t168 x6_1).extract (x7_2 : Int).toNat ((wrap64 (x7_2 + 1)) : Int).toNat).toList) = true := c23; clear c23; have H' := za H; clear H
                   try go_wp2
                   replace HO_4 := za (zJ HO_4.1); replace HO_5 := za (zJ HO_5.1); replace BK181 := za (zh BK181.1); replace HB := za (below_drew1 HB.1); obtain ⟨Ao25, co25, eo25⟩ := zE HO_4.1
                   (first | subst eo25 | (injection eo25 with f1_ f2_ f3_; have f4_ := f1_.symm; have f5_ := f3_.symm; clear f1_ f2_ f3_; subst f4_; subst f5_))
                   have p183 : 0 ≤ (x9_3 : Int) := zb (qK12); have q183 : x9_3 < (x4_2.length : Int) := zb (qK12); obtain ⟨ad183, e183, hx183_0, hx183_1, hx183_2⟩ := at_T44 (zD HO_4.1).2.2 x9_3 p183 q183; cases e183; replace p183 := zv p183; replace q183 := zv q183
                   refine start_ (n := 14) (S := fun w' => w'.cell? ⟨gb181, 0, none⟩ = some (.string ((rdOf ByteArray.empty t168 x6_1).extract (x7_2 : Int).toNat ((wrap64 (x7_2 + 1)) : Int).toNat)) ∧ w'.cell? ⟨gb181, 1, none⟩ = some (.int .i64 x7_2) ∧ w'.cell? ⟨gb181, 2, none⟩ = some (.int .i64 (wrap64 (-x6_1))) ∧ w'.cell? (ad183.add ((x9_3).toNat * 3)) = some (.string ((rd_T44 x4_2 x9_3).f0)) ∧ w'.cell? ⟨(ad183.add ((x9_3).toNat * 3)).block, (ad183.add ((x9_3).toNat * 3)).off + 1, none⟩ = some (.int .i64 ((rd_T44 x4_2 x9_3).f1)) ∧ w'.cell? ⟨(ad183.add ((x9_3).toNat * 3)).block, (ad183.add ((x9_3).toNat * 3)).off + 2, none⟩ = some (.int .i64 ((rd_T44 x4_2 x9_3).f2))) (ds := []) qKb44 (qK18) rfl rfl ⟨(blk_cell BK181.1 0).trans rfl, (blk_cell BK181.1 1).trans rfl, (blk_cell BK181.1 2).trans rfl, hx183_0, hx183_1, hx183_2⟩ (fun hHeld => ?_); refine with_tabW spec_ReadPlan.tab14 spec_ReadPlan.bits14 (fun HT_ HW_ => ?_)
                   generalize wr.drew = w24 at HO_4 HO_5 BK181 HB hx183_0 hx183_1 hx183_2 hHeld ⊢
                   refine pure_ (i := 0) (N := some 50) (v := ?_) (a' := ?_) qKb45 rfl rfl (qK9) (fun _ _ _ h => h) (zU ⟨by rfl, ?_⟩) ?_ ?_
                   rotate_left; exact qK8_c1; rotate_left; exact qK8_c0
                   refine pure_ (i := 1) (N := some 51) (v := ?_) (a' := ?_) qKb46 rfl rfl (qK9) (fun _ _ _ h => h) (zU ⟨by rfl, ?_⟩) ?_ ?_
                   rotate_left; exact qK8_c1; rotate_left; exact qK8_c0
                   refine pure_ (i := 2) (N := some 52) (v := ?_) (a' := ?_) qKb47 rfl rfl (qK9) (fun _ _ _ h => h) (zU ⟨by rfl, ?_⟩) ?_ ?_
                   rotate_left; exact qK8_c1; rotate_left; exact qK8_c0
                   refine pure_ (i := 3) (N := some 53) (v := ?_) (a' := ?_) qKb48 rfl rfl (qK9) (fun _ _ _ h => h) (zU ⟨by rfl, ?_⟩) ?_ ?_
                   rotate_left; exact qK8_c1; rotate_left; exact qK8_c0
                   refine pure_ (i := 4) (N := some 54) (v := ?_) (a' := ?_) qKb49 rfl rfl (qK9) (fun _ _ _ h => h) (zU ⟨by rfl, ?_⟩) ?_ ?_
                   rotate_left; exact qK8_c1; rotate_left; exact qK8_c0
                   refine pure_ (i := 5) (N := some 55) (v := ?_) (a' := ?_) qKb50 rfl rfl (qK9) (fun _ _ _ h => h) (zU ⟨by rfl, ?_⟩) ?_ ?_
                   rotate_left; exact qK8_c1; rotate_left; exact qK8_c0
                   refine pure_ (i := 6) (N := some 56) (v := ?_) (a' := ?_) qKb51 rfl rfl (qK9) (fun _ _ _ h => h) (zU ⟨by rfl, ?_⟩) ?_ ?_
                   rotate_left; exact qK8_c1; rotate_left; exact qK8_c0
                   refine pure_ (i := 7) (N := some 57) (v := ?_) (a' := ?_) qKb52 rfl rfl (qK9) (fun _ _ _ h => h) (zU ⟨by rfl, ?_⟩) ?_ ?_
                   rotate_left; exact qK8_c1; rotate_left; exact qK8_c0
                   refine pure_ (i := 8) (N := some 58) (v := ?_) (a' := ?_) qKb53 rfl rfl (qK9) (fun _ _ _ h => h) (zU ⟨by rfl, ?_⟩) ?_ ?_
                   rotate_left; exact qK8_c1; rotate_left; exact qK8_c0
                   refine pure_ (i := 10) (N := some 60) (v := ?_) (a' := ?_) qKb54 rfl rfl (qK9) (fun _ _ _ h => h) (zU ⟨by rfl, ?_⟩) ?_ ?_
                   rotate_left; exact qK8_c1; rotate_left; exact qK8_c0
                   refine take_ (i := 9) (N := some 59) (v := ?_) (a' := ?_) qKb55 rfl rfl (take_ofW HT_.1 HW_.1 (qK18)) (fun _ _ _ h => h) (zU ⟨by rfl, ?_⟩) hHeld ?_ ?_
                   rotate_left
                   ·rintro w' ⟨s0, s1, s2, s3, s4, s5⟩
                    go_simp
                    with_reducible rfl
                   rotate_left
                   ·exact qK8_c0
                   refine take_ (i := 11) (N := some 61) (v := ?_) (a' := ?_) qKb56 rfl rfl (take_ofW HT_.1 HW_.1 (qK18)) (fun _ _ _ h => h) (zU ⟨by rfl, ?_⟩) hHeld ?_ ?_
                   rotate_left
                   ·rintro w' ⟨s0, s1, s2, s3, s4, s5⟩
                    go_simp
                    with_reducible rfl
                   rotate_left
                   ·exact qK8_c0
                   refine pure_ (i := 12) (N := some 62) (v := ?_) (a' := ?_) qKb57 rfl rfl (qK9) (fun _ _ _ h => h) (zU ⟨by rfl, ?_⟩) ?_ ?_
                   rotate_left; exact qK8_c1; rotate_left; exact qK8_c0
                   refine pure_ (i := 13) (N := some 63) (v := ?_) (a' := ?_) qKb58 rfl rfl (qK9) (fun _ _ _ h => h) (zU ⟨by rfl, ?_⟩) ?_ ?_
                   rotate_left; exact qK8_c1; rotate_left; exact qK8_c0
                   refine done_ (qK101) ?_
                   try go_wp2
                   go_roundg k3
                   case measure => have := HK1.1; have := HK2.1; have := HK3.1; omega
                   case rel => exact ⟨(wrap64 (x9_3 + 1)), (qK17), H', ⟨by have := HK1.1; have := HK2.1; have := HK3.1; omega⟩, ⟨(qK0 HO_4.1)⟩, ⟨(qK0 HO_5.1)⟩, ⟨(qK41 BK181.1)⟩, ⟨(qK6 GE181.1)⟩⟩
                  ·rw [zY c23] at H
                   have c23b0 : (Op.bytesLess (((rd_T44 x4_2 x9_3).f0).toList) ((rdOf ByteArray.empty t168 x6_1).extract (x7_2 : Int).toNat ((wrap64 (x7_2 + 1)) : Int).toNat).toList) = false := by simpa using c23
                   clear c23; obtain ⟨y184, hy184⟩ : ∃ y_ : List (S44), y_ = (([] : List (S44))) := ⟨_, rfl⟩; replace H : (if x9_3 ≤ (x4_2.length : Int) then ((some (x4_2.take (x9_3 : Int).toNat : List (S44))).bind fun y187 => (if y184.length + y187.length < 4398046511104 then ((some (y184 ++ y187 : List (S44))).bind fun y191 => ((some (([(⟨((rdOf ByteArray.empty t168 x6_1).extract (x7_2 : Int).toNat ((wrap64 (x7_2 + 1)) : Int).toNat), x7_2, (wrap64 (-x6_1))⟩ : S44)] : List (S44)) : List (S44))).bind fun y194 => (if y191.length + y194.length < 4398046511104 then ((some (y191 ++ y194 : List (S44))).bind fun y197 => ((some (x4_2.drop (x9_3 : Int).toNat : List (S44))).bind fun y200 => (if y197.length + y200.length < 4398046511104 then (spec_ReadPlan.l1 k3 a0 (y197 ++ y200) t168 x6_1 (wrap64 (x7_2 + 1))) else (none)))) else (none)))) else (none))) else (none)) = some (r1, r2) := (qK7 hy184); have Ny184 := za hy184; clear hy184; have c26b0 := zv (zb (qK12) : 0 ≤ x9_3)
                   by_cases c27 : x9_3 ≤ (x4_2.length : Int)
                   ·rw [zX c27] at H; have c27b0 := zv c27; have c27b1 : decide (x9_3 ≤ (x4_2.length : Int)) = true := zc c27; clear c27; obtain ⟨y187, hy187⟩ : ∃ y_ : List (S44), y_ = (x4_2.take (x9_3 : Int).toNat) := ⟨_, rfl⟩; replace H : (if y184.length + y187.length < 4398046511104 then ((some (y184 ++ y187 : List (S44))).bind fun y191 => ((some (([(⟨((rdOf ByteArray.empty t168 x6_1).extract (x7_2 : Int).toNat ((wrap64 (x7_2 + 1)) : Int).toNat), x7_2, (wrap64 (-x6_1))⟩ : S44)] : List (S44)) : List (S44))).bind fun y194 => (if y191.length + y194.length < 4398046511104 then ((some (y191 ++ y194 : List (S44))).bind fun y197 => ((some (x4_2.drop (x9_3 : Int).toNat : List (S44))).bind fun y200 => (if y197.length + y200.length < 4398046511104 then (spec_ReadPlan.l1 k3 a0 (y197 ++ y200) t168 x6_1 (wrap64 (x7_2 + 1))) else (none)))) else (none)))) else (none)) = some (r1, r2) := (qK7 hy187); have Ny187 := za hy187; clear hy187
                    by_cases c28 : y184.length + y187.length < 4398046511104
                    ·rw [zX c28] at H; have LMc28 := za c28; clear c28; obtain ⟨y191, hy191⟩ : ∃ y_ : List (S44), y_ = (y184 ++ y187) := ⟨_, rfl⟩; replace H : ((some (([(⟨((rdOf ByteArray.empty t168 x6_1).extract (x7_2 : Int).toNat ((wrap64 (x7_2 + 1)) : Int).toNat), x7_2, (wrap64 (-x6_1))⟩ : S44)] : List (S44)) : List (S44))).bind fun y194 => (if y191.length + y194.length < 4398046511104 then ((some (y191 ++ y194 : List (S44))).bind fun y197 => ((some (x4_2.drop (x9_3 : Int).toNat : List (S44))).bind fun y200 => (if y197.length + y200.length < 4398046511104 then (spec_ReadPlan.l1 k3 a0 (y197 ++ y200) t168 x6_1 (wrap64 (x7_2 + 1))) else (none)))) else (none))) = some (r1, r2) := (qK7 hy191); have Ny191 := za hy191; clear hy191; obtain ⟨y194, hy194⟩ : ∃ y_ : List (S44), y_ = (([(⟨((rdOf ByteArray.empty t168 x6_1).extract (x7_2 : Int).toNat ((wrap64 (x7_2 + 1)) : Int).toNat), x7_2, (wrap64 (-x6_1))⟩ : S44)] : List (S44))) := ⟨_, rfl⟩; replace H : (if y191.length + y194.length < 4398046511104 then ((some (y191 ++ y194 : List (S44))).bind fun y197 => ((some (x4_2.drop (x9_3 : Int).toNat : List (S44))).bind fun y200 => (if y197.length + y200.length < 4398046511104 then (spec_ReadPlan.l1 k3 a0 (y197 ++ y200) t168 x6_1 (wrap64 (x7_2 + 1))) else (none)))) else (none)) = some (r1, r2) := (qK7 hy194); have Ny194 := za hy194; clear hy194
                     by_cases c29 : y191.length + y194.length < 4398046511104
                     ·rw [zX c29] at H; have LMc29 := za c29; clear c29; obtain ⟨y197, hy197⟩ : ∃ y_ : List (S44), y_ = (y191 ++ y194) := ⟨_, rfl⟩; replace H : ((some (x4_2.drop (x9_3 : Int).toNat : List (S44))).bind fun y200 => (if y197.length + y200.length < 4398046511104 then (spec_ReadPlan.l1 k3 a0 (y197 ++ y200) t168 x6_1 (wrap64 (x7_2 + 1))) else (none))) = some (r1, r2) := (qK7 hy197); have Ny197 := za hy197; clear hy197; have c30b0 := zv (zb (qK12) : 0 ≤ x9_3); have c31b0 := zv (zb (qK12) : x9_3 ≤ (x4_2.length : Int)); obtain ⟨y200, hy200⟩ : ∃ y_ : List (S44), y_ = (x4_2.drop (x9_3 : Int).toNat) := ⟨_, rfl⟩; replace H : (if y197.length + y200.length < 4398046511104 then (spec_ReadPlan.l1 k3 a0 (y197 ++ y200) t168 x6_1 (wrap64 (x7_2 + 1))) else (none)) = some (r1, r2) := (qK7 hy200); have Ny200 := za hy200; clear hy200
                      by_cases c32 : y197.length + y200.length < 4398046511104
                      ·rw [zX c32] at H; have LMc32 := za c32; clear c32; obtain ⟨y204, hy204⟩ : ∃ y_ : List (S44), y_ = (y197 ++ y200) := ⟨_, rfl⟩; replace H : (spec_ReadPlan.l1 k3 a0 y204 t168 x6_1 (wrap64 (x7_2 + 1))) = some (r1, r2) := (qK7 hy204); have Ny204 := za hy204; clear hy204; have H' := za H; clear H
                       try go_wp2
                       replace HO_4 := za (zJ HO_4.1); replace HO_5 := za (zJ HO_5.1); replace BK181 := za (zh BK181.1); replace HB := za (below_drew1 HB.1); obtain ⟨Ao34, co34, eo34⟩ := zE HO_4.1
                       (first | subst eo34 | (injection eo34 with f1_ f2_ f3_; have f4_ := f1_.symm; have f5_ := f3_.symm; clear f1_ f2_ f3_; subst f4_; subst f5_))
                       have p183 : 0 ≤ (x9_3 : Int) := zb (qK12); have q183 : x9_3 < (x4_2.length : Int) := zb (qK12); obtain ⟨ad183, e183, hx183_0, hx183_1, hx183_2⟩ := at_T44 (zD HO_4.1).2.2 x9_3 p183 q183; cases e183; replace p183 := zv p183; replace q183 := zv q183
                       refine start_ (n := 14) (S := fun w' => w'.cell? ⟨gb181, 0, none⟩ = some (.string ((rdOf ByteArray.empty t168 x6_1).extract (x7_2 : Int).toNat ((wrap64 (x7_2 + 1)) : Int).toNat)) ∧ w'.cell? ⟨gb181, 1, none⟩ = some (.int .i64 x7_2) ∧ w'.cell? ⟨gb181, 2, none⟩ = some (.int .i64 (wrap64 (-x6_1))) ∧ w'.cell? (ad183.add ((x9_3).toNat * 3)) = some (.string ((rd_T44 x4_2 x9_3).f0)) ∧ w'.cell? ⟨(ad183.add ((x9_3).toNat * 3)).block, (ad183.add ((x9_3).toNat * 3)).off + 1, none⟩ = some (.int .i64 ((rd_T44 x4_2 x9_3).f1)) ∧ w'.cell? ⟨(ad183.add ((x9_3).toNat * 3)).block, (ad183.add ((x9_3).toNat * 3)).off + 2, none⟩ = some (.int .i64 ((rd_T44 x4_2 x9_3).f2))) (ds := []) qKb44 (qK18) rfl rfl ⟨(blk_cell BK181.1 0).trans rfl, (blk_cell BK181.1 1).trans rfl, (blk_cell BK181.1 2).trans rfl, hx183_0, hx183_1, hx183_2⟩ (fun hHeld => ?_); refine with_tabW spec_ReadPlan.tab14 spec_ReadPlan.bits14 (fun HT_ HW_ => ?_)
                       generalize wr.drew = w33 at HO_4 HO_5 BK181 HB hx183_0 hx183_1 hx183_2 hHeld ⊢
                       refine pure_ (i := 0) (N := some 50) (v := ?_) (a' := ?_) qKb45 rfl rfl (qK9) (fun _ _ _ h => h) (zU ⟨by rfl, ?_⟩) ?_ ?_
                       rotate_left; exact qK8_c1; rotate_left; exact qK8_c0
                       refine pure_ (i := 1) (N := some 51) (v := ?_) (a' := ?_) qKb46 rfl rfl (qK9) (fun _ _ _ h => h) (zU ⟨by rfl, ?_⟩) ?_ ?_
                       rotate_left; exact qK8_c1; rotate_left; exact qK8_c0
                       refine pure_ (i := 2) (N := some 52) (v := ?_) (a' := ?_) qKb47 rfl rfl (qK9) (fun _ _ _ h => h) (zU ⟨by rfl, ?_⟩) ?_ ?_
                       rotate_left; exact qK8_c1; rotate_left; exact qK8_c0
                       refine pure_ (i := 3) (N := some 53) (v := ?_) (a' := ?_) qKb48 rfl rfl (qK9) (fun _ _ _ h => h) (zU ⟨by rfl, ?_⟩) ?_ ?_
                       rotate_left; exact qK8_c1; rotate_left; exact qK8_c0
                       refine pure_ (i := 4) (N := some 54) (v := ?_) (a' := ?_) qKb49 rfl rfl (qK9) (fun _ _ _ h => h) (zU ⟨by rfl, ?_⟩) ?_ ?_
                       rotate_left; exact qK8_c1; rotate_left; exact qK8_c0
                       refine pure_ (i := 5) (N := some 55) (v := ?_) (a' := ?_) qKb50 rfl rfl (qK9) (fun _ _ _ h => h) (zU ⟨by rfl, ?_⟩) ?_ ?_
                       rotate_left; exact qK8_c1; rotate_left; exact qK8_c0
                       refine pure_ (i := 6) (N := some 56) (v := ?_) (a' := ?_) qKb51 rfl rfl (qK9) (fun _ _ _ h => h) (zU ⟨by rfl, ?_⟩) ?_ ?_
                       rotate_left; exact qK8_c1; rotate_left; exact qK8_c0
                       refine pure_ (i := 7) (N := some 57) (v := ?_) (a' := ?_) qKb52 rfl rfl (qK9) (fun _ _ _ h => h) (zU ⟨by rfl, ?_⟩) ?_ ?_
                       rotate_left; exact qK8_c1; rotate_left; exact qK8_c0
                       refine pure_ (i := 8) (N := some 58) (v := ?_) (a' := ?_) qKb53 rfl rfl (qK9) (fun _ _ _ h => h) (zU ⟨by rfl, ?_⟩) ?_ ?_
                       rotate_left; exact qK8_c1; rotate_left; exact qK8_c0
                       refine pure_ (i := 10) (N := some 60) (v := ?_) (a' := ?_) qKb54 rfl rfl (qK9) (fun _ _ _ h => h) (zU ⟨by rfl, ?_⟩) ?_ ?_
                       rotate_left; exact qK8_c1; rotate_left; exact qK8_c0
                       refine take_ (i := 9) (N := some 59) (v := ?_) (a' := ?_) qKb55 rfl rfl (take_ofW HT_.1 HW_.1 (qK18)) (fun _ _ _ h => h) (zU ⟨by rfl, ?_⟩) hHeld ?_ ?_
                       rotate_left
                       ·rintro w' ⟨s0, s1, s2, s3, s4, s5⟩
                        go_simp
                        with_reducible rfl
                       rotate_left
                       ·exact qK8_c0
                       refine take_ (i := 11) (N := some 61) (v := ?_) (a' := ?_) qKb56 rfl rfl (take_ofW HT_.1 HW_.1 (qK18)) (fun _ _ _ h => h) (zU ⟨by rfl, ?_⟩) hHeld ?_ ?_
                       rotate_left
                       ·rintro w' ⟨s0, s1, s2, s3, s4, s5⟩
                        go_simp
                        with_reducible rfl
                       rotate_left
                       ·exact qK8_c0
                       refine pure_ (i := 12) (N := some 62) (v := ?_) (a' := ?_) qKb57 rfl rfl (qK9) (fun _ _ _ h => h) (zU ⟨by rfl, ?_⟩) ?_ ?_
                       rotate_left; exact qK8_c1; rotate_left; exact qK8_c0
                       refine pure_ (i := 13) (N := some 63) (v := ?_) (a' := ?_) qKb58 rfl rfl (qK9) (fun _ _ _ h => h) (zU ⟨by rfl, ?_⟩) ?_ ?_
                       rotate_left; exact qK8_c1; rotate_left; exact qK8_c0
                       refine done_ (qK101) ?_
                       try go_wp2
                       replace HO_4 := za (zJ HO_4.1); replace HO_5 := za (zJ HO_5.1); replace BK181 := za (zh BK181.1); replace HB := za (below_drew1 HB.1); have q36 : (x9_3 : Int) ≤ ((x4_2.length : Int) : Int) := zb (qK12); obtain ⟨i036, hi036, _, hsz36, _⟩ := info_parts info44; have hroom36 : x4_2.length ≤ co34 := (zD HO_4.1).2.1; have hC36 : Kd.C k44 _ (some ad183) x4_2.length x4_2 := (zD HO_4.1).2.2; have hcut36 := cut_to (P := Try.prog) 26 44 .i64 Try.underlying26 hi036 (some ad183) x4_2.length co34 x9_3 (zb (qK12)) q36 hroom36; have hr36 := Kd.C_take (m := (x9_3 : Int).toNat) hC36 (by omega); have hy36 : y187.length = (x9_3 : Int).toNat := (by rw [Ny187.1, List.length_take]; omega); rw [← Ny187.1] at hr36; rw [← hy36] at hcut36; have HR190 := za hr36
                       have HC190 := za (by exact show y187.length ≤ co34 from by omega)
                       clear hr36 hC36 hroom36 hi036 hsz36; have KY36 := za hy36; clear hy36; have KL36 := za qK64; replace q36 := zv q36; have q37 : (x9_3 : Int) ≤ ((x4_2.length : Int) : Int) := zb (qK12); obtain ⟨i037, hi037, _, hsz37, _⟩ := info_parts info44; have hroom37 : x4_2.length ≤ co34 := (zD HO_4.1).2.1; have hC37 : Kd.C k44 _ (some ad183) x4_2.length x4_2 := (zD HO_4.1).2.2; have q037 : (0 : Int) ≤ (x9_3 : Int) := zb (qK12); have hcut37 := cut_from (P := Try.prog) 26 44 .i64 Try.underlying26 hi037 3 hsz37 (some ad183) x4_2.length co34 x9_3 q037 q37; have hr37 := Kd.C_drop (m := (x9_3 : Int).toNat) (c := co34) hC37 (by omega) hroom37; obtain ⟨A37, hA37⟩ : ∃ A1, A1 = (if co34 = (x9_3 : Int).toNat then (some ad183) else ((some ad183) : Option Addr).map (·.add ((x9_3 : Int).toNat * 3))) := ⟨_, rfl⟩; obtain ⟨c37, hc37⟩ : ∃ c1, c1 = co34 - (x9_3 : Int).toNat := ⟨_, rfl⟩; have hy37 : y200.length = x4_2.length - (x9_3 : Int).toNat := (by rw [Ny200.1, List.length_drop] <;> omega); rw [show (x4_2).drop (x9_3 : Int).toNat = y200 from Ny200.1.symm] at hr37; replace hr37 : Kd.C k44 _ A37 y200.length y200 := (by rw [hA37]; exact hr37); rw [← hy37, ← hA37, ← hc37] at hcut37; have HR203 := za hr37
                       have HC203 := za (by exact show y200.length ≤ c37 from by rw [hy37, hc37]; exact Nat.sub_le_sub_right hroom37 _)
                       clear hr37 hC37 hroom37 hi037 hsz37 hc37; have KY37 := za hy37; have KA37 := za hA37; clear hy37 hA37; have KL37 := za qK64; replace q37 := zv q37
                       refine start_ (n := 13) (S := fun w' => w'.cell? ⟨gb181, 0, none⟩ = some (.string ((rdOf ByteArray.empty t168 x6_1).extract (x7_2 : Int).toNat ((wrap64 (x7_2 + 1)) : Int).toNat)) ∧ w'.cell? ⟨gb181, 1, none⟩ = some (.int .i64 x7_2) ∧ w'.cell? ⟨gb181, 2, none⟩ = some (.int .i64 (wrap64 (-x6_1)))) (ds := []) qKb59 (qK18) rfl rfl ⟨(blk_cell BK181.1 0).trans rfl, (blk_cell BK181.1 1).trans rfl, (blk_cell BK181.1 2).trans rfl⟩ (fun hHeld => ?_); refine with_tabW spec_ReadPlan.tab16 spec_ReadPlan.bits16 (fun HT_ HW_ => ?_)
                       generalize w33.drew = w35 at HO_4 HO_5 BK181 HB HR190 HR203 hHeld ⊢
                       refine pure_ (i := 1) (N := some 67) (v := ?_) (a' := ?_) qKb60 rfl rfl (qK9) (fun _ _ _ h => h) (zU ⟨by rfl, ?_⟩) ?_ ?_
                       rotate_left; exact qK8_c1; rotate_left; exact qK8_c0
                       refine pure_ (i := 2) (N := some 68) (v := ?_) (a' := ?_) qKb61 rfl rfl (qK9) (fun _ _ _ h => h) (zU ⟨by rfl, ?_⟩) ?_ ?_
                       rotate_left; exact qK8_c1; rotate_left; exact qK8_c0
                       refine pure_ (i := 3) (N := some 69) (v := ?_) (a' := ?_) qKb62 rfl rfl (qK9) (fun _ _ _ h => h) (zU ⟨by rfl, ?_⟩) ?_ ?_
                       rotate_left; exact qK8_c1; rotate_left; exact qK8_c0
                       refine pure_ (i := 8) (N := some 74) (v := ?_) (a' := ?_) qKb63 rfl rfl (qK9) (fun _ _ _ h => h) (zU ⟨by rfl, ?_⟩) ?_ ?_
                       rotate_left; exact qK8_c1; rotate_left; exact qK8_c0
                       refine pure_ (i := 9) (N := some 75) (v := ?_) (a' := ?_) qKb64 rfl rfl (qK9) (fun _ _ _ h => h) (zU ⟨by rfl, ?_⟩) ?_ ?_
                       rotate_left; exact qK8_c1; rotate_left; exact qK8_c0
                       refine pure_ (i := 10) (N := some 76) (v := ?_) (a' := ?_) qKb65 rfl rfl (qK9) (fun _ _ _ h => h) (zU ⟨by rfl, ?_⟩) ?_ ?_
                       rotate_left; exact qK8_c1; rotate_left; exact qK8_c0
                       refine take_ (i := 5) (N := some 71) (v := ?_) (a' := ?_) qKb66 rfl rfl (take_ofW HT_.1 HW_.1 (qK18)) (fun _ _ _ h => h) (zU ⟨by rfl, ?_⟩) hHeld ?_ ?_
                       rotate_left
                       ·rintro w' ⟨s0, s1, s2⟩
                        go_simp
                        with_reducible rfl
                       rotate_left
                       ·exact qK8_c0
                       refine join_ (σ := Value × Value × Value) 3 qKb67 (fun s_ => [(66, s_.1), (70, s_.2.1), (72, s_.2.2)]) (fun s_ w' => (w'.cell? ⟨gb181, 0, none⟩ = some (.string ((rdOf ByteArray.empty t168 x6_1).extract (x7_2 : Int).toNat ((wrap64 (x7_2 + 1)) : Int).toNat)) ∧ w'.cell? ⟨gb181, 1, none⟩ = some (.int .i64 x7_2) ∧ w'.cell? ⟨gb181, 2, none⟩ = some (.int .i64 (wrap64 (-x6_1)))) ∧ (Kd.R k44 44 w' w.heap.size (fun k_ => some k_ ≠ (s_.2.2 : Value).ownBlock ∧ some k_ ≠ (.slice (some ad183) x4_2.length co34 : Value).ownBlock ∧ k_ ≠ gb181) s_.2.1 y191) ∧ (Kd.R k44 44 w' w.heap.size (fun k_ => some k_ ≠ (s_.2.1 : Value).ownBlock ∧ some k_ ≠ (.slice (some ad183) x4_2.length co34 : Value).ownBlock ∧ k_ ≠ gb181) s_.2.2 y194) ∧ (Kd.R k44 44 w' w.heap.size (fun k_ => some k_ ≠ (s_.2.1 : Value).ownBlock ∧ some k_ ≠ (s_.2.2 : Value).ownBlock ∧ k_ ≠ gb181) (.slice (some ad183) x4_2.length co34) x4_2) ∧ (Kd.R Kd.string 9 w' w.heap.size (fun _ => True) (.slice (some ad179) t168.length co10) t168) ∧ (w'.heap[gb181]? = some (.cells #[.string ((rdOf ByteArray.empty t168 x6_1).extract (x7_2 : Int).toNat ((wrap64 (x7_2 + 1)) : Int).toNat), .int .i64 x7_2, .int .i64 (wrap64 (-x6_1))] 44 (0, 0))) ∧ (Below w.heap.size w w')) ?_ ?_
                       rotate_left
                       ·intro hCont
                        refine two_ (i := 0) (j := 6) (Ni := some 66) (Nj := some 72) qKb68 qKb69 rfl rfl rfl rfl (two_of HT_.1 (qK18)) (by decide) (by decide) (fun K hK => ?_) (fun K hK => ?_)
                        ·skip
                         refine Kd.R_lit_step k44 _ 44 ?hg (N := 66) ?hd (xs := ([] : List (S44))) (inner := []) (ok := fun _ => True) (okp := fun _ => True) ?hr ?hp (fun _ hk => hk) trivial (zr _ _) (zn _) (by simp) ?_; (case hd | hg => rfl); (case hr => exact (qK21)); (case hp => exact (zt _ _))
                         intro v185 w38 ho39 hb hg_ hnew_; clear hg_ hnew_
                         (first | rw [← Ny184.1] at ho39 | (simp only [Int.reduceToNat] at ho39; rw [← Ny184.1] at ho39))
                         replace HO_5 := za (qK83 HO_5.1); have HO186 := za (zK (Kd.R_newB (Kd.R_new' ho39 (Kd.R_lt (qK0 HO_4.1))) (qB BK181.1)) (zT (qK6 GE181.1))); replace HO_4 := za (qK86 HO_4.1 ho39); replace BK181 := za (zk (qB BK181.1) hb); replace HR190 := za (zC (qK16 HR190.1) hb); replace HR203 := za (zC (qK16 HR203.1) hb); replace HB := za (zS (qK6 GE181.1) hb); clear hb ho39
                         refine hK.out _ _ ⟨(blk_cell BK181.1 0).trans rfl, (blk_cell BK181.1 1).trans rfl, (blk_cell BK181.1 2).trans rfl⟩ (fun hHeld => ?_)
                         clear hK K
                         refine norm_ (a' := ?_) ?_ ?_
                         rotate_left
                         ·exact qK8_c4
                         refine two_ (i := 4) (j := 6) (Ni := some 70) (Nj := some 72) qKb70 qKb71 rfl rfl rfl rfl (two_of HT_.1 (qK18)) (by decide) (by decide) (fun K hK => ?_) (fun K hK => ?_)
                         ·skip
                          refine zH k44 (w0 := w) w.heap.size (by rfl) (.tmp 66) (.tmp 69) 26 44 (.agg #[(.string ⟨#[]⟩), (.int .i64 0), (.int .i64 0)]) 32 rfl Try.underlying26 info44 rfl (by decide) (by omega) v185 y184 y187 _ _ _ (fun k_ => some k_ ≠ (.slice (some ad183) x4_2.length co34 : Value).ownBlock ∧ k_ ≠ gb181) (fun _ => False) rfl rfl ?aO ?aR (fun _ _ h => h) (fun _ h => h.elim) ?aF ?aB ?aS ?aL ?_
                          (case aR => exact (qK87 HR190.1))
                          (case aB => exact (qK6 GE181.1))
                          (case aF => exact (qK117))
                          (case aO => exact (qK78 HO186.1))
                          (case aS => exact (qK104))
                          (case aL => have := LMc28.1; omega)
                          intro v192 w40 ho hb hg hat; rw [← Ny191.1] at ho; replace HO_5 := za (qK94 HO_5.1 HO186.1); replace BK181 := za (qK77 BK181.1 HO186.1); replace HB := za hb
                          replace HR190 := za (by exact (show Kd.C k44 w40 (some ad183) y187.length y187 from by rw [Ny187.1]; exact Kd.C_take (m := (x9_3 : Int).toNat) ((zD (Kd.R_after (ok := (fun k_ => k_ ≠ gb181)) (qK0 HO_4.1) hg hat)).2.2) KL36.1))
                          replace HR203 := za (by exact (show Kd.C k44 w40 A37 y200.length y200 from by rw [Ny200.1, KA37.1]; exact Kd.C_drop (m := (x9_3 : Int).toNat) (c := co34) ((zD (Kd.R_after (ok := (fun k_ => k_ ≠ gb181)) (qK0 HO_4.1) hg hat)).2.2) KL37.1 ((zD (Kd.R_after (ok := (fun k_ => k_ ≠ gb181)) (qK0 HO_4.1) hg hat)).2.1)))
                          replace HO_4 := za (by exact Kd.R_after (ok := (fun k_ => k_ ≠ gb181)) (qK0 HO_4.1) hg hat); have HO193 := za ho; clear HO186; clear ho hb hg hat
                          refine hK.out _ _ ⟨(blk_cell BK181.1 0).trans rfl, (blk_cell BK181.1 1).trans rfl, (blk_cell BK181.1 2).trans rfl⟩ (fun hHeld => ?_)
                          clear hK K
                          refine norm_ (a' := ?_) ?_ ?_
                          rotate_left
                          ·exact qK8_c2
                          refine one_ (i := 6) (N := some 72) qKb67 rfl rfl (qK88) (by decide) (fun K hK => ?_)
                          refine Kd.R_lit_step k44 _ 44 ?hg (N := 72) ?hd (xs := ([(⟨((rdOf ByteArray.empty t168 x6_1).extract (x7_2 : Int).toNat ((wrap64 (x7_2 + 1)) : Int).toNat), x7_2, (wrap64 (-x6_1))⟩ : S44)] : List (S44))) (inner := [.string ((rdOf ByteArray.empty t168 x6_1).extract (x7_2 : Int).toNat ((wrap64 (x7_2 + 1)) : Int).toNat), .int .i64 x7_2, .int .i64 (wrap64 (-x6_1))]) (ok := fun _ => True) (okp := fun _ => True) ?hr ?hp (fun _ hk => hk) trivial (zr _ _) (zn _) (by simp) ?_; (case hd | hg => rfl); (case hr => exact (qK21)); (case hp => exact (qK28))
                          intro v195 w41 ho42 hb hg_ hnew_; clear hg_ hnew_
                          (first | rw [← Ny194.1] at ho42 | (simp only [Int.reduceToNat] at ho42; rw [← Ny194.1] at ho42))
                          replace HO_5 := za (qK83 HO_5.1); have HO196 := za (zK (Kd.R_newB (Kd.R_new' (Kd.R_new' ho42 (Kd.R_lt (qK0 HO_4.1))) (Kd.R_lt (qK0 HO193.1))) (qB BK181.1)) (zT (qK6 GE181.1))); replace HO_4 := za (qK86 HO_4.1 ho42); replace HO193 := za (qK86 HO193.1 ho42); replace BK181 := za (zk (qB BK181.1) hb); replace HR190 := za (zC (qK16 HR190.1) hb); replace HR203 := za (zC (qK16 HR203.1) hb); replace HB := za (zS (qK6 GE181.1) hb); clear hb ho42
                          refine hK.out _ _ ⟨(blk_cell BK181.1 0).trans rfl, (blk_cell BK181.1 1).trans rfl, (blk_cell BK181.1 2).trans rfl⟩ (fun hHeld => ?_)
                          clear hK K
                          refine norm_ (a' := ?_) ?_ ?_
                          rotate_left
                          ·exact qK8_c3
                          exact norm_ (qK57) (hCont (v185, v192, v195) _ ⟨hHeld, (qK38 HO193.1), (qK73 HO196.1), (qK65), (qK0 HO_5.1), (qK41 BK181.1), (qK6 GE181.1)⟩)
                         ·skip
                          refine Kd.R_lit_step k44 _ 44 ?hg (N := 72) ?hd (xs := ([(⟨((rdOf ByteArray.empty t168 x6_1).extract (x7_2 : Int).toNat ((wrap64 (x7_2 + 1)) : Int).toNat), x7_2, (wrap64 (-x6_1))⟩ : S44)] : List (S44))) (inner := [.string ((rdOf ByteArray.empty t168 x6_1).extract (x7_2 : Int).toNat ((wrap64 (x7_2 + 1)) : Int).toNat), .int .i64 x7_2, .int .i64 (wrap64 (-x6_1))]) (ok := fun _ => True) (okp := fun _ => True) ?hr ?hp (fun _ hk => hk) trivial (zr _ _) (zn _) (by simp) ?_; (case hd | hg => rfl); (case hr => exact (qK21)); (case hp => exact (qK28))
                          intro v195 w40 ho41 hb hg_ hnew_; clear hg_ hnew_
                          (first | rw [← Ny194.1] at ho41 | (simp only [Int.reduceToNat] at ho41; rw [← Ny194.1] at ho41))
                          replace HO_5 := za (qK83 HO_5.1); have HO196 := za (zK (Kd.R_newB (Kd.R_new' (Kd.R_new' ho41 (Kd.R_lt (qK0 HO_4.1))) (Kd.R_lt (qK0 HO186.1))) (qB BK181.1)) (zT (qK6 GE181.1))); replace HO_4 := za (qK86 HO_4.1 ho41); replace HO186 := za (qK86 HO186.1 ho41); replace BK181 := za (zk (qB BK181.1) hb); replace HR190 := za (zC (qK16 HR190.1) hb); replace HR203 := za (zC (qK16 HR203.1) hb); replace HB := za (zS (qK6 GE181.1) hb); clear hb ho41
                          refine hK.out _ _ ⟨(blk_cell BK181.1 0).trans rfl, (blk_cell BK181.1 1).trans rfl, (blk_cell BK181.1 2).trans rfl⟩ (fun hHeld => ?_)
                          clear hK K
                          refine norm_ (a' := ?_) ?_ ?_
                          rotate_left
                          ·exact qK8_c3
                          refine one_ (i := 4) (N := some 70) qKb67 rfl rfl (qK88) (by decide) (fun K hK => ?_)
                          refine zH k44 (w0 := w) w.heap.size (by rfl) (.tmp 66) (.tmp 69) 26 44 (.agg #[(.string ⟨#[]⟩), (.int .i64 0), (.int .i64 0)]) 32 rfl Try.underlying26 info44 rfl (by decide) (by omega) v185 y184 y187 _ _ _ (fun k_ => some k_ ≠ (.slice (some ad183) x4_2.length co34 : Value).ownBlock ∧ some k_ ≠ (v195 : Value).ownBlock ∧ k_ ≠ gb181) (fun _ => False) rfl rfl ?aO ?aR (fun _ _ h => h) (fun _ h => h.elim) ?aF ?aB ?aS ?aL ?_
                          (case aR => exact (qK87 HR190.1))
                          (case aB => exact (qK6 GE181.1))
                          (case aF => exact (qK92 HO_4.1 HO196.1 BK181.1))
                          (case aO => exact (qK74 HO186.1))
                          (case aS => exact (qK104))
                          (case aL => have := LMc28.1; omega)
                          intro v192 w42 ho hb hg hat; rw [← Ny191.1] at ho; replace HO_5 := za (qK94 HO_5.1 HO186.1); replace BK181 := za (by exact blk_grown (qB BK181.1) hg (Kd.R_away HO186.1 (fun _ hk => hk.1.2))); replace HO196 := za (by exact Kd.R_after (ok := (fun k_ => some k_ ≠ (.slice (some ad183) x4_2.length co34 : Value).ownBlock ∧ k_ ≠ gb181)) (qK71 HO196.1) hg hat); replace HB := za hb
                          replace HR190 := za (by exact (show Kd.C k44 w42 (some ad183) y187.length y187 from by rw [Ny187.1]; exact Kd.C_take (m := (x9_3 : Int).toNat) ((zD (Kd.R_after (ok := (fun k_ => some k_ ≠ (v195 : Value).ownBlock ∧ k_ ≠ gb181)) (qK39) hg hat)).2.2) KL36.1))
                          replace HR203 := za (by exact (show Kd.C k44 w42 A37 y200.length y200 from by rw [Ny200.1, KA37.1]; exact Kd.C_drop (m := (x9_3 : Int).toNat) (c := co34) ((zD (Kd.R_after (ok := (fun k_ => some k_ ≠ (v195 : Value).ownBlock ∧ k_ ≠ gb181)) (qK39) hg hat)).2.2) KL37.1 ((zD (Kd.R_after (ok := (fun k_ => some k_ ≠ (v195 : Value).ownBlock ∧ k_ ≠ gb181)) (qK39) hg hat)).2.1)))
                          replace HO_4 := za (by exact Kd.R_after (ok := (fun k_ => some k_ ≠ (v195 : Value).ownBlock ∧ k_ ≠ gb181)) (qK39) hg hat); have HO193 := za ho; clear HO186; clear ho hb hg hat
                          refine hK.out _ _ ⟨(blk_cell BK181.1 0).trans rfl, (blk_cell BK181.1 1).trans rfl, (blk_cell BK181.1 2).trans rfl⟩ (fun hHeld => ?_)
                          clear hK K
                          refine norm_ (a' := ?_) ?_ ?_
                          rotate_left
                          ·exact qK8_c2
                          exact norm_ (qK57) (hCont (v185, v192, v195) _ ⟨hHeld, (qK50 HO193.1), (qK38 HO196.1), (qK38 HO_4.1), (qK0 HO_5.1), (qK41 BK181.1), (qK6 GE181.1)⟩)
                        ·skip
                         refine Kd.R_lit_step k44 _ 44 ?hg (N := 72) ?hd (xs := ([(⟨((rdOf ByteArray.empty t168 x6_1).extract (x7_2 : Int).toNat ((wrap64 (x7_2 + 1)) : Int).toNat), x7_2, (wrap64 (-x6_1))⟩ : S44)] : List (S44))) (inner := [.string ((rdOf ByteArray.empty t168 x6_1).extract (x7_2 : Int).toNat ((wrap64 (x7_2 + 1)) : Int).toNat), .int .i64 x7_2, .int .i64 (wrap64 (-x6_1))]) (ok := fun _ => True) (okp := fun _ => True) ?hr ?hp (fun _ hk => hk) trivial (zr _ _) (zn _) (by simp) ?_; (case hd | hg => rfl); (case hr => exact (qK21)); (case hp => exact (qK28))
                         intro v195 w38 ho39 hb hg_ hnew_; clear hg_ hnew_
                         (first | rw [← Ny194.1] at ho39 | (simp only [Int.reduceToNat] at ho39; rw [← Ny194.1] at ho39))
                         replace HO_5 := za (qK83 HO_5.1); have HO196 := za (zK (Kd.R_newB (Kd.R_new' ho39 (Kd.R_lt (qK0 HO_4.1))) (qB BK181.1)) (zT (qK6 GE181.1))); replace HO_4 := za (qK86 HO_4.1 ho39); replace BK181 := za (zk (qB BK181.1) hb); replace HR190 := za (zC (qK16 HR190.1) hb); replace HR203 := za (zC (qK16 HR203.1) hb); replace HB := za (zS (qK6 GE181.1) hb); clear hb ho39
                         refine hK.out _ _ ⟨(blk_cell BK181.1 0).trans rfl, (blk_cell BK181.1 1).trans rfl, (blk_cell BK181.1 2).trans rfl⟩ (fun hHeld => ?_)
                         clear hK K
                         refine norm_ (a' := ?_) ?_ ?_
                         rotate_left
                         ·exact qK8_c3
                         refine one_ (i := 0) (N := some 66) qKb71 rfl rfl (qK88) (by decide) (fun K hK => ?_)
                         refine Kd.R_lit_step k44 _ 44 ?hg (N := 66) ?hd (xs := ([] : List (S44))) (inner := []) (ok := fun _ => True) (okp := fun _ => True) ?hr ?hp (fun _ hk => hk) trivial (zr _ _) (zn _) (by simp) ?_; (case hd | hg => rfl); (case hr => exact (qK21)); (case hp => exact (zt _ _))
                         intro v185 w40 ho41 hb hg_ hnew_; clear hg_ hnew_
                         (first | rw [← Ny184.1] at ho41 | (simp only [Int.reduceToNat] at ho41; rw [← Ny184.1] at ho41))
                         replace HO_5 := za (qK83 HO_5.1); have HO186 := za (zK (Kd.R_newB (Kd.R_new' (Kd.R_new' ho41 (Kd.R_lt (qK0 HO_4.1))) (Kd.R_lt (qK0 HO196.1))) (qB BK181.1)) (zT (qK6 GE181.1))); replace HO_4 := za (qK86 HO_4.1 ho41); replace HO196 := za (qK86 HO196.1 ho41); replace BK181 := za (zk (qB BK181.1) hb); replace HR190 := za (zC (qK16 HR190.1) hb); replace HR203 := za (zC (qK16 HR203.1) hb); replace HB := za (zS (qK6 GE181.1) hb); clear hb ho41
                         refine hK.out _ _ ⟨(blk_cell BK181.1 0).trans rfl, (blk_cell BK181.1 1).trans rfl, (blk_cell BK181.1 2).trans rfl⟩ (fun hHeld => ?_)
                         clear hK K
                         refine norm_ (a' := ?_) ?_ ?_
                         rotate_left
                         ·exact qK8_c4
                         refine one_ (i := 4) (N := some 70) qKb67 rfl rfl (qK88) (by decide) (fun K hK => ?_)
                         refine zH k44 (w0 := w) w.heap.size (by rfl) (.tmp 66) (.tmp 69) 26 44 (.agg #[(.string ⟨#[]⟩), (.int .i64 0), (.int .i64 0)]) 32 rfl Try.underlying26 info44 rfl (by decide) (by omega) v185 y184 y187 _ _ _ (fun k_ => some k_ ≠ (.slice (some ad183) x4_2.length co34 : Value).ownBlock ∧ some k_ ≠ (v195 : Value).ownBlock ∧ k_ ≠ gb181) (fun _ => False) rfl rfl ?aO ?aR (fun _ _ h => h) (fun _ h => h.elim) ?aF ?aB ?aS ?aL ?_
                         (case aR => exact (qK87 HR190.1))
                         (case aB => exact (qK6 GE181.1))
                         (case aF => exact (qK92 HO_4.1 HO196.1 BK181.1))
                         (case aO => exact (qK75 HO186.1))
                         (case aS => exact (qK104))
                         (case aL => have := LMc28.1; omega)
                         intro v192 w42 ho hb hg hat; rw [← Ny191.1] at ho; replace HO_5 := za (qK94 HO_5.1 HO186.1); replace BK181 := za (qK77 BK181.1 HO186.1); replace HO196 := za (by exact Kd.R_after (ok := (fun k_ => some k_ ≠ (.slice (some ad183) x4_2.length co34 : Value).ownBlock ∧ k_ ≠ gb181)) (qK72 HO196.1) hg hat); replace HB := za hb
                         replace HR190 := za (by exact (show Kd.C k44 w42 (some ad183) y187.length y187 from by rw [Ny187.1]; exact Kd.C_take (m := (x9_3 : Int).toNat) ((zD (Kd.R_after (ok := (fun k_ => some k_ ≠ (v195 : Value).ownBlock ∧ k_ ≠ gb181)) (qK40) hg hat)).2.2) KL36.1))
                         replace HR203 := za (by exact (show Kd.C k44 w42 A37 y200.length y200 from by rw [Ny200.1, KA37.1]; exact Kd.C_drop (m := (x9_3 : Int).toNat) (c := co34) ((zD (Kd.R_after (ok := (fun k_ => some k_ ≠ (v195 : Value).ownBlock ∧ k_ ≠ gb181)) (qK40) hg hat)).2.2) KL37.1 ((zD (Kd.R_after (ok := (fun k_ => some k_ ≠ (v195 : Value).ownBlock ∧ k_ ≠ gb181)) (qK40) hg hat)).2.1)))
                         replace HO_4 := za (by exact Kd.R_after (ok := (fun k_ => some k_ ≠ (v195 : Value).ownBlock ∧ k_ ≠ gb181)) (qK40) hg hat); have HO193 := za ho; clear HO186; clear ho hb hg hat
                         refine hK.out _ _ ⟨(blk_cell BK181.1 0).trans rfl, (blk_cell BK181.1 1).trans rfl, (blk_cell BK181.1 2).trans rfl⟩ (fun hHeld => ?_)
                         clear hK K
                         refine norm_ (a' := ?_) ?_ ?_
                         rotate_left
                         ·exact qK8_c2
                         exact norm_ (qK57) (hCont (v185, v192, v195) _ ⟨hHeld, (qK50 HO193.1), (qK38 HO196.1), (qK38 HO_4.1), (qK0 HO_5.1), (qK41 BK181.1), (qK6 GE181.1)⟩)
                       rintro ⟨v185, v192, v195⟩ w43 ⟨hS_, h0_, h1_, h2_, h3_, h4_, h5_⟩
                       have HO193 : Aside0 (Kd.R k44 44 w43 w.heap.size (fun k_ => some k_ ≠ (v195 : Value).ownBlock ∧ some k_ ≠ (.slice (some ad183) x4_2.length co34 : Value).ownBlock ∧ k_ ≠ gb181) v192 y191) := ⟨h0_⟩; have HO196 : Aside0 (Kd.R k44 44 w43 w.heap.size (fun k_ => some k_ ≠ (v192 : Value).ownBlock ∧ some k_ ≠ (.slice (some ad183) x4_2.length co34 : Value).ownBlock ∧ k_ ≠ gb181) v195 y194) := ⟨h1_⟩; replace HO_4 : Aside0 (Kd.R k44 44 w43 w.heap.size (fun k_ => some k_ ≠ (v192 : Value).ownBlock ∧ some k_ ≠ (v195 : Value).ownBlock ∧ k_ ≠ gb181) (.slice (some ad183) x4_2.length co34) x4_2) := ⟨h2_⟩; replace HO_5 : Aside0 (Kd.R Kd.string 9 w43 w.heap.size (fun _ => True) (.slice (some ad179) t168.length co10) t168) := ⟨h3_⟩; replace BK181 : Aside0 (w43.heap[gb181]? = some (.cells #[.string ((rdOf ByteArray.empty t168 x6_1).extract (x7_2 : Int).toNat ((wrap64 (x7_2 + 1)) : Int).toNat), .int .i64 x7_2, .int .i64 (wrap64 (-x6_1))] 44 (0, 0))) := ⟨h4_⟩; replace HB : Aside0 (Below w.heap.size w w43) := ⟨h5_⟩; clear h0_ h1_ h2_ h3_ h4_ h5_; have hHeld : w43.cell? ⟨gb181, 0, none⟩ = some (.string ((rdOf ByteArray.empty t168 x6_1).extract (x7_2 : Int).toNat ((wrap64 (x7_2 + 1)) : Int).toNat)) ∧ w43.cell? ⟨gb181, 1, none⟩ = some (.int .i64 x7_2) ∧ w43.cell? ⟨gb181, 2, none⟩ = some (.int .i64 (wrap64 (-x6_1))) := hS_; clear HR190
                       have HR190 := za (by exact show Kd.C k44 w43 (some ad183) y187.length y187 from by rw [Ny187.1]; exact Kd.C_take (m := (x9_3 : Int).toNat) ((zD HO_4.1).2.2) KL36.1)
                       clear HR203
                       have HR203 := za (by exact show Kd.C k44 w43 A37 y200.length y200 from by rw [Ny200.1, KA37.1]; exact Kd.C_drop (m := (x9_3 : Int).toNat) (c := co34) ((zD HO_4.1).2.2) KL37.1 ((zD HO_4.1).2.1))
                       obtain ⟨Ao45, co45, eo45⟩ := zE HO196.1
                       (first | subst eo45 | (injection eo45 with f1_ f2_ f3_; have f4_ := f1_.symm; have f5_ := f3_.symm; clear f1_ f2_ f3_; subst f4_; subst f5_))
                       refine norm_ (a' := ?_) ?_ ?_
                       rotate_left
                       ·simp only [putAll, Act.put, yb, yc, yd]
                        rfl
                       refine one_ (i := 7) (N := some 73) qKb72 rfl rfl (qK88) (by decide) (fun K hK => ?_)
                       refine zH k44 (w0 := w) w.heap.size (by rfl) (.tmp 70) (.tmp 72) 26 44 (.agg #[(.string ⟨#[]⟩), (.int .i64 0), (.int .i64 0)]) 32 rfl Try.underlying26 info44 rfl (by decide) (by omega) v192 y191 y194 _ _ _ (fun k_ => some k_ ≠ (.slice (some ad183) x4_2.length co34 : Value).ownBlock ∧ some k_ ≠ (.slice Ao45 y194.length co45 : Value).ownBlock ∧ k_ ≠ gb181) (fun _ => False) rfl rfl ?aO ?aR (fun _ _ h => h) (fun _ h => h.elim) ?aF ?aB ?aS ?aL ?_
                       (case aR => exact (qK11 HO196.1))
                       (case aB => exact (qK6 GE181.1))
                       (case aF => exact (qK92 HO_4.1 HO196.1 BK181.1))
                       (case aO => exact (qK50 HO193.1))
                       (case aS => exact (qK104))
                       (case aL => have := LMc29.1; omega)
                       intro v198 w44 ho hb hg hat; rw [← Ny197.1] at ho; replace HO_5 := za (qK94 HO_5.1 HO193.1); replace BK181 := za (qK76 BK181.1 HO193.1); replace HO196 := za (by exact Kd.R_after (ok := (fun k_ => some k_ ≠ (.slice (some ad183) x4_2.length co34 : Value).ownBlock ∧ k_ ≠ gb181)) (qK37 HO196.1) hg hat); replace HB := za hb
                       replace HR190 := za (by exact (show Kd.C k44 w44 (some ad183) y187.length y187 from by rw [Ny187.1]; exact Kd.C_take (m := (x9_3 : Int).toNat) ((zD (Kd.R_after (ok := (fun k_ => some k_ ≠ (.slice Ao45 y194.length co45 : Value).ownBlock ∧ k_ ≠ gb181)) (qK37 HO_4.1) hg hat)).2.2) KL36.1))
                       replace HR203 := za (by exact (show Kd.C k44 w44 A37 y200.length y200 from by rw [Ny200.1, KA37.1]; exact Kd.C_drop (m := (x9_3 : Int).toNat) (c := co34) ((zD (Kd.R_after (ok := (fun k_ => some k_ ≠ (.slice Ao45 y194.length co45 : Value).ownBlock ∧ k_ ≠ gb181)) (qK37 HO_4.1) hg hat)).2.2) KL37.1 ((zD (Kd.R_after (ok := (fun k_ => some k_ ≠ (.slice Ao45 y194.length co45 : Value).ownBlock ∧ k_ ≠ gb181)) (qK37 HO_4.1) hg hat)).2.1)))
                       replace HO_4 := za (by exact Kd.R_after (ok := (fun k_ => some k_ ≠ (.slice Ao45 y194.length co45 : Value).ownBlock ∧ k_ ≠ gb181)) (qK37 HO_4.1) hg hat); have HO199 := za ho; clear HO193; clear ho hb hg hat
                       refine hK.out _ _ ⟨(blk_cell BK181.1 0).trans rfl, (blk_cell BK181.1 1).trans rfl, (blk_cell BK181.1 2).trans rfl⟩ (fun hHeld => ?_)
                       clear hK K
                       refine norm_ (a' := ?_) ?_ ?_
                       rotate_left
                       ·show Act.put _ (some 73) _ = _
                        simp only [Act.put, yb, yc, yd, i64_w, i32_w]
                        rfl
                       refine one_ (i := 11) (N := some 77) qKb73 rfl rfl (qK88) (by decide) (fun K hK => ?_)
                       refine zH k44 (w0 := w) w.heap.size (by rfl) (.tmp 73) (.tmp 76) 26 44 (.agg #[(.string ⟨#[]⟩), (.int .i64 0), (.int .i64 0)]) 32 rfl Try.underlying26 info44 rfl (by decide) (by omega) v198 y197 y200 _ _ _ (fun k_ => some k_ ≠ (.slice (some ad183) x4_2.length co34 : Value).ownBlock ∧ some k_ ≠ (.slice Ao45 y194.length co45 : Value).ownBlock ∧ k_ ≠ gb181) (fun _ => False) rfl rfl ?aO ?aR (fun _ _ h => h) (fun _ h => h.elim) ?aF ?aB ?aS ?aL ?_
                       (case aR => exact (qK87 HR203.1))
                       (case aB => exact (qK6 GE181.1))
                       (case aF => exact (qK92 HO_4.1 HO196.1 BK181.1))
                       (case aO => exact (qK0 HO199.1))
                       (case aS => exact (qK104))
                       (case aL => have := LMc32.1; omega)
                       intro v205 w46 ho hb hg hat; rw [← Ny204.1] at ho; replace HO_5 := za (qK94 HO_5.1 HO199.1); replace BK181 := za (qK76 BK181.1 HO199.1); replace HO196 := za (by exact Kd.R_after (ok := (fun k_ => some k_ ≠ (.slice (some ad183) x4_2.length co34 : Value).ownBlock ∧ k_ ≠ gb181)) (qK0 HO196.1) hg hat); replace HB := za hb
                       replace HR190 := za (by exact (show Kd.C k44 w46 (some ad183) y187.length y187 from by rw [Ny187.1]; exact Kd.C_take (m := (x9_3 : Int).toNat) ((zD (Kd.R_after (ok := (fun k_ => some k_ ≠ (.slice Ao45 y194.length co45 : Value).ownBlock ∧ k_ ≠ gb181)) (qK0 HO_4.1) hg hat)).2.2) KL36.1))
                       replace HR203 := za (by exact (show Kd.C k44 w46 A37 y200.length y200 from by rw [Ny200.1, KA37.1]; exact Kd.C_drop (m := (x9_3 : Int).toNat) (c := co34) ((zD (Kd.R_after (ok := (fun k_ => some k_ ≠ (.slice Ao45 y194.length co45 : Value).ownBlock ∧ k_ ≠ gb181)) (qK0 HO_4.1) hg hat)).2.2) KL37.1 ((zD (Kd.R_after (ok := (fun k_ => some k_ ≠ (.slice Ao45 y194.length co45 : Value).ownBlock ∧ k_ ≠ gb181)) (qK0 HO_4.1) hg hat)).2.1)))
                       replace HO_4 := za (by exact Kd.R_after (ok := (fun k_ => some k_ ≠ (.slice Ao45 y194.length co45 : Value).ownBlock ∧ k_ ≠ gb181)) (qK0 HO_4.1) hg hat); have HO206 := za ho; clear HO199; clear ho hb hg hat
                       refine hK.out _ _ ⟨(blk_cell BK181.1 0).trans rfl, (blk_cell BK181.1 1).trans rfl, (blk_cell BK181.1 2).trans rfl⟩ (fun hHeld => ?_)
                       clear hK K
                       refine norm_ (a' := ?_) ?_ ?_
                       rotate_left
                       ·show Act.put _ (some 77) _ = _
                        simp only [Act.put, yb, yc, yd, i64_w, i32_w]
                        rfl
                       refine pure_ (i := 12) (N := some 4) (v := ?_) (a' := ?_) qKb74 rfl rfl (qK9) (fun _ _ _ h => h) (zU ⟨by rfl, ?_⟩) ?_ ?_
                       rotate_left; exact qK8_c1; rotate_left; exact qK8_c0
                       refine done_ (qK101) ?_
                       try go_wp2
                       go_roundg k3
                       case measure => have := HK1.1; have := HK2.1; have := HK3.1; omega
                       case rel => exact ⟨(y204), (wrap64 (x7_2 + 1)), (qK17), H', ⟨by have := HK1.1; have := HK2.1; have := HK3.1; omega⟩, ⟨(qK33 HO206.1)⟩, ⟨(qK0 HO_5.1)⟩, ⟨(qK6 GE181.1)⟩⟩
                      ·rw [zY c32] at H
                       exact zM H (by simp)
                     ·rw [zY c29] at H
                      exact zM H (by simp)
                    ·rw [zY c28] at H
                     exact zM H (by simp)
                   ·rw [zY c27] at H
                    exact zM H (by simp)
                 ·rw [zY c22] at H
                  exact zM H (by simp)
                ·rw [zY c21] at H; have c21b0 : decide (x9_3 < (x4_2.length : Int)) = false := zu c21; clear c21; obtain ⟨y207, hy207⟩ : ∃ y_ : List (S44), y_ = (([] : List (S44))) := ⟨_, rfl⟩; replace H : (if 0 ≤ x9_3 then (if x9_3 ≤ (x4_2.length : Int) then ((some (x4_2.take (x9_3 : Int).toNat : List (S44))).bind fun y210 => (if y207.length + y210.length < 4398046511104 then ((some (y207 ++ y210 : List (S44))).bind fun y214 => ((some (([(⟨((rdOf ByteArray.empty t168 x6_1).extract (x7_2 : Int).toNat ((wrap64 (x7_2 + 1)) : Int).toNat), x7_2, (wrap64 (-x6_1))⟩ : S44)] : List (S44)) : List (S44))).bind fun y217 => (if y214.length + y217.length < 4398046511104 then ((some (y214 ++ y217 : List (S44))).bind fun y220 => ((some (x4_2.drop (x9_3 : Int).toNat : List (S44))).bind fun y223 => (if y220.length + y223.length < 4398046511104 then (spec_ReadPlan.l1 k3 a0 (y220 ++ y223) t168 x6_1 (wrap64 (x7_2 + 1))) else (none)))) else (none)))) else (none))) else (none)) else (none)) = some (r1, r2) := (qK7 hy207); have Ny207 := za hy207; clear hy207
                 by_cases c47 : 0 ≤ x9_3
                 ·rw [zX c47] at H; have c47b0 := zv c47; have c47b1 : decide (0 ≤ x9_3) = true := zc c47; clear c47
                  by_cases c48 : x9_3 ≤ (x4_2.length : Int)
                  ·rw [zX c48] at H; have c48b0 := zv c48; have c48b1 : decide (x9_3 ≤ (x4_2.length : Int)) = true := zc c48; clear c48; obtain ⟨y210, hy210⟩ : ∃ y_ : List (S44), y_ = (x4_2.take (x9_3 : Int).toNat) := ⟨_, rfl⟩; replace H : (if y207.length + y210.length < 4398046511104 then ((some (y207 ++ y210 : List (S44))).bind fun y214 => ((some (([(⟨((rdOf ByteArray.empty t168 x6_1).extract (x7_2 : Int).toNat ((wrap64 (x7_2 + 1)) : Int).toNat), x7_2, (wrap64 (-x6_1))⟩ : S44)] : List (S44)) : List (S44))).bind fun y217 => (if y214.length + y217.length < 4398046511104 then ((some (y214 ++ y217 : List (S44))).bind fun y220 => ((some (x4_2.drop (x9_3 : Int).toNat : List (S44))).bind fun y223 => (if y220.length + y223.length < 4398046511104 then (spec_ReadPlan.l1 k3 a0 (y220 ++ y223) t168 x6_1 (wrap64 (x7_2 + 1))) else (none)))) else (none)))) else (none)) = some (r1, r2) := (qK7 hy210); have Ny210 := za hy210; clear hy210
                   by_cases c49 : y207.length + y210.length < 4398046511104
                   ·rw [zX c49] at H; have LMc49 := za c49; clear c49; obtain ⟨y214, hy214⟩ : ∃ y_ : List (S44), y_ = (y207 ++ y210) := ⟨_, rfl⟩; replace H : ((some (([(⟨((rdOf ByteArray.empty t168 x6_1).extract (x7_2 : Int).toNat ((wrap64 (x7_2 + 1)) : Int).toNat), x7_2, (wrap64 (-x6_1))⟩ : S44)] : List (S44)) : List (S44))).bind fun y217 => (if y214.length + y217.length < 4398046511104 then ((some (y214 ++ y217 : List (S44))).bind fun y220 => ((some (x4_2.drop (x9_3 : Int).toNat : List (S44))).bind fun y223 => (if y220.length + y223.length < 4398046511104 then (spec_ReadPlan.l1 k3 a0 (y220 ++ y223) t168 x6_1 (wrap64 (x7_2 + 1))) else (none)))) else (none))) = some (r1, r2) := (qK7 hy214); have Ny214 := za hy214; clear hy214; obtain ⟨y217, hy217⟩ : ∃ y_ : List (S44), y_ = (([(⟨((rdOf ByteArray.empty t168 x6_1).extract (x7_2 : Int).toNat ((wrap64 (x7_2 + 1)) : Int).toNat), x7_2, (wrap64 (-x6_1))⟩ : S44)] : List (S44))) := ⟨_, rfl⟩; replace H : (if y214.length + y217.length < 4398046511104 then ((some (y214 ++ y217 : List (S44))).bind fun y220 => ((some (x4_2.drop (x9_3 : Int).toNat : List (S44))).bind fun y223 => (if y220.length + y223.length < 4398046511104 then (spec_ReadPlan.l1 k3 a0 (y220 ++ y223) t168 x6_1 (wrap64 (x7_2 + 1))) else (none)))) else (none)) = some (r1, r2) := (qK7 hy217); have Ny217 := za hy217; clear hy217
                    by_cases c50 : y214.length + y217.length < 4398046511104
                    ·rw [zX c50] at H; have LMc50 := za c50; clear c50; obtain ⟨y220, hy220⟩ : ∃ y_ : List (S44), y_ = (y214 ++ y217) := ⟨_, rfl⟩; replace H : ((some (x4_2.drop (x9_3 : Int).toNat : List (S44))).bind fun y223 => (if y220.length + y223.length < 4398046511104 then (spec_ReadPlan.l1 k3 a0 (y220 ++ y223) t168 x6_1 (wrap64 (x7_2 + 1))) else (none))) = some (r1, r2) := (qK7 hy220); have Ny220 := za hy220; clear hy220; have c51b0 := zv (zb (qK12) : 0 ≤ x9_3); have c52b0 := zv (zb (qK12) : x9_3 ≤ (x4_2.length : Int)); obtain ⟨y223, hy223⟩ : ∃ y_ : List (S44), y_ = (x4_2.drop (x9_3 : Int).toNat) := ⟨_, rfl⟩; replace H : (if y220.length + y223.length < 4398046511104 then (spec_ReadPlan.l1 k3 a0 (y220 ++ y223) t168 x6_1 (wrap64 (x7_2 + 1))) else (none)) = some (r1, r2) := (qK7 hy223); have Ny223 := za hy223; clear hy223
                     by_cases c53 : y220.length + y223.length < 4398046511104
                     ·rw [zX c53] at H; have LMc53 := za c53; clear c53; obtain ⟨y227, hy227⟩ : ∃ y_ : List (S44), y_ = (y220 ++ y223) := ⟨_, rfl⟩; replace H : (spec_ReadPlan.l1 k3 a0 y227 t168 x6_1 (wrap64 (x7_2 + 1))) = some (r1, r2) := (qK7 hy227); have Ny227 := za hy227; clear hy227; have H' := za H; clear H
                      try go_wp2
                      replace HO_4 := za (zJ HO_4.1); replace HO_5 := za (zJ HO_5.1); replace BK181 := za (zh BK181.1); replace HB := za (below_drew1 HB.1); obtain ⟨Ao55, co55, eo55⟩ := zE HO_4.1
                      (first | subst eo55 | (injection eo55 with f1_ f2_ f3_; have f4_ := f1_.symm; have f5_ := f3_.symm; clear f1_ f2_ f3_; subst f4_; subst f5_))
                      refine start_ (n := 14) (S := fun w' => True) (ds := []) qKb44 (qK18) rfl rfl trivial (fun hHeld => ?_); refine with_tabW spec_ReadPlan.tab14 spec_ReadPlan.bits14 (fun HT_ HW_ => ?_)
                      generalize wr.drew = w54 at HO_4 HO_5 BK181 HB hHeld ⊢
                      refine pure_ (i := 0) (N := some 50) (v := ?_) (a' := ?_) qKb45 rfl rfl (qK9) (fun _ _ _ h => h) (zU ⟨by rfl, ?_⟩) ?_ ?_
                      rotate_left; exact qK8_c1; rotate_left; exact qK8_c0
                      refine pure_ (i := 1) (N := some 51) (v := ?_) (a' := ?_) qKb46 rfl rfl (qK9) (fun _ _ _ h => h) (zU ⟨by rfl, ?_⟩) ?_ ?_
                      rotate_left; exact qK8_c1; rotate_left; exact qK8_c0
                      refine pure_ (i := 2) (N := some 52) (v := ?_) (a' := ?_) qKb47 rfl rfl (qK9) (fun _ _ _ h => h) (zU ⟨by rfl, ?_⟩) ?_ ?_
                      rotate_left; exact qK8_c1; rotate_left; exact qK8_c0
                      refine pure_ (i := 3) (N := some 53) (v := ?_) (a' := ?_) qKb48 rfl rfl (qK9) (fun _ _ _ h => h) (zU ⟨by rfl, ?_⟩) ?_ ?_
                      rotate_left; exact qK8_c1; rotate_left; exact qK8_c0
                      refine pure_ (i := 4) (N := some 54) (v := ?_) (a' := ?_) qKb49 rfl rfl (qK9) (fun _ _ _ h => h) (zU ⟨by rfl, ?_⟩) ?_ ?_
                      rotate_left; exact qK8_c1; rotate_left; exact qK8_c0
                      refine pure_ (i := 5) (N := some 55) (v := undef) (a' := ?_) qKb50 rfl rfl (qK9) (fun _ _ _ h => h) (Or.inr ⟨by rfl, rfl⟩) ?_ ?_
                      rotate_left
                      ·exact qK8_c0
                      refine pure_ (i := 6) (N := some 56) (v := undef) (a' := ?_) qKb51 rfl rfl (qK9) (fun _ _ _ h => h) (Or.inr ⟨by rfl, rfl⟩) ?_ ?_
                      rotate_left
                      ·exact qK8_c0
                      refine pure_ (i := 7) (N := some 57) (v := undef) (a' := ?_) qKb52 rfl rfl (qK9) (fun _ _ _ h => h) (Or.inr ⟨by rfl, rfl⟩) ?_ ?_
                      rotate_left
                      ·exact qK8_c0
                      refine pure_ (i := 8) (N := some 58) (v := undef) (a' := ?_) qKb53 rfl rfl (qK9) (fun _ _ _ h => h) (Or.inr ⟨by rfl, rfl⟩) ?_ ?_
                      rotate_left
                      ·exact qK8_c0
                      refine pure_ (i := 9) (N := some 59) (v := undef) (a' := ?_) qKb75 rfl rfl (qK9) (fun _ _ _ h => h) (Or.inr ⟨by rfl, rfl⟩) ?_ ?_
                      rotate_left
                      ·exact qK8_c0
                      refine pure_ (i := 10) (N := some 60) (v := undef) (a' := ?_) qKb55 rfl rfl (qK9) (fun _ _ _ h => h) (Or.inr ⟨by rfl, rfl⟩) ?_ ?_
                      rotate_left
                      ·exact qK8_c0
                      refine pure_ (i := 11) (N := some 61) (v := undef) (a' := ?_) qKb56 rfl rfl (qK9) (fun _ _ _ h => h) (Or.inr ⟨by rfl, rfl⟩) ?_ ?_
                      rotate_left
                      ·exact qK8_c0
                      refine pure_ (i := 12) (N := some 62) (v := undef) (a' := ?_) qKb57 rfl rfl (qK9) (fun _ _ _ h => h) (Or.inr ⟨by rfl, rfl⟩) ?_ ?_
                      rotate_left
                      ·exact qK8_c0
                      refine pure_ (i := 13) (N := some 63) (v := ?_) (a' := ?_) qKb58 rfl rfl (qK9) (fun _ _ _ h => h) (zU ⟨by rfl, ?_⟩) ?_ ?_
                      rotate_left; exact qK8_c1; rotate_left; exact qK8_c0
                      refine done_ (qK101) ?_
                      try go_wp2
                      replace HO_4 := za (zJ HO_4.1); replace HO_5 := za (zJ HO_5.1); replace BK181 := za (zh BK181.1); replace HB := za (below_drew1 HB.1); have q57 : (x9_3 : Int) ≤ ((x4_2.length : Int) : Int) := zb (qK12); obtain ⟨i057, hi057, _, hsz57, _⟩ := info_parts info44; have hroom57 : x4_2.length ≤ co55 := (zD HO_4.1).2.1; have hC57 : Kd.C k44 _ Ao55 x4_2.length x4_2 := (zD HO_4.1).2.2; have hcut57 := cut_to (P := Try.prog) 26 44 .i64 Try.underlying26 hi057 Ao55 x4_2.length co55 x9_3 (zb (qK12)) q57 hroom57; have hr57 := Kd.C_take (m := (x9_3 : Int).toNat) hC57 (by omega); have hy57 : y210.length = (x9_3 : Int).toNat := (by rw [Ny210.1, List.length_take]; omega); rw [← Ny210.1] at hr57; rw [← hy57] at hcut57; have HR213 := za hr57
                      have HC213 := za (by exact show y210.length ≤ co55 from by omega)
                      clear hr57 hC57 hroom57 hi057 hsz57; have KY57 := za hy57; clear hy57; have KL57 := za qK64; replace q57 := zv q57; have q58 : (x9_3 : Int) ≤ ((x4_2.length : Int) : Int) := zb (qK12); obtain ⟨i058, hi058, _, hsz58, _⟩ := info_parts info44; have hroom58 : x4_2.length ≤ co55 := (zD HO_4.1).2.1; have hC58 : Kd.C k44 _ Ao55 x4_2.length x4_2 := (zD HO_4.1).2.2; have q058 : (0 : Int) ≤ (x9_3 : Int) := zb (qK12); have hcut58 := cut_from (P := Try.prog) 26 44 .i64 Try.underlying26 hi058 3 hsz58 Ao55 x4_2.length co55 x9_3 q058 q58; have hr58 := Kd.C_drop (m := (x9_3 : Int).toNat) (c := co55) hC58 (by omega) hroom58; obtain ⟨A58, hA58⟩ : ∃ A1, A1 = (if co55 = (x9_3 : Int).toNat then Ao55 else (Ao55 : Option Addr).map (·.add ((x9_3 : Int).toNat * 3))) := ⟨_, rfl⟩; obtain ⟨c58, hc58⟩ : ∃ c1, c1 = co55 - (x9_3 : Int).toNat := ⟨_, rfl⟩; have hy58 : y223.length = x4_2.length - (x9_3 : Int).toNat := (by rw [Ny223.1, List.length_drop] <;> omega); rw [show (x4_2).drop (x9_3 : Int).toNat = y223 from Ny223.1.symm] at hr58; replace hr58 : Kd.C k44 _ A58 y223.length y223 := (by rw [hA58]; exact hr58); rw [← hy58, ← hA58, ← hc58] at hcut58; have HR226 := za hr58
                      have HC226 := za (by exact show y223.length ≤ c58 from by rw [hy58, hc58]; exact Nat.sub_le_sub_right hroom58 _)
                      clear hr58 hC58 hroom58 hi058 hsz58 hc58; have KY58 := za hy58; have KA58 := za hA58; clear hy58 hA58; have KL58 := za qK64; replace q58 := zv q58
                      refine start_ (n := 13) (S := fun w' => w'.cell? ⟨gb181, 0, none⟩ = some (.string ((rdOf ByteArray.empty t168 x6_1).extract (x7_2 : Int).toNat ((wrap64 (x7_2 + 1)) : Int).toNat)) ∧ w'.cell? ⟨gb181, 1, none⟩ = some (.int .i64 x7_2) ∧ w'.cell? ⟨gb181, 2, none⟩ = some (.int .i64 (wrap64 (-x6_1)))) (ds := []) qKb59 (qK18) rfl rfl ⟨(blk_cell BK181.1 0).trans rfl, (blk_cell BK181.1 1).trans rfl, (blk_cell BK181.1 2).trans rfl⟩ (fun hHeld => ?_); refine with_tabW spec_ReadPlan.tab16 spec_ReadPlan.bits16 (fun HT_ HW_ => ?_)
                      generalize w54.drew = w56 at HO_4 HO_5 BK181 HB HR213 HR226 hHeld ⊢
                      refine pure_ (i := 1) (N := some 67) (v := ?_) (a' := ?_) qKb60 rfl rfl (qK9) (fun _ _ _ h => h) (zU ⟨by rfl, ?_⟩) ?_ ?_
                      rotate_left; exact qK8_c1; rotate_left; exact qK8_c0
                      refine pure_ (i := 2) (N := some 68) (v := ?_) (a' := ?_) qKb61 rfl rfl (qK9) (fun _ _ _ h => h) (zU ⟨by rfl, ?_⟩) ?_ ?_
                      rotate_left; exact qK8_c1; rotate_left; exact qK8_c0
                      refine pure_ (i := 3) (N := some 69) (v := ?_) (a' := ?_) qKb62 rfl rfl (qK9) (fun _ _ _ h => h) (zU ⟨by rfl, ?_⟩) ?_ ?_
                      rotate_left; exact qK8_c1; rotate_left; exact qK8_c0
                      refine pure_ (i := 8) (N := some 74) (v := ?_) (a' := ?_) qKb63 rfl rfl (qK9) (fun _ _ _ h => h) (zU ⟨by rfl, ?_⟩) ?_ ?_
                      rotate_left; exact qK8_c1; rotate_left; exact qK8_c0
                      refine pure_ (i := 9) (N := some 75) (v := ?_) (a' := ?_) qKb64 rfl rfl (qK9) (fun _ _ _ h => h) (zU ⟨by rfl, ?_⟩) ?_ ?_
                      rotate_left; exact qK8_c1; rotate_left; exact qK8_c0
                      refine pure_ (i := 10) (N := some 76) (v := ?_) (a' := ?_) qKb65 rfl rfl (qK9) (fun _ _ _ h => h) (zU ⟨by rfl, ?_⟩) ?_ ?_
                      rotate_left; exact qK8_c1; rotate_left; exact qK8_c0
                      refine take_ (i := 5) (N := some 71) (v := ?_) (a' := ?_) qKb66 rfl rfl (take_ofW HT_.1 HW_.1 (qK18)) (fun _ _ _ h => h) (zU ⟨by rfl, ?_⟩) hHeld ?_ ?_
                      rotate_left
                      ·rintro w' ⟨s0, s1, s2⟩
                       go_simp
                       with_reducible rfl
                      rotate_left
                      ·exact qK8_c0
                      refine join_ (σ := Value × Value × Value) 3 qKb67 (fun s_ => [(66, s_.1), (70, s_.2.1), (72, s_.2.2)]) (fun s_ w' => (w'.cell? ⟨gb181, 0, none⟩ = some (.string ((rdOf ByteArray.empty t168 x6_1).extract (x7_2 : Int).toNat ((wrap64 (x7_2 + 1)) : Int).toNat)) ∧ w'.cell? ⟨gb181, 1, none⟩ = some (.int .i64 x7_2) ∧ w'.cell? ⟨gb181, 2, none⟩ = some (.int .i64 (wrap64 (-x6_1)))) ∧ (Kd.R k44 44 w' w.heap.size (fun k_ => some k_ ≠ (s_.2.2 : Value).ownBlock ∧ some k_ ≠ (.slice Ao55 x4_2.length co55 : Value).ownBlock ∧ k_ ≠ gb181) s_.2.1 y214) ∧ (Kd.R k44 44 w' w.heap.size (fun k_ => some k_ ≠ (s_.2.1 : Value).ownBlock ∧ some k_ ≠ (.slice Ao55 x4_2.length co55 : Value).ownBlock ∧ k_ ≠ gb181) s_.2.2 y217) ∧ (Kd.R k44 44 w' w.heap.size (fun k_ => some k_ ≠ (s_.2.1 : Value).ownBlock ∧ some k_ ≠ (s_.2.2 : Value).ownBlock ∧ k_ ≠ gb181) (.slice Ao55 x4_2.length co55) x4_2) ∧ (Kd.R Kd.string 9 w' w.heap.size (fun _ => True) (.slice (some ad179) t168.length co10) t168) ∧ (w'.heap[gb181]? = some (.cells #[.string ((rdOf ByteArray.empty t168 x6_1).extract (x7_2 : Int).toNat ((wrap64 (x7_2 + 1)) : Int).toNat), .int .i64 x7_2, .int .i64 (wrap64 (-x6_1))] 44 (0, 0))) ∧ (Below w.heap.size w w')) ?_ ?_
                      rotate_left
                      ·intro hCont
                       refine two_ (i := 0) (j := 6) (Ni := some 66) (Nj := some 72) qKb68 qKb69 rfl rfl rfl rfl (two_of HT_.1 (qK18)) (by decide) (by decide) (fun K hK => ?_) (fun K hK => ?_)
                       ·skip
                        refine Kd.R_lit_step k44 _ 44 ?hg (N := 66) ?hd (xs := ([] : List (S44))) (inner := []) (ok := fun _ => True) (okp := fun _ => True) ?hr ?hp (fun _ hk => hk) trivial (zr _ _) (zn _) (by simp) ?_; (case hd | hg => rfl); (case hr => exact (qK21)); (case hp => exact (zt _ _))
                        intro v208 w59 ho60 hb hg_ hnew_; clear hg_ hnew_
                        (first | rw [← Ny207.1] at ho60 | (simp only [Int.reduceToNat] at ho60; rw [← Ny207.1] at ho60))
                        replace HO_5 := za (qK83 HO_5.1); have HO209 := za (zK (Kd.R_newB (Kd.R_new' ho60 (Kd.R_lt (qK0 HO_4.1))) (qB BK181.1)) (zT (qK6 GE181.1))); replace HO_4 := za (qK86 HO_4.1 ho60); replace BK181 := za (zk (qB BK181.1) hb); replace HR213 := za (zC (qK16 HR213.1) hb); replace HR226 := za (zC (qK16 HR226.1) hb); replace HB := za (zS (qK6 GE181.1) hb); clear hb ho60
                        refine hK.out _ _ ⟨(blk_cell BK181.1 0).trans rfl, (blk_cell BK181.1 1).trans rfl, (blk_cell BK181.1 2).trans rfl⟩ (fun hHeld => ?_)
                        clear hK K
                        refine norm_ (a' := ?_) ?_ ?_
                        rotate_left
                        ·exact qK8_c4
                        refine two_ (i := 4) (j := 6) (Ni := some 70) (Nj := some 72) qKb70 qKb71 rfl rfl rfl rfl (two_of HT_.1 (qK18)) (by decide) (by decide) (fun K hK => ?_) (fun K hK => ?_)
                        ·skip
                         refine zH k44 (w0 := w) w.heap.size (by rfl) (.tmp 66) (.tmp 69) 26 44 (.agg #[(.string ⟨#[]⟩), (.int .i64 0), (.int .i64 0)]) 32 rfl Try.underlying26 info44 rfl (by decide) (by omega) v208 y207 y210 _ _ _ (fun k_ => some k_ ≠ (.slice Ao55 x4_2.length co55 : Value).ownBlock ∧ k_ ≠ gb181) (fun _ => False) rfl rfl ?aO ?aR (fun _ _ h => h) (fun _ h => h.elim) ?aF ?aB ?aS ?aL ?_
                         (case aR => exact (qK87 HR213.1))
                         (case aB => exact (qK6 GE181.1))
                         (case aF => exact (qK117))
                         (case aO => exact (qK78 HO209.1))
                         (case aS => exact (qK104))
                         (case aL => have := LMc49.1; omega)
                         intro v215 w61 ho hb hg hat; rw [← Ny214.1] at ho; replace HO_5 := za (qK94 HO_5.1 HO209.1); replace BK181 := za (qK77 BK181.1 HO209.1); replace HB := za hb
                         replace HR213 := za (by exact (show Kd.C k44 w61 Ao55 y210.length y210 from by rw [Ny210.1]; exact Kd.C_take (m := (x9_3 : Int).toNat) ((zD (Kd.R_after (ok := (fun k_ => k_ ≠ gb181)) (qK0 HO_4.1) hg hat)).2.2) KL57.1))
                         replace HR226 := za (by exact (show Kd.C k44 w61 A58 y223.length y223 from by rw [Ny223.1, KA58.1]; exact Kd.C_drop (m := (x9_3 : Int).toNat) (c := co55) ((zD (Kd.R_after (ok := (fun k_ => k_ ≠ gb181)) (qK0 HO_4.1) hg hat)).2.2) KL58.1 ((zD (Kd.R_after (ok := (fun k_ => k_ ≠ gb181)) (qK0 HO_4.1) hg hat)).2.1)))
                         replace HO_4 := za (by exact Kd.R_after (ok := (fun k_ => k_ ≠ gb181)) (qK0 HO_4.1) hg hat); have HO216 := za ho; clear HO209; clear ho hb hg hat
                         refine hK.out _ _ ⟨(blk_cell BK181.1 0).trans rfl, (blk_cell BK181.1 1).trans rfl, (blk_cell BK181.1 2).trans rfl⟩ (fun hHeld => ?_)
                         clear hK K
                         refine norm_ (a' := ?_) ?_ ?_
                         rotate_left
                         ·exact qK8_c2
                         refine one_ (i := 6) (N := some 72) qKb67 rfl rfl (qK88) (by decide) (fun K hK => ?_)
                         refine Kd.R_lit_step k44 _ 44 ?hg (N := 72) ?hd (xs := ([(⟨((rdOf ByteArray.empty t168 x6_1).extract (x7_2 : Int).toNat ((wrap64 (x7_2 + 1)) : Int).toNat), x7_2, (wrap64 (-x6_1))⟩ : S44)] : List (S44))) (inner := [.string ((rdOf ByteArray.empty t168 x6_1).extract (x7_2 : Int).toNat ((wrap64 (x7_2 + 1)) : Int).toNat), .int .i64 x7_2, .int .i64 (wrap64 (-x6_1))]) (ok := fun _ => True) (okp := fun _ => True) ?hr ?hp (fun _ hk => hk) trivial (zr _ _) (zn _) (by simp) ?_; (case hd | hg => rfl); (case hr => exact (qK21)); (case hp => exact (qK28))
                         intro v218 w62 ho63 hb hg_ hnew_; clear hg_ hnew_
                         (first | rw [← Ny217.1] at ho63 | (simp only [Int.reduceToNat] at ho63; rw [← Ny217.1] at ho63))
                         replace HO_5 := za (qK83 HO_5.1); have HO219 := za (zK (Kd.R_newB (Kd.R_new' (Kd.R_new' ho63 (Kd.R_lt (qK0 HO_4.1))) (Kd.R_lt (qK0 HO216.1))) (qB BK181.1)) (zT (qK6 GE181.1))); replace HO_4 := za (qK86 HO_4.1 ho63); replace HO216 := za (qK86 HO216.1 ho63); replace BK181 := za (zk (qB BK181.1) hb); replace HR213 := za (zC (qK16 HR213.1) hb); replace HR226 := za (zC (qK16 HR226.1) hb); replace HB := za (zS (qK6 GE181.1) hb); clear hb ho63
                         refine hK.out _ _ ⟨(blk_cell BK181.1 0).trans rfl, (blk_cell BK181.1 1).trans rfl, (blk_cell BK181.1 2).trans rfl⟩ (fun hHeld => ?_)
                         clear hK K
                         refine norm_ (a' := ?_) ?_ ?_
                         rotate_left
                         ·exact qK8_c3
                         exact norm_ (qK57) (hCont (v208, v215, v218) _ ⟨hHeld, (qK38 HO216.1), (qK73 HO219.1), (qK65), (qK0 HO_5.1), (qK41 BK181.1), (qK6 GE181.1)⟩)
                        ·skip
                         refine Kd.R_lit_step k44 _ 44 ?hg (N := 72) ?hd (xs := ([(⟨((rdOf ByteArray.empty t168 x6_1).extract (x7_2 : Int).toNat ((wrap64 (x7_2 + 1)) : Int).toNat), x7_2, (wrap64 (-x6_1))⟩ : S44)] : List (S44))) (inner := [.string ((rdOf ByteArray.empty t168 x6_1).extract (x7_2 : Int).toNat ((wrap64 (x7_2 + 1)) : Int).toNat), .int .i64 x7_2, .int .i64 (wrap64 (-x6_1))]) (ok := fun _ => True) (okp := fun _ => True) ?hr ?hp (fun _ hk => hk) trivial (zr _ _) (zn _) (by simp) ?_; (case hd | hg => rfl); (case hr => exact (qK21)); (case hp => exact (qK28))
                         intro v218 w61 ho62 hb hg_ hnew_; clear hg_ hnew_
                         (first | rw [← Ny217.1] at ho62 | (simp only [Int.reduceToNat] at ho62; rw [← Ny217.1] at ho62))
                         replace HO_5 := za (qK83 HO_5.1); have HO219 := za (zK (Kd.R_newB (Kd.R_new' (Kd.R_new' ho62 (Kd.R_lt (qK0 HO_4.1))) (Kd.R_lt (qK0 HO209.1))) (qB BK181.1)) (zT (qK6 GE181.1))); replace HO_4 := za (qK86 HO_4.1 ho62); replace HO209 := za (qK86 HO209.1 ho62); replace BK181 := za (zk (qB BK181.1) hb); replace HR213 := za (zC (qK16 HR213.1) hb); replace HR226 := za (zC (qK16 HR226.1) hb); replace HB := za (zS (qK6 GE181.1) hb); clear hb ho62
                         refine hK.out _ _ ⟨(blk_cell BK181.1 0).trans rfl, (blk_cell BK181.1 1).trans rfl, (blk_cell BK181.1 2).trans rfl⟩ (fun hHeld => ?_)
                         clear hK K
                         refine norm_ (a' := ?_) ?_ ?_
                         rotate_left
                         ·exact qK8_c3
                         refine one_ (i := 4) (N := some 70) qKb67 rfl rfl (qK88) (by decide) (fun K hK => ?_)
                         refine zH k44 (w0 := w) w.heap.size (by rfl) (.tmp 66) (.tmp 69) 26 44 (.agg #[(.string ⟨#[]⟩), (.int .i64 0), (.int .i64 0)]) 32 rfl Try.underlying26 info44 rfl (by decide) (by omega) v208 y207 y210 _ _ _ (fun k_ => some k_ ≠ (.slice Ao55 x4_2.length co55 : Value).ownBlock ∧ some k_ ≠ (v218 : Value).ownBlock ∧ k_ ≠ gb181) (fun _ => False) rfl rfl ?aO ?aR (fun _ _ h => h) (fun _ h => h.elim) ?aF ?aB ?aS ?aL ?_
                         (case aR => exact (qK87 HR213.1))
                         (case aB => exact (qK6 GE181.1))
                         (case aF => exact (qK92 HO_4.1 HO219.1 BK181.1))
                         (case aO => exact (qK74 HO209.1))
                         (case aS => exact (qK104))
                         (case aL => have := LMc49.1; omega)
                         intro v215 w63 ho hb hg hat; rw [← Ny214.1] at ho; replace HO_5 := za (qK94 HO_5.1 HO209.1); replace BK181 := za (by exact blk_grown (qB BK181.1) hg (Kd.R_away HO209.1 (fun _ hk => hk.1.2))); replace HO219 := za (by exact Kd.R_after (ok := (fun k_ => some k_ ≠ (.slice Ao55 x4_2.length co55 : Value).ownBlock ∧ k_ ≠ gb181)) (qK71 HO219.1) hg hat); replace HB := za hb
                         replace HR213 := za (by exact (show Kd.C k44 w63 Ao55 y210.length y210 from by rw [Ny210.1]; exact Kd.C_take (m := (x9_3 : Int).toNat) ((zD (Kd.R_after (ok := (fun k_ => some k_ ≠ (v218 : Value).ownBlock ∧ k_ ≠ gb181)) (qK39) hg hat)).2.2) KL57.1))
                         replace HR226 := za (by exact (show Kd.C k44 w63 A58 y223.length y223 from by rw [Ny223.1, KA58.1]; exact Kd.C_drop (m := (x9_3 : Int).toNat) (c := co55) ((zD (Kd.R_after (ok := (fun k_ => some k_ ≠ (v218 : Value).ownBlock ∧ k_ ≠ gb181)) (qK39) hg hat)).2.2) KL58.1 ((zD (Kd.R_after (ok := (fun k_ => some k_ ≠ (v218 : Value).ownBlock ∧ k_ ≠ gb181)) (qK39) hg hat)).2.1)))
                         replace HO_4 := za (by exact Kd.R_after (ok := (fun k_ => some k_ ≠ (v218 : Value).ownBlock ∧ k_ ≠ gb181)) (qK39) hg hat); have HO216 := za ho; clear HO209; clear ho hb hg hat
                         refine hK.out _ _ ⟨(blk_cell BK181.1 0).trans rfl, (blk_cell BK181.1 1).trans rfl, (blk_cell BK181.1 2).trans rfl⟩ (fun hHeld => ?_)
                         clear hK K
                         refine norm_ (a' := ?_) ?_ ?_
                         rotate_left
                         ·exact qK8_c2
                         exact norm_ (qK57) (hCont (v208, v215, v218) _ ⟨hHeld, (qK50 HO216.1), (qK38 HO219.1), (qK38 HO_4.1), (qK0 HO_5.1), (qK41 BK181.1), (qK6 GE181.1)⟩)
                       ·skip
                        refine Kd.R_lit_step k44 _ 44 ?hg (N := 72) ?hd (xs := ([(⟨((rdOf ByteArray.empty t168 x6_1).extract (x7_2 : Int).toNat ((wrap64 (x7_2 + 1)) : Int).toNat), x7_2, (wrap64 (-x6_1))⟩ : S44)] : List (S44))) (inner := [.string ((rdOf ByteArray.empty t168 x6_1).extract (x7_2 : Int).toNat ((wrap64 (x7_2 + 1)) : Int).toNat), .int .i64 x7_2, .int .i64 (wrap64 (-x6_1))]) (ok := fun _ => True) (okp := fun _ => True) ?hr ?hp (fun _ hk => hk) trivial (zr _ _) (zn _) (by simp) ?_; (case hd | hg => rfl); (case hr => exact (qK21)); (case hp => exact (qK28))
                        intro v218 w59 ho60 hb hg_ hnew_; clear hg_ hnew_
                        (first | rw [← Ny217.1] at ho60 | (simp only [Int.reduceToNat] at ho60; rw [← Ny217.1] at ho60))
                        replace HO_5 := za (qK83 HO_5.1); have HO219 := za (zK (Kd.R_newB (Kd.R_new' ho60 (Kd.R_lt (qK0 HO_4.1))) (qB BK181.1)) (zT (qK6 GE181.1))); replace HO_4 := za (qK86 HO_4.1 ho60); replace BK181 := za (zk (qB BK181.1) hb); replace HR213 := za (zC (qK16 HR213.1) hb); replace HR226 := za (zC (qK16 HR226.1) hb); replace HB := za (zS (qK6 GE181.1) hb); clear hb ho60
                        refine hK.out _ _ ⟨(blk_cell BK181.1 0).trans rfl, (blk_cell BK181.1 1).trans rfl, (blk_cell BK181.1 2).trans rfl⟩ (fun hHeld => ?_)
                        clear hK K
                        refine norm_ (a' := ?_) ?_ ?_
                        rotate_left
                        ·exact qK8_c3
                        refine one_ (i := 0) (N := some 66) qKb71 rfl rfl (qK88) (by decide) (fun K hK => ?_)
                        refine Kd.R_lit_step k44 _ 44 ?hg (N := 66) ?hd (xs := ([] : List (S44))) (inner := []) (ok := fun _ => True) (okp := fun _ => True) ?hr ?hp (fun _ hk => hk) trivial (zr _ _) (zn _) (by simp) ?_; (case hd | hg => rfl); (case hr => exact (qK21)); (case hp => exact (zt _ _))
                        intro v208 w61 ho62 hb hg_ hnew_; clear hg_ hnew_
                        (first | rw [← Ny207.1] at ho62 | (simp only [Int.reduceToNat] at ho62; rw [← Ny207.1] at ho62))
                        replace HO_5 := za (qK83 HO_5.1); have HO209 := za (zK (Kd.R_newB (Kd.R_new' (Kd.R_new' ho62 (Kd.R_lt (qK0 HO_4.1))) (Kd.R_lt (qK0 HO219.1))) (qB BK181.1)) (zT (qK6 GE181.1))); replace HO_4 := za (qK86 HO_4.1 ho62); replace HO219 := za (qK86 HO219.1 ho62); replace BK181 := za (zk (qB BK181.1) hb); replace HR213 := za (zC (qK16 HR213.1) hb); replace HR226 := za (zC (qK16 HR226.1) hb); replace HB := za (zS (qK6 GE181.1) hb); clear hb ho62
                        refine hK.out _ _ ⟨(blk_cell BK181.1 0).trans rfl, (blk_cell BK181.1 1).trans rfl, (blk_cell BK181.1 2).trans rfl⟩ (fun hHeld => ?_)
                        clear hK K
                        refine norm_ (a' := ?_) ?_ ?_
                        rotate_left
                        ·exact qK8_c4
                        refine one_ (i := 4) (N := some 70) qKb67 rfl rfl (qK88) (by decide) (fun K hK => ?_)
                        refine zH k44 (w0 := w) w.heap.size (by rfl) (.tmp 66) (.tmp 69) 26 44 (.agg #[(.string ⟨#[]⟩), (.int .i64 0), (.int .i64 0)]) 32 rfl Try.underlying26 info44 rfl (by decide) (by omega) v208 y207 y210 _ _ _ (fun k_ => some k_ ≠ (.slice Ao55 x4_2.length co55 : Value).ownBlock ∧ some k_ ≠ (v218 : Value).ownBlock ∧ k_ ≠ gb181) (fun _ => False) rfl rfl ?aO ?aR (fun _ _ h => h) (fun _ h => h.elim) ?aF ?aB ?aS ?aL ?_
                        (case aR => exact (qK87 HR213.1))
                        (case aB => exact (qK6 GE181.1))
                        (case aF => exact (qK92 HO_4.1 HO219.1 BK181.1))
                        (case aO => exact (qK75 HO209.1))
                        (case aS => exact (qK104))
                        (case aL => have := LMc49.1; omega)
                        intro v215 w63 ho hb hg hat; rw [← Ny214.1] at ho; replace HO_5 := za (qK94 HO_5.1 HO209.1); replace BK181 := za (qK77 BK181.1 HO209.1); replace HO219 := za (by exact Kd.R_after (ok := (fun k_ => some k_ ≠ (.slice Ao55 x4_2.length co55 : Value).ownBlock ∧ k_ ≠ gb181)) (qK72 HO219.1) hg hat); replace HB := za hb
                        replace HR213 := za (by exact (show Kd.C k44 w63 Ao55 y210.length y210 from by rw [Ny210.1]; exact Kd.C_take (m := (x9_3 : Int).toNat) ((zD (Kd.R_after (ok := (fun k_ => some k_ ≠ (v218 : Value).ownBlock ∧ k_ ≠ gb181)) (qK40) hg hat)).2.2) KL57.1))
                        replace HR226 := za (by exact (show Kd.C k44 w63 A58 y223.length y223 from by rw [Ny223.1, KA58.1]; exact Kd.C_drop (m := (x9_3 : Int).toNat) (c := co55) ((zD (Kd.R_after (ok := (fun k_ => some k_ ≠ (v218 : Value).ownBlock ∧ k_ ≠ gb181)) (qK40) hg hat)).2.2) KL58.1 ((zD (Kd.R_after (ok := (fun k_ => some k_ ≠ (v218 : Value).ownBlock ∧ k_ ≠ gb181)) (qK40) hg hat)).2.1)))
                        replace HO_4 := za (by exact Kd.R_after (ok := (fun k_ => some k_ ≠ (v218 : Value).ownBlock ∧ k_ ≠ gb181)) (qK40) hg hat); have HO216 := za ho; clear HO209; clear ho hb hg hat
                        refine hK.out _ _ ⟨(blk_cell BK181.1 0).trans rfl, (blk_cell BK181.1 1).trans rfl, (blk_cell BK181.1 2).trans rfl⟩ (fun hHeld => ?_)
                        clear hK K
                        refine norm_ (a' := ?_) ?_ ?_
                        rotate_left
                        ·exact qK8_c2
                        exact norm_ (qK57) (hCont (v208, v215, v218) _ ⟨hHeld, (qK50 HO216.1), (qK38 HO219.1), (qK38 HO_4.1), (qK0 HO_5.1), (qK41 BK181.1), (qK6 GE181.1)⟩)
                      rintro ⟨v208, v215, v218⟩ w64 ⟨hS_, h0_, h1_, h2_, h3_, h4_, h5_⟩
                      have HO216 : Aside0 (Kd.R k44 44 w64 w.heap.size (fun k_ => some k_ ≠ (v218 : Value).ownBlock ∧ some k_ ≠ (.slice Ao55 x4_2.length co55 : Value).ownBlock ∧ k_ ≠ gb181) v215 y214) := ⟨h0_⟩; have HO219 : Aside0 (Kd.R k44 44 w64 w.heap.size (fun k_ => some k_ ≠ (v215 : Value).ownBlock ∧ some k_ ≠ (.slice Ao55 x4_2.length co55 : Value).ownBlock ∧ k_ ≠ gb181) v218 y217) := ⟨h1_⟩; replace HO_4 : Aside0 (Kd.R k44 44 w64 w.heap.size (fun k_ => some k_ ≠ (v215 : Value).ownBlock ∧ some k_ ≠ (v218 : Value).ownBlock ∧ k_ ≠ gb181) (.slice Ao55 x4_2.length co55) x4_2) := ⟨h2_⟩; replace HO_5 : Aside0 (Kd.R Kd.string 9 w64 w.heap.size (fun _ => True) (.slice (some ad179) t168.length co10) t168) := ⟨h3_⟩; replace BK181 : Aside0 (w64.heap[gb181]? = some (.cells #[.string ((rdOf ByteArray.empty t168 x6_1).extract (x7_2 : Int).toNat ((wrap64 (x7_2 + 1)) : Int).toNat), .int .i64 x7_2, .int .i64 (wrap64 (-x6_1))] 44 (0, 0))) := ⟨h4_⟩; replace HB : Aside0 (Below w.heap.size w w64) := ⟨h5_⟩; clear h0_ h1_ h2_ h3_ h4_ h5_; have hHeld : w64.cell? ⟨gb181, 0, none⟩ = some (.string ((rdOf ByteArray.empty t168 x6_1).extract (x7_2 : Int).toNat ((wrap64 (x7_2 + 1)) : Int).toNat)) ∧ w64.cell? ⟨gb181, 1, none⟩ = some (.int .i64 x7_2) ∧ w64.cell? ⟨gb181, 2, none⟩ = some (.int .i64 (wrap64 (-x6_1))) := hS_; clear HR213
                      have HR213 := za (by exact show Kd.C k44 w64 Ao55 y210.length y210 from by rw [Ny210.1]; exact Kd.C_take (m := (x9_3 : Int).toNat) ((zD HO_4.1).2.2) KL57.1)
                      clear HR226
                      have HR226 := za (by exact show Kd.C k44 w64 A58 y223.length y223 from by rw [Ny223.1, KA58.1]; exact Kd.C_drop (m := (x9_3 : Int).toNat) (c := co55) ((zD HO_4.1).2.2) KL58.1 ((zD HO_4.1).2.1))
                      obtain ⟨Ao66, co66, eo66⟩ := zE HO219.1
                      (first | subst eo66 | (injection eo66 with f1_ f2_ f3_; have f4_ := f1_.symm; have f5_ := f3_.symm; clear f1_ f2_ f3_; subst f4_; subst f5_))
                      refine norm_ (a' := ?_) ?_ ?_
                      rotate_left
                      ·simp only [putAll, Act.put, yb, yc, yd]
                       rfl
                      refine one_ (i := 7) (N := some 73) qKb72 rfl rfl (qK88) (by decide) (fun K hK => ?_)
                      refine zH k44 (w0 := w) w.heap.size (by rfl) (.tmp 70) (.tmp 72) 26 44 (.agg #[(.string ⟨#[]⟩), (.int .i64 0), (.int .i64 0)]) 32 rfl Try.underlying26 info44 rfl (by decide) (by omega) v215 y214 y217 _ _ _ (fun k_ => some k_ ≠ (.slice Ao55 x4_2.length co55 : Value).ownBlock ∧ some k_ ≠ (.slice Ao66 y217.length co66 : Value).ownBlock ∧ k_ ≠ gb181) (fun _ => False) rfl rfl ?aO ?aR (fun _ _ h => h) (fun _ h => h.elim) ?aF ?aB ?aS ?aL ?_
                      (case aR => exact (qK11 HO219.1))
                      (case aB => exact (qK6 GE181.1))
                      (case aF => exact (qK92 HO_4.1 HO219.1 BK181.1))
                      (case aO => exact (qK50 HO216.1))
                      (case aS => exact (qK104))
                      (case aL => have := LMc50.1; omega)
                      intro v221 w65 ho hb hg hat; rw [← Ny220.1] at ho; replace HO_5 := za (qK94 HO_5.1 HO216.1); replace BK181 := za (qK76 BK181.1 HO216.1); replace HO219 := za (by exact Kd.R_after (ok := (fun k_ => some k_ ≠ (.slice Ao55 x4_2.length co55 : Value).ownBlock ∧ k_ ≠ gb181)) (qK37 HO219.1) hg hat); replace HB := za hb
                      replace HR213 := za (by exact (show Kd.C k44 w65 Ao55 y210.length y210 from by rw [Ny210.1]; exact Kd.C_take (m := (x9_3 : Int).toNat) ((zD (Kd.R_after (ok := (fun k_ => some k_ ≠ (.slice Ao66 y217.length co66 : Value).ownBlock ∧ k_ ≠ gb181)) (qK37 HO_4.1) hg hat)).2.2) KL57.1))
                      replace HR226 := za (by exact (show Kd.C k44 w65 A58 y223.length y223 from by rw [Ny223.1, KA58.1]; exact Kd.C_drop (m := (x9_3 : Int).toNat) (c := co55) ((zD (Kd.R_after (ok := (fun k_ => some k_ ≠ (.slice Ao66 y217.length co66 : Value).ownBlock ∧ k_ ≠ gb181)) (qK37 HO_4.1) hg hat)).2.2) KL58.1 ((zD (Kd.R_after (ok := (fun k_ => some k_ ≠ (.slice Ao66 y217.length co66 : Value).ownBlock ∧ k_ ≠ gb181)) (qK37 HO_4.1) hg hat)).2.1)))
                      replace HO_4 := za (by exact Kd.R_after (ok := (fun k_ => some k_ ≠ (.slice Ao66 y217.length co66 : Value).ownBlock ∧ k_ ≠ gb181)) (qK37 HO_4.1) hg hat); have HO222 := za ho; clear HO216; clear ho hb hg hat
                      refine hK.out _ _ ⟨(blk_cell BK181.1 0).trans rfl, (blk_cell BK181.1 1).trans rfl, (blk_cell BK181.1 2).trans rfl⟩ (fun hHeld => ?_)
                      clear hK K
                      refine norm_ (a' := ?_) ?_ ?_
                      rotate_left
                      ·show Act.put _ (some 73) _ = _
                       simp only [Act.put, yb, yc, yd, i64_w, i32_w]
                       rfl
                      refine one_ (i := 11) (N := some 77) qKb73 rfl rfl (qK88) (by decide) (fun K hK => ?_)
                      refine zH k44 (w0 := w) w.heap.size (by rfl) (.tmp 73) (.tmp 76) 26 44 (.agg #[(.string ⟨#[]⟩), (.int .i64 0), (.int .i64 0)]) 32 rfl Try.underlying26 info44 rfl (by decide) (by omega) v221 y220 y223 _ _ _ (fun k_ => some k_ ≠ (.slice Ao55 x4_2.length co55 : Value).ownBlock ∧ some k_ ≠ (.slice Ao66 y217.length co66 : Value).ownBlock ∧ k_ ≠ gb181) (fun _ => False) rfl rfl ?aO ?aR (fun _ _ h => h) (fun _ h => h.elim) ?aF ?aB ?aS ?aL ?_
                      (case aR => exact (qK87 HR226.1))
                      (case aB => exact (qK6 GE181.1))
                      (case aF => exact (qK92 HO_4.1 HO219.1 BK181.1))
                      (case aO => exact (qK0 HO222.1))
                      (case aS => exact (qK104))
                      (case aL => have := LMc53.1; omega)
                      intro v228 w67 ho hb hg hat; rw [← Ny227.1] at ho; replace HO_5 := za (qK94 HO_5.1 HO222.1); replace BK181 := za (qK76 BK181.1 HO222.1); replace HO219 := za (by exact Kd.R_after (ok := (fun k_ => some k_ ≠ (.slice Ao55 x4_2.length co55 : Value).ownBlock ∧ k_ ≠ gb181)) (qK0 HO219.1) hg hat); replace HB := za hb
                      replace HR213 := za (by exact (show Kd.C k44 w67 Ao55 y210.length y210 from by rw [Ny210.1]; exact Kd.C_take (m := (x9_3 : Int).toNat) ((zD (Kd.R_after (ok := (fun k_ => some k_ ≠ (.slice Ao66 y217.length co66 : Value).ownBlock ∧ k_ ≠ gb181)) (qK0 HO_4.1) hg hat)).2.2) KL57.1))
                      replace HR226 := za (by exact (show Kd.C k44 w67 A58 y223.length y223 from by rw [Ny223.1, KA58.1]; exact Kd.C_drop (m := (x9_3 : Int).toNat) (c := co55) ((zD (Kd.R_after (ok := (fun k_ => some k_ ≠ (.slice Ao66 y217.length co66 : Value).ownBlock ∧ k_ ≠ gb181)) (qK0 HO_4.1) hg hat)).2.2) KL58.1 ((zD (Kd.R_after (ok := (fun k_ => some k_ ≠ (.slice Ao66 y217.length co66 : Value).ownBlock ∧ k_ ≠ gb181)) (qK0 HO_4.1) hg hat)).2.1)))
                      replace HO_4 := za (by exact Kd.R_after (ok := (fun k_ => some k_ ≠ (.slice Ao66 y217.length co66 : Value).ownBlock ∧ k_ ≠ gb181)) (qK0 HO_4.1) hg hat); have HO229 := za ho; clear HO222; clear ho hb hg hat
                      refine hK.out _ _ ⟨(blk_cell BK181.1 0).trans rfl, (blk_cell BK181.1 1).trans rfl, (blk_cell BK181.1 2).trans rfl⟩ (fun hHeld => ?_)
                      clear hK K
                      refine norm_ (a' := ?_) ?_ ?_
                      rotate_left
                      ·show Act.put _ (some 77) _ = _
                       simp only [Act.put, yb, yc, yd, i64_w, i32_w]
                       rfl
                      refine pure_ (i := 12) (N := some 4) (v := ?_) (a' := ?_) qKb74 rfl rfl (qK9) (fun _ _ _ h => h) (zU ⟨by rfl, ?_⟩) ?_ ?_
                      rotate_left; exact qK8_c1; rotate_left; exact qK8_c0
                      refine done_ (qK101) ?_
                      try go_wp2
                      go_roundg k3
                      case measure => have := HK1.1; have := HK2.1; have := HK3.1; omega
                      case rel => exact ⟨(y227), (wrap64 (x7_2 + 1)), (qK17), H', ⟨by have := HK1.1; have := HK2.1; have := HK3.1; omega⟩, ⟨(qK33 HO229.1)⟩, ⟨(qK0 HO_5.1)⟩, ⟨(qK6 GE181.1)⟩⟩
                     ·rw [zY c53] at H
                      exact zM H (by simp)
                    ·rw [zY c50] at H
                     exact zM H (by simp)
                   ·rw [zY c49] at H
                    exact zM H (by simp)
                  ·rw [zY c48] at H
                   exact zM H (by simp)
                 ·rw [zY c47] at H
                  exact zM H (by simp)
             ·replace c18 := zm c18; subst c18; rw [zY (show ¬ (false = true) by decide)] at H; have H' := za H; clear H; have p179 : 0 ≤ (x6_1 : Int) := zb (qK12); have q179 : x6_1 < (t168.length : Int) := zb (qK12); obtain ⟨ad179, e179, hx179_0⟩ := Kd.at_string (zD HO_5.1).2.2 x6_1 p179 q179; cases e179; replace p179 := zv p179; replace q179 := zv q179; have p180 : 0 ≤ (x6_1 : Int) := zb (qK12); have q180 : x6_1 < (t168.length : Int) := zb (qK12); obtain ⟨ad180, e180, hx180_0⟩ := Kd.at_string (zD HO_5.1).2.2 x6_1 p180 q180; obtain rfl : ad179 = ad180 := (by injection e180); replace p180 := zv p180; replace q180 := zv q180
              go_wp2_with (first | ((with_reducible refine zp (N := 8) rfl ?_); refine zA ?hg (N := 8) ?hd (cs := #[.string (⟨#[]⟩ : ByteArray), .int .i64 0, .int .i64 0]) (t := 44) ?hr ?_; (case hd | hg => rfl); (case hr => exact (qK21)); intro gb181 hg w68 hbox hb; replace HO_4 := za qK120; replace HO_5 := za (qK83 HO_5.1); have BK181 := za hbox; have GW181 := za qK112; have GE181 := za qK112; replace HB := za qK85; clear hb hbox hg; have hcz69_0 : w68.cell? ⟨gb181, 0, none⟩ = some (.string (⟨#[]⟩ : ByteArray)) := (blk_cell BK181.1 0).trans rfl; have hcz69_1 : w68.cell? ⟨gb181, 1, none⟩ = some (.int .i64 0) := (blk_cell BK181.1 1).trans rfl; have hcz69_2 : w68.cell? ⟨gb181, 2, none⟩ = some (.int .i64 0) := (blk_cell BK181.1 2).trans rfl; have hfz69_0 := ze BK181.1 0; have hfz69_1 := ze BK181.1 1; have hfz69_2 := ze BK181.1 2) | ((with_reducible refine zo (f := 68) rfl ?_); refine zR (some 48) rfl rfl Try.func68 (qK18) rfl #[.string ((rdOf ByteArray.empty t168 x6_1).extract (x7_2 : Int).toNat ((wrap64 (x7_2 + 1)) : Int).toNat)] rfl (qK5) ?_; (with_reducible refine (spec_l13Letter.calls ((rdOf ByteArray.empty t168 x6_1).extract (x7_2 : Int).toNat ((wrap64 (x7_2 + 1)) : Int).toNat) false _ A17.1).mono ?_); rintro e w' ⟨rfl, ⟨nd, rfl⟩⟩; refine ⟨_, rfl, ?_⟩))
              go_roundg k2
              case measure => have := HK1.1; have := HK2.1; omega
              case rel => exact ⟨(x4_2), (wrap64 (x7_2 + 1)), (qK17), H', ⟨by have := HK1.1; have := HK2.1; omega⟩, ⟨(by (with_reducible repeat (first | apply Kd.R_alloc | apply Kd.R_drewN | apply zJ)); exact zF (zG (p := ⟨gb181, 2, none⟩) (zG (p := ⟨gb181, 1, none⟩) (zG (p := ⟨gb181, 0, none⟩) (zF HO_4.1 (fun k_ hk => (⟨hk, hk.2⟩ : _ ∧ k_ ≠ gb181))) (fun _ hk => hk.2) (.string ((rdOf ByteArray.empty t168 x6_1).extract (x7_2 : Int).toNat ((wrap64 (x7_2 + 1)) : Int).toNat))) (fun _ hk => hk.2) (.int .i64 x7_2)) (fun _ hk => hk.2) (.int .i64 (wrap64 (-x6_1)))) (fun _ hk => trivial))⟩, ⟨(qK55)⟩, ⟨(qK6 GE181.1)⟩⟩
            ·rw [zY c16] at H
             exact zM H (by simp)
           ·rw [zY c15] at H
            exact zM H (by simp)
          ·rw [zY c14] at H
           exact zM H (by simp)
         ·rw [zY c13] at H; have c13b0 : decide (x7_2 < ((rdOf ByteArray.empty t168 x6_1).size : Int)) = false := zu c13; clear c13; have H' := za H; clear H; have p179 : 0 ≤ (x6_1 : Int) := zb (qK12); have q179 : x6_1 < (t168.length : Int) := zb (qK12); obtain ⟨ad179, e179, hx179_0⟩ := Kd.at_string (zD HO_5.1).2.2 x6_1 p179 q179; cases e179; replace p179 := zv p179; replace q179 := zv q179
          go_wp2
          go_roundg k2
          case measure => have := HK1.1; have := HK2.1; omega
          case rel => exact ⟨(x4_2), (wrap64 (x6_1 + 1)), (qK17), H', ⟨by have := HK1.1; have := HK2.1; omega⟩, ⟨(qK0 HO_4.1)⟩, ⟨(qK0 HO_5.1)⟩, ⟨(qK2)⟩⟩
        ·rw [zY c12] at H
         exact zM H (by simp)
       ·rw [zY c11] at H
        exact zM H (by simp)
    ·rw [zY c9] at H; have c9b0 : decide (x6_1 < (t168.length : Int)) = false := zu c9; clear c9; replace H := bindA H; obtain ⟨⟨t171, t172⟩, A70, H⟩ := H; (try dsimp only at H)
     by_cases c71 : t172 = true
     ·subst c71; rw [zX rfl] at H
      by_cases c72 : t171.toList = a0.toList
      ·rw [zX c72] at H; have c72b0 : (t171.toList == a0.toList) = true := zP c72; have c72b1 : (t171.toList != a0.toList) = false := zx c72; clear c72; simp only [zZ, ya] at H; obtain ⟨rfl, rfl⟩ := H; obtain ⟨Ao73, co73, eo73⟩ := zE HO_5.1; subst eo73; obtain ⟨Ao74, co74, eo74⟩ := zE HO_4.1; subst eo74
       go_wp2_with (first | ((with_reducible refine zo (f := 9) rfl ?_); refine zR (some 80) rfl rfl Try.func9 (qK18) rfl #[.slice Ao74 x4_1.length co74, .int .i64 1] rfl (qK5) ?_; (with_reducible refine (spec_PlanText.calls k1 _ _ x4_1 1 t171 true _ ?s1 ?s2 A70.1).mono ?_); (case s1 => exact (qK11 HO_4.1)); (case s2 => exact (qK42 HO_4.1)); rintro e w75 ⟨rfl, hb⟩; refine ⟨_, rfl, ?_⟩; replace HO_4 := za (qK83 HO_4.1); replace HO_5 := za (qK83 HO_5.1); replace HB := za qK85; clear hb))
       go_ret2
       exact ⟨_, (qK15), (qK0 HO_4.1), (qK2)⟩
      ·rw [zY c72] at H; have c72b0 : (t171.toList == a0.toList) = false := zw c72; have c72b1 : (t171.toList != a0.toList) = true := zQ c72; obtain ⟨y173, hy173⟩ : ∃ y_ : List (S44), y_ = (([] : List (S44))) := ⟨_, rfl⟩; replace H : (some (y173, false)) = some (r1, r2) := (qK7 hy173); have Ny173 := za hy173; clear hy173; simp only [zZ, ya] at H; obtain ⟨rfl, rfl⟩ := H; obtain ⟨Ao76, co76, eo76⟩ := zE HO_5.1; subst eo76; obtain ⟨Ao77, co77, eo77⟩ := zE HO_4.1; subst eo77
       go_wp2_with (first | ((with_reducible refine zo (f := 9) rfl ?_); refine zR (some 80) rfl rfl Try.func9 (qK18) rfl #[.slice Ao77 x4_1.length co77, .int .i64 1] rfl (qK5) ?_; (with_reducible refine (spec_PlanText.calls k1 _ _ x4_1 1 t171 true _ ?s1 ?s2 A70.1).mono ?_); (case s1 => exact (qK11 HO_4.1)); (case s2 => exact (qK42 HO_4.1)); rintro e w78 ⟨rfl, hb⟩; refine ⟨_, rfl, ?_⟩; replace HO_4 := za (qK83 HO_4.1); replace HO_5 := za (qK83 HO_5.1); replace HB := za qK85; clear hb) | ((with_reducible refine zp (N := 90) rfl ?_); refine zL k44 _ 44 ?hg (N := 90) ?hd (xs := ([] : List (S44))) (inner := []) (ok := fun _ => True) (okp := fun _ => True) ?hr ?hp (fun _ hk => hk) trivial (zr _ _) (zn _) (by simp) ?_; (case hd | hg => rfl); (case hr => exact (qK21)); (case hp => exact (zt _ _)); intro v174 w79 ho80 hb hg_ hnew_; clear hg_ hnew_; (first | rw [← Ny173.1] at ho80 | (simp only [Int.reduceToNat] at ho80; rw [← Ny173.1] at ho80)); replace HO_5 := za (qK83 HO_5.1); have HO175 := za (qK108 ho80 HO_4.1); replace HO_4 := za (qK86 HO_4.1 ho80); replace HB := za qK85; clear hb ho80))
       go_ret2
       exact ⟨_, (qK15), (qK33 HO175.1), (qK2)⟩
     ·replace c71 := zm c71; subst c71; rw [zY (show ¬ (false = true) by decide)] at H; obtain ⟨y176, hy176⟩ : ∃ y_ : List (S44), y_ = (([] : List (S44))) := ⟨_, rfl⟩; replace H : (some (y176, false)) = some (r1, r2) := (qK7 hy176); have Ny176 := za hy176; clear hy176; simp only [zZ, ya] at H; obtain ⟨rfl, rfl⟩ := H; obtain ⟨Ao81, co81, eo81⟩ := zE HO_5.1; subst eo81; obtain ⟨Ao82, co82, eo82⟩ := zE HO_4.1; subst eo82
      go_wp2_with (first | ((with_reducible refine zo (f := 9) rfl ?_); refine zR (some 80) rfl rfl Try.func9 (qK18) rfl #[.slice Ao82 x4_1.length co82, .int .i64 1] rfl (qK5) ?_; (with_reducible refine (spec_PlanText.calls k1 _ _ x4_1 1 t171 false _ ?s1 ?s2 A70.1).mono ?_); (case s1 => exact (qK11 HO_4.1)); (case s2 => exact (qK42 HO_4.1)); rintro e w83 ⟨rfl, hb⟩; refine ⟨_, rfl, ?_⟩; replace HO_4 := za (qK83 HO_4.1); replace HO_5 := za (qK83 HO_5.1); replace HB := za qK85; clear hb) | ((with_reducible refine zp (N := 90) rfl ?_); refine zL k44 _ 44 ?hg (N := 90) ?hd (xs := ([] : List (S44))) (inner := []) (ok := fun _ => True) (okp := fun _ => True) ?hr ?hp (fun _ hk => hk) trivial (zr _ _) (zn _) (by simp) ?_; (case hd | hg => rfl); (case hr => exact (qK21)); (case hp => exact (zt _ _)); intro v177 w84 ho85 hb hg_ hnew_; clear hg_ hnew_; (first | rw [← Ny176.1] at ho85 | (simp only [Int.reduceToNat] at ho85; rw [← Ny176.1] at ho85)); replace HO_5 := za (qK83 HO_5.1); have HO178 := za (qK108 ho85 HO_4.1); replace HO_4 := za (qK86 HO_4.1 ho85); replace HB := za qK85; clear hb ho85))
      go_ret2
      exact ⟨_, (qK15), (qK33 HO178.1), (qK2)⟩

end Go.Proofs.Ytckidmhkhlbkeaa.MK
