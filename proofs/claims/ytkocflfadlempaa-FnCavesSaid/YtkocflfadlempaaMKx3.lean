-- tight2 (a walk)
import Derived.Test.YtkocflfadlempaaMKx0
namespace Go.Proofs.Ytkocflfadlempaa.MK
open Go.RowKit Go.Proofs.YtkocflfadlempaaW.PrintWords Go.Proofs.YtkocflfadlempaaW.PrintLast
set_option maxHeartbeats 8000000
set_option maxRecDepth 100000
theorem qK3_c0 {p : Prop} (h : p := by
  simp only [Act.put, yf, yg, yh, i64_w, i32_w]
  rfl) : p := h
theorem qK3_c1 {p : Prop} (h : p := by
  intro w'
  go_simp
  with_reducible rfl) : p := h
theorem qK3_c2 {p : Prop} (h : p := by
  rintro w' ⟨s0, s1, s2, s3, s4⟩
  go_simp
  with_reducible rfl) : p := h
attribute [local go_sem] max2_int min2_int max_two min_two
set_option linter.unusedVariables false
set_option linter.unusedSimpArgs false

def spec_l1In.f (a0 : Int) (a1 : Int) (a2 : Int) : Option (Bool) := if a0 ≥ a1 then (some (decide (a0 ≤ a2))) else (some false)
theorem spec_l1In.calls (a0 : Int) (a1 : Int) (a2 : Int) (r : Bool) (w : World) (h : spec_l1In.f a0 a1 a2 = some r) :
  Calls Try.prog 63 #[.int .i64 a0, .int .i64 a1, .int .i64 a2] w fun e w' => e = .returned (.bool r) ∧ Drawn0 w w' := by
 have H : (if a0 ≥ a1 then (some (decide (a0 ≤ a2))) else (some false)) = some r := h; clear h
 by_cases c4 : a0 ≥ a1
 ·rw [yb c4] at H; have c4b0 : decide (a1 ≤ a0) = true := zc c4; clear c4; obtain rfl := zm H
  go_enter Try.func63, Try.ntmps63
  go_wp2
  go_ret
  exact ⟨(qK10), (qK24)⟩
 ·rw [yc c4] at H; have c4b0 : decide (a1 ≤ a0) = false := zv c4; clear c4; obtain rfl := zm H
  go_enter Try.func63, Try.ntmps63
  go_wp2
  go_ret
  exact ⟨(qK10), (qK24)⟩

def spec_l4Plus.f (a0_0 : Int) (a0_1 : Int) (a0_2 : Int) (a1_0 : Int) (a1_1 : Int) (a1_2 : Int) (a2 : Int) : Option (Int × Int × Int) := some (wrap64 (a0_0 + (wrap64 (a2 * a1_0))), wrap64 (a0_1 + (wrap64 (a2 * a1_1))), wrap64 (a0_2 + (wrap64 (a2 * a1_2))))
theorem spec_l4Plus.calls (a0_0 : Int) (a0_1 : Int) (a0_2 : Int) (a1_0 : Int) (a1_1 : Int) (a1_2 : Int) (a2 : Int) (r1 : Int) (r2 : Int) (r3 : Int) (w : World) (h : spec_l4Plus.f a0_0 a0_1 a0_2 a1_0 a1_1 a1_2 a2 = some (r1, r2, r3)) :
  Calls Try.prog 64 #[.agg #[.int .i64 a0_0, .int .i64 a0_1, .int .i64 a0_2], .agg #[.int .i64 a1_0, .int .i64 a1_1, .int .i64 a1_2], .int .i64 a2] w fun e w' => e = .returned (.agg #[.int .i64 r1, .int .i64 r2, .int .i64 r3]) ∧ Below w.heap.size w w' := by
 have hu86 := Try.underlying86; have HB := za (zs w.heap.size w); have H : (some (wrap64 (a0_0 + (wrap64 (a2 * a1_0))), wrap64 (a0_1 + (wrap64 (a2 * a1_1))), wrap64 (a0_2 + (wrap64 (a2 * a1_2))))) = some (r1, r2, r3) := h; clear h; simp only [yd, ye] at H; obtain ⟨rfl, rfl, rfl⟩ := H
 go_enter Try.func64, Try.ntmps64
 go_wp2_with (first | ((with_reducible refine zq (N := 3) rfl ?_); refine zB ?hg (N := 3) ?hd (cs := #[.int .i64 a0_0, .int .i64 a0_1, .int .i64 a0_2]) (t := 86) ?hr ?_; (case hd | hg => rfl); (case hr => exact (qK23)); intro gb115 hg w4 hbox hb; have BK115 := za hbox; have GW115 := za (by exact (by rw [hg]; exact (zX (qK0)) : w.heap.size ≤ gb115)); have GE115 := za (by exact (by rw [hg]; exact (zX (qK0)) : w.heap.size ≤ gb115)); replace HB := za qK73; clear hb hbox hg) | ((with_reducible refine zq (N := 4) rfl ?_); refine zB ?hg (N := 4) ?hd (cs := #[.int .i64 a1_0, .int .i64 a1_1, .int .i64 a1_2]) (t := 86) ?hr ?_; (case hd | hg => rfl); (case hr => exact (qK23)); intro gb116 hg w5 hbox hb; have BK116 := za hbox; have GW116 := za ((by rw [hg]; exact (zX (qK19 GE115.1)) : w.heap.size ≤ gb116)); have GE116 := za ((by rw [hg]; exact (zX (qK19 GE115.1)) : w.heap.size ≤ gb116)); replace HB := za (zW (qK19 GE115.1) hb); have NB115_116 := za ((by rw [hg]; exact Nat.ne_of_lt (blk_lt (g := gb115) (o := .cells #[.int .i64 a0_0, .int .i64 a0_1, .int .i64 a0_2] 86 (0, 0)) (qK12 BK115.1)) : gb115 ≠ gb116)); have NB116_115 := za ((by rw [hg]; exact Nat.ne_of_gt (blk_lt (g := gb115) (o := .cells #[.int .i64 a0_0, .int .i64 a0_1, .int .i64 a0_2] 86 (0, 0)) (qK12 BK115.1)) : gb116 ≠ gb115)); replace BK115 := za (zl (g := gb115) (o := .cells #[.int .i64 a0_0, .int .i64 a0_1, .int .i64 a0_2] 86 (0, 0)) (qK12 BK115.1) hb); clear hb hbox hg) | ((with_reducible refine zq (N := 6) rfl ?_); refine zB ?hg (N := 6) ?hd (cs := #[.int .i64 0, .int .i64 0, .int .i64 0]) (t := 86) ?hr ?_; (case hd | hg => rfl); (case hr => exact (qK23)); intro gb117 hg w6 hbox hb; have BK117 := za hbox; have GW117 := za ((by rw [hg]; exact (zX (qK27 GE115.1 GE116.1)) : w.heap.size ≤ gb117)); have GE117 := za ((by rw [hg]; exact (zX (qK27 GE115.1 GE116.1)) : w.heap.size ≤ gb117)); replace HB := za (zW (qK27 GE115.1 GE116.1) hb); have NB115_117 := za ((by rw [hg]; exact Nat.ne_of_lt (blk_lt (g := gb115) (o := .cells #[.int .i64 a0_0, .int .i64 a0_1, .int .i64 a0_2] 86 (0, 0)) (qK12 BK115.1)) : gb115 ≠ gb117)); have NB117_115 := za ((by rw [hg]; exact Nat.ne_of_gt (blk_lt (g := gb115) (o := .cells #[.int .i64 a0_0, .int .i64 a0_1, .int .i64 a0_2] 86 (0, 0)) (qK12 BK115.1)) : gb117 ≠ gb115)); replace BK115 := za (zl (g := gb115) (o := .cells #[.int .i64 a0_0, .int .i64 a0_1, .int .i64 a0_2] 86 (0, 0)) (qK12 BK115.1) hb); have NB116_117 := za ((by rw [hg]; exact Nat.ne_of_lt (blk_lt (g := gb116) (o := .cells #[.int .i64 a1_0, .int .i64 a1_1, .int .i64 a1_2] 86 (0, 0)) (qK12 BK116.1)) : gb116 ≠ gb117)); have NB117_116 := za ((by rw [hg]; exact Nat.ne_of_gt (blk_lt (g := gb116) (o := .cells #[.int .i64 a1_0, .int .i64 a1_1, .int .i64 a1_2] 86 (0, 0)) (qK12 BK116.1)) : gb117 ≠ gb116)); replace BK116 := za (zl (g := gb116) (o := .cells #[.int .i64 a1_0, .int .i64 a1_1, .int .i64 a1_2] 86 (0, 0)) (qK12 BK116.1) hb); clear hb hbox hg; have hnb7 := NB115_116.1; have hnc7 := NB116_115.1; have hnb8 := NB115_117.1; have hnc8 := NB117_115.1; have hcz9_0 : w6.cell? ⟨gb115, 0, none⟩ = some (.int .i64 a0_0) := (zf BK115.1 0).trans rfl; have hcz9_1 : w6.cell? ⟨gb115, 1, none⟩ = some (.int .i64 a0_1) := (zf BK115.1 1).trans rfl; have hcz9_2 : w6.cell? ⟨gb115, 2, none⟩ = some (.int .i64 a0_2) := (zf BK115.1 2).trans rfl; have hfz9_0 := ze BK115.1 0; have hfz9_1 := ze BK115.1 1; have hfz9_2 := ze BK115.1 2; have hnb10 := NB116_117.1; have hnc10 := NB117_116.1; have hcz11_0 : w6.cell? ⟨gb116, 0, none⟩ = some (.int .i64 a1_0) := (zf BK116.1 0).trans rfl; have hcz11_1 : w6.cell? ⟨gb116, 1, none⟩ = some (.int .i64 a1_1) := (zf BK116.1 1).trans rfl; have hcz11_2 : w6.cell? ⟨gb116, 2, none⟩ = some (.int .i64 a1_2) := (zf BK116.1 2).trans rfl; have hfz11_0 := ze BK116.1 0; have hfz11_1 := ze BK116.1 1; have hfz11_2 := ze BK116.1 2; have hcz12_0 : w6.cell? ⟨gb117, 0, none⟩ = some (.int .i64 0) := (zf BK117.1 0).trans rfl; have hcz12_1 : w6.cell? ⟨gb117, 1, none⟩ = some (.int .i64 0) := (zf BK117.1 1).trans rfl; have hcz12_2 : w6.cell? ⟨gb117, 2, none⟩ = some (.int .i64 0) := (zf BK117.1 2).trans rfl; have hfz12_0 := ze BK117.1 0; have hfz12_1 := ze BK117.1 1; have hfz12_2 := ze BK117.1 2))
 refine bodyPost_ret (results_cell_row rfl _ _ gb117 86 #[.int .i64 (wrap64 (a0_0 + (wrap64 (a2 * a1_0)))), .int .i64 (wrap64 (a0_1 + (wrap64 (a2 * a1_1)))), .int .i64 (wrap64 (a0_2 + (wrap64 (a2 * a1_2))))] (0, 0) _ rfl (by (with_reducible repeat (first | refine zh ?_ _ | refine zi ?_ | refine zg ?_ _)); refine zj (cs := #[.int .i64 (wrap64 (a0_0 + (wrap64 (a2 * a1_0)))), .int .i64 (wrap64 (a0_1 + (wrap64 (a2 * a1_1)))), .int .i64 0]) ?_ 2 _ rfl; (with_reducible repeat (first | refine zh ?_ _ | refine zi ?_ | refine zg ?_ _)); refine zj (cs := #[.int .i64 (wrap64 (a0_0 + (wrap64 (a2 * a1_0)))), .int .i64 0, .int .i64 0]) ?_ 1 _ rfl; (with_reducible repeat (first | refine zh ?_ _ | refine zi ?_ | refine zg ?_ _)); refine zj (cs := #[.int .i64 0, .int .i64 0, .int .i64 0]) ?_ 0 _ rfl; (with_reducible repeat (first | refine zh ?_ _ | refine zi ?_ | refine zg ?_ _)); exact BK117.1) Try.underlying86 rfl (qK25)) rfl ?_
 exact ⟨(qK11), (by repeat (first | (with_reducible first | exact HB.1 | apply zZ | apply pw_below_drewN | apply below_drew1 | refine ya ?_ GE115.1 | refine ya ?_ GE116.1 | refine ya ?_ GE117.1) | exact HB.1))⟩

def spec_l2Div.f (a0 : Int) (a1 : Int) : Option (Int) := if a0 < 0 then (if (wrap64 (2 * a1)) = 0 then (none) else (some (wrap64 (-(wrap64 (Int.tdiv (wrap64 ((wrap64 ((-2) * a0)) + a1)) (wrap64 (2 * a1)))))))) else (if (wrap64 (2 * a1)) = 0 then (none) else (some (wrap64 (Int.tdiv (wrap64 ((wrap64 (2 * a0)) + a1)) (wrap64 (2 * a1))))))
theorem spec_l2Div.calls (a0 : Int) (a1 : Int) (r : Int) (w : World) (h : spec_l2Div.f a0 a1 = some r) :
  Calls Try.prog 76 #[.int .i64 a0, .int .i64 a1] w fun e w' => e = .returned (.int .i64 r) ∧ Drawn0 w w' := by
 have H : (if a0 < 0 then (if (wrap64 (2 * a1)) = 0 then (none) else (some (wrap64 (-(wrap64 (Int.tdiv (wrap64 ((wrap64 ((-2) * a0)) + a1)) (wrap64 (2 * a1)))))))) else (if (wrap64 (2 * a1)) = 0 then (none) else (some (wrap64 (Int.tdiv (wrap64 ((wrap64 (2 * a0)) + a1)) (wrap64 (2 * a1))))))) = some r := h; clear h
 by_cases c3 : a0 < 0
 ·rw [yb c3] at H; have c3b0 : decide (a0 < 0) = true := zc c3; clear c3
  by_cases c4 : (wrap64 (2 * a1)) = 0
  ·rw [yb c4] at H
   exact absurd H (by simp)
  ·rw [yc c4] at H; have c4b0 : ((wrap64 (2 * a1)) == 0) = false := zx c4; have c4b1 : ((wrap64 (2 * a1)) != 0) = true := zU c4; obtain rfl := zm H
   go_enter Try.func76, Try.ntmps76
   go_wp2
   go_ret
   exact ⟨(qK10), (qK24)⟩
 ·rw [yc c3] at H; have c3b0 : decide (a0 < 0) = false := zv c3; clear c3
  by_cases c5 : (wrap64 (2 * a1)) = 0
  ·rw [yb c5] at H
   exact absurd H (by simp)
  ·rw [yc c5] at H; have c5b0 : ((wrap64 (2 * a1)) == 0) = false := zx c5; have c5b1 : ((wrap64 (2 * a1)) != 0) = true := zU c5; obtain rfl := zm H
   go_enter Try.func76, Try.ntmps76
   go_wp2
   go_ret
   exact ⟨(qK10), (qK24)⟩

def spec_l2Table.f  : Option (List Int) := some (([0, 17, 35, 52, 70, 87, 105, 122, 139, 156, 174, 191, 208, 225, 242, 259, 276, 292, 309, 326, 342, 358, 375, 391, 407, 423, 438, 454, 469, 485, 500, 515, 530, 545, 559, 574, 588, 602, 616, 629, 643, 656, 669, 682, 695, 707, 719, 731, 743, 755, 766, 777, 788, 799, 809, 819, 829, 839, 848, 857, 866, 875, 883, 891, 899, 906, 914, 921, 927, 934, 940, 946, 951, 956, 961, 966, 970, 974, 978, 982, 985, 988, 990, 993, 995, 996, 998, 999, 999, 1000, 1000] : List Int))
theorem spec_l2Table.calls  (r : List Int) (w : World) (h : spec_l2Table.f  = some r) :
  Calls Try.prog 80 #[] w fun e w' => ∃ v0_ : Value, e = .returned (v0_) ∧ Kd.R (Kd.int .i64) 3 w' w.heap.size (fun _ => True) v0_ r ∧ Below w.heap.size w w' := by
 have HB := za (zs w.heap.size w); have H : (some (([0, 17, 35, 52, 70, 87, 105, 122, 139, 156, 174, 191, 208, 225, 242, 259, 276, 292, 309, 326, 342, 358, 375, 391, 407, 423, 438, 454, 469, 485, 500, 515, 530, 545, 559, 574, 588, 602, 616, 629, 643, 656, 669, 682, 695, 707, 719, 731, 743, 755, 766, 777, 788, 799, 809, 819, 829, 839, 848, 857, 866, 875, 883, 891, 899, 906, 914, 921, 927, 934, 940, 946, 951, 956, 961, 966, 970, 974, 978, 982, 985, 988, 990, 993, 995, 996, 998, 999, 999, 1000, 1000] : List Int))) = some r := h; clear h; obtain ⟨y118, hy118⟩ : ∃ y_ : List Int, y_ = (([0, 17, 35, 52, 70, 87, 105, 122, 139, 156, 174, 191, 208, 225, 242, 259, 276, 292, 309, 326, 342, 358, 375, 391, 407, 423, 438, 454, 469, 485, 500, 515, 530, 545, 559, 574, 588, 602, 616, 629, 643, 656, 669, 682, 695, 707, 719, 731, 743, 755, 766, 777, 788, 799, 809, 819, 829, 839, 848, 857, 866, 875, 883, 891, 899, 906, 914, 921, 927, 934, 940, 946, 951, 956, 961, 966, 970, 974, 978, 982, 985, 988, 990, 993, 995, 996, 998, 999, 999, 1000, 1000] : List Int)) := ⟨_, rfl⟩; replace H : (some y118) = some r := (qK4 hy118); have Ny118 := za hy118; clear hy118; obtain rfl := zm H
 go_enter Try.func80, Try.ntmps80
 go_wp2_with (first | ((with_reducible refine zq (N := 1) rfl ?_); refine zQ (Kd.int .i64) _ 3 ?hg (N := 1) ?hd (xs := ([0, 17, 35, 52, 70, 87, 105, 122, 139, 156, 174, 191, 208, 225, 242, 259, 276, 292, 309, 326, 342, 358, 375, 391, 407, 423, 438, 454, 469, 485, 500, 515, 530, 545, 559, 574, 588, 602, 616, 629, 643, 656, 669, 682, 695, 707, 719, 731, 743, 755, 766, 777, 788, 799, 809, 819, 829, 839, 848, 857, 866, 875, 883, 891, 899, 906, 914, 921, 927, 934, 940, 946, 951, 956, 961, 966, 970, 974, 978, 982, 985, 988, 990, 993, 995, 996, 998, 999, 999, 1000, 1000] : List Int)) (inner := [.int .i64 0, .int .i64 17, .int .i64 35, .int .i64 52, .int .i64 70, .int .i64 87, .int .i64 105, .int .i64 122, .int .i64 139, .int .i64 156, .int .i64 174, .int .i64 191, .int .i64 208, .int .i64 225, .int .i64 242, .int .i64 259, .int .i64 276, .int .i64 292, .int .i64 309, .int .i64 326, .int .i64 342, .int .i64 358, .int .i64 375, .int .i64 391, .int .i64 407, .int .i64 423, .int .i64 438, .int .i64 454, .int .i64 469, .int .i64 485, .int .i64 500, .int .i64 515, .int .i64 530, .int .i64 545, .int .i64 559, .int .i64 574, .int .i64 588, .int .i64 602, .int .i64 616, .int .i64 629, .int .i64 643, .int .i64 656, .int .i64 669, .int .i64 682, .int .i64 695, .int .i64 707, .int .i64 719, .int .i64 731, .int .i64 743, .int .i64 755, .int .i64 766, .int .i64 777, .int .i64 788, .int .i64 799, .int .i64 809, .int .i64 819, .int .i64 829, .int .i64 839, .int .i64 848, .int .i64 857, .int .i64 866, .int .i64 875, .int .i64 883, .int .i64 891, .int .i64 899, .int .i64 906, .int .i64 914, .int .i64 921, .int .i64 927, .int .i64 934, .int .i64 940, .int .i64 946, .int .i64 951, .int .i64 956, .int .i64 961, .int .i64 966, .int .i64 970, .int .i64 974, .int .i64 978, .int .i64 982, .int .i64 985, .int .i64 988, .int .i64 990, .int .i64 993, .int .i64 995, .int .i64 996, .int .i64 998, .int .i64 999, .int .i64 999, .int .i64 1000, .int .i64 1000]) (ok := fun _ => True) (okp := fun _ => True) ?hr ?hp (fun _ hk => hk) trivial (zs _ _) (zo _) (by simp) ?_; (case hd | hg => rfl); (case hr => exact (qK23)); (case hp => exact (by exact (zt (show Kd.M (Kd.int .i64) _ _ _ 0 [.int .i64 0] from rfl) (zt (show Kd.M (Kd.int .i64) _ _ _ 17 [.int .i64 17] from rfl) (zt (show Kd.M (Kd.int .i64) _ _ _ 35 [.int .i64 35] from rfl) (zt (show Kd.M (Kd.int .i64) _ _ _ 52 [.int .i64 52] from rfl) (zt (show Kd.M (Kd.int .i64) _ _ _ 70 [.int .i64 70] from rfl) (zt (show Kd.M (Kd.int .i64) _ _ _ 87 [.int .i64 87] from rfl) (zt (show Kd.M (Kd.int .i64) _ _ _ 105 [.int .i64 105] from rfl) (zt (show Kd.M (Kd.int .i64) _ _ _ 122 [.int .i64 122] from rfl) (zt (show Kd.M (Kd.int .i64) _ _ _ 139 [.int .i64 139] from rfl) (zt (show Kd.M (Kd.int .i64) _ _ _ 156 [.int .i64 156] from rfl) (zt (show Kd.M (Kd.int .i64) _ _ _ 174 [.int .i64 174] from rfl) (zt (show Kd.M (Kd.int .i64) _ _ _ 191 [.int .i64 191] from rfl) (zt (show Kd.M (Kd.int .i64) _ _ _ 208 [.int .i64 208] from rfl) (zt (show Kd.M (Kd.int .i64) _ _ _ 225 [.int .i64 225] from rfl) (zt (show Kd.M (Kd.int .i64) _ _ _ 242 [.int .i64 242] from rfl) (zt (show Kd.M (Kd.int .i64) _ _ _ 259 [.int .i64 259] from rfl) (zt (show Kd.M (Kd.int .i64) _ _ _ 276 [.int .i64 276] from rfl) (zt (show Kd.M (Kd.int .i64) _ _ _ 292 [.int .i64 292] from rfl) (zt (show Kd.M (Kd.int .i64) _ _ _ 309 [.int .i64 309] from rfl) (zt (show Kd.M (Kd.int .i64) _ _ _ 326 [.int .i64 326] from rfl) (zt (show Kd.M (Kd.int .i64) _ _ _ 342 [.int .i64 342] from rfl) (zt (show Kd.M (Kd.int .i64) _ _ _ 358 [.int .i64 358] from rfl) (zt (show Kd.M (Kd.int .i64) _ _ _ 375 [.int .i64 375] from rfl) (zt (show Kd.M (Kd.int .i64) _ _ _ 391 [.int .i64 391] from rfl) (zt (show Kd.M (Kd.int .i64) _ _ _ 407 [.int .i64 407] from rfl) (zt (show Kd.M (Kd.int .i64) _ _ _ 423 [.int .i64 423] from rfl) (zt (show Kd.M (Kd.int .i64) _ _ _ 438 [.int .i64 438] from rfl) (zt (show Kd.M (Kd.int .i64) _ _ _ 454 [.int .i64 454] from rfl) (zt (show Kd.M (Kd.int .i64) _ _ _ 469 [.int .i64 469] from rfl) (zt (show Kd.M (Kd.int .i64) _ _ _ 485 [.int .i64 485] from rfl) (zt (show Kd.M (Kd.int .i64) _ _ _ 500 [.int .i64 500] from rfl) (zt (show Kd.M (Kd.int .i64) _ _ _ 515 [.int .i64 515] from rfl) (zt (show Kd.M (Kd.int .i64) _ _ _ 530 [.int .i64 530] from rfl) (zt (show Kd.M (Kd.int .i64) _ _ _ 545 [.int .i64 545] from rfl) (zt (show Kd.M (Kd.int .i64) _ _ _ 559 [.int .i64 559] from rfl) (zt (show Kd.M (Kd.int .i64) _ _ _ 574 [.int .i64 574] from rfl) (zt (show Kd.M (Kd.int .i64) _ _ _ 588 [.int .i64 588] from rfl) (zt (show Kd.M (Kd.int .i64) _ _ _ 602 [.int .i64 602] from rfl) (zt (show Kd.M (Kd.int .i64) _ _ _ 616 [.int .i64 616] from rfl) (zt (show Kd.M (Kd.int .i64) _ _ _ 629 [.int .i64 629] from rfl) (zt (show Kd.M (Kd.int .i64) _ _ _ 643 [.int .i64 643] from rfl) (zt (show Kd.M (Kd.int .i64) _ _ _ 656 [.int .i64 656] from rfl) (zt (show Kd.M (Kd.int .i64) _ _ _ 669 [.int .i64 669] from rfl) (zt (show Kd.M (Kd.int .i64) _ _ _ 682 [.int .i64 682] from rfl) (zt (show Kd.M (Kd.int .i64) _ _ _ 695 [.int .i64 695] from rfl) (zt (show Kd.M (Kd.int .i64) _ _ _ 707 [.int .i64 707] from rfl) (zt (show Kd.M (Kd.int .i64) _ _ _ 719 [.int .i64 719] from rfl) (zt (show Kd.M (Kd.int .i64) _ _ _ 731 [.int .i64 731] from rfl) (zt (show Kd.M (Kd.int .i64) _ _ _ 743 [.int .i64 743] from rfl) (zt (show Kd.M (Kd.int .i64) _ _ _ 755 [.int .i64 755] from rfl) (zt (show Kd.M (Kd.int .i64) _ _ _ 766 [.int .i64 766] from rfl) (zt (show Kd.M (Kd.int .i64) _ _ _ 777 [.int .i64 777] from rfl) (zt (show Kd.M (Kd.int .i64) _ _ _ 788 [.int .i64 788] from rfl) (zt (show Kd.M (Kd.int .i64) _ _ _ 799 [.int .i64 799] from rfl) (zt (show Kd.M (Kd.int .i64) _ _ _ 809 [.int .i64 809] from rfl) (zt (show Kd.M (Kd.int .i64) _ _ _ 819 [.int .i64 819] from rfl) (zt (show Kd.M (Kd.int .i64) _ _ _ 829 [.int .i64 829] from rfl) (zt (show Kd.M (Kd.int .i64) _ _ _ 839 [.int .i64 839] from rfl) (zt (show Kd.M (Kd.int .i64) _ _ _ 848 [.int .i64 848] from rfl) (zt (show Kd.M (Kd.int .i64) _ _ _ 857 [.int .i64 857] from rfl) (zt (show Kd.M (Kd.int .i64) _ _ _ 866 [.int .i64 866] from rfl) (zt (show Kd.M (Kd.int .i64) _ _ _ 875 [.int .i64 875] from rfl) (zt (show Kd.M (Kd.int .i64) _ _ _ 883 [.int .i64 883] from rfl) (zt (show Kd.M (Kd.int .i64) _ _ _ 891 [.int .i64 891] from rfl) (zt (show Kd.M (Kd.int .i64) _ _ _ 899 [.int .i64 899] from rfl) (zt (show Kd.M (Kd.int .i64) _ _ _ 906 [.int .i64 906] from rfl) (zt (show Kd.M (Kd.int .i64) _ _ _ 914 [.int .i64 914] from rfl) (zt (show Kd.M (Kd.int .i64) _ _ _ 921 [.int .i64 921] from rfl) (zt (show Kd.M (Kd.int .i64) _ _ _ 927 [.int .i64 927] from rfl) (zt (show Kd.M (Kd.int .i64) _ _ _ 934 [.int .i64 934] from rfl) (zt (show Kd.M (Kd.int .i64) _ _ _ 940 [.int .i64 940] from rfl) (zt (show Kd.M (Kd.int .i64) _ _ _ 946 [.int .i64 946] from rfl) (zt (show Kd.M (Kd.int .i64) _ _ _ 951 [.int .i64 951] from rfl) (zt (show Kd.M (Kd.int .i64) _ _ _ 956 [.int .i64 956] from rfl) (zt (show Kd.M (Kd.int .i64) _ _ _ 961 [.int .i64 961] from rfl) (zt (show Kd.M (Kd.int .i64) _ _ _ 966 [.int .i64 966] from rfl) (zt (show Kd.M (Kd.int .i64) _ _ _ 970 [.int .i64 970] from rfl) (zt (show Kd.M (Kd.int .i64) _ _ _ 974 [.int .i64 974] from rfl) (zt (show Kd.M (Kd.int .i64) _ _ _ 978 [.int .i64 978] from rfl) (zt (show Kd.M (Kd.int .i64) _ _ _ 982 [.int .i64 982] from rfl) (zt (show Kd.M (Kd.int .i64) _ _ _ 985 [.int .i64 985] from rfl) (zt (show Kd.M (Kd.int .i64) _ _ _ 988 [.int .i64 988] from rfl) (zt (show Kd.M (Kd.int .i64) _ _ _ 990 [.int .i64 990] from rfl) (zt (show Kd.M (Kd.int .i64) _ _ _ 993 [.int .i64 993] from rfl) (zt (show Kd.M (Kd.int .i64) _ _ _ 995 [.int .i64 995] from rfl) (zt (show Kd.M (Kd.int .i64) _ _ _ 996 [.int .i64 996] from rfl) (zt (show Kd.M (Kd.int .i64) _ _ _ 998 [.int .i64 998] from rfl) (zt (show Kd.M (Kd.int .i64) _ _ _ 999 [.int .i64 999] from rfl) (zt (show Kd.M (Kd.int .i64) _ _ _ 999 [.int .i64 999] from rfl) (zt (show Kd.M (Kd.int .i64) _ _ _ 1000 [.int .i64 1000] from rfl) (zt (show Kd.M (Kd.int .i64) _ _ _ 1000 [.int .i64 1000] from rfl) (zu _ _)))))))))))))))))))))))))))))))))))))))))))))))))))))))))))))))))))))))))))))))))))))))))))))); intro v119 w1 ho2 hb hg_ hnew_; clear hg_ hnew_; (first | rw [← Ny118.1] at ho2 | (simp only [Int.reduceToNat] at ho2; rw [← Ny118.1] at ho2)); have HO120 := za (qK80 ho2); replace HB := za qK73; clear hb ho2))
 go_ret
 exact ⟨_, (qK11), (qK1 HO120.1), (qK0)⟩

def spec_l2Sine.f (a0 : Int) : Option (Int) := if (Int.tmod (wrap64 ((Int.tmod a0 360) + 360)) 360) ≤ 90 then ((spec_l2Table.f).bind fun t121 => (if 0 ≤ (Int.tmod (wrap64 ((Int.tmod a0 360) + 360)) 360) then (if (Int.tmod (wrap64 ((Int.tmod a0 360) + 360)) 360) < (t121.length : Int) then (some (rd t121 (Int.tmod (wrap64 ((Int.tmod a0 360) + 360)) 360))) else (none)) else (none))) else (if (Int.tmod (wrap64 ((Int.tmod a0 360) + 360)) 360) ≤ 180 then ((spec_l2Table.f).bind fun t125 => (if 0 ≤ (wrap64 (180 - (Int.tmod (wrap64 ((Int.tmod a0 360) + 360)) 360))) then (if (wrap64 (180 - (Int.tmod (wrap64 ((Int.tmod a0 360) + 360)) 360))) < (t125.length : Int) then (some (rd t125 (wrap64 (180 - (Int.tmod (wrap64 ((Int.tmod a0 360) + 360)) 360))))) else (none)) else (none))) else (if (Int.tmod (wrap64 ((Int.tmod a0 360) + 360)) 360) ≤ 270 then ((spec_l2Table.f).bind fun t129 => (if 0 ≤ (wrap64 ((Int.tmod (wrap64 ((Int.tmod a0 360) + 360)) 360) - 180)) then (if (wrap64 ((Int.tmod (wrap64 ((Int.tmod a0 360) + 360)) 360) - 180)) < (t129.length : Int) then (some (wrap64 (-(rd t129 (wrap64 ((Int.tmod (wrap64 ((Int.tmod a0 360) + 360)) 360) - 180)))))) else (none)) else (none))) else ((spec_l2Table.f).bind fun t133 => (if 0 ≤ (wrap64 (360 - (Int.tmod (wrap64 ((Int.tmod a0 360) + 360)) 360))) then (if (wrap64 (360 - (Int.tmod (wrap64 ((Int.tmod a0 360) + 360)) 360))) < (t133.length : Int) then (some (wrap64 (-(rd t133 (wrap64 (360 - (Int.tmod (wrap64 ((Int.tmod a0 360) + 360)) 360))))))) else (none)) else (none)))))
theorem spec_l2Sine.calls (a0 : Int) (r : Int) (w : World) (h : spec_l2Sine.f a0 = some r) :
  Calls Try.prog 78 #[.int .i64 a0] w fun e w' => e = .returned (.int .i64 r) ∧ Below w.heap.size w w' := by
 have HB := za (zs w.heap.size w); have H : (if (Int.tmod (wrap64 ((Int.tmod a0 360) + 360)) 360) ≤ 90 then ((spec_l2Table.f).bind fun t121 => (if 0 ≤ (Int.tmod (wrap64 ((Int.tmod a0 360) + 360)) 360) then (if (Int.tmod (wrap64 ((Int.tmod a0 360) + 360)) 360) < (t121.length : Int) then (some (rd t121 (Int.tmod (wrap64 ((Int.tmod a0 360) + 360)) 360))) else (none)) else (none))) else (if (Int.tmod (wrap64 ((Int.tmod a0 360) + 360)) 360) ≤ 180 then ((spec_l2Table.f).bind fun t125 => (if 0 ≤ (wrap64 (180 - (Int.tmod (wrap64 ((Int.tmod a0 360) + 360)) 360))) then (if (wrap64 (180 - (Int.tmod (wrap64 ((Int.tmod a0 360) + 360)) 360))) < (t125.length : Int) then (some (rd t125 (wrap64 (180 - (Int.tmod (wrap64 ((Int.tmod a0 360) + 360)) 360))))) else (none)) else (none))) else (if (Int.tmod (wrap64 ((Int.tmod a0 360) + 360)) 360) ≤ 270 then ((spec_l2Table.f).bind fun t129 => (if 0 ≤ (wrap64 ((Int.tmod (wrap64 ((Int.tmod a0 360) + 360)) 360) - 180)) then (if (wrap64 ((Int.tmod (wrap64 ((Int.tmod a0 360) + 360)) 360) - 180)) < (t129.length : Int) then (some (wrap64 (-(rd t129 (wrap64 ((Int.tmod (wrap64 ((Int.tmod a0 360) + 360)) 360) - 180)))))) else (none)) else (none))) else ((spec_l2Table.f).bind fun t133 => (if 0 ≤ (wrap64 (360 - (Int.tmod (wrap64 ((Int.tmod a0 360) + 360)) 360))) then (if (wrap64 (360 - (Int.tmod (wrap64 ((Int.tmod a0 360) + 360)) 360))) < (t133.length : Int) then (some (wrap64 (-(rd t133 (wrap64 (360 - (Int.tmod (wrap64 ((Int.tmod a0 360) + 360)) 360))))))) else (none)) else (none)))))) = some r := h
 clear h
 by_cases c2 : (Int.tmod (wrap64 ((Int.tmod a0 360) + 360)) 360) ≤ 90
 ·rw [yb c2] at H; have c2b0 : decide ((Int.tmod (wrap64 ((Int.tmod a0 360) + 360)) 360) ≤ 90) = true := zc c2; clear c2; replace H := bindA H; obtain ⟨t121, A3, H⟩ := H; (try dsimp only at H); obtain ⟨ji4, hji4⟩ : ∃ j_ : Int, (Int.tmod (wrap64 ((Int.tmod a0 360) + 360)) 360) = j_ := ⟨_, rfl⟩
  replace H : (if 0 ≤ (ji4) then (if (ji4) < (t121.length : Int) then (some (rd t121 (ji4))) else (none)) else (none)) = some r := by first | (rw [hji4] at H; exact H) | (simp only [hji4] at H ⊢; exact H)
  (try rw [hji4] at c2b0)
  (try rw [hji4] at A3)
  by_cases c5 : 0 ≤ (ji4)
  ·rw [yb c5] at H; have c5b0 : decide (0 ≤ (ji4)) = true := zc c5; clear c5
   by_cases c6 : (ji4) < (t121.length : Int)
   ·rw [yb c6] at H; have c6b0 : decide ((ji4) < (t121.length : Int)) = true := zc c6; clear c6; obtain rfl := zm H
    go_enter Try.func78, Try.ntmps78
    go_wp2_with (first | ((with_reducible refine zp (f := 80) rfl ?_); refine zV (some 11) rfl rfl Try.func80 (qK25) rfl #[] rfl (qK2) ?_; (with_reducible refine (spec_l2Table.calls  t121 _ A3.1).mono ?_); rintro e w7 ⟨v122, rfl, ho0, hb⟩; refine ⟨_, rfl, ?_⟩; have HO123 := za (qK80 ho0); replace HB := za qK73; clear hb ho0; obtain ⟨Ao8, co8, eo8⟩ := zI HO123.1; subst eo8; have p124 : 0 ≤ ((ji4) : Int) := zb (qK7); have q124 : (ji4) < (t121.length : Int) := zb (qK7); obtain ⟨ad124, e124, hx124_0⟩ := zJ (zH HO123.1).2.2 (ji4) p124 q124; cases e124; replace p124 := zw p124; replace q124 := zw q124))
    go_ret
    exact ⟨(by first | rfl | (simp [errW_none, errW_some] <;> rfl) | (simp only [← hji4]; first | rfl | (simp [errW_none, errW_some] <;> rfl)) | (simp [*, errW_none, errW_some] <;> rfl)), (qK0)⟩
   ·rw [yc c6] at H
    exact absurd H (by simp)
  ·rw [yc c5] at H
   exact absurd H (by simp)
 ·rw [yc c2] at H; have c2b0 : decide ((Int.tmod (wrap64 ((Int.tmod a0 360) + 360)) 360) ≤ 90) = false := zv c2; clear c2
  by_cases c9 : (Int.tmod (wrap64 ((Int.tmod a0 360) + 360)) 360) ≤ 180
  ·rw [yb c9] at H; have c9b0 : decide ((Int.tmod (wrap64 ((Int.tmod a0 360) + 360)) 360) ≤ 180) = true := zc c9; clear c9; replace H := bindA H; obtain ⟨t125, A10, H⟩ := H; (try dsimp only at H); obtain ⟨ji11, hji11⟩ : ∃ j_ : Int, (wrap64 (180 - (Int.tmod (wrap64 ((Int.tmod a0 360) + 360)) 360))) = j_ := ⟨_, rfl⟩
   replace H : (if 0 ≤ (ji11) then (if (ji11) < (t125.length : Int) then (some (rd t125 (ji11))) else (none)) else (none)) = some r := by first | (rw [hji11] at H; exact H) | (simp only [hji11] at H ⊢; exact H)
   (try rw [hji11] at A10); have hji11w : (IntKind.i64.wrap (180 - (Int.tmod (wrap64 ((Int.tmod a0 360) + 360)) 360))) = ji11 := (i64_w _).trans hji11
   by_cases c12 : 0 ≤ (ji11)
   ·rw [yb c12] at H; have c12b0 : decide (0 ≤ (ji11)) = true := zc c12; clear c12
    by_cases c13 : (ji11) < (t125.length : Int)
    ·rw [yb c13] at H; have c13b0 : decide ((ji11) < (t125.length : Int)) = true := zc c13; clear c13; obtain rfl := zm H
     go_enter Try.func78, Try.ntmps78
     go_wp2_with (first | ((with_reducible refine zp (f := 80) rfl ?_); refine zV (some 18) rfl rfl Try.func80 (qK25) rfl #[] rfl (qK2) ?_; (with_reducible refine (spec_l2Table.calls  t125 _ A10.1).mono ?_); rintro e w14 ⟨v126, rfl, ho0, hb⟩; refine ⟨_, rfl, ?_⟩; have HO127 := za (qK80 ho0); replace HB := za qK73; clear hb ho0; obtain ⟨Ao15, co15, eo15⟩ := zI HO127.1; subst eo15; have p128 : 0 ≤ ((ji11) : Int) := zb (qK7); have q128 : (ji11) < (t125.length : Int) := zb (qK7); obtain ⟨ad128, e128, hx128_0⟩ := zJ (zH HO127.1).2.2 (ji11) p128 q128; cases e128; replace p128 := zw p128; replace q128 := zw q128))
     go_ret
     exact ⟨(by first | rfl | (simp [errW_none, errW_some] <;> rfl) | (simp only [← hji11]; first | rfl | (simp [errW_none, errW_some] <;> rfl)) | (simp [*, errW_none, errW_some] <;> rfl)), (qK0)⟩
    ·rw [yc c13] at H
     exact absurd H (by simp)
   ·rw [yc c12] at H
    exact absurd H (by simp)
  ·rw [yc c9] at H; have c9b0 : decide ((Int.tmod (wrap64 ((Int.tmod a0 360) + 360)) 360) ≤ 180) = false := zv c9; clear c9
   by_cases c16 : (Int.tmod (wrap64 ((Int.tmod a0 360) + 360)) 360) ≤ 270
   ·rw [yb c16] at H; have c16b0 : decide ((Int.tmod (wrap64 ((Int.tmod a0 360) + 360)) 360) ≤ 270) = true := zc c16; clear c16; replace H := bindA H; obtain ⟨t129, A17, H⟩ := H; (try dsimp only at H); obtain ⟨ji18, hji18⟩ : ∃ j_ : Int, (wrap64 ((Int.tmod (wrap64 ((Int.tmod a0 360) + 360)) 360) - 180)) = j_ := ⟨_, rfl⟩
    replace H : (if 0 ≤ (ji18) then (if (ji18) < (t129.length : Int) then (some (wrap64 (-(rd t129 (ji18))))) else (none)) else (none)) = some r := by first | (rw [hji18] at H; exact H) | (simp only [hji18] at H ⊢; exact H)
    (try rw [hji18] at A17); have hji18w : (IntKind.i64.wrap ((Int.tmod (wrap64 ((Int.tmod a0 360) + 360)) 360) - 180)) = ji18 := (i64_w _).trans hji18
    by_cases c19 : 0 ≤ (ji18)
    ·rw [yb c19] at H; have c19b0 : decide (0 ≤ (ji18)) = true := zc c19; clear c19
     by_cases c20 : (ji18) < (t129.length : Int)
     ·rw [yb c20] at H; have c20b0 : decide ((ji18) < (t129.length : Int)) = true := zc c20; clear c20; obtain rfl := zm H
      go_enter Try.func78, Try.ntmps78
      go_wp2_with (first | ((with_reducible refine zp (f := 80) rfl ?_); refine zV (some 26) rfl rfl Try.func80 (qK25) rfl #[] rfl (qK2) ?_; (with_reducible refine (spec_l2Table.calls  t129 _ A17.1).mono ?_); rintro e w21 ⟨v130, rfl, ho0, hb⟩; refine ⟨_, rfl, ?_⟩; have HO131 := za (qK80 ho0); replace HB := za qK73; clear hb ho0; obtain ⟨Ao22, co22, eo22⟩ := zI HO131.1; subst eo22; have p132 : 0 ≤ ((ji18) : Int) := zb (qK7); have q132 : (ji18) < (t129.length : Int) := zb (qK7); obtain ⟨ad132, e132, hx132_0⟩ := zJ (zH HO131.1).2.2 (ji18) p132 q132; cases e132; replace p132 := zw p132; replace q132 := zw q132))
      go_ret
      exact ⟨(by first | rfl | (simp [errW_none, errW_some] <;> rfl) | (simp only [← hji18]; first | rfl | (simp [errW_none, errW_some] <;> rfl)) | (simp [*, errW_none, errW_some] <;> rfl)), (qK0)⟩
     ·rw [yc c20] at H
      exact absurd H (by simp)
    ·rw [yc c19] at H
     exact absurd H (by simp)
   ·rw [yc c16] at H; have c16b0 : decide ((Int.tmod (wrap64 ((Int.tmod a0 360) + 360)) 360) ≤ 270) = false := zv c16; clear c16; replace H := bindA H; obtain ⟨t133, A23, H⟩ := H; (try dsimp only at H); obtain ⟨ji24, hji24⟩ : ∃ j_ : Int, (wrap64 (360 - (Int.tmod (wrap64 ((Int.tmod a0 360) + 360)) 360))) = j_ := ⟨_, rfl⟩
    replace H : (if 0 ≤ (ji24) then (if (ji24) < (t133.length : Int) then (some (wrap64 (-(rd t133 (ji24))))) else (none)) else (none)) = some r := by first | (rw [hji24] at H; exact H) | (simp only [hji24] at H ⊢; exact H)
    (try rw [hji24] at A23); have hji24w : (IntKind.i64.wrap (360 - (Int.tmod (wrap64 ((Int.tmod a0 360) + 360)) 360))) = ji24 := (i64_w _).trans hji24
    by_cases c25 : 0 ≤ (ji24)
    ·rw [yb c25] at H; have c25b0 : decide (0 ≤ (ji24)) = true := zc c25; clear c25
     by_cases c26 : (ji24) < (t133.length : Int)
     ·rw [yb c26] at H; have c26b0 : decide ((ji24) < (t133.length : Int)) = true := zc c26; clear c26; obtain rfl := zm H
      go_enter Try.func78, Try.ntmps78
      go_wp2_with (first | ((with_reducible refine zp (f := 80) rfl ?_); refine zV (some 32) rfl rfl Try.func80 (qK25) rfl #[] rfl (qK2) ?_; (with_reducible refine (spec_l2Table.calls  t133 _ A23.1).mono ?_); rintro e w27 ⟨v134, rfl, ho0, hb⟩; refine ⟨_, rfl, ?_⟩; have HO135 := za (qK80 ho0); replace HB := za qK73; clear hb ho0; obtain ⟨Ao28, co28, eo28⟩ := zI HO135.1; subst eo28; have p136 : 0 ≤ ((ji24) : Int) := zb (qK7); have q136 : (ji24) < (t133.length : Int) := zb (qK7); obtain ⟨ad136, e136, hx136_0⟩ := zJ (zH HO135.1).2.2 (ji24) p136 q136; cases e136; replace p136 := zw p136; replace q136 := zw q136))
      go_ret
      exact ⟨(by first | rfl | (simp [errW_none, errW_some] <;> rfl) | (simp only [← hji24]; first | rfl | (simp [errW_none, errW_some] <;> rfl)) | (simp [*, errW_none, errW_some] <;> rfl)), (qK0)⟩
     ·rw [yc c26] at H
      exact absurd H (by simp)
    ·rw [yc c25] at H
     exact absurd H (by simp)

def spec_l2Cosine.f (a0 : Int) : Option (Int) := (spec_l2Sine.f (wrap64 (a0 + 90))).bind fun t137 => (some t137)
theorem spec_l2Cosine.calls (a0 : Int) (r : Int) (w : World) (h : spec_l2Cosine.f a0 = some r) :
  Calls Try.prog 77 #[.int .i64 a0] w fun e w' => e = .returned (.int .i64 r) ∧ Below w.heap.size w w' := by
 have HB := za (zs w.heap.size w); have H : ((spec_l2Sine.f (wrap64 (a0 + 90))).bind fun t137 => (some t137)) = some r := h; clear h; replace H := zC H; obtain ⟨t137, A20, H⟩ := H; replace H : (some t137) = some r := H; have A2 := za A20; clear A20; obtain rfl := zm H
 go_enter Try.func77, Try.ntmps77
 go_wp2_with (first | ((with_reducible refine zp (f := 78) rfl ?_); refine zV (some 5) rfl rfl Try.func78 (qK25) rfl #[.int .i64 (wrap64 (a0 + 90))] rfl (qK2) ?_; (with_reducible refine (spec_l2Sine.calls (wrap64 (a0 + 90)) t137 _ A2.1).mono ?_); rintro e w3 ⟨rfl, hb⟩; refine ⟨_, rfl, ?_⟩; replace HB := za qK73; clear hb))
 go_ret
 exact ⟨(qK11), (qK0)⟩

def spec_l4Shift.f (a0_0 : Int) (a0_1 : Int) (a0_2 : Int) (a0_3 : Int) (a0_4 : Int) : Option (Int × Int × Int) := (spec_l2Cosine.f a0_4).bind fun t140 => ((spec_l2Div.f (wrap64 (a0_2 * t140)) 1000).bind fun t141 => ((spec_l2Sine.f a0_3).bind fun t142 => ((spec_l2Div.f (wrap64 (t141 * t142)) 1000).bind fun t143 => ((spec_l2Cosine.f a0_3).bind fun t144 => ((spec_l2Div.f (wrap64 (t141 * t144)) 1000).bind fun t145 => ((spec_l2Sine.f a0_4).bind fun t146 => ((spec_l2Div.f (wrap64 (a0_2 * t146)) 1000).bind fun t147 => (some (t143, t145, t147)))))))))
def spec_l4Shift.T1 : Bool × List (List Nat × List Nat) := (true, [([], []), ([0], [0]), ([], []), ([2], [2]), ([3], [3]), ([1, 4], [1, 4]), ([5, 4], [5]), ([6, 6, 0, 1, 2, 3, 4, 5, 6], [6])])
def spec_l4Shift.B1 : List Nat := [0, 1, 0, 4, 12, 31, 63, 127]
theorem spec_l4Shift.tab1 : rtab .any (opsOf Try.f65 1) = spec_l4Shift.T1 := by kernel_rfl
theorem spec_l4Shift.bits1 : waitsOk spec_l4Shift.T1.2 spec_l4Shift.B1 = true := by kernel_rfl
def spec_l4Shift.T2 : Bool × List (List Nat × List Nat) := (true, [([], []), ([], []), ([1], [1]), ([2], [2]), ([0, 3], [0, 3]), ([4, 3], [4]), ([], []), ([], []), ([7], [7]), ([8, 5], [8]), ([6, 9], [6, 9]), ([10, 9], [10]), ([], []), ([12], [12]), ([], []), ([14], [14]), ([15, 11], [15]), ([13, 16], [13, 16]), ([17, 16], [17]), ([5, 11, 18], [5, 11, 18]), ([19, 18, 0, 1, 2, 3, 4, 5, 6, 7, 8, 9, 10, 11, 12, 13, 14, 15, 16, 17, 18, 19], [19])])
def spec_l4Shift.B2 : List Nat := [0, 0, 2, 6, 15, 31, 0, 0, 128, 447, 1023, 2047, 0, 4096, 0, 16384, 53247, 131071, 262143, 524287, 1048575]
theorem spec_l4Shift.tab2 : rtab .any (opsOf Try.f65 2) = spec_l4Shift.T2 := by kernel_rfl
theorem spec_l4Shift.bits2 : waitsOk spec_l4Shift.T2.2 spec_l4Shift.B2 = true := by kernel_rfl
theorem spec_l4Shift.calls (a0_0 : Int) (a0_1 : Int) (a0_2 : Int) (a0_3 : Int) (a0_4 : Int) (r1 : Int) (r2 : Int) (r3 : Int) (w : World) (h : spec_l4Shift.f a0_0 a0_1 a0_2 a0_3 a0_4 = some (r1, r2, r3)) :
  Calls Try.prog 65 #[.agg #[.int .i64 a0_0, .int .i64 a0_1, .int .i64 a0_2, .int .i64 a0_3, .int .i64 a0_4]] w fun e w' => e = .returned (.agg #[.int .i64 r1, .int .i64 r2, .int .i64 r3]) ∧ Below w.heap.size w w' := by
 have hu72 := Try.underlying72; have hu86 := Try.underlying86; have HB := za (zs w.heap.size w); have H : ((spec_l2Cosine.f a0_4).bind fun t140 => ((spec_l2Div.f (wrap64 (a0_2 * t140)) 1000).bind fun t141 => ((spec_l2Sine.f a0_3).bind fun t142 => ((spec_l2Div.f (wrap64 (t141 * t142)) 1000).bind fun t143 => ((spec_l2Cosine.f a0_3).bind fun t144 => ((spec_l2Div.f (wrap64 (t141 * t144)) 1000).bind fun t145 => ((spec_l2Sine.f a0_4).bind fun t146 => ((spec_l2Div.f (wrap64 (a0_2 * t146)) 1000).bind fun t147 => (some (t143, t145, t147)))))))))) = some (r1, r2, r3) := h; clear h; replace H := bindA H; obtain ⟨t140, A2, H⟩ := H; (try dsimp only at H); replace H := bindA H; obtain ⟨t141, A3, H⟩ := H; (try dsimp only at H); replace H := bindA H; obtain ⟨t142, A4, H⟩ := H; (try dsimp only at H); replace H := bindA H; obtain ⟨t143, A5, H⟩ := H; (try dsimp only at H); replace H := bindA H; obtain ⟨t144, A6, H⟩ := H; (try dsimp only at H); replace H := bindA H; obtain ⟨t145, A7, H⟩ := H; (try dsimp only at H); replace H := bindA H; obtain ⟨t146, A8, H⟩ := H; (try dsimp only at H); replace H := zC H; obtain ⟨t147, A90, H⟩ := H; replace H : (some (t143, t145, t147)) = some (r1, r2, r3) := H; have A9 := za A90; clear A90; simp only [yd, ye] at H; obtain ⟨rfl, rfl, rfl⟩ := H
 go_enter Try.func65, Try.ntmps65
 try go_wp2_with (first | ((with_reducible refine zq (N := 1) rfl ?_); refine zB ?hg (N := 1) ?hd (cs := #[.int .i64 a0_0, .int .i64 a0_1, .int .i64 a0_2, .int .i64 a0_3, .int .i64 a0_4]) (t := 72) ?hr ?_; (case hd | hg => rfl); (case hr => exact (qK23)); intro gb138 hg w10 hbox hb; have BK138 := za hbox; have GW138 := za (by exact (by rw [hg]; exact (zX (qK0)) : w.heap.size ≤ gb138)); have GE138 := za (by exact (by rw [hg]; exact (zX (qK0)) : w.heap.size ≤ gb138)); replace HB := za qK73; clear hb hbox hg) | ((with_reducible refine zq (N := 2) rfl ?_); refine zB ?hg (N := 2) ?hd (cs := #[.int .i64 0, .int .i64 0, .int .i64 0]) (t := 86) ?hr ?_; (case hd | hg => rfl); (case hr => exact (qK23)); intro gb139 hg w11 hbox hb; have BK139 := za hbox; have GW139 := za ((by rw [hg]; exact (zX (qK19 GE138.1)) : w.heap.size ≤ gb139)); have GE139 := za ((by rw [hg]; exact (zX (qK19 GE138.1)) : w.heap.size ≤ gb139)); replace HB := za (zW (qK19 GE138.1) hb); have NB138_139 := za ((by rw [hg]; exact Nat.ne_of_lt (blk_lt (g := gb138) (o := .cells #[.int .i64 a0_0, .int .i64 a0_1, .int .i64 a0_2, .int .i64 a0_3, .int .i64 a0_4] 72 (0, 0)) (qK12 BK138.1)) : gb138 ≠ gb139)); have NB139_138 := za ((by rw [hg]; exact Nat.ne_of_gt (blk_lt (g := gb138) (o := .cells #[.int .i64 a0_0, .int .i64 a0_1, .int .i64 a0_2, .int .i64 a0_3, .int .i64 a0_4] 72 (0, 0)) (qK12 BK138.1)) : gb139 ≠ gb138)); replace BK138 := za (zl (g := gb138) (o := .cells #[.int .i64 a0_0, .int .i64 a0_1, .int .i64 a0_2, .int .i64 a0_3, .int .i64 a0_4] 72 (0, 0)) (qK12 BK138.1) hb); clear hb hbox hg))
 replace BK138 := za (zi BK138.1); replace BK139 := za (zi BK139.1); replace HB := za (below_drew1 HB.1)
 refine start_ (n := 8) (S := fun w' => w'.cell? ⟨gb138, 0, none⟩ = some (.int .i64 a0_0) ∧ w'.cell? ⟨gb138, 1, none⟩ = some (.int .i64 a0_1) ∧ w'.cell? ⟨gb138, 2, none⟩ = some (.int .i64 a0_2) ∧ w'.cell? ⟨gb138, 3, none⟩ = some (.int .i64 a0_3) ∧ w'.cell? ⟨gb138, 4, none⟩ = some (.int .i64 a0_4)) (ds := []) #[false, false, false, false, false, false, false, false] (qK25) rfl rfl ⟨(zf BK138.1 0).trans rfl, (zf BK138.1 1).trans rfl, (zf BK138.1 2).trans rfl, (zf BK138.1 3).trans rfl, (zf BK138.1 4).trans rfl⟩ (fun hHeld => ?_); refine with_tabW spec_l4Shift.tab1 spec_l4Shift.bits1 (fun HT_ HW_ => ?_)
 generalize w11.drew = w12 at BK138 BK139 HB hHeld ⊢
 refine pure_ (i := 0) (N := some 4) (v := ?_) (a' := ?_) #[true, false, false, false, false, false, false, false] rfl rfl (qK76) (fun _ _ _ h => h) (zY ⟨by rfl, ?_⟩) ?_ ?_
 rotate_left; exact qK3_c1; rotate_left; exact qK3_c0
 refine pure_ (i := 2) (N := some 6) (v := ?_) (a' := ?_) #[true, false, true, false, false, false, false, false] rfl rfl (qK76) (fun _ _ _ h => h) (zY ⟨by rfl, ?_⟩) ?_ ?_
 rotate_left; exact qK3_c1; rotate_left; exact qK3_c0
 refine take_ (i := 1) (N := some 5) (v := ?_) (a' := ?_) #[true, true, true, false, false, false, false, false] rfl rfl (take_ofW HT_.1 HW_.1 (qK25)) (fun _ _ _ h => h) (zY ⟨by rfl, ?_⟩) hHeld ?_ ?_
 rotate_left; exact qK3_c2; rotate_left; exact qK3_c0
 refine take_ (i := 3) (N := some 7) (v := ?_) (a' := ?_) #[true, true, true, true, false, false, false, false] rfl rfl (take_ofW HT_.1 HW_.1 (qK25)) (fun _ _ _ h => h) (zY ⟨by rfl, ?_⟩) hHeld ?_ ?_
 rotate_left; exact qK3_c2; rotate_left; exact qK3_c0
 refine one_ (i := 4) (N := some 8) #[true, true, true, true, true, false, false, false] rfl rfl (qK81) (by decide) (fun K hK => ?_)
 refine goes_ Try.func77 (qK25) rfl #[.int .i64 a0_4] (by rfl) rfl rfl (qK2) ?_
 with_reducible refine (spec_l2Cosine.calls a0_4 t140 _ A2.1).mono ?_
 rintro e w13 ⟨rfl, hb⟩
 refine ⟨_, rfl, ?_⟩
 replace BK138 := za (zl (g := gb138) (o := .cells #[.int .i64 a0_0, .int .i64 a0_1, .int .i64 a0_2, .int .i64 a0_3, .int .i64 a0_4] 72 (0, 0)) (qK12 BK138.1) hb); replace BK139 := za (zl (g := gb139) (o := .cells #[.int .i64 0, .int .i64 0, .int .i64 0] 86 (0, 0)) (qK12 BK139.1) hb); replace HB := za (zW (qK27 GE138.1 GE139.1) hb)
 (try clear hb)
 (try clear hb2)
 (try clear hk)
 (try clear hi)
 refine hK.out _ _ ⟨(zf BK138.1 0).trans rfl, (zf BK138.1 1).trans rfl, (zf BK138.1 2).trans rfl, (zf BK138.1 3).trans rfl, (zf BK138.1 4).trans rfl⟩ (fun hHeld => ?_)
 clear hK K
 refine norm_ (a' := ?_) ?_ ?_
 rotate_left
 ·show Act.put _ (some 8) _ = _
  simp only [Act.put, yf, yg, yh, i64_w, i32_w]
  rfl
 refine pure_ (i := 5) (N := some 9) (v := ?_) (a' := ?_) #[true, true, true, true, true, true, false, false] rfl rfl (qK76) (fun _ _ _ h => h) (zY ⟨by rfl, ?_⟩) ?_ ?_
 rotate_left; exact qK3_c1; rotate_left; exact qK3_c0
 refine one_ (i := 6) (N := some 10) #[true, true, true, true, true, true, true, false] rfl rfl (qK81) (by decide) (fun K hK => ?_)
 refine goes_ Try.func76 (qK25) rfl #[.int .i64 (wrap64 (a0_2 * t140)), .int .i64 1000] (by rfl) rfl rfl (qK2) ?_
 with_reducible refine (spec_l2Div.calls (wrap64 (a0_2 * t140)) 1000 t141 _ A3.1).mono ?_
 rintro e w' ⟨rfl, ⟨nd, rfl⟩⟩
 refine ⟨_, rfl, ?_⟩
 refine hK.out _ _ ⟨(zf BK138.1 0).trans rfl, (zf BK138.1 1).trans rfl, (zf BK138.1 2).trans rfl, (zf BK138.1 3).trans rfl, (zf BK138.1 4).trans rfl⟩ (fun hHeld => ?_)
 clear hK K
 refine norm_ (a' := ?_) ?_ ?_
 rotate_left
 ·show Act.put _ (some 10) _ = _
  simp only [Act.put, yf, yg, yh, i64_w, i32_w]
  rfl
 refine pure_ (i := 7) (N := some 3) (v := ?_) (a' := ?_) #[true, true, true, true, true, true, true, true] rfl rfl (qK76) (fun _ _ _ h => h) (zY ⟨by rfl, ?_⟩) ?_ ?_
 rotate_left; exact qK3_c1; rotate_left; exact qK3_c0
 refine done_ (qK102) ?_
 try go_wp2
 (try (rw [drewN_self w13]; generalize hq_ : World.drewN w13 _ = w13; replace BK138 : Aside0 (w13.heap[gb138]? = some (.cells #[.int .i64 a0_0, .int .i64 a0_1, .int .i64 a0_2, .int .i64 a0_3, .int .i64 a0_4] 72 (0, 0))) := ⟨by rw [← hq_]; exact (qK12 BK138.1)⟩; replace BK139 : Aside0 (w13.heap[gb139]? = some (.cells #[.int .i64 0, .int .i64 0, .int .i64 0] 86 (0, 0))) := ⟨by rw [← hq_]; exact (qK12 BK139.1)⟩; replace HB : Aside0 (Below w.heap.size w w13) := ⟨by rw [← hq_]; exact (qK27 GE138.1 GE139.1)⟩; clear hq_)); replace BK138 := za (zi BK138.1); replace BK139 := za (zi BK139.1); replace HB := za (below_drew1 HB.1)
 refine start_ (n := 21) (S := fun w' => w'.cell? ⟨gb138, 0, none⟩ = some (.int .i64 a0_0) ∧ w'.cell? ⟨gb138, 1, none⟩ = some (.int .i64 a0_1) ∧ w'.cell? ⟨gb138, 2, none⟩ = some (.int .i64 a0_2) ∧ w'.cell? ⟨gb138, 3, none⟩ = some (.int .i64 a0_3) ∧ w'.cell? ⟨gb138, 4, none⟩ = some (.int .i64 a0_4)) (ds := []) #[false, false, false, false, false, false, false, false, false, false, false, false, false, false, false, false, false, false, false, false, false] (qK25) rfl rfl ⟨(zf BK138.1 0).trans rfl, (zf BK138.1 1).trans rfl, (zf BK138.1 2).trans rfl, (zf BK138.1 3).trans rfl, (zf BK138.1 4).trans rfl⟩ (fun hHeld => ?_); refine with_tabW spec_l4Shift.tab2 spec_l4Shift.bits2 (fun HT_ HW_ => ?_)
 generalize w13.drew = w14 at BK138 BK139 HB hHeld ⊢
 refine pure_ (i := 0) (N := some 11) (v := ?_) (a' := ?_) #[true, false, false, false, false, false, false, false, false, false, false, false, false, false, false, false, false, false, false, false, false] rfl rfl (qK76) (fun _ _ _ h => h) (zY ⟨by rfl, ?_⟩) ?_ ?_
 rotate_left; exact qK3_c1; rotate_left; exact qK3_c0
 refine pure_ (i := 1) (N := some 12) (v := ?_) (a' := ?_) #[true, true, false, false, false, false, false, false, false, false, false, false, false, false, false, false, false, false, false, false, false] rfl rfl (qK76) (fun _ _ _ h => h) (zY ⟨by rfl, ?_⟩) ?_ ?_
 rotate_left; exact qK3_c1; rotate_left; exact qK3_c0
 refine pure_ (i := 6) (N := some 17) (v := ?_) (a' := ?_) #[true, true, false, false, false, false, true, false, false, false, false, false, false, false, false, false, false, false, false, false, false] rfl rfl (qK76) (fun _ _ _ h => h) (zY ⟨by rfl, ?_⟩) ?_ ?_
 rotate_left; exact qK3_c1; rotate_left; exact qK3_c0
 refine pure_ (i := 7) (N := some 18) (v := ?_) (a' := ?_) #[true, true, false, false, false, false, true, true, false, false, false, false, false, false, false, false, false, false, false, false, false] rfl rfl (qK76) (fun _ _ _ h => h) (zY ⟨by rfl, ?_⟩) ?_ ?_
 rotate_left; exact qK3_c1; rotate_left; exact qK3_c0
 refine pure_ (i := 12) (N := some 23) (v := ?_) (a' := ?_) #[true, true, false, false, false, false, true, true, false, false, false, false, true, false, false, false, false, false, false, false, false] rfl rfl (qK76) (fun _ _ _ h => h) (zY ⟨by rfl, ?_⟩) ?_ ?_
 rotate_left; exact qK3_c1; rotate_left; exact qK3_c0
 refine pure_ (i := 14) (N := some 25) (v := ?_) (a' := ?_) #[true, true, false, false, false, false, true, true, false, false, false, false, true, false, true, false, false, false, false, false, false] rfl rfl (qK76) (fun _ _ _ h => h) (zY ⟨by rfl, ?_⟩) ?_ ?_
 rotate_left; exact qK3_c1; rotate_left; exact qK3_c0
 refine take_ (i := 2) (N := some 13) (v := ?_) (a' := ?_) #[true, true, true, false, false, false, true, true, false, false, false, false, true, false, true, false, false, false, false, false, false] rfl rfl (take_ofW HT_.1 HW_.1 (qK25)) (fun _ _ _ h => h) (zY ⟨by rfl, ?_⟩) hHeld ?_ ?_
 rotate_left; exact qK3_c2; rotate_left; exact qK3_c0
 refine take_ (i := 8) (N := some 19) (v := ?_) (a' := ?_) #[true, true, true, false, false, false, true, true, true, false, false, false, true, false, true, false, false, false, false, false, false] rfl rfl (take_ofW HT_.1 HW_.1 (qK25)) (fun _ _ _ h => h) (zY ⟨by rfl, ?_⟩) hHeld ?_ ?_
 rotate_left; exact qK3_c2; rotate_left; exact qK3_c0
 refine take_ (i := 13) (N := some 24) (v := ?_) (a' := ?_) #[true, true, true, false, false, false, true, true, true, false, false, false, true, true, true, false, false, false, false, false, false] rfl rfl (take_ofW HT_.1 HW_.1 (qK25)) (fun _ _ _ h => h) (zY ⟨by rfl, ?_⟩) hHeld ?_ ?_
 rotate_left; exact qK3_c2; rotate_left; exact qK3_c0
 refine take_ (i := 15) (N := some 26) (v := ?_) (a' := ?_) #[true, true, true, false, false, false, true, true, true, false, false, false, true, true, true, true, false, false, false, false, false] rfl rfl (take_ofW HT_.1 HW_.1 (qK25)) (fun _ _ _ h => h) (zY ⟨by rfl, ?_⟩) hHeld ?_ ?_
 rotate_left; exact qK3_c2; rotate_left; exact qK3_c0
 refine one_ (i := 3) (N := some 14) #[true, true, true, true, false, false, true, true, true, false, false, false, true, true, true, true, false, false, false, false, false] rfl rfl (qK81) (by decide) (fun K hK => ?_)
 refine goes_ Try.func78 (qK25) rfl #[.int .i64 a0_3] (by rfl) rfl rfl (qK2) ?_
 with_reducible refine (spec_l2Sine.calls a0_3 t142 _ A4.1).mono ?_
 rintro e w15 ⟨rfl, hb⟩
 refine ⟨_, rfl, ?_⟩
 replace BK138 := za (zl (g := gb138) (o := .cells #[.int .i64 a0_0, .int .i64 a0_1, .int .i64 a0_2, .int .i64 a0_3, .int .i64 a0_4] 72 (0, 0)) (qK12 BK138.1) hb); replace BK139 := za (zl (g := gb139) (o := .cells #[.int .i64 0, .int .i64 0, .int .i64 0] 86 (0, 0)) (qK12 BK139.1) hb); replace HB := za (zW (qK27 GE138.1 GE139.1) hb)
 (try clear hb)
 (try clear hb2)
 (try clear hk)
 (try clear hi)
 refine hK.out _ _ ⟨(zf BK138.1 0).trans rfl, (zf BK138.1 1).trans rfl, (zf BK138.1 2).trans rfl, (zf BK138.1 3).trans rfl, (zf BK138.1 4).trans rfl⟩ (fun hHeld => ?_)
 clear hK K
 refine norm_ (a' := ?_) ?_ ?_
 rotate_left
 ·show Act.put _ (some 14) _ = _
  simp only [Act.put, yf, yg, yh, i64_w, i32_w]
  rfl
 refine pure_ (i := 4) (N := some 15) (v := ?_) (a' := ?_) #[true, true, true, true, true, false, true, true, true, false, false, false, true, true, true, true, false, false, false, false, false] rfl rfl (qK76) (fun _ _ _ h => h) (zY ⟨by rfl, ?_⟩) ?_ ?_
 rotate_left; exact qK3_c1; rotate_left; exact qK3_c0
 refine one_ (i := 5) (N := some 16) #[true, true, true, true, true, true, true, true, true, false, false, false, true, true, true, true, false, false, false, false, false] rfl rfl (qK81) (by decide) (fun K hK => ?_)
 refine goes_ Try.func76 (qK25) rfl #[.int .i64 (wrap64 (t141 * t142)), .int .i64 1000] (by rfl) rfl rfl (qK2) ?_
 with_reducible refine (spec_l2Div.calls (wrap64 (t141 * t142)) 1000 t143 _ A5.1).mono ?_
 rintro e w' ⟨rfl, ⟨nd, rfl⟩⟩
 refine ⟨_, rfl, ?_⟩
 refine hK.out _ _ ⟨(zf BK138.1 0).trans rfl, (zf BK138.1 1).trans rfl, (zf BK138.1 2).trans rfl, (zf BK138.1 3).trans rfl, (zf BK138.1 4).trans rfl⟩ (fun hHeld => ?_)
 clear hK K
 refine norm_ (a' := ?_) ?_ ?_
 rotate_left
 ·show Act.put _ (some 16) _ = _
  simp only [Act.put, yf, yg, yh, i64_w, i32_w]
  rfl
 refine one_ (i := 9) (N := some 20) #[true, true, true, true, true, true, true, true, true, true, false, false, true, true, true, true, false, false, false, false, false] rfl rfl (qK81) (by decide) (fun K hK => ?_)
 refine goes_ Try.func77 (qK25) rfl #[.int .i64 a0_3] (by rfl) rfl rfl (qK2) ?_
 with_reducible refine (spec_l2Cosine.calls a0_3 t144 _ A6.1).mono ?_
 rintro e w16 ⟨rfl, hb⟩
 refine ⟨_, rfl, ?_⟩
 replace BK138 := za (zl (g := gb138) (o := .cells #[.int .i64 a0_0, .int .i64 a0_1, .int .i64 a0_2, .int .i64 a0_3, .int .i64 a0_4] 72 (0, 0)) (qK12 BK138.1) hb); replace BK139 := za (zl (g := gb139) (o := .cells #[.int .i64 0, .int .i64 0, .int .i64 0] 86 (0, 0)) (qK12 BK139.1) hb); replace HB := za (zW (qK27 GE138.1 GE139.1) hb)
 (try clear hb)
 (try clear hb2)
 (try clear hk)
 (try clear hi)
 refine hK.out _ _ ⟨(zf BK138.1 0).trans rfl, (zf BK138.1 1).trans rfl, (zf BK138.1 2).trans rfl, (zf BK138.1 3).trans rfl, (zf BK138.1 4).trans rfl⟩ (fun hHeld => ?_)
 clear hK K
 refine norm_ (a' := ?_) ?_ ?_
 rotate_left
 ·show Act.put _ (some 20) _ = _
  simp only [Act.put, yf, yg, yh, i64_w, i32_w]
  rfl
 refine pure_ (i := 10) (N := some 21) (v := ?_) (a' := ?_) #[true, true, true, true, true, true, true, true, true, true, true, false, true, true, true, true, false, false, false, false, false] rfl rfl (qK76) (fun _ _ _ h => h) (zY ⟨by rfl, ?_⟩) ?_ ?_
 rotate_left; exact qK3_c1; rotate_left; exact qK3_c0
 refine one_ (i := 11) (N := some 22) #[true, true, true, true, true, true, true, true, true, true, true, true, true, true, true, true, false, false, false, false, false] rfl rfl (qK81) (by decide) (fun K hK => ?_)
 refine goes_ Try.func76 (qK25) rfl #[.int .i64 (wrap64 (t141 * t144)), .int .i64 1000] (by rfl) rfl rfl (qK2) ?_
 with_reducible refine (spec_l2Div.calls (wrap64 (t141 * t144)) 1000 t145 _ A7.1).mono ?_
 rintro e w' ⟨rfl, ⟨nd, rfl⟩⟩
 refine ⟨_, rfl, ?_⟩
 refine hK.out _ _ ⟨(zf BK138.1 0).trans rfl, (zf BK138.1 1).trans rfl, (zf BK138.1 2).trans rfl, (zf BK138.1 3).trans rfl, (zf BK138.1 4).trans rfl⟩ (fun hHeld => ?_)
 clear hK K
 refine norm_ (a' := ?_) ?_ ?_
 rotate_left
 ·show Act.put _ (some 22) _ = _
  simp only [Act.put, yf, yg, yh, i64_w, i32_w]
  rfl
 refine one_ (i := 16) (N := some 27) #[true, true, true, true, true, true, true, true, true, true, true, true, true, true, true, true, true, false, false, false, false] rfl rfl (qK81) (by decide) (fun K hK => ?_)
 refine goes_ Try.func78 (qK25) rfl #[.int .i64 a0_4] (by rfl) rfl rfl (qK2) ?_
 with_reducible refine (spec_l2Sine.calls a0_4 t146 _ A8.1).mono ?_
 rintro e w17 ⟨rfl, hb⟩
 refine ⟨_, rfl, ?_⟩
 replace BK138 := za (zl (g := gb138) (o := .cells #[.int .i64 a0_0, .int .i64 a0_1, .int .i64 a0_2, .int .i64 a0_3, .int .i64 a0_4] 72 (0, 0)) (qK12 BK138.1) hb); replace BK139 := za (zl (g := gb139) (o := .cells #[.int .i64 0, .int .i64 0, .int .i64 0] 86 (0, 0)) (qK12 BK139.1) hb); replace HB := za (zW (qK27 GE138.1 GE139.1) hb)
 (try clear hb)
 (try clear hb2)
 (try clear hk)
 (try clear hi)
 refine hK.out _ _ ⟨(zf BK138.1 0).trans rfl, (zf BK138.1 1).trans rfl, (zf BK138.1 2).trans rfl, (zf BK138.1 3).trans rfl, (zf BK138.1 4).trans rfl⟩ (fun hHeld => ?_)
 clear hK K
 refine norm_ (a' := ?_) ?_ ?_
 rotate_left
 ·show Act.put _ (some 27) _ = _
  simp only [Act.put, yf, yg, yh, i64_w, i32_w]
  rfl
 refine pure_ (i := 17) (N := some 28) (v := ?_) (a' := ?_) #[true, true, true, true, true, true, true, true, true, true, true, true, true, true, true, true, true, true, false, false, false] rfl rfl (qK76) (fun _ _ _ h => h) (zY ⟨by rfl, ?_⟩) ?_ ?_
 rotate_left; exact qK3_c1; rotate_left; exact qK3_c0
 refine one_ (i := 18) (N := some 29) #[true, true, true, true, true, true, true, true, true, true, true, true, true, true, true, true, true, true, true, false, false] rfl rfl (qK81) (by decide) (fun K hK => ?_)
 refine goes_ Try.func76 (qK25) rfl #[.int .i64 (wrap64 (a0_2 * t146)), .int .i64 1000] (by rfl) rfl rfl (qK2) ?_
 with_reducible refine (spec_l2Div.calls (wrap64 (a0_2 * t146)) 1000 t147 _ A9.1).mono ?_
 rintro e w' ⟨rfl, ⟨nd, rfl⟩⟩
 refine ⟨_, rfl, ?_⟩
 refine hK.out _ _ ⟨(zf BK138.1 0).trans rfl, (zf BK138.1 1).trans rfl, (zf BK138.1 2).trans rfl, (zf BK138.1 3).trans rfl, (zf BK138.1 4).trans rfl⟩ (fun hHeld => ?_)
 clear hK K
 refine norm_ (a' := ?_) ?_ ?_
 rotate_left
 ·show Act.put _ (some 29) _ = _
  simp only [Act.put, yf, yg, yh, i64_w, i32_w]
  rfl
 refine pure_ (i := 19) (N := some 30) (v := ?_) (a' := ?_) #[true, true, true, true, true, true, true, true, true, true, true, true, true, true, true, true, true, true, true, true, false] rfl rfl (qK76) (fun _ _ _ h => h) (zY ⟨by rfl, ?_⟩) ?_ ?_
 rotate_left; exact qK3_c1; rotate_left; exact qK3_c0
 refine one_ (i := 20) (N := none) #[true, true, true, true, true, true, true, true, true, true, true, true, true, true, true, true, true, true, true, true, true] rfl rfl (qK81) (by decide) (fun K hK => ?_)
 have hs18 : w17.cell? ⟨gb139, 0, none⟩ = some (.int .i64 0) := (zf BK139.1 0).trans rfl; have hfs18 := ze BK139.1 0; have hns18_0 := NB138_139.1; have hms18_0 := NB139_138.1; have hs19 : w17.cell? ⟨gb139, 1, none⟩ = some (.int .i64 0) := (zf BK139.1 1).trans rfl; have hfs19 := ze BK139.1 1; have hns19_0 := NB138_139.1; have hms19_0 := NB139_138.1; have hs20 : w17.cell? ⟨gb139, 2, none⟩ = some (.int .i64 0) := (zf BK139.1 2).trans rfl; have hfs20 := ze BK139.1 2; have hns20_0 := NB138_139.1; have hms20_0 := NB139_138.1
 refine skip_ (w1 := ?_) (by rfl) rfl ?_ ?_
 rotate_left
 ·go_simp
  rfl
 refine hK.out _ _ ⟨((cell_far (p := ⟨gb139, _, none⟩) NB138_139.1 _).trans (((cell_far (p := ⟨gb139, _, none⟩) NB138_139.1 _).trans (((cell_far (p := ⟨gb139, _, none⟩) NB138_139.1 _).trans (hHeld.1)))))), ((cell_far (p := ⟨gb139, _, none⟩) NB138_139.1 _).trans (((cell_far (p := ⟨gb139, _, none⟩) NB138_139.1 _).trans (((cell_far (p := ⟨gb139, _, none⟩) NB138_139.1 _).trans (hHeld.2.1)))))), ((cell_far (p := ⟨gb139, _, none⟩) NB138_139.1 _).trans (((cell_far (p := ⟨gb139, _, none⟩) NB138_139.1 _).trans (((cell_far (p := ⟨gb139, _, none⟩) NB138_139.1 _).trans (hHeld.2.2.1)))))), ((cell_far (p := ⟨gb139, _, none⟩) NB138_139.1 _).trans (((cell_far (p := ⟨gb139, _, none⟩) NB138_139.1 _).trans (((cell_far (p := ⟨gb139, _, none⟩) NB138_139.1 _).trans (hHeld.2.2.2.1)))))), ((cell_far (p := ⟨gb139, _, none⟩) NB138_139.1 _).trans (((cell_far (p := ⟨gb139, _, none⟩) NB138_139.1 _).trans (((cell_far (p := ⟨gb139, _, none⟩) NB138_139.1 _).trans (hHeld.2.2.2.2))))))⟩ (fun hHeld => ?_)
 clear hK K
 refine done_ (qK102) ?_
 try go_wp2
 refine bodyPost_ret (results_cell_row rfl _ _ gb139 86 #[.int .i64 t143, .int .i64 t145, .int .i64 t147] (0, 0) _ rfl (by (with_reducible repeat (first | refine zh ?_ _ | refine zi ?_ | refine zg ?_ _)); refine zj (cs := #[.int .i64 t143, .int .i64 t145, .int .i64 0]) ?_ 2 _ rfl; (with_reducible repeat (first | refine zh ?_ _ | refine zi ?_ | refine zg ?_ _)); refine zj (cs := #[.int .i64 t143, .int .i64 0, .int .i64 0]) ?_ 1 _ rfl; (with_reducible repeat (first | refine zh ?_ _ | refine zi ?_ | refine zg ?_ _)); refine zj (cs := #[.int .i64 0, .int .i64 0, .int .i64 0]) ?_ 0 _ rfl; (with_reducible repeat (first | refine zh ?_ _ | refine zi ?_ | refine zg ?_ _)); exact BK139.1) Try.underlying86 rfl (qK25)) rfl ?_
 exact ⟨(qK11), (qK27 GE138.1 GE139.1)⟩

def spec_l4Reverse.f (a0_0 : Int) (a0_1 : Int) (a0_2 : Int) (a0_3 : Int) (a0_4 : Int) : Option (Int × Int × Int × Int × Int) := some (a0_1, a0_0, a0_2, Int.tmod (wrap64 (a0_3 + 180)) 360, wrap64 (-a0_4))
theorem spec_l4Reverse.calls (a0_0 : Int) (a0_1 : Int) (a0_2 : Int) (a0_3 : Int) (a0_4 : Int) (r1 : Int) (r2 : Int) (r3 : Int) (r4 : Int) (r5 : Int) (w : World) (h : spec_l4Reverse.f a0_0 a0_1 a0_2 a0_3 a0_4 = some (r1, r2, r3, r4, r5)) :
  Calls Try.prog 66 #[.agg #[.int .i64 a0_0, .int .i64 a0_1, .int .i64 a0_2, .int .i64 a0_3, .int .i64 a0_4]] w fun e w' => e = .returned (.agg #[.int .i64 r1, .int .i64 r2, .int .i64 r3, .int .i64 r4, .int .i64 r5]) ∧ Below w.heap.size w w' := by
 have hu72 := Try.underlying72; have HB := za (zs w.heap.size w); have H : (some (a0_1, a0_0, a0_2, Int.tmod (wrap64 (a0_3 + 180)) 360, wrap64 (-a0_4))) = some (r1, r2, r3, r4, r5) := h; clear h; simp only [yd, ye] at H; obtain ⟨rfl, rfl, rfl, rfl, rfl⟩ := H
 go_enter Try.func66, Try.ntmps66
 go_wp2_with (first | ((with_reducible refine zq (N := 1) rfl ?_); refine zB ?hg (N := 1) ?hd (cs := #[.int .i64 a0_0, .int .i64 a0_1, .int .i64 a0_2, .int .i64 a0_3, .int .i64 a0_4]) (t := 72) ?hr ?_; (case hd | hg => rfl); (case hr => exact (qK23)); intro gb148 hg w2 hbox hb; have BK148 := za hbox; have GW148 := za (by exact (by rw [hg]; exact (zX (qK0)) : w.heap.size ≤ gb148)); have GE148 := za (by exact (by rw [hg]; exact (zX (qK0)) : w.heap.size ≤ gb148)); replace HB := za qK73; clear hb hbox hg) | ((with_reducible refine zq (N := 2) rfl ?_); refine zB ?hg (N := 2) ?hd (cs := #[.int .i64 0, .int .i64 0, .int .i64 0, .int .i64 0, .int .i64 0]) (t := 72) ?hr ?_; (case hd | hg => rfl); (case hr => exact (qK23)); intro gb149 hg w3 hbox hb; have BK149 := za hbox; have GW149 := za ((by rw [hg]; exact (zX (qK19 GE148.1)) : w.heap.size ≤ gb149)); have GE149 := za ((by rw [hg]; exact (zX (qK19 GE148.1)) : w.heap.size ≤ gb149)); replace HB := za (zW (qK19 GE148.1) hb); have NB148_149 := za ((by rw [hg]; exact Nat.ne_of_lt (blk_lt (g := gb148) (o := .cells #[.int .i64 a0_0, .int .i64 a0_1, .int .i64 a0_2, .int .i64 a0_3, .int .i64 a0_4] 72 (0, 0)) (qK12 BK148.1)) : gb148 ≠ gb149)); have NB149_148 := za ((by rw [hg]; exact Nat.ne_of_gt (blk_lt (g := gb148) (o := .cells #[.int .i64 a0_0, .int .i64 a0_1, .int .i64 a0_2, .int .i64 a0_3, .int .i64 a0_4] 72 (0, 0)) (qK12 BK148.1)) : gb149 ≠ gb148)); replace BK148 := za (zl (g := gb148) (o := .cells #[.int .i64 a0_0, .int .i64 a0_1, .int .i64 a0_2, .int .i64 a0_3, .int .i64 a0_4] 72 (0, 0)) (qK12 BK148.1) hb); clear hb hbox hg; have hnb4 := NB148_149.1; have hnc4 := NB149_148.1; have hcz5_0 : w3.cell? ⟨gb148, 0, none⟩ = some (.int .i64 a0_0) := (zf BK148.1 0).trans rfl; have hcz5_1 : w3.cell? ⟨gb148, 1, none⟩ = some (.int .i64 a0_1) := (zf BK148.1 1).trans rfl; have hcz5_2 : w3.cell? ⟨gb148, 2, none⟩ = some (.int .i64 a0_2) := (zf BK148.1 2).trans rfl; have hcz5_3 : w3.cell? ⟨gb148, 3, none⟩ = some (.int .i64 a0_3) := (zf BK148.1 3).trans rfl; have hcz5_4 : w3.cell? ⟨gb148, 4, none⟩ = some (.int .i64 a0_4) := (zf BK148.1 4).trans rfl; have hfz5_0 := ze BK148.1 0; have hfz5_1 := ze BK148.1 1; have hfz5_2 := ze BK148.1 2; have hfz5_3 := ze BK148.1 3; have hfz5_4 := ze BK148.1 4; have hcz6_0 : w3.cell? ⟨gb149, 0, none⟩ = some (.int .i64 0) := (zf BK149.1 0).trans rfl; have hcz6_1 : w3.cell? ⟨gb149, 1, none⟩ = some (.int .i64 0) := (zf BK149.1 1).trans rfl; have hcz6_2 : w3.cell? ⟨gb149, 2, none⟩ = some (.int .i64 0) := (zf BK149.1 2).trans rfl; have hcz6_3 : w3.cell? ⟨gb149, 3, none⟩ = some (.int .i64 0) := (zf BK149.1 3).trans rfl; have hcz6_4 : w3.cell? ⟨gb149, 4, none⟩ = some (.int .i64 0) := (zf BK149.1 4).trans rfl; have hfz6_0 := ze BK149.1 0; have hfz6_1 := ze BK149.1 1; have hfz6_2 := ze BK149.1 2; have hfz6_3 := ze BK149.1 3; have hfz6_4 := ze BK149.1 4))
 refine bodyPost_ret (results_cell_row rfl _ _ gb149 72 #[.int .i64 a0_1, .int .i64 a0_0, .int .i64 a0_2, .int .i64 (Int.tmod (wrap64 (a0_3 + 180)) 360), .int .i64 (wrap64 (-a0_4))] (0, 0) _ rfl (by (with_reducible repeat (first | refine zh ?_ _ | refine zi ?_ | refine zg ?_ _)); refine zj (cs := #[.int .i64 a0_1, .int .i64 a0_0, .int .i64 a0_2, .int .i64 (Int.tmod (wrap64 (a0_3 + 180)) 360), .int .i64 0]) ?_ 4 _ rfl; (with_reducible repeat (first | refine zh ?_ _ | refine zi ?_ | refine zg ?_ _)); refine zj (cs := #[.int .i64 a0_1, .int .i64 a0_0, .int .i64 a0_2, .int .i64 0, .int .i64 0]) ?_ 3 _ rfl; (with_reducible repeat (first | refine zh ?_ _ | refine zi ?_ | refine zg ?_ _)); refine zj (cs := #[.int .i64 a0_1, .int .i64 a0_0, .int .i64 0, .int .i64 0, .int .i64 0]) ?_ 2 _ rfl; (with_reducible repeat (first | refine zh ?_ _ | refine zi ?_ | refine zg ?_ _)); refine zj (cs := #[.int .i64 a0_1, .int .i64 0, .int .i64 0, .int .i64 0, .int .i64 0]) ?_ 1 _ rfl; (with_reducible repeat (first | refine zh ?_ _ | refine zi ?_ | refine zg ?_ _)); refine zj (cs := #[.int .i64 0, .int .i64 0, .int .i64 0, .int .i64 0, .int .i64 0]) ?_ 0 _ rfl; (with_reducible repeat (first | refine zh ?_ _ | refine zi ?_ | refine zg ?_ _)); exact BK149.1) Try.underlying72 rfl (qK25)) rfl ?_
 exact ⟨(qK11), (qK27 GE148.1 GE149.1)⟩

def spec_l2Long.f (a0 : Int) : Option (Bool) := (spec_l1In.f a0 (-100000) 100000).bind fun t150 => (some t150)
theorem spec_l2Long.calls (a0 : Int) (r : Bool) (w : World) (h : spec_l2Long.f a0 = some r) :
  Calls Try.prog 79 #[.int .i64 a0] w fun e w' => e = .returned (.bool r) ∧ Drawn0 w w' := by
 have H : ((spec_l1In.f a0 (-100000) 100000).bind fun t150 => (some t150)) = some r := h; clear h; replace H := zC H; obtain ⟨t150, A20, H⟩ := H; replace H : (some t150) = some r := H; have A2 := za A20; clear A20; obtain rfl := zm H
 go_enter Try.func79, Try.ntmps79
 go_wp2_with (first | ((with_reducible refine zp (f := 63) rfl ?_); refine zV (some 4) rfl rfl Try.func63 (qK25) rfl #[.int .i64 a0, .int .i64 (-100000), .int .i64 100000] rfl (qK2) ?_; (with_reducible refine (spec_l1In.calls a0 (-100000) 100000 t150 _ A2.1).mono ?_); rintro e w' ⟨rfl, ⟨nd, rfl⟩⟩; refine ⟨_, rfl, ?_⟩))
 go_ret
 exact ⟨(qK10), (qK24)⟩

mutual
def spec_LengthOf.j0 : Nat → Int → Int → Int → Bool → Option (Int × Bool)
 | 0, _, _, _, _ => none
 | k + 1, x0, x1, x2, x24 => if x24 = true then (some (0, false)) else (spec_LengthOf.l0 k (wrap64 ((wrap64 ((wrap64 (x0 * x0)) + (wrap64 (x1 * x1)))) + (wrap64 (x2 * x2)))) 0 200000)
def spec_LengthOf.l0 : Nat → Int → Int → Int → Option (Int × Bool)
 | 0, _, _, _ => none
 | k + 1, x8, x9, x10 => if x9 < x10 then (if (wrap64 ((wrap64 (Int.tdiv (wrap64 ((wrap64 (x9 + x10)) + 1)) 2)) * (wrap64 (Int.tdiv (wrap64 ((wrap64 (x9 + x10)) + 1)) 2)))) ≤ x8 then (spec_LengthOf.l0 k x8 (wrap64 (Int.tdiv (wrap64 ((wrap64 (x9 + x10)) + 1)) 2)) x10) else (spec_LengthOf.l0 k x8 x9 (wrap64 ((wrap64 (Int.tdiv (wrap64 ((wrap64 (x9 + x10)) + 1)) 2)) - 1)))) else (some (x9, true))
end
def spec_LengthOf.f (k : Nat) (a0 : Int) (a1 : Int) (a2 : Int) : Option (Int × Bool) := (spec_l2Long.f a0).bind fun t151 => (if t151 = true then ((spec_l2Long.f a1).bind fun t152 => (if t152 = true then ((spec_l2Long.f a2).bind fun t153 => (spec_LengthOf.j0 k a0 a1 a2 (!t153))) else (spec_LengthOf.j0 k a0 a1 a2 true))) else (spec_LengthOf.j0 k a0 a1 a2 true))
theorem spec_LengthOf.calls (k : Nat) (a0 : Int) (a1 : Int) (a2 : Int) (r1 : Int) (r2 : Bool) (w : World) (h : spec_LengthOf.f k a0 a1 a2 = some (r1, r2)) :
  Calls Try.prog 67 #[.int .i64 a0, .int .i64 a1, .int .i64 a2] w fun e w' => e = .returned (.tuple #[.int .i64 r1, .bool r2]) ∧ Drawn0 w w' := by
 have H : ((spec_l2Long.f a0).bind fun t151 => (if t151 = true then ((spec_l2Long.f a1).bind fun t152 => (if t152 = true then ((spec_l2Long.f a2).bind fun t153 => (spec_LengthOf.j0 k a0 a1 a2 (!t153))) else (spec_LengthOf.j0 k a0 a1 a2 true))) else (spec_LengthOf.j0 k a0 a1 a2 true))) = some (r1, r2) := h; clear h; have HC4 := za H; clear H
 go_enter Try.func67, Try.ntmps67
 go_upto_region 1 with (fail)
 go_cut [24] (fun v24 wc => ∃ (kq : Nat) (x24_3 : Bool), v24 = .bool x24_3 ∧ Aside0 (spec_LengthOf.j0 kq a0 a1 a2 x24_3 = some (r1, r2)) ∧ Aside0 (kq ≤ k) ∧ Drawn0 w wc)
 case first =>
  have H := HC4.1; clear HC4; replace H := bindA H; obtain ⟨t151, A5, H⟩ := H; (try dsimp only at H)
  by_cases c6 : t151 = true
  ·subst c6; rw [yb rfl] at H; replace H := bindA H; obtain ⟨t152, A7, H⟩ := H; (try dsimp only at H)
   by_cases c8 : t152 = true
   ·subst c8; rw [yb rfl] at H; replace H := zC H; obtain ⟨t153, A90, H⟩ := H; replace H : (spec_LengthOf.j0 k a0 a1 a2 (!t153)) = some (r1, r2) := H; have A9 := za A90; clear A90; have H' := za H; clear H
    go_wp2_with (first | ((with_reducible refine zp (f := 79) rfl ?_); refine zV (some 13) rfl rfl Try.func79 (qK25) rfl #[.int .i64 a0] rfl (qK2) ?_; (with_reducible refine (spec_l2Long.calls a0 true _ A5.1).mono ?_); rintro e w' ⟨rfl, ⟨nd, rfl⟩⟩; refine ⟨_, rfl, ?_⟩) | (go_at_call 79; (with_reducible refine (spec_l2Long.calls a1 true _ A7.1).mono ?_); rintro e w' ⟨rfl, ⟨nd, rfl⟩⟩) | (go_at_call 79; (with_reducible refine (spec_l2Long.calls a2 t153 _ A9.1).mono ?_); rintro e w' ⟨rfl, ⟨nd, rfl⟩⟩))
    go_meet
    case rel => exact ⟨_, (!t153), (qK10), H', ⟨by first | omega | exact zo _⟩, (qK24)⟩
   ·replace c8 := zn c8; subst c8; rw [yc (show ¬ (false = true) by decide)] at H; have H' := za H; clear H
    go_wp2_with (first | ((with_reducible refine zp (f := 79) rfl ?_); refine zV (some 13) rfl rfl Try.func79 (qK25) rfl #[.int .i64 a0] rfl (qK2) ?_; (with_reducible refine (spec_l2Long.calls a0 true _ A5.1).mono ?_); rintro e w' ⟨rfl, ⟨nd, rfl⟩⟩; refine ⟨_, rfl, ?_⟩) | (go_at_call 79; (with_reducible refine (spec_l2Long.calls a1 false _ A7.1).mono ?_); rintro e w' ⟨rfl, ⟨nd, rfl⟩⟩))
    go_meet
    case rel => exact ⟨_, (true), (qK10), H', ⟨by first | omega | exact zo _⟩, (qK24)⟩
  ·replace c6 := zn c6; subst c6; rw [yc (show ¬ (false = true) by decide)] at H; have H' := za H; clear H
   go_wp2_with (first | ((with_reducible refine zp (f := 79) rfl ?_); refine zV (some 13) rfl rfl Try.func79 (qK25) rfl #[.int .i64 a0] rfl (qK2) ?_; (with_reducible refine (spec_l2Long.calls a0 false _ A5.1).mono ?_); rintro e w' ⟨rfl, ⟨nd, rfl⟩⟩; refine ⟨_, rfl, ?_⟩))
   go_meet
   case rel => exact ⟨_, (true), (qK10), H', ⟨by first | omega | exact zo _⟩, (qK24)⟩
 case rest =>
  clear HC4; (try clear p2); (try clear c6); (try clear c7); (try clear c8); obtain ⟨kq, x24_3, rfl, HA, HJ3, ⟨mc3, rfl⟩⟩ := hcut
  cases kq with
  | zero => exact absurd HA.1 (by simp [spec_LengthOf.j0])
  | succ kj3 =>
   have H := HA.1; clear HA; simp only [spec_LengthOf.j0] at H
   by_cases c10 : x24_3 = true
   ·subst c10; rw [yb rfl] at H; simp only [yd, ye] at H; obtain ⟨rfl, rfl⟩ := H
    go_wp2
    go_ret2
    exact ⟨(qK10), (qK24)⟩
   ·replace c10 := zn c10; subst c10; rw [yc (show ¬ (false = true) by decide)] at H; have H' := za H; clear H
    go_wp2
    go_loopg [9, 10] kj3 (fun kq v9 v10 w' => ∃ (x9_2 : Int) (x10_2 : Int), v9 = .int .i64 x9_2 ∧ v10 = .int .i64 x10_2 ∧ Aside0 (spec_LengthOf.l0 kq (wrap64 ((wrap64 ((wrap64 (a0 * a0)) + (wrap64 (a1 * a1)))) + (wrap64 (a2 * a2)))) x9_2 x10_2 = some (r1, r2)) ∧ Aside0 (kq ≤ kj3) ∧ Drawn0 w w')
    case atStart => exact ⟨(0), (200000), (qK10), (qK10), H', ⟨zo _⟩, (qK24)⟩
    case round =>
     clear H'; (try clear c1); (try clear p2); (try clear c3); (try clear c6); (try clear p6); (try clear c7); (try clear c8); (try clear c10); (try clear p2); obtain ⟨x9_2, x10_2, rfl, rfl, HA, HK2, ⟨m2, rfl⟩⟩ := hrel
     cases gk with
     | zero => exact absurd HA.1 (by simp [spec_LengthOf.l0])
     | succ k2 =>
      have H := HA.1; clear HA; simp only [spec_LengthOf.l0] at H
      by_cases c11 : x9_2 < x10_2
      ·rw [yb c11] at H; have c11b0 : decide (x9_2 < x10_2) = true := zc c11; clear c11
       by_cases c12 : (wrap64 ((wrap64 (Int.tdiv (wrap64 ((wrap64 (x9_2 + x10_2)) + 1)) 2)) * (wrap64 (Int.tdiv (wrap64 ((wrap64 (x9_2 + x10_2)) + 1)) 2)))) ≤ (wrap64 ((wrap64 ((wrap64 (a0 * a0)) + (wrap64 (a1 * a1)))) + (wrap64 (a2 * a2))))
       ·rw [yb c12] at H; have c12b0 : decide ((wrap64 ((wrap64 (Int.tdiv (wrap64 ((wrap64 (x9_2 + x10_2)) + 1)) 2)) * (wrap64 (Int.tdiv (wrap64 ((wrap64 (x9_2 + x10_2)) + 1)) 2)))) ≤ (wrap64 ((wrap64 ((wrap64 (a0 * a0)) + (wrap64 (a1 * a1)))) + (wrap64 (a2 * a2))))) = true := zc c12; clear c12; have H' := za H; clear H
        go_wp2
        go_roundg k2
        case measure => have := HJ3.1; have := HK2.1; omega
        case rel => exact ⟨(wrap64 (Int.tdiv (wrap64 ((wrap64 (x9_2 + x10_2)) + 1)) 2)), (x10_2), (qK10), (qK10), H', ⟨by have := HJ3.1; have := HK2.1; omega⟩, (qK24)⟩
       ·rw [yc c12] at H; have c12b0 : decide ((wrap64 ((wrap64 (Int.tdiv (wrap64 ((wrap64 (x9_2 + x10_2)) + 1)) 2)) * (wrap64 (Int.tdiv (wrap64 ((wrap64 (x9_2 + x10_2)) + 1)) 2)))) ≤ (wrap64 ((wrap64 ((wrap64 (a0 * a0)) + (wrap64 (a1 * a1)))) + (wrap64 (a2 * a2))))) = false := zv c12; clear c12; have H' := za H; clear H
        go_wp2
        go_roundg k2
        case measure => have := HJ3.1; have := HK2.1; omega
        case rel => exact ⟨(x9_2), (wrap64 ((wrap64 (Int.tdiv (wrap64 ((wrap64 (x9_2 + x10_2)) + 1)) 2)) - 1)), (qK10), (qK10), H', ⟨by have := HJ3.1; have := HK2.1; omega⟩, (qK24)⟩
      ·rw [yc c11] at H; have c11b0 : decide (x9_2 < x10_2) = false := zv c11; clear c11; simp only [yd, ye] at H; obtain ⟨rfl, rfl⟩ := H
       go_wp2
       go_ret2
       exact ⟨(qK10), (qK24)⟩

mutual
def spec_BearingTo.j0 : Nat → Int → Int → Bool → Option (Int × Bool)
 | 0, _, _, _ => none
 | k + 1, x0, x1, x23 => if x23 = true then (some (0, false)) else (spec_BearingTo.l0 k x0 x1 0 1)
def spec_BearingTo.l0 : Nat → Int → Int → Int → Int → Option (Int × Bool)
 | 0, _, _, _, _ => none
 | k + 1, x0, x1, x6, x7 => if x7 < 360 then ((spec_l2Sine.f x7).bind fun t156 => ((spec_l2Cosine.f x7).bind fun t157 => ((spec_l2Sine.f x6).bind fun t158 => ((spec_l2Cosine.f x6).bind fun t159 => (if (wrap64 ((wrap64 (x0 * t156)) + (wrap64 (x1 * t157)))) > (wrap64 ((wrap64 (x0 * t158)) + (wrap64 (x1 * t159)))) then (spec_BearingTo.l0 k x0 x1 x7 (wrap64 (x7 + 1))) else (spec_BearingTo.l0 k x0 x1 x6 (wrap64 (x7 + 1)))))))) else (some (x6, true))
end
def spec_BearingTo.f (k : Nat) (a0 : Int) (a1 : Int) : Option (Int × Bool) := (spec_l2Long.f a0).bind fun t154 => (if t154 = true then ((spec_l2Long.f a1).bind fun t155 => (if t155 = true then (if a0 = 0 then (spec_BearingTo.j0 k a0 a1 (a1 == 0)) else (spec_BearingTo.j0 k a0 a1 false)) else (spec_BearingTo.j0 k a0 a1 true))) else (spec_BearingTo.j0 k a0 a1 true))
theorem spec_BearingTo.calls (k : Nat) (a0 : Int) (a1 : Int) (r1 : Int) (r2 : Bool) (w : World) (h : spec_BearingTo.f k a0 a1 = some (r1, r2)) :
  Calls Try.prog 68 #[.int .i64 a0, .int .i64 a1] w fun e w' => e = .returned (.tuple #[.int .i64 r1, .bool r2]) ∧ Below w.heap.size w w' := by
 have HB := za (zs w.heap.size w); have H : ((spec_l2Long.f a0).bind fun t154 => (if t154 = true then ((spec_l2Long.f a1).bind fun t155 => (if t155 = true then (if a0 = 0 then (spec_BearingTo.j0 k a0 a1 (a1 == 0)) else (spec_BearingTo.j0 k a0 a1 false)) else (spec_BearingTo.j0 k a0 a1 true))) else (spec_BearingTo.j0 k a0 a1 true))) = some (r1, r2) := h; clear h; have HC3 := za H; clear H
 go_enter Try.func68, Try.ntmps68
 go_upto_region 1 with (fail)
 go_cut [23] (fun v23 wc => ∃ (kq : Nat) (x23_2 : Bool), v23 = .bool x23_2 ∧ Aside0 (spec_BearingTo.j0 kq a0 a1 x23_2 = some (r1, r2)) ∧ Aside0 (kq ≤ k) ∧ Aside0 (Below w.heap.size w wc))
 case first =>
  have H := HC3.1; clear HC3; replace H := bindA H; obtain ⟨t154, A4, H⟩ := H; (try dsimp only at H)
  by_cases c5 : t154 = true
  ·subst c5; rw [yb rfl] at H; replace H := bindA H; obtain ⟨t155, A6, H⟩ := H; (try dsimp only at H)
   by_cases c7 : t155 = true
   ·subst c7; rw [yb rfl] at H
    by_cases c8 : a0 = 0
    ·rw [yb c8] at H; have c8b0 : (a0 == 0) = true := zT c8; have c8b1 : (a0 != 0) = false := zy c8; clear c8
     (first | rw [c8b0] | (simp only [i64_w, i32_w]; rw [c8b0]) | skip)
     have H' := za H; clear H
     go_wp2_with (first | ((with_reducible refine zp (f := 79) rfl ?_); refine zV (some 9) rfl rfl Try.func79 (qK25) rfl #[.int .i64 a0] rfl (qK2) ?_; (with_reducible refine (spec_l2Long.calls a0 true _ A4.1).mono ?_); rintro e w' ⟨rfl, ⟨nd, rfl⟩⟩; refine ⟨_, rfl, ?_⟩) | (go_at_call 79; (with_reducible refine (spec_l2Long.calls a1 true _ A6.1).mono ?_); rintro e w' ⟨rfl, ⟨nd, rfl⟩⟩))
     go_meet
     case rel => exact ⟨_, ((a1 == 0)), (qK10), H', ⟨by first | omega | exact zo _⟩, ⟨(qK0)⟩⟩
    ·rw [yc c8] at H; have c8b0 : (a0 == 0) = false := zx c8; have c8b1 : (a0 != 0) = true := zU c8
     (first | rw [c8b0] | (simp only [i64_w, i32_w]; rw [c8b0]) | skip)
     have H' := za H; clear H
     go_wp2_with (first | ((with_reducible refine zp (f := 79) rfl ?_); refine zV (some 9) rfl rfl Try.func79 (qK25) rfl #[.int .i64 a0] rfl (qK2) ?_; (with_reducible refine (spec_l2Long.calls a0 true _ A4.1).mono ?_); rintro e w' ⟨rfl, ⟨nd, rfl⟩⟩; refine ⟨_, rfl, ?_⟩) | (go_at_call 79; (with_reducible refine (spec_l2Long.calls a1 true _ A6.1).mono ?_); rintro e w' ⟨rfl, ⟨nd, rfl⟩⟩))
     go_meet
     case rel => exact ⟨_, (false), (qK10), H', ⟨by first | omega | exact zo _⟩, ⟨(qK0)⟩⟩
   ·replace c7 := zn c7; subst c7; rw [yc (show ¬ (false = true) by decide)] at H; have H' := za H; clear H
    go_wp2_with (first | ((with_reducible refine zp (f := 79) rfl ?_); refine zV (some 9) rfl rfl Try.func79 (qK25) rfl #[.int .i64 a0] rfl (qK2) ?_; (with_reducible refine (spec_l2Long.calls a0 true _ A4.1).mono ?_); rintro e w' ⟨rfl, ⟨nd, rfl⟩⟩; refine ⟨_, rfl, ?_⟩) | (go_at_call 79; (with_reducible refine (spec_l2Long.calls a1 false _ A6.1).mono ?_); rintro e w' ⟨rfl, ⟨nd, rfl⟩⟩))
    go_meet
    case rel => exact ⟨_, (true), (qK10), H', ⟨by first | omega | exact zo _⟩, ⟨(qK0)⟩⟩
  ·replace c5 := zn c5; subst c5; rw [yc (show ¬ (false = true) by decide)] at H; have H' := za H; clear H
   go_wp2_with (first | ((with_reducible refine zp (f := 79) rfl ?_); refine zV (some 9) rfl rfl Try.func79 (qK25) rfl #[.int .i64 a0] rfl (qK2) ?_; (with_reducible refine (spec_l2Long.calls a0 false _ A4.1).mono ?_); rintro e w' ⟨rfl, ⟨nd, rfl⟩⟩; refine ⟨_, rfl, ?_⟩))
   go_meet
   case rel => exact ⟨_, (true), (qK10), H', ⟨by first | omega | exact zo _⟩, ⟨(qK0)⟩⟩
 case rest =>
  clear HC3; (try clear p2); (try clear c5); (try clear c6); (try clear c7); (try clear c8); (try clear c8b0); (try clear c8b1); obtain ⟨kq, x23_2, rfl, HA, HJ2, HB⟩ := hcut
  cases kq with
  | zero => exact absurd HA.1 (by simp [spec_BearingTo.j0])
  | succ kj2 =>
   have H := HA.1; clear HA; simp only [spec_BearingTo.j0] at H
   by_cases c9 : x23_2 = true
   ·subst c9; rw [yb rfl] at H; simp only [yd, ye] at H; obtain ⟨rfl, rfl⟩ := H
    go_wp2
    go_ret2
    exact ⟨(qK11), (qK0)⟩
   ·replace c9 := zn c9; subst c9; rw [yc (show ¬ (false = true) by decide)] at H; have H' := za H; clear H
    go_wp2
    go_loopg [6, 7] kj2 (fun kq v6 v7 w' => ∃ (x6_2 : Int) (x7_2 : Int), v6 = .int .i64 x6_2 ∧ v7 = .int .i64 x7_2 ∧ Aside0 (spec_BearingTo.l0 kq a0 a1 x6_2 x7_2 = some (r1, r2)) ∧ Aside0 (kq ≤ kj2) ∧ Aside0 (Below w.heap.size w w'))
    case atStart => exact ⟨(0), (1), (qK10), (qK10), H', ⟨zo _⟩, ⟨(qK0)⟩⟩
    case round =>
     clear H'; (try clear p2); (try clear c5); (try clear c6); (try clear c7); (try clear c8); (try clear c8b0); (try clear c8b1); (try clear c9); (try clear p2); obtain ⟨x6_2, x7_2, rfl, rfl, HA, HK2, HB⟩ := hrel
     cases gk with
     | zero => exact absurd HA.1 (by simp [spec_BearingTo.l0])
     | succ k2 =>
      have H := HA.1; clear HA; simp only [spec_BearingTo.l0] at H
      by_cases c10 : x7_2 < 360
      ·rw [yb c10] at H; have c10b0 : decide (x7_2 < 360) = true := zc c10; clear c10; replace H := bindA H; obtain ⟨t156, A11, H⟩ := H; (try dsimp only at H); replace H := bindA H; obtain ⟨t157, A12, H⟩ := H; (try dsimp only at H); replace H := bindA H; obtain ⟨t158, A13, H⟩ := H; (try dsimp only at H); replace H := bindA H; obtain ⟨t159, A14, H⟩ := H; (try dsimp only at H)
       by_cases c15 : (wrap64 ((wrap64 (a0 * t156)) + (wrap64 (a1 * t157)))) > (wrap64 ((wrap64 (a0 * t158)) + (wrap64 (a1 * t159))))
       ·rw [yb c15] at H; have c15b0 : decide ((wrap64 ((wrap64 (a0 * t158)) + (wrap64 (a1 * t159)))) < (wrap64 ((wrap64 (a0 * t156)) + (wrap64 (a1 * t157))))) = true := zc c15; clear c15; have H' := za H; clear H
        go_wp2_with (first | ((with_reducible refine zp (f := 78) rfl ?_); refine zV (some 30) rfl rfl Try.func78 (qK25) rfl #[.int .i64 x7_2] rfl (qK2) ?_; (with_reducible refine (spec_l2Sine.calls x7_2 t156 _ A11.1).mono ?_); rintro e w16 ⟨rfl, hb⟩; refine ⟨_, rfl, ?_⟩; replace HB := za qK73; clear hb) | ((with_reducible refine zp (f := 77) rfl ?_); refine zV (some 34) rfl rfl Try.func77 (qK25) rfl #[.int .i64 x7_2] rfl (qK2) ?_; (with_reducible refine (spec_l2Cosine.calls x7_2 t157 _ A12.1).mono ?_); rintro e w17 ⟨rfl, hb⟩; refine ⟨_, rfl, ?_⟩; replace HB := za qK73; clear hb) | ((with_reducible refine zp (f := 78) rfl ?_); refine zV (some 39) rfl rfl Try.func78 (qK25) rfl #[.int .i64 x6_2] rfl (qK2) ?_; (with_reducible refine (spec_l2Sine.calls x6_2 t158 _ A13.1).mono ?_); rintro e w18 ⟨rfl, hb⟩; refine ⟨_, rfl, ?_⟩; replace HB := za qK73; clear hb) | ((with_reducible refine zp (f := 77) rfl ?_); refine zV (some 43) rfl rfl Try.func77 (qK25) rfl #[.int .i64 x6_2] rfl (qK2) ?_; (with_reducible refine (spec_l2Cosine.calls x6_2 t159 _ A14.1).mono ?_); rintro e w19 ⟨rfl, hb⟩; refine ⟨_, rfl, ?_⟩; replace HB := za qK73; clear hb))
        go_roundg k2
        case measure => have := HJ2.1; have := HK2.1; omega
        case rel => exact ⟨(x7_2), (wrap64 (x7_2 + 1)), (qK10), (qK10), H', ⟨by have := HJ2.1; have := HK2.1; omega⟩, ⟨(qK0)⟩⟩
       ·rw [yc c15] at H; have c15b0 : decide ((wrap64 ((wrap64 (a0 * t158)) + (wrap64 (a1 * t159)))) < (wrap64 ((wrap64 (a0 * t156)) + (wrap64 (a1 * t157))))) = false := zv c15; clear c15; have H' := za H; clear H
        go_wp2_with (first | ((with_reducible refine zp (f := 78) rfl ?_); refine zV (some 30) rfl rfl Try.func78 (qK25) rfl #[.int .i64 x7_2] rfl (qK2) ?_; (with_reducible refine (spec_l2Sine.calls x7_2 t156 _ A11.1).mono ?_); rintro e w20 ⟨rfl, hb⟩; refine ⟨_, rfl, ?_⟩; replace HB := za qK73; clear hb) | ((with_reducible refine zp (f := 77) rfl ?_); refine zV (some 34) rfl rfl Try.func77 (qK25) rfl #[.int .i64 x7_2] rfl (qK2) ?_; (with_reducible refine (spec_l2Cosine.calls x7_2 t157 _ A12.1).mono ?_); rintro e w21 ⟨rfl, hb⟩; refine ⟨_, rfl, ?_⟩; replace HB := za qK73; clear hb) | ((with_reducible refine zp (f := 78) rfl ?_); refine zV (some 39) rfl rfl Try.func78 (qK25) rfl #[.int .i64 x6_2] rfl (qK2) ?_; (with_reducible refine (spec_l2Sine.calls x6_2 t158 _ A13.1).mono ?_); rintro e w22 ⟨rfl, hb⟩; refine ⟨_, rfl, ?_⟩; replace HB := za qK73; clear hb) | ((with_reducible refine zp (f := 77) rfl ?_); refine zV (some 43) rfl rfl Try.func77 (qK25) rfl #[.int .i64 x6_2] rfl (qK2) ?_; (with_reducible refine (spec_l2Cosine.calls x6_2 t159 _ A14.1).mono ?_); rintro e w23 ⟨rfl, hb⟩; refine ⟨_, rfl, ?_⟩; replace HB := za qK73; clear hb))
        go_roundg k2
        case measure => have := HJ2.1; have := HK2.1; omega
        case rel => exact ⟨(x6_2), (wrap64 (x7_2 + 1)), (qK10), (qK10), H', ⟨by have := HJ2.1; have := HK2.1; omega⟩, ⟨(qK0)⟩⟩
      ·rw [yc c10] at H; have c10b0 : decide (x7_2 < 360) = false := zv c10; clear c10; simp only [yd, ye] at H; obtain ⟨rfl, rfl⟩ := H
       go_wp2
       go_ret2
       exact ⟨(qK11), (qK0)⟩

mutual
def spec_SlopeTo.j0 : Nat → Int → Int → Bool → Option (Int × Bool)
 | 0, _, _, _ => none
 | k + 1, x0, x1, x24 => if x24 = true then (some (0, false)) else (spec_SlopeTo.l0 k x0 x1 0 1)
def spec_SlopeTo.l0 : Nat → Int → Int → Int → Int → Option (Int × Bool)
 | 0, _, _, _, _ => none
 | k + 1, x0, x1, x6, x7 => if x7 ≤ 90 then (spec_SlopeTo.l1 k x0 x1 x6 x7 1) else (some (x6, true))
def spec_SlopeTo.l1 : Nat → Int → Int → Int → Int → Int → Option (Int × Bool)
 | 0, _, _, _, _, _ => none
 | k + 1, x0, x1, x6, x7, x8 => if x8 ≥ (-1) then ((spec_l2Cosine.f x7).bind fun t162 => ((spec_l2Sine.f (wrap64 (x8 * x7))).bind fun t163 => ((spec_l2Cosine.f x6).bind fun t164 => ((spec_l2Sine.f x6).bind fun t165 => (if (wrap64 ((wrap64 (x0 * t162)) + (wrap64 (x1 * t163)))) > (wrap64 ((wrap64 (x0 * t164)) + (wrap64 (x1 * t165)))) then (spec_SlopeTo.l1 k x0 x1 (wrap64 (x8 * x7)) x7 (wrap64 (x8 - 2))) else (spec_SlopeTo.l1 k x0 x1 x6 x7 (wrap64 (x8 - 2)))))))) else (spec_SlopeTo.l0 k x0 x1 x6 (wrap64 (x7 + 1)))
end
def spec_SlopeTo.f (k : Nat) (a0 : Int) (a1 : Int) : Option (Int × Bool) := (spec_l1In.f a0 0 100000).bind fun t160 => (if t160 = true then ((spec_l2Long.f a1).bind fun t161 => (if t161 = true then (if a0 = 0 then (spec_SlopeTo.j0 k a0 a1 (a1 == 0)) else (spec_SlopeTo.j0 k a0 a1 false)) else (spec_SlopeTo.j0 k a0 a1 true))) else (spec_SlopeTo.j0 k a0 a1 true))
theorem spec_SlopeTo.calls (k : Nat) (a0 : Int) (a1 : Int) (r1 : Int) (r2 : Bool) (w : World) (h : spec_SlopeTo.f k a0 a1 = some (r1, r2)) :
  Calls Try.prog 69 #[.int .i64 a0, .int .i64 a1] w fun e w' => e = .returned (.tuple #[.int .i64 r1, .bool r2]) ∧ Below w.heap.size w w' := by
 have HB := za (zs w.heap.size w); have H : ((spec_l1In.f a0 0 100000).bind fun t160 => (if t160 = true then ((spec_l2Long.f a1).bind fun t161 => (if t161 = true then (if a0 = 0 then (spec_SlopeTo.j0 k a0 a1 (a1 == 0)) else (spec_SlopeTo.j0 k a0 a1 false)) else (spec_SlopeTo.j0 k a0 a1 true))) else (spec_SlopeTo.j0 k a0 a1 true))) = some (r1, r2) := h; clear h; have HC3 := za H; clear H
 go_enter Try.func69, Try.ntmps69
 go_upto_region 1 with (fail)
 go_cut [24] (fun v24 wc => ∃ (kq : Nat) (x24_2 : Bool), v24 = .bool x24_2 ∧ Aside0 (spec_SlopeTo.j0 kq a0 a1 x24_2 = some (r1, r2)) ∧ Aside0 (kq ≤ k) ∧ Aside0 (Below w.heap.size w wc))
 case first =>
  have H := HC3.1; clear HC3; replace H := bindA H; obtain ⟨t160, A4, H⟩ := H; (try dsimp only at H)
  by_cases c5 : t160 = true
  ·subst c5; rw [yb rfl] at H; replace H := bindA H; obtain ⟨t161, A6, H⟩ := H; (try dsimp only at H)
   by_cases c7 : t161 = true
   ·subst c7; rw [yb rfl] at H
    by_cases c8 : a0 = 0
    ·rw [yb c8] at H; have c8b0 : (a0 == 0) = true := zT c8; have c8b1 : (a0 != 0) = false := zy c8; clear c8
     (first | rw [c8b0] | (simp only [i64_w, i32_w]; rw [c8b0]) | skip)
     have H' := za H; clear H
     go_wp2_with (first | ((with_reducible refine zp (f := 63) rfl ?_); refine zV (some 10) rfl rfl Try.func63 (qK25) rfl #[.int .i64 a0, .int .i64 0, .int .i64 100000] rfl (qK2) ?_; (with_reducible refine (spec_l1In.calls a0 0 100000 true _ A4.1).mono ?_); rintro e w' ⟨rfl, ⟨nd, rfl⟩⟩; refine ⟨_, rfl, ?_⟩) | (go_at_call 79; (with_reducible refine (spec_l2Long.calls a1 true _ A6.1).mono ?_); rintro e w' ⟨rfl, ⟨nd, rfl⟩⟩))
     go_meet
     case rel => exact ⟨_, ((a1 == 0)), (qK10), H', ⟨by first | omega | exact zo _⟩, ⟨(qK0)⟩⟩
    ·rw [yc c8] at H; have c8b0 : (a0 == 0) = false := zx c8; have c8b1 : (a0 != 0) = true := zU c8
     (first | rw [c8b0] | (simp only [i64_w, i32_w]; rw [c8b0]) | skip)
     have H' := za H; clear H
     go_wp2_with (first | ((with_reducible refine zp (f := 63) rfl ?_); refine zV (some 10) rfl rfl Try.func63 (qK25) rfl #[.int .i64 a0, .int .i64 0, .int .i64 100000] rfl (qK2) ?_; (with_reducible refine (spec_l1In.calls a0 0 100000 true _ A4.1).mono ?_); rintro e w' ⟨rfl, ⟨nd, rfl⟩⟩; refine ⟨_, rfl, ?_⟩) | (go_at_call 79; (with_reducible refine (spec_l2Long.calls a1 true _ A6.1).mono ?_); rintro e w' ⟨rfl, ⟨nd, rfl⟩⟩))
     go_meet
     case rel => exact ⟨_, (false), (qK10), H', ⟨by first | omega | exact zo _⟩, ⟨(qK0)⟩⟩
   ·replace c7 := zn c7; subst c7; rw [yc (show ¬ (false = true) by decide)] at H; have H' := za H; clear H
    go_wp2_with (first | ((with_reducible refine zp (f := 63) rfl ?_); refine zV (some 10) rfl rfl Try.func63 (qK25) rfl #[.int .i64 a0, .int .i64 0, .int .i64 100000] rfl (qK2) ?_; (with_reducible refine (spec_l1In.calls a0 0 100000 true _ A4.1).mono ?_); rintro e w' ⟨rfl, ⟨nd, rfl⟩⟩; refine ⟨_, rfl, ?_⟩) | (go_at_call 79; (with_reducible refine (spec_l2Long.calls a1 false _ A6.1).mono ?_); rintro e w' ⟨rfl, ⟨nd, rfl⟩⟩))
    go_meet
    case rel => exact ⟨_, (true), (qK10), H', ⟨by first | omega | exact zo _⟩, ⟨(qK0)⟩⟩
  ·replace c5 := zn c5; subst c5; rw [yc (show ¬ (false = true) by decide)] at H; have H' := za H; clear H
   go_wp2_with (first | ((with_reducible refine zp (f := 63) rfl ?_); refine zV (some 10) rfl rfl Try.func63 (qK25) rfl #[.int .i64 a0, .int .i64 0, .int .i64 100000] rfl (qK2) ?_; (with_reducible refine (spec_l1In.calls a0 0 100000 false _ A4.1).mono ?_); rintro e w' ⟨rfl, ⟨nd, rfl⟩⟩; refine ⟨_, rfl, ?_⟩))
   go_meet
   case rel => exact ⟨_, (true), (qK10), H', ⟨by first | omega | exact zo _⟩, ⟨(qK0)⟩⟩
 case rest =>
  clear HC3; (try clear p2); (try clear c5); (try clear c6); (try clear c7); (try clear c8); (try clear c8b0); (try clear c8b1); obtain ⟨kq, x24_2, rfl, HA, HJ2, HB⟩ := hcut
  cases kq with
  | zero => exact absurd HA.1 (by simp [spec_SlopeTo.j0])
  | succ kj2 =>
   have H := HA.1; clear HA; simp only [spec_SlopeTo.j0] at H
   by_cases c9 : x24_2 = true
   ·subst c9; rw [yb rfl] at H; simp only [yd, ye] at H; obtain ⟨rfl, rfl⟩ := H
    go_wp2
    go_ret2
    exact ⟨(qK11), (qK0)⟩
   ·replace c9 := zn c9; subst c9; rw [yc (show ¬ (false = true) by decide)] at H; have H' := za H; clear H
    go_wp2
    go_loopg [6, 7] kj2 (fun kq v6 v7 w' => ∃ (x6_2 : Int) (x7_2 : Int), v6 = .int .i64 x6_2 ∧ v7 = .int .i64 x7_2 ∧ Aside0 (spec_SlopeTo.l0 kq a0 a1 x6_2 x7_2 = some (r1, r2)) ∧ Aside0 (kq ≤ kj2) ∧ Aside0 (Below w.heap.size w w'))
    case atStart => exact ⟨(0), (1), (qK10), (qK10), H', ⟨zo _⟩, ⟨(qK0)⟩⟩
    case round =>
     clear H'; (try clear p2); (try clear c5); (try clear c6); (try clear c7); (try clear c8); (try clear c8b0); (try clear c8b1); (try clear c9); (try clear p2); obtain ⟨x6_2, x7_2, rfl, rfl, HA, HK2, HB⟩ := hrel
     cases gk with
     | zero => exact absurd HA.1 (by simp [spec_SlopeTo.l0])
     | succ k2 =>
      have H := HA.1; clear HA; simp only [spec_SlopeTo.l0] at H
      by_cases c10 : x7_2 ≤ 90
      ·rw [yb c10] at H; have c10b0 : decide (x7_2 ≤ 90) = true := zc c10; clear c10; have H' := za H; clear H
       go_wp2
       go_loopg [6, 8] k2 (fun kq v6 v8 w' => ∃ (x6_3 : Int) (x8_3 : Int), v6 = .int .i64 x6_3 ∧ v8 = .int .i64 x8_3 ∧ Aside0 (spec_SlopeTo.l1 kq a0 a1 x6_3 x7_2 x8_3 = some (r1, r2)) ∧ Aside0 (kq ≤ k2) ∧ Aside0 (Below w.heap.size w w'))
       case atStart => exact ⟨(x6_2), (1), (qK10), (qK10), H', ⟨zo _⟩, ⟨(qK0)⟩⟩
       case round =>
        clear H'; (try clear c1); (try clear p2); (try clear c5); (try clear c6); (try clear c7); (try clear c8); (try clear c8b0); (try clear c8b1); (try clear c9); (try clear c10); (try clear c10b0); (try clear p2); obtain ⟨x6_3, x8_3, rfl, rfl, HA, HK3, HB⟩ := hrel
        cases gk with
        | zero => exact absurd HA.1 (by simp [spec_SlopeTo.l1])
        | succ k3 =>
         have H := HA.1; clear HA; simp only [spec_SlopeTo.l1] at H
         by_cases c11 : x8_3 ≥ (-1)
         ·rw [yb c11] at H; have c11b0 : decide ((-1) ≤ x8_3) = true := zc c11; clear c11; replace H := bindA H; obtain ⟨t162, A12, H⟩ := H; (try dsimp only at H); replace H := bindA H; obtain ⟨t163, A13, H⟩ := H; (try dsimp only at H); replace H := bindA H; obtain ⟨t164, A14, H⟩ := H; (try dsimp only at H); replace H := bindA H; obtain ⟨t165, A15, H⟩ := H; (try dsimp only at H)
          by_cases c16 : (wrap64 ((wrap64 (a0 * t162)) + (wrap64 (a1 * t163)))) > (wrap64 ((wrap64 (a0 * t164)) + (wrap64 (a1 * t165))))
          ·rw [yb c16] at H; have c16b0 : decide ((wrap64 ((wrap64 (a0 * t164)) + (wrap64 (a1 * t165)))) < (wrap64 ((wrap64 (a0 * t162)) + (wrap64 (a1 * t163))))) = true := zc c16; clear c16; have H' := za H; clear H
           go_wp2_with (first | ((with_reducible refine zp (f := 77) rfl ?_); refine zV (some 35) rfl rfl Try.func77 (qK25) rfl #[.int .i64 x7_2] rfl (qK2) ?_; (with_reducible refine (spec_l2Cosine.calls x7_2 t162 _ A12.1).mono ?_); rintro e w17 ⟨rfl, hb⟩; refine ⟨_, rfl, ?_⟩; replace HB := za qK73; clear hb) | ((with_reducible refine zp (f := 78) rfl ?_); refine zV (some 41) rfl rfl Try.func78 (qK25) rfl #[.int .i64 (wrap64 (x8_3 * x7_2))] rfl (qK2) ?_; (with_reducible refine (spec_l2Sine.calls (wrap64 (x8_3 * x7_2)) t163 _ A13.1).mono ?_); rintro e w18 ⟨rfl, hb⟩; refine ⟨_, rfl, ?_⟩; replace HB := za qK73; clear hb) | ((with_reducible refine zp (f := 77) rfl ?_); refine zV (some 46) rfl rfl Try.func77 (qK25) rfl #[.int .i64 x6_3] rfl (qK2) ?_; (with_reducible refine (spec_l2Cosine.calls x6_3 t164 _ A14.1).mono ?_); rintro e w19 ⟨rfl, hb⟩; refine ⟨_, rfl, ?_⟩; replace HB := za qK73; clear hb) | ((with_reducible refine zp (f := 78) rfl ?_); refine zV (some 50) rfl rfl Try.func78 (qK25) rfl #[.int .i64 x6_3] rfl (qK2) ?_; (with_reducible refine (spec_l2Sine.calls x6_3 t165 _ A15.1).mono ?_); rintro e w20 ⟨rfl, hb⟩; refine ⟨_, rfl, ?_⟩; replace HB := za qK73; clear hb))
           go_roundg k3
           case measure => have := HJ2.1; have := HK2.1; have := HK3.1; omega
           case rel => exact ⟨(wrap64 (x8_3 * x7_2)), (wrap64 (x8_3 - 2)), (qK10), (qK10), H', ⟨by have := HJ2.1; have := HK2.1; have := HK3.1; omega⟩, ⟨(qK0)⟩⟩
          ·rw [yc c16] at H; have c16b0 : decide ((wrap64 ((wrap64 (a0 * t164)) + (wrap64 (a1 * t165)))) < (wrap64 ((wrap64 (a0 * t162)) + (wrap64 (a1 * t163))))) = false := zv c16; clear c16; have H' := za H; clear H
           go_wp2_with (first | ((with_reducible refine zp (f := 77) rfl ?_); refine zV (some 35) rfl rfl Try.func77 (qK25) rfl #[.int .i64 x7_2] rfl (qK2) ?_; (with_reducible refine (spec_l2Cosine.calls x7_2 t162 _ A12.1).mono ?_); rintro e w21 ⟨rfl, hb⟩; refine ⟨_, rfl, ?_⟩; replace HB := za qK73; clear hb) | ((with_reducible refine zp (f := 78) rfl ?_); refine zV (some 41) rfl rfl Try.func78 (qK25) rfl #[.int .i64 (wrap64 (x8_3 * x7_2))] rfl (qK2) ?_; (with_reducible refine (spec_l2Sine.calls (wrap64 (x8_3 * x7_2)) t163 _ A13.1).mono ?_); rintro e w22 ⟨rfl, hb⟩; refine ⟨_, rfl, ?_⟩; replace HB := za qK73; clear hb) | ((with_reducible refine zp (f := 77) rfl ?_); refine zV (some 46) rfl rfl Try.func77 (qK25) rfl #[.int .i64 x6_3] rfl (qK2) ?_; (with_reducible refine (spec_l2Cosine.calls x6_3 t164 _ A14.1).mono ?_); rintro e w23 ⟨rfl, hb⟩; refine ⟨_, rfl, ?_⟩; replace HB := za qK73; clear hb) | ((with_reducible refine zp (f := 78) rfl ?_); refine zV (some 50) rfl rfl Try.func78 (qK25) rfl #[.int .i64 x6_3] rfl (qK2) ?_; (with_reducible refine (spec_l2Sine.calls x6_3 t165 _ A15.1).mono ?_); rintro e w24 ⟨rfl, hb⟩; refine ⟨_, rfl, ?_⟩; replace HB := za qK73; clear hb))
           go_roundg k3
           case measure => have := HJ2.1; have := HK2.1; have := HK3.1; omega
           case rel => exact ⟨(x6_3), (wrap64 (x8_3 - 2)), (qK10), (qK10), H', ⟨by have := HJ2.1; have := HK2.1; have := HK3.1; omega⟩, ⟨(qK0)⟩⟩
         ·rw [yc c11] at H; have c11b0 : decide ((-1) ≤ x8_3) = false := zv c11; clear c11; have H' := za H; clear H
          go_wp2
          go_roundg k3
          case measure => have := HJ2.1; have := HK2.1; have := HK3.1; omega
          case rel => exact ⟨(x6_3), (wrap64 (x7_2 + 1)), (qK10), (qK10), H', ⟨by have := HJ2.1; have := HK2.1; have := HK3.1; omega⟩, ⟨(qK0)⟩⟩
      ·rw [yc c10] at H; have c10b0 : decide (x7_2 ≤ 90) = false := zv c10; clear c10; simp only [yd, ye] at H; obtain ⟨rfl, rfl⟩ := H
       go_wp2
       go_ret2
       exact ⟨(qK11), (qK0)⟩

end Go.Proofs.Ytkocflfadlempaa.MK
