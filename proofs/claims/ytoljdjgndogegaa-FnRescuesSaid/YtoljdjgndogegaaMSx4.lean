-- tight2 (a walk)
import Derived.Test.YtoljdjgndogegaaMSx0
namespace Go.Proofs.Ytoljdjgndogegaa.MS
open Go.RowKit Go.Proofs.YtoljdjgndogegaaW.PrintWords Go.Proofs.YtoljdjgndogegaaW.PrintLast
set_option maxHeartbeats 8000000
set_option maxRecDepth 100000
theorem qS4_c0 {p : Prop} (h : p := by
  simp only [Act.put, yf, yg, yh, i64_w, i32_w]
  rfl) : p := h
theorem qS4_c1 {p : Prop} (h : p := by
  intro w'
  go_simp
  with_reducible rfl) : p := h
theorem qS4_c2 {p : Prop} (h : p := by
  rintro w' ⟨s0, s1, s2, s3, s4⟩
  go_simp
  with_reducible rfl) : p := h
attribute [local go_sem] max2_int min2_int max_two min_two
set_option linter.unusedVariables false
set_option linter.unusedSimpArgs false

def spec_l1In.f (a0 : Int) (a1 : Int) (a2 : Int) : Option (Bool) := if a0 ≥ a1 then (some (decide (a0 ≤ a2))) else (some false)
theorem spec_l1In.calls (a0 : Int) (a1 : Int) (a2 : Int) (r : Bool) (w : World) (h : spec_l1In.f a0 a1 a2 = some r) :
  Calls Try.prog 69 #[.int .i64 a0, .int .i64 a1, .int .i64 a2] w fun e w' => e = .returned (.bool r) ∧ Drawn0 w w' := by
 have H : (if a0 ≥ a1 then (some (decide (a0 ≤ a2))) else (some false)) = some r := h; clear h
 by_cases c4 : a0 ≥ a1
 ·rw [yb c4] at H; have c4b0 : decide (a1 ≤ a0) = true := zc c4; clear c4; obtain rfl := zm H
  go_enter Try.func69, Try.ntmps69
  go_wp2
  go_ret
  exact ⟨(qS16), (qS30)⟩
 ·rw [yc c4] at H; have c4b0 : decide (a1 ≤ a0) = false := zv c4; clear c4; obtain rfl := zm H
  go_enter Try.func69, Try.ntmps69
  go_wp2
  go_ret
  exact ⟨(qS16), (qS30)⟩

def spec_l4Plus.f (a0_0 : Int) (a0_1 : Int) (a0_2 : Int) (a1_0 : Int) (a1_1 : Int) (a1_2 : Int) (a2 : Int) : Option (Int × Int × Int) := some (wrap64 (a0_0 + (wrap64 (a2 * a1_0))), wrap64 (a0_1 + (wrap64 (a2 * a1_1))), wrap64 (a0_2 + (wrap64 (a2 * a1_2))))
theorem spec_l4Plus.calls (a0_0 : Int) (a0_1 : Int) (a0_2 : Int) (a1_0 : Int) (a1_1 : Int) (a1_2 : Int) (a2 : Int) (r1 : Int) (r2 : Int) (r3 : Int) (w : World) (h : spec_l4Plus.f a0_0 a0_1 a0_2 a1_0 a1_1 a1_2 a2 = some (r1, r2, r3)) :
  Calls Try.prog 83 #[.agg #[.int .i64 a0_0, .int .i64 a0_1, .int .i64 a0_2], .agg #[.int .i64 a1_0, .int .i64 a1_1, .int .i64 a1_2], .int .i64 a2] w fun e w' => e = .returned (.agg #[.int .i64 r1, .int .i64 r2, .int .i64 r3]) ∧ Below w.heap.size w w' := by
 have hu86 := Try.underlying86; have HB := za (zs w.heap.size w); have H : (some (wrap64 (a0_0 + (wrap64 (a2 * a1_0))), wrap64 (a0_1 + (wrap64 (a2 * a1_1))), wrap64 (a0_2 + (wrap64 (a2 * a1_2))))) = some (r1, r2, r3) := h; clear h; simp only [yd, ye] at H; obtain ⟨rfl, rfl, rfl⟩ := H
 go_enter Try.func83, Try.ntmps83
 go_wp2_with (first | ((with_reducible refine zq (N := 3) rfl ?_); refine zB ?hg (N := 3) ?hd (cs := #[.int .i64 a0_0, .int .i64 a0_1, .int .i64 a0_2]) (t := 86) ?hr ?_; (case hd | hg => rfl); (case hr => exact (qS26)); intro gb187 hg w4 hbox hb; have BK187 := za hbox; have GW187 := za (by exact (by rw [hg]; exact (zX (qS0)) : w.heap.size ≤ gb187)); have GE187 := za (by exact (by rw [hg]; exact (zX (qS0)) : w.heap.size ≤ gb187)); replace HB := za qS64; clear hb hbox hg) | ((with_reducible refine zq (N := 4) rfl ?_); refine zB ?hg (N := 4) ?hd (cs := #[.int .i64 a1_0, .int .i64 a1_1, .int .i64 a1_2]) (t := 86) ?hr ?_; (case hd | hg => rfl); (case hr => exact (qS26)); intro gb188 hg w5 hbox hb; have BK188 := za hbox; have GW188 := za ((by rw [hg]; exact (zX (qS25 GE187.1)) : w.heap.size ≤ gb188)); have GE188 := za ((by rw [hg]; exact (zX (qS25 GE187.1)) : w.heap.size ≤ gb188)); replace HB := za (zW (qS25 GE187.1) hb); have NB187_188 := za ((by rw [hg]; exact Nat.ne_of_lt (blk_lt (g := gb187) (o := .cells #[.int .i64 a0_0, .int .i64 a0_1, .int .i64 a0_2] 86 (0, 0)) (qS10 BK187.1)) : gb187 ≠ gb188)); have NB188_187 := za ((by rw [hg]; exact Nat.ne_of_gt (blk_lt (g := gb187) (o := .cells #[.int .i64 a0_0, .int .i64 a0_1, .int .i64 a0_2] 86 (0, 0)) (qS10 BK187.1)) : gb188 ≠ gb187)); replace BK187 := za (zl (g := gb187) (o := .cells #[.int .i64 a0_0, .int .i64 a0_1, .int .i64 a0_2] 86 (0, 0)) (qS10 BK187.1) hb); clear hb hbox hg) | ((with_reducible refine zq (N := 6) rfl ?_); refine zB ?hg (N := 6) ?hd (cs := #[.int .i64 0, .int .i64 0, .int .i64 0]) (t := 86) ?hr ?_; (case hd | hg => rfl); (case hr => exact (qS26)); intro gb189 hg w6 hbox hb; have BK189 := za hbox; have GW189 := za ((by rw [hg]; exact (zX (qS33 GE187.1 GE188.1)) : w.heap.size ≤ gb189)); have GE189 := za ((by rw [hg]; exact (zX (qS33 GE187.1 GE188.1)) : w.heap.size ≤ gb189)); replace HB := za (zW (qS33 GE187.1 GE188.1) hb); have NB187_189 := za ((by rw [hg]; exact Nat.ne_of_lt (blk_lt (g := gb187) (o := .cells #[.int .i64 a0_0, .int .i64 a0_1, .int .i64 a0_2] 86 (0, 0)) (qS10 BK187.1)) : gb187 ≠ gb189)); have NB189_187 := za ((by rw [hg]; exact Nat.ne_of_gt (blk_lt (g := gb187) (o := .cells #[.int .i64 a0_0, .int .i64 a0_1, .int .i64 a0_2] 86 (0, 0)) (qS10 BK187.1)) : gb189 ≠ gb187)); replace BK187 := za (zl (g := gb187) (o := .cells #[.int .i64 a0_0, .int .i64 a0_1, .int .i64 a0_2] 86 (0, 0)) (qS10 BK187.1) hb); have NB188_189 := za ((by rw [hg]; exact Nat.ne_of_lt (blk_lt (g := gb188) (o := .cells #[.int .i64 a1_0, .int .i64 a1_1, .int .i64 a1_2] 86 (0, 0)) (qS10 BK188.1)) : gb188 ≠ gb189)); have NB189_188 := za ((by rw [hg]; exact Nat.ne_of_gt (blk_lt (g := gb188) (o := .cells #[.int .i64 a1_0, .int .i64 a1_1, .int .i64 a1_2] 86 (0, 0)) (qS10 BK188.1)) : gb189 ≠ gb188)); replace BK188 := za (zl (g := gb188) (o := .cells #[.int .i64 a1_0, .int .i64 a1_1, .int .i64 a1_2] 86 (0, 0)) (qS10 BK188.1) hb); clear hb hbox hg; have hnb7 := NB187_188.1; have hnc7 := NB188_187.1; have hnb8 := NB187_189.1; have hnc8 := NB189_187.1; have hcz9_0 : w6.cell? ⟨gb187, 0, none⟩ = some (.int .i64 a0_0) := (zf BK187.1 0).trans rfl; have hcz9_1 : w6.cell? ⟨gb187, 1, none⟩ = some (.int .i64 a0_1) := (zf BK187.1 1).trans rfl; have hcz9_2 : w6.cell? ⟨gb187, 2, none⟩ = some (.int .i64 a0_2) := (zf BK187.1 2).trans rfl; have hfz9_0 := ze BK187.1 0; have hfz9_1 := ze BK187.1 1; have hfz9_2 := ze BK187.1 2; have hnb10 := NB188_189.1; have hnc10 := NB189_188.1; have hcz11_0 : w6.cell? ⟨gb188, 0, none⟩ = some (.int .i64 a1_0) := (zf BK188.1 0).trans rfl; have hcz11_1 : w6.cell? ⟨gb188, 1, none⟩ = some (.int .i64 a1_1) := (zf BK188.1 1).trans rfl; have hcz11_2 : w6.cell? ⟨gb188, 2, none⟩ = some (.int .i64 a1_2) := (zf BK188.1 2).trans rfl; have hfz11_0 := ze BK188.1 0; have hfz11_1 := ze BK188.1 1; have hfz11_2 := ze BK188.1 2; have hcz12_0 : w6.cell? ⟨gb189, 0, none⟩ = some (.int .i64 0) := (zf BK189.1 0).trans rfl; have hcz12_1 : w6.cell? ⟨gb189, 1, none⟩ = some (.int .i64 0) := (zf BK189.1 1).trans rfl; have hcz12_2 : w6.cell? ⟨gb189, 2, none⟩ = some (.int .i64 0) := (zf BK189.1 2).trans rfl; have hfz12_0 := ze BK189.1 0; have hfz12_1 := ze BK189.1 1; have hfz12_2 := ze BK189.1 2))
 refine bodyPost_ret (results_cell_row rfl _ _ gb189 86 #[.int .i64 (wrap64 (a0_0 + (wrap64 (a2 * a1_0)))), .int .i64 (wrap64 (a0_1 + (wrap64 (a2 * a1_1)))), .int .i64 (wrap64 (a0_2 + (wrap64 (a2 * a1_2))))] (0, 0) _ rfl (by (with_reducible repeat (first | refine zh ?_ _ | refine zi ?_ | refine zg ?_ _)); refine zj (cs := #[.int .i64 (wrap64 (a0_0 + (wrap64 (a2 * a1_0)))), .int .i64 (wrap64 (a0_1 + (wrap64 (a2 * a1_1)))), .int .i64 0]) ?_ 2 _ rfl; (with_reducible repeat (first | refine zh ?_ _ | refine zi ?_ | refine zg ?_ _)); refine zj (cs := #[.int .i64 (wrap64 (a0_0 + (wrap64 (a2 * a1_0)))), .int .i64 0, .int .i64 0]) ?_ 1 _ rfl; (with_reducible repeat (first | refine zh ?_ _ | refine zi ?_ | refine zg ?_ _)); refine zj (cs := #[.int .i64 0, .int .i64 0, .int .i64 0]) ?_ 0 _ rfl; (with_reducible repeat (first | refine zh ?_ _ | refine zi ?_ | refine zg ?_ _)); exact BK189.1) Try.underlying86 rfl (qS27)) rfl ?_
 exact ⟨(qS11), (by repeat (first | (with_reducible first | exact HB.1 | apply zZ | apply pw_below_drewN | apply below_drew1 | refine ya ?_ GE187.1 | refine ya ?_ GE188.1 | refine ya ?_ GE189.1) | exact HB.1))⟩

def spec_l2Div.f (a0 : Int) (a1 : Int) : Option (Int) := if a0 < 0 then (if (wrap64 (2 * a1)) = 0 then (none) else (some (wrap64 (-(wrap64 (Int.tdiv (wrap64 ((wrap64 ((-2) * a0)) + a1)) (wrap64 (2 * a1)))))))) else (if (wrap64 (2 * a1)) = 0 then (none) else (some (wrap64 (Int.tdiv (wrap64 ((wrap64 (2 * a0)) + a1)) (wrap64 (2 * a1))))))
theorem spec_l2Div.calls (a0 : Int) (a1 : Int) (r : Int) (w : World) (h : spec_l2Div.f a0 a1 = some r) :
  Calls Try.prog 94 #[.int .i64 a0, .int .i64 a1] w fun e w' => e = .returned (.int .i64 r) ∧ Drawn0 w w' := by
 have H : (if a0 < 0 then (if (wrap64 (2 * a1)) = 0 then (none) else (some (wrap64 (-(wrap64 (Int.tdiv (wrap64 ((wrap64 ((-2) * a0)) + a1)) (wrap64 (2 * a1)))))))) else (if (wrap64 (2 * a1)) = 0 then (none) else (some (wrap64 (Int.tdiv (wrap64 ((wrap64 (2 * a0)) + a1)) (wrap64 (2 * a1))))))) = some r := h; clear h
 by_cases c3 : a0 < 0
 ·rw [yb c3] at H; have c3b0 : decide (a0 < 0) = true := zc c3; clear c3
  by_cases c4 : (wrap64 (2 * a1)) = 0
  ·rw [yb c4] at H
   exact absurd H (by simp)
  ·rw [yc c4] at H; have c4b0 : ((wrap64 (2 * a1)) == 0) = false := zx c4; have c4b1 : ((wrap64 (2 * a1)) != 0) = true := zU c4; obtain rfl := zm H
   go_enter Try.func94, Try.ntmps94
   go_wp2
   go_ret
   exact ⟨(qS16), (qS30)⟩
 ·rw [yc c3] at H; have c3b0 : decide (a0 < 0) = false := zv c3; clear c3
  by_cases c5 : (wrap64 (2 * a1)) = 0
  ·rw [yb c5] at H
   exact absurd H (by simp)
  ·rw [yc c5] at H; have c5b0 : ((wrap64 (2 * a1)) == 0) = false := zx c5; have c5b1 : ((wrap64 (2 * a1)) != 0) = true := zU c5; obtain rfl := zm H
   go_enter Try.func94, Try.ntmps94
   go_wp2
   go_ret
   exact ⟨(qS16), (qS30)⟩

def spec_l2Table.f  : Option (List Int) := some (([0, 17, 35, 52, 70, 87, 105, 122, 139, 156, 174, 191, 208, 225, 242, 259, 276, 292, 309, 326, 342, 358, 375, 391, 407, 423, 438, 454, 469, 485, 500, 515, 530, 545, 559, 574, 588, 602, 616, 629, 643, 656, 669, 682, 695, 707, 719, 731, 743, 755, 766, 777, 788, 799, 809, 819, 829, 839, 848, 857, 866, 875, 883, 891, 899, 906, 914, 921, 927, 934, 940, 946, 951, 956, 961, 966, 970, 974, 978, 982, 985, 988, 990, 993, 995, 996, 998, 999, 999, 1000, 1000] : List Int))
theorem spec_l2Table.calls  (r : List Int) (w : World) (h : spec_l2Table.f  = some r) :
  Calls Try.prog 100 #[] w fun e w' => ∃ v0_ : Value, e = .returned (v0_) ∧ Kd.R (Kd.int .i64) 3 w' w.heap.size (fun _ => True) v0_ r ∧ Below w.heap.size w w' := by
 have HB := za (zs w.heap.size w); have H : (some (([0, 17, 35, 52, 70, 87, 105, 122, 139, 156, 174, 191, 208, 225, 242, 259, 276, 292, 309, 326, 342, 358, 375, 391, 407, 423, 438, 454, 469, 485, 500, 515, 530, 545, 559, 574, 588, 602, 616, 629, 643, 656, 669, 682, 695, 707, 719, 731, 743, 755, 766, 777, 788, 799, 809, 819, 829, 839, 848, 857, 866, 875, 883, 891, 899, 906, 914, 921, 927, 934, 940, 946, 951, 956, 961, 966, 970, 974, 978, 982, 985, 988, 990, 993, 995, 996, 998, 999, 999, 1000, 1000] : List Int))) = some r := h; clear h; obtain ⟨y190, hy190⟩ : ∃ y_ : List Int, y_ = (([0, 17, 35, 52, 70, 87, 105, 122, 139, 156, 174, 191, 208, 225, 242, 259, 276, 292, 309, 326, 342, 358, 375, 391, 407, 423, 438, 454, 469, 485, 500, 515, 530, 545, 559, 574, 588, 602, 616, 629, 643, 656, 669, 682, 695, 707, 719, 731, 743, 755, 766, 777, 788, 799, 809, 819, 829, 839, 848, 857, 866, 875, 883, 891, 899, 906, 914, 921, 927, 934, 940, 946, 951, 956, 961, 966, 970, 974, 978, 982, 985, 988, 990, 993, 995, 996, 998, 999, 999, 1000, 1000] : List Int)) := ⟨_, rfl⟩; replace H : (some y190) = some r := (qS4 hy190); have Ny190 := za hy190; clear hy190; obtain rfl := zm H
 go_enter Try.func100, Try.ntmps100
 go_wp2_with (first | ((with_reducible refine zq (N := 1) rfl ?_); refine zQ (Kd.int .i64) _ 3 ?hg (N := 1) ?hd (xs := ([0, 17, 35, 52, 70, 87, 105, 122, 139, 156, 174, 191, 208, 225, 242, 259, 276, 292, 309, 326, 342, 358, 375, 391, 407, 423, 438, 454, 469, 485, 500, 515, 530, 545, 559, 574, 588, 602, 616, 629, 643, 656, 669, 682, 695, 707, 719, 731, 743, 755, 766, 777, 788, 799, 809, 819, 829, 839, 848, 857, 866, 875, 883, 891, 899, 906, 914, 921, 927, 934, 940, 946, 951, 956, 961, 966, 970, 974, 978, 982, 985, 988, 990, 993, 995, 996, 998, 999, 999, 1000, 1000] : List Int)) (inner := [.int .i64 0, .int .i64 17, .int .i64 35, .int .i64 52, .int .i64 70, .int .i64 87, .int .i64 105, .int .i64 122, .int .i64 139, .int .i64 156, .int .i64 174, .int .i64 191, .int .i64 208, .int .i64 225, .int .i64 242, .int .i64 259, .int .i64 276, .int .i64 292, .int .i64 309, .int .i64 326, .int .i64 342, .int .i64 358, .int .i64 375, .int .i64 391, .int .i64 407, .int .i64 423, .int .i64 438, .int .i64 454, .int .i64 469, .int .i64 485, .int .i64 500, .int .i64 515, .int .i64 530, .int .i64 545, .int .i64 559, .int .i64 574, .int .i64 588, .int .i64 602, .int .i64 616, .int .i64 629, .int .i64 643, .int .i64 656, .int .i64 669, .int .i64 682, .int .i64 695, .int .i64 707, .int .i64 719, .int .i64 731, .int .i64 743, .int .i64 755, .int .i64 766, .int .i64 777, .int .i64 788, .int .i64 799, .int .i64 809, .int .i64 819, .int .i64 829, .int .i64 839, .int .i64 848, .int .i64 857, .int .i64 866, .int .i64 875, .int .i64 883, .int .i64 891, .int .i64 899, .int .i64 906, .int .i64 914, .int .i64 921, .int .i64 927, .int .i64 934, .int .i64 940, .int .i64 946, .int .i64 951, .int .i64 956, .int .i64 961, .int .i64 966, .int .i64 970, .int .i64 974, .int .i64 978, .int .i64 982, .int .i64 985, .int .i64 988, .int .i64 990, .int .i64 993, .int .i64 995, .int .i64 996, .int .i64 998, .int .i64 999, .int .i64 999, .int .i64 1000, .int .i64 1000]) (ok := fun _ => True) (okp := fun _ => True) ?hr ?hp (fun _ hk => hk) trivial (zs _ _) (zo _) (by simp) ?_; (case hd | hg => rfl); (case hr => exact (qS26)); (case hp => exact (by exact (zt (show Kd.M (Kd.int .i64) _ _ _ 0 [.int .i64 0] from rfl) (zt (show Kd.M (Kd.int .i64) _ _ _ 17 [.int .i64 17] from rfl) (zt (show Kd.M (Kd.int .i64) _ _ _ 35 [.int .i64 35] from rfl) (zt (show Kd.M (Kd.int .i64) _ _ _ 52 [.int .i64 52] from rfl) (zt (show Kd.M (Kd.int .i64) _ _ _ 70 [.int .i64 70] from rfl) (zt (show Kd.M (Kd.int .i64) _ _ _ 87 [.int .i64 87] from rfl) (zt (show Kd.M (Kd.int .i64) _ _ _ 105 [.int .i64 105] from rfl) (zt (show Kd.M (Kd.int .i64) _ _ _ 122 [.int .i64 122] from rfl) (zt (show Kd.M (Kd.int .i64) _ _ _ 139 [.int .i64 139] from rfl) (zt (show Kd.M (Kd.int .i64) _ _ _ 156 [.int .i64 156] from rfl) (zt (show Kd.M (Kd.int .i64) _ _ _ 174 [.int .i64 174] from rfl) (zt (show Kd.M (Kd.int .i64) _ _ _ 191 [.int .i64 191] from rfl) (zt (show Kd.M (Kd.int .i64) _ _ _ 208 [.int .i64 208] from rfl) (zt (show Kd.M (Kd.int .i64) _ _ _ 225 [.int .i64 225] from rfl) (zt (show Kd.M (Kd.int .i64) _ _ _ 242 [.int .i64 242] from rfl) (zt (show Kd.M (Kd.int .i64) _ _ _ 259 [.int .i64 259] from rfl) (zt (show Kd.M (Kd.int .i64) _ _ _ 276 [.int .i64 276] from rfl) (zt (show Kd.M (Kd.int .i64) _ _ _ 292 [.int .i64 292] from rfl) (zt (show Kd.M (Kd.int .i64) _ _ _ 309 [.int .i64 309] from rfl) (zt (show Kd.M (Kd.int .i64) _ _ _ 326 [.int .i64 326] from rfl) (zt (show Kd.M (Kd.int .i64) _ _ _ 342 [.int .i64 342] from rfl) (zt (show Kd.M (Kd.int .i64) _ _ _ 358 [.int .i64 358] from rfl) (zt (show Kd.M (Kd.int .i64) _ _ _ 375 [.int .i64 375] from rfl) (zt (show Kd.M (Kd.int .i64) _ _ _ 391 [.int .i64 391] from rfl) (zt (show Kd.M (Kd.int .i64) _ _ _ 407 [.int .i64 407] from rfl) (zt (show Kd.M (Kd.int .i64) _ _ _ 423 [.int .i64 423] from rfl) (zt (show Kd.M (Kd.int .i64) _ _ _ 438 [.int .i64 438] from rfl) (zt (show Kd.M (Kd.int .i64) _ _ _ 454 [.int .i64 454] from rfl) (zt (show Kd.M (Kd.int .i64) _ _ _ 469 [.int .i64 469] from rfl) (zt (show Kd.M (Kd.int .i64) _ _ _ 485 [.int .i64 485] from rfl) (zt (show Kd.M (Kd.int .i64) _ _ _ 500 [.int .i64 500] from rfl) (zt (show Kd.M (Kd.int .i64) _ _ _ 515 [.int .i64 515] from rfl) (zt (show Kd.M (Kd.int .i64) _ _ _ 530 [.int .i64 530] from rfl) (zt (show Kd.M (Kd.int .i64) _ _ _ 545 [.int .i64 545] from rfl) (zt (show Kd.M (Kd.int .i64) _ _ _ 559 [.int .i64 559] from rfl) (zt (show Kd.M (Kd.int .i64) _ _ _ 574 [.int .i64 574] from rfl) (zt (show Kd.M (Kd.int .i64) _ _ _ 588 [.int .i64 588] from rfl) (zt (show Kd.M (Kd.int .i64) _ _ _ 602 [.int .i64 602] from rfl) (zt (show Kd.M (Kd.int .i64) _ _ _ 616 [.int .i64 616] from rfl) (zt (show Kd.M (Kd.int .i64) _ _ _ 629 [.int .i64 629] from rfl) (zt (show Kd.M (Kd.int .i64) _ _ _ 643 [.int .i64 643] from rfl) (zt (show Kd.M (Kd.int .i64) _ _ _ 656 [.int .i64 656] from rfl) (zt (show Kd.M (Kd.int .i64) _ _ _ 669 [.int .i64 669] from rfl) (zt (show Kd.M (Kd.int .i64) _ _ _ 682 [.int .i64 682] from rfl) (zt (show Kd.M (Kd.int .i64) _ _ _ 695 [.int .i64 695] from rfl) (zt (show Kd.M (Kd.int .i64) _ _ _ 707 [.int .i64 707] from rfl) (zt (show Kd.M (Kd.int .i64) _ _ _ 719 [.int .i64 719] from rfl) (zt (show Kd.M (Kd.int .i64) _ _ _ 731 [.int .i64 731] from rfl) (zt (show Kd.M (Kd.int .i64) _ _ _ 743 [.int .i64 743] from rfl) (zt (show Kd.M (Kd.int .i64) _ _ _ 755 [.int .i64 755] from rfl) (zt (show Kd.M (Kd.int .i64) _ _ _ 766 [.int .i64 766] from rfl) (zt (show Kd.M (Kd.int .i64) _ _ _ 777 [.int .i64 777] from rfl) (zt (show Kd.M (Kd.int .i64) _ _ _ 788 [.int .i64 788] from rfl) (zt (show Kd.M (Kd.int .i64) _ _ _ 799 [.int .i64 799] from rfl) (zt (show Kd.M (Kd.int .i64) _ _ _ 809 [.int .i64 809] from rfl) (zt (show Kd.M (Kd.int .i64) _ _ _ 819 [.int .i64 819] from rfl) (zt (show Kd.M (Kd.int .i64) _ _ _ 829 [.int .i64 829] from rfl) (zt (show Kd.M (Kd.int .i64) _ _ _ 839 [.int .i64 839] from rfl) (zt (show Kd.M (Kd.int .i64) _ _ _ 848 [.int .i64 848] from rfl) (zt (show Kd.M (Kd.int .i64) _ _ _ 857 [.int .i64 857] from rfl) (zt (show Kd.M (Kd.int .i64) _ _ _ 866 [.int .i64 866] from rfl) (zt (show Kd.M (Kd.int .i64) _ _ _ 875 [.int .i64 875] from rfl) (zt (show Kd.M (Kd.int .i64) _ _ _ 883 [.int .i64 883] from rfl) (zt (show Kd.M (Kd.int .i64) _ _ _ 891 [.int .i64 891] from rfl) (zt (show Kd.M (Kd.int .i64) _ _ _ 899 [.int .i64 899] from rfl) (zt (show Kd.M (Kd.int .i64) _ _ _ 906 [.int .i64 906] from rfl) (zt (show Kd.M (Kd.int .i64) _ _ _ 914 [.int .i64 914] from rfl) (zt (show Kd.M (Kd.int .i64) _ _ _ 921 [.int .i64 921] from rfl) (zt (show Kd.M (Kd.int .i64) _ _ _ 927 [.int .i64 927] from rfl) (zt (show Kd.M (Kd.int .i64) _ _ _ 934 [.int .i64 934] from rfl) (zt (show Kd.M (Kd.int .i64) _ _ _ 940 [.int .i64 940] from rfl) (zt (show Kd.M (Kd.int .i64) _ _ _ 946 [.int .i64 946] from rfl) (zt (show Kd.M (Kd.int .i64) _ _ _ 951 [.int .i64 951] from rfl) (zt (show Kd.M (Kd.int .i64) _ _ _ 956 [.int .i64 956] from rfl) (zt (show Kd.M (Kd.int .i64) _ _ _ 961 [.int .i64 961] from rfl) (zt (show Kd.M (Kd.int .i64) _ _ _ 966 [.int .i64 966] from rfl) (zt (show Kd.M (Kd.int .i64) _ _ _ 970 [.int .i64 970] from rfl) (zt (show Kd.M (Kd.int .i64) _ _ _ 974 [.int .i64 974] from rfl) (zt (show Kd.M (Kd.int .i64) _ _ _ 978 [.int .i64 978] from rfl) (zt (show Kd.M (Kd.int .i64) _ _ _ 982 [.int .i64 982] from rfl) (zt (show Kd.M (Kd.int .i64) _ _ _ 985 [.int .i64 985] from rfl) (zt (show Kd.M (Kd.int .i64) _ _ _ 988 [.int .i64 988] from rfl) (zt (show Kd.M (Kd.int .i64) _ _ _ 990 [.int .i64 990] from rfl) (zt (show Kd.M (Kd.int .i64) _ _ _ 993 [.int .i64 993] from rfl) (zt (show Kd.M (Kd.int .i64) _ _ _ 995 [.int .i64 995] from rfl) (zt (show Kd.M (Kd.int .i64) _ _ _ 996 [.int .i64 996] from rfl) (zt (show Kd.M (Kd.int .i64) _ _ _ 998 [.int .i64 998] from rfl) (zt (show Kd.M (Kd.int .i64) _ _ _ 999 [.int .i64 999] from rfl) (zt (show Kd.M (Kd.int .i64) _ _ _ 999 [.int .i64 999] from rfl) (zt (show Kd.M (Kd.int .i64) _ _ _ 1000 [.int .i64 1000] from rfl) (zt (show Kd.M (Kd.int .i64) _ _ _ 1000 [.int .i64 1000] from rfl) (zu _ _)))))))))))))))))))))))))))))))))))))))))))))))))))))))))))))))))))))))))))))))))))))))))))))); intro v191 w1 ho2 hb hg_ hnew_; clear hg_ hnew_; (first | rw [← Ny190.1] at ho2 | (simp only [Int.reduceToNat] at ho2; rw [← Ny190.1] at ho2)); have HO192 := za (qS77 ho2); replace HB := za qS64; clear hb ho2))
 go_ret
 exact ⟨_, (qS11), (qS1 HO192.1), (qS0)⟩

def spec_l2Sine.f (a0 : Int) : Option (Int) := if (Int.tmod (wrap64 ((Int.tmod a0 360) + 360)) 360) ≤ 90 then ((spec_l2Table.f).bind fun t193 => (if 0 ≤ (Int.tmod (wrap64 ((Int.tmod a0 360) + 360)) 360) then (if (Int.tmod (wrap64 ((Int.tmod a0 360) + 360)) 360) < (t193.length : Int) then (some (rd t193 (Int.tmod (wrap64 ((Int.tmod a0 360) + 360)) 360))) else (none)) else (none))) else (if (Int.tmod (wrap64 ((Int.tmod a0 360) + 360)) 360) ≤ 180 then ((spec_l2Table.f).bind fun t197 => (if 0 ≤ (wrap64 (180 - (Int.tmod (wrap64 ((Int.tmod a0 360) + 360)) 360))) then (if (wrap64 (180 - (Int.tmod (wrap64 ((Int.tmod a0 360) + 360)) 360))) < (t197.length : Int) then (some (rd t197 (wrap64 (180 - (Int.tmod (wrap64 ((Int.tmod a0 360) + 360)) 360))))) else (none)) else (none))) else (if (Int.tmod (wrap64 ((Int.tmod a0 360) + 360)) 360) ≤ 270 then ((spec_l2Table.f).bind fun t201 => (if 0 ≤ (wrap64 ((Int.tmod (wrap64 ((Int.tmod a0 360) + 360)) 360) - 180)) then (if (wrap64 ((Int.tmod (wrap64 ((Int.tmod a0 360) + 360)) 360) - 180)) < (t201.length : Int) then (some (wrap64 (-(rd t201 (wrap64 ((Int.tmod (wrap64 ((Int.tmod a0 360) + 360)) 360) - 180)))))) else (none)) else (none))) else ((spec_l2Table.f).bind fun t205 => (if 0 ≤ (wrap64 (360 - (Int.tmod (wrap64 ((Int.tmod a0 360) + 360)) 360))) then (if (wrap64 (360 - (Int.tmod (wrap64 ((Int.tmod a0 360) + 360)) 360))) < (t205.length : Int) then (some (wrap64 (-(rd t205 (wrap64 (360 - (Int.tmod (wrap64 ((Int.tmod a0 360) + 360)) 360))))))) else (none)) else (none)))))
theorem spec_l2Sine.calls (a0 : Int) (r : Int) (w : World) (h : spec_l2Sine.f a0 = some r) :
  Calls Try.prog 96 #[.int .i64 a0] w fun e w' => e = .returned (.int .i64 r) ∧ Below w.heap.size w w' := by
 have HB := za (zs w.heap.size w); have H : (if (Int.tmod (wrap64 ((Int.tmod a0 360) + 360)) 360) ≤ 90 then ((spec_l2Table.f).bind fun t193 => (if 0 ≤ (Int.tmod (wrap64 ((Int.tmod a0 360) + 360)) 360) then (if (Int.tmod (wrap64 ((Int.tmod a0 360) + 360)) 360) < (t193.length : Int) then (some (rd t193 (Int.tmod (wrap64 ((Int.tmod a0 360) + 360)) 360))) else (none)) else (none))) else (if (Int.tmod (wrap64 ((Int.tmod a0 360) + 360)) 360) ≤ 180 then ((spec_l2Table.f).bind fun t197 => (if 0 ≤ (wrap64 (180 - (Int.tmod (wrap64 ((Int.tmod a0 360) + 360)) 360))) then (if (wrap64 (180 - (Int.tmod (wrap64 ((Int.tmod a0 360) + 360)) 360))) < (t197.length : Int) then (some (rd t197 (wrap64 (180 - (Int.tmod (wrap64 ((Int.tmod a0 360) + 360)) 360))))) else (none)) else (none))) else (if (Int.tmod (wrap64 ((Int.tmod a0 360) + 360)) 360) ≤ 270 then ((spec_l2Table.f).bind fun t201 => (if 0 ≤ (wrap64 ((Int.tmod (wrap64 ((Int.tmod a0 360) + 360)) 360) - 180)) then (if (wrap64 ((Int.tmod (wrap64 ((Int.tmod a0 360) + 360)) 360) - 180)) < (t201.length : Int) then (some (wrap64 (-(rd t201 (wrap64 ((Int.tmod (wrap64 ((Int.tmod a0 360) + 360)) 360) - 180)))))) else (none)) else (none))) else ((spec_l2Table.f).bind fun t205 => (if 0 ≤ (wrap64 (360 - (Int.tmod (wrap64 ((Int.tmod a0 360) + 360)) 360))) then (if (wrap64 (360 - (Int.tmod (wrap64 ((Int.tmod a0 360) + 360)) 360))) < (t205.length : Int) then (some (wrap64 (-(rd t205 (wrap64 (360 - (Int.tmod (wrap64 ((Int.tmod a0 360) + 360)) 360))))))) else (none)) else (none)))))) = some r := h
 clear h
 by_cases c2 : (Int.tmod (wrap64 ((Int.tmod a0 360) + 360)) 360) ≤ 90
 ·rw [yb c2] at H; have c2b0 : decide ((Int.tmod (wrap64 ((Int.tmod a0 360) + 360)) 360) ≤ 90) = true := zc c2; clear c2; replace H := bindA H; obtain ⟨t193, A3, H⟩ := H; (try dsimp only at H); obtain ⟨ji4, hji4⟩ : ∃ j_ : Int, (Int.tmod (wrap64 ((Int.tmod a0 360) + 360)) 360) = j_ := ⟨_, rfl⟩
  replace H : (if 0 ≤ (ji4) then (if (ji4) < (t193.length : Int) then (some (rd t193 (ji4))) else (none)) else (none)) = some r := by first | (rw [hji4] at H; exact H) | (simp only [hji4] at H ⊢; exact H)
  (try rw [hji4] at c2b0)
  (try rw [hji4] at A3)
  by_cases c5 : 0 ≤ (ji4)
  ·rw [yb c5] at H; have c5b0 : decide (0 ≤ (ji4)) = true := zc c5; clear c5
   by_cases c6 : (ji4) < (t193.length : Int)
   ·rw [yb c6] at H; have c6b0 : decide ((ji4) < (t193.length : Int)) = true := zc c6; clear c6; obtain rfl := zm H
    go_enter Try.func96, Try.ntmps96
    go_wp2_with (first | ((with_reducible refine zp (f := 100) rfl ?_); refine zV (some 11) rfl rfl Try.func100 (qS27) rfl #[] rfl (qS2) ?_; (with_reducible refine (spec_l2Table.calls  t193 _ A3.1).mono ?_); rintro e w7 ⟨v194, rfl, ho0, hb⟩; refine ⟨_, rfl, ?_⟩; have HO195 := za (qS77 ho0); replace HB := za qS64; clear hb ho0; obtain ⟨Ao8, co8, eo8⟩ := zI HO195.1; subst eo8; have p196 : 0 ≤ ((ji4) : Int) := zb (qS8); have q196 : (ji4) < (t193.length : Int) := zb (qS8); obtain ⟨ad196, e196, hx196_0⟩ := zJ (zH HO195.1).2.2 (ji4) p196 q196; cases e196; replace p196 := zw p196; replace q196 := zw q196))
    go_ret
    exact ⟨(by first | rfl | (simp [errW_none, errW_some] <;> rfl) | (simp only [← hji4]; first | rfl | (simp [errW_none, errW_some] <;> rfl)) | (simp [*, errW_none, errW_some] <;> rfl)), (qS0)⟩
   ·rw [yc c6] at H
    exact absurd H (by simp)
  ·rw [yc c5] at H
   exact absurd H (by simp)
 ·rw [yc c2] at H; have c2b0 : decide ((Int.tmod (wrap64 ((Int.tmod a0 360) + 360)) 360) ≤ 90) = false := zv c2; clear c2
  by_cases c9 : (Int.tmod (wrap64 ((Int.tmod a0 360) + 360)) 360) ≤ 180
  ·rw [yb c9] at H; have c9b0 : decide ((Int.tmod (wrap64 ((Int.tmod a0 360) + 360)) 360) ≤ 180) = true := zc c9; clear c9; replace H := bindA H; obtain ⟨t197, A10, H⟩ := H; (try dsimp only at H); obtain ⟨ji11, hji11⟩ : ∃ j_ : Int, (wrap64 (180 - (Int.tmod (wrap64 ((Int.tmod a0 360) + 360)) 360))) = j_ := ⟨_, rfl⟩
   replace H : (if 0 ≤ (ji11) then (if (ji11) < (t197.length : Int) then (some (rd t197 (ji11))) else (none)) else (none)) = some r := by first | (rw [hji11] at H; exact H) | (simp only [hji11] at H ⊢; exact H)
   (try rw [hji11] at A10); have hji11w : (IntKind.i64.wrap (180 - (Int.tmod (wrap64 ((Int.tmod a0 360) + 360)) 360))) = ji11 := (i64_w _).trans hji11
   by_cases c12 : 0 ≤ (ji11)
   ·rw [yb c12] at H; have c12b0 : decide (0 ≤ (ji11)) = true := zc c12; clear c12
    by_cases c13 : (ji11) < (t197.length : Int)
    ·rw [yb c13] at H; have c13b0 : decide ((ji11) < (t197.length : Int)) = true := zc c13; clear c13; obtain rfl := zm H
     go_enter Try.func96, Try.ntmps96
     go_wp2_with (first | ((with_reducible refine zp (f := 100) rfl ?_); refine zV (some 18) rfl rfl Try.func100 (qS27) rfl #[] rfl (qS2) ?_; (with_reducible refine (spec_l2Table.calls  t197 _ A10.1).mono ?_); rintro e w14 ⟨v198, rfl, ho0, hb⟩; refine ⟨_, rfl, ?_⟩; have HO199 := za (qS77 ho0); replace HB := za qS64; clear hb ho0; obtain ⟨Ao15, co15, eo15⟩ := zI HO199.1; subst eo15; have p200 : 0 ≤ ((ji11) : Int) := zb (qS8); have q200 : (ji11) < (t197.length : Int) := zb (qS8); obtain ⟨ad200, e200, hx200_0⟩ := zJ (zH HO199.1).2.2 (ji11) p200 q200; cases e200; replace p200 := zw p200; replace q200 := zw q200))
     go_ret
     exact ⟨(by first | rfl | (simp [errW_none, errW_some] <;> rfl) | (simp only [← hji11]; first | rfl | (simp [errW_none, errW_some] <;> rfl)) | (simp [*, errW_none, errW_some] <;> rfl)), (qS0)⟩
    ·rw [yc c13] at H
     exact absurd H (by simp)
   ·rw [yc c12] at H
    exact absurd H (by simp)
  ·rw [yc c9] at H; have c9b0 : decide ((Int.tmod (wrap64 ((Int.tmod a0 360) + 360)) 360) ≤ 180) = false := zv c9; clear c9
   by_cases c16 : (Int.tmod (wrap64 ((Int.tmod a0 360) + 360)) 360) ≤ 270
   ·rw [yb c16] at H; have c16b0 : decide ((Int.tmod (wrap64 ((Int.tmod a0 360) + 360)) 360) ≤ 270) = true := zc c16; clear c16; replace H := bindA H; obtain ⟨t201, A17, H⟩ := H; (try dsimp only at H); obtain ⟨ji18, hji18⟩ : ∃ j_ : Int, (wrap64 ((Int.tmod (wrap64 ((Int.tmod a0 360) + 360)) 360) - 180)) = j_ := ⟨_, rfl⟩
    replace H : (if 0 ≤ (ji18) then (if (ji18) < (t201.length : Int) then (some (wrap64 (-(rd t201 (ji18))))) else (none)) else (none)) = some r := by first | (rw [hji18] at H; exact H) | (simp only [hji18] at H ⊢; exact H)
    (try rw [hji18] at A17); have hji18w : (IntKind.i64.wrap ((Int.tmod (wrap64 ((Int.tmod a0 360) + 360)) 360) - 180)) = ji18 := (i64_w _).trans hji18
    by_cases c19 : 0 ≤ (ji18)
    ·rw [yb c19] at H; have c19b0 : decide (0 ≤ (ji18)) = true := zc c19; clear c19
     by_cases c20 : (ji18) < (t201.length : Int)
     ·rw [yb c20] at H; have c20b0 : decide ((ji18) < (t201.length : Int)) = true := zc c20; clear c20; obtain rfl := zm H
      go_enter Try.func96, Try.ntmps96
      go_wp2_with (first | ((with_reducible refine zp (f := 100) rfl ?_); refine zV (some 26) rfl rfl Try.func100 (qS27) rfl #[] rfl (qS2) ?_; (with_reducible refine (spec_l2Table.calls  t201 _ A17.1).mono ?_); rintro e w21 ⟨v202, rfl, ho0, hb⟩; refine ⟨_, rfl, ?_⟩; have HO203 := za (qS77 ho0); replace HB := za qS64; clear hb ho0; obtain ⟨Ao22, co22, eo22⟩ := zI HO203.1; subst eo22; have p204 : 0 ≤ ((ji18) : Int) := zb (qS8); have q204 : (ji18) < (t201.length : Int) := zb (qS8); obtain ⟨ad204, e204, hx204_0⟩ := zJ (zH HO203.1).2.2 (ji18) p204 q204; cases e204; replace p204 := zw p204; replace q204 := zw q204))
      go_ret
      exact ⟨(by first | rfl | (simp [errW_none, errW_some] <;> rfl) | (simp only [← hji18]; first | rfl | (simp [errW_none, errW_some] <;> rfl)) | (simp [*, errW_none, errW_some] <;> rfl)), (qS0)⟩
     ·rw [yc c20] at H
      exact absurd H (by simp)
    ·rw [yc c19] at H
     exact absurd H (by simp)
   ·rw [yc c16] at H; have c16b0 : decide ((Int.tmod (wrap64 ((Int.tmod a0 360) + 360)) 360) ≤ 270) = false := zv c16; clear c16; replace H := bindA H; obtain ⟨t205, A23, H⟩ := H; (try dsimp only at H); obtain ⟨ji24, hji24⟩ : ∃ j_ : Int, (wrap64 (360 - (Int.tmod (wrap64 ((Int.tmod a0 360) + 360)) 360))) = j_ := ⟨_, rfl⟩
    replace H : (if 0 ≤ (ji24) then (if (ji24) < (t205.length : Int) then (some (wrap64 (-(rd t205 (ji24))))) else (none)) else (none)) = some r := by first | (rw [hji24] at H; exact H) | (simp only [hji24] at H ⊢; exact H)
    (try rw [hji24] at A23); have hji24w : (IntKind.i64.wrap (360 - (Int.tmod (wrap64 ((Int.tmod a0 360) + 360)) 360))) = ji24 := (i64_w _).trans hji24
    by_cases c25 : 0 ≤ (ji24)
    ·rw [yb c25] at H; have c25b0 : decide (0 ≤ (ji24)) = true := zc c25; clear c25
     by_cases c26 : (ji24) < (t205.length : Int)
     ·rw [yb c26] at H; have c26b0 : decide ((ji24) < (t205.length : Int)) = true := zc c26; clear c26; obtain rfl := zm H
      go_enter Try.func96, Try.ntmps96
      go_wp2_with (first | ((with_reducible refine zp (f := 100) rfl ?_); refine zV (some 32) rfl rfl Try.func100 (qS27) rfl #[] rfl (qS2) ?_; (with_reducible refine (spec_l2Table.calls  t205 _ A23.1).mono ?_); rintro e w27 ⟨v206, rfl, ho0, hb⟩; refine ⟨_, rfl, ?_⟩; have HO207 := za (qS77 ho0); replace HB := za qS64; clear hb ho0; obtain ⟨Ao28, co28, eo28⟩ := zI HO207.1; subst eo28; have p208 : 0 ≤ ((ji24) : Int) := zb (qS8); have q208 : (ji24) < (t205.length : Int) := zb (qS8); obtain ⟨ad208, e208, hx208_0⟩ := zJ (zH HO207.1).2.2 (ji24) p208 q208; cases e208; replace p208 := zw p208; replace q208 := zw q208))
      go_ret
      exact ⟨(by first | rfl | (simp [errW_none, errW_some] <;> rfl) | (simp only [← hji24]; first | rfl | (simp [errW_none, errW_some] <;> rfl)) | (simp [*, errW_none, errW_some] <;> rfl)), (qS0)⟩
     ·rw [yc c26] at H
      exact absurd H (by simp)
    ·rw [yc c25] at H
     exact absurd H (by simp)

def spec_l2Cosine.f (a0 : Int) : Option (Int) := (spec_l2Sine.f (wrap64 (a0 + 90))).bind fun t209 => (some t209)
theorem spec_l2Cosine.calls (a0 : Int) (r : Int) (w : World) (h : spec_l2Cosine.f a0 = some r) :
  Calls Try.prog 95 #[.int .i64 a0] w fun e w' => e = .returned (.int .i64 r) ∧ Below w.heap.size w w' := by
 have HB := za (zs w.heap.size w); have H : ((spec_l2Sine.f (wrap64 (a0 + 90))).bind fun t209 => (some t209)) = some r := h; clear h; replace H := zC H; obtain ⟨t209, A20, H⟩ := H; replace H : (some t209) = some r := H; have A2 := za A20; clear A20; obtain rfl := zm H
 go_enter Try.func95, Try.ntmps95
 go_wp2_with (first | ((with_reducible refine zp (f := 96) rfl ?_); refine zV (some 5) rfl rfl Try.func96 (qS27) rfl #[.int .i64 (wrap64 (a0 + 90))] rfl (qS2) ?_; (with_reducible refine (spec_l2Sine.calls (wrap64 (a0 + 90)) t209 _ A2.1).mono ?_); rintro e w3 ⟨rfl, hb⟩; refine ⟨_, rfl, ?_⟩; replace HB := za qS64; clear hb))
 go_ret
 exact ⟨(qS11), (qS0)⟩

def spec_l4Shift.f (a0_0 : Int) (a0_1 : Int) (a0_2 : Int) (a0_3 : Int) (a0_4 : Int) : Option (Int × Int × Int) := (spec_l2Cosine.f a0_4).bind fun t212 => ((spec_l2Div.f (wrap64 (a0_2 * t212)) 1000).bind fun t213 => ((spec_l2Sine.f a0_3).bind fun t214 => ((spec_l2Div.f (wrap64 (t213 * t214)) 1000).bind fun t215 => ((spec_l2Cosine.f a0_3).bind fun t216 => ((spec_l2Div.f (wrap64 (t213 * t216)) 1000).bind fun t217 => ((spec_l2Sine.f a0_4).bind fun t218 => ((spec_l2Div.f (wrap64 (a0_2 * t218)) 1000).bind fun t219 => (some (t215, t217, t219)))))))))
def spec_l4Shift.T1 : Bool × List (List Nat × List Nat) := (true, [([], []), ([0], [0]), ([], []), ([2], [2]), ([3], [3]), ([1, 4], [1, 4]), ([5, 4], [5]), ([6, 6, 0, 1, 2, 3, 4, 5, 6], [6])])
def spec_l4Shift.B1 : List Nat := [0, 1, 0, 4, 12, 31, 63, 127]
theorem spec_l4Shift.tab1 : rtab .any (opsOf Try.f84 1) = spec_l4Shift.T1 := by kernel_rfl
theorem spec_l4Shift.bits1 : waitsOk spec_l4Shift.T1.2 spec_l4Shift.B1 = true := by kernel_rfl
def spec_l4Shift.T2 : Bool × List (List Nat × List Nat) := (true, [([], []), ([], []), ([1], [1]), ([2], [2]), ([0, 3], [0, 3]), ([4, 3], [4]), ([], []), ([], []), ([7], [7]), ([8, 5], [8]), ([6, 9], [6, 9]), ([10, 9], [10]), ([], []), ([12], [12]), ([], []), ([14], [14]), ([15, 11], [15]), ([13, 16], [13, 16]), ([17, 16], [17]), ([5, 11, 18], [5, 11, 18]), ([19, 18, 0, 1, 2, 3, 4, 5, 6, 7, 8, 9, 10, 11, 12, 13, 14, 15, 16, 17, 18, 19], [19])])
def spec_l4Shift.B2 : List Nat := [0, 0, 2, 6, 15, 31, 0, 0, 128, 447, 1023, 2047, 0, 4096, 0, 16384, 53247, 131071, 262143, 524287, 1048575]
theorem spec_l4Shift.tab2 : rtab .any (opsOf Try.f84 2) = spec_l4Shift.T2 := by kernel_rfl
theorem spec_l4Shift.bits2 : waitsOk spec_l4Shift.T2.2 spec_l4Shift.B2 = true := by kernel_rfl
theorem spec_l4Shift.calls (a0_0 : Int) (a0_1 : Int) (a0_2 : Int) (a0_3 : Int) (a0_4 : Int) (r1 : Int) (r2 : Int) (r3 : Int) (w : World) (h : spec_l4Shift.f a0_0 a0_1 a0_2 a0_3 a0_4 = some (r1, r2, r3)) :
  Calls Try.prog 84 #[.agg #[.int .i64 a0_0, .int .i64 a0_1, .int .i64 a0_2, .int .i64 a0_3, .int .i64 a0_4]] w fun e w' => e = .returned (.agg #[.int .i64 r1, .int .i64 r2, .int .i64 r3]) ∧ Below w.heap.size w w' := by
 have hu58 := Try.underlying58; have hu86 := Try.underlying86; have HB := za (zs w.heap.size w); have H : ((spec_l2Cosine.f a0_4).bind fun t212 => ((spec_l2Div.f (wrap64 (a0_2 * t212)) 1000).bind fun t213 => ((spec_l2Sine.f a0_3).bind fun t214 => ((spec_l2Div.f (wrap64 (t213 * t214)) 1000).bind fun t215 => ((spec_l2Cosine.f a0_3).bind fun t216 => ((spec_l2Div.f (wrap64 (t213 * t216)) 1000).bind fun t217 => ((spec_l2Sine.f a0_4).bind fun t218 => ((spec_l2Div.f (wrap64 (a0_2 * t218)) 1000).bind fun t219 => (some (t215, t217, t219)))))))))) = some (r1, r2, r3) := h; clear h; replace H := bindA H; obtain ⟨t212, A2, H⟩ := H; (try dsimp only at H); replace H := bindA H; obtain ⟨t213, A3, H⟩ := H; (try dsimp only at H); replace H := bindA H; obtain ⟨t214, A4, H⟩ := H; (try dsimp only at H); replace H := bindA H; obtain ⟨t215, A5, H⟩ := H; (try dsimp only at H); replace H := bindA H; obtain ⟨t216, A6, H⟩ := H; (try dsimp only at H); replace H := bindA H; obtain ⟨t217, A7, H⟩ := H; (try dsimp only at H); replace H := bindA H; obtain ⟨t218, A8, H⟩ := H; (try dsimp only at H); replace H := zC H; obtain ⟨t219, A90, H⟩ := H; replace H : (some (t215, t217, t219)) = some (r1, r2, r3) := H; have A9 := za A90; clear A90; simp only [yd, ye] at H; obtain ⟨rfl, rfl, rfl⟩ := H
 go_enter Try.func84, Try.ntmps84
 try go_wp2_with (first | ((with_reducible refine zq (N := 1) rfl ?_); refine zB ?hg (N := 1) ?hd (cs := #[.int .i64 a0_0, .int .i64 a0_1, .int .i64 a0_2, .int .i64 a0_3, .int .i64 a0_4]) (t := 58) ?hr ?_; (case hd | hg => rfl); (case hr => exact (qS26)); intro gb210 hg w10 hbox hb; have BK210 := za hbox; have GW210 := za (by exact (by rw [hg]; exact (zX (qS0)) : w.heap.size ≤ gb210)); have GE210 := za (by exact (by rw [hg]; exact (zX (qS0)) : w.heap.size ≤ gb210)); replace HB := za qS64; clear hb hbox hg) | ((with_reducible refine zq (N := 2) rfl ?_); refine zB ?hg (N := 2) ?hd (cs := #[.int .i64 0, .int .i64 0, .int .i64 0]) (t := 86) ?hr ?_; (case hd | hg => rfl); (case hr => exact (qS26)); intro gb211 hg w11 hbox hb; have BK211 := za hbox; have GW211 := za ((by rw [hg]; exact (zX (qS25 GE210.1)) : w.heap.size ≤ gb211)); have GE211 := za ((by rw [hg]; exact (zX (qS25 GE210.1)) : w.heap.size ≤ gb211)); replace HB := za (zW (qS25 GE210.1) hb); have NB210_211 := za ((by rw [hg]; exact Nat.ne_of_lt (blk_lt (g := gb210) (o := .cells #[.int .i64 a0_0, .int .i64 a0_1, .int .i64 a0_2, .int .i64 a0_3, .int .i64 a0_4] 58 (0, 0)) (qS10 BK210.1)) : gb210 ≠ gb211)); have NB211_210 := za ((by rw [hg]; exact Nat.ne_of_gt (blk_lt (g := gb210) (o := .cells #[.int .i64 a0_0, .int .i64 a0_1, .int .i64 a0_2, .int .i64 a0_3, .int .i64 a0_4] 58 (0, 0)) (qS10 BK210.1)) : gb211 ≠ gb210)); replace BK210 := za (zl (g := gb210) (o := .cells #[.int .i64 a0_0, .int .i64 a0_1, .int .i64 a0_2, .int .i64 a0_3, .int .i64 a0_4] 58 (0, 0)) (qS10 BK210.1) hb); clear hb hbox hg))
 replace BK210 := za (zi BK210.1); replace BK211 := za (zi BK211.1); replace HB := za (below_drew1 HB.1)
 refine start_ (n := 8) (S := fun w' => w'.cell? ⟨gb210, 0, none⟩ = some (.int .i64 a0_0) ∧ w'.cell? ⟨gb210, 1, none⟩ = some (.int .i64 a0_1) ∧ w'.cell? ⟨gb210, 2, none⟩ = some (.int .i64 a0_2) ∧ w'.cell? ⟨gb210, 3, none⟩ = some (.int .i64 a0_3) ∧ w'.cell? ⟨gb210, 4, none⟩ = some (.int .i64 a0_4)) (ds := []) #[false, false, false, false, false, false, false, false] (qS27) rfl rfl ⟨(zf BK210.1 0).trans rfl, (zf BK210.1 1).trans rfl, (zf BK210.1 2).trans rfl, (zf BK210.1 3).trans rfl, (zf BK210.1 4).trans rfl⟩ (fun hHeld => ?_); refine with_tabW spec_l4Shift.tab1 spec_l4Shift.bits1 (fun HT_ HW_ => ?_)
 generalize w11.drew = w12 at BK210 BK211 HB hHeld ⊢
 refine pure_ (i := 0) (N := some 4) (v := ?_) (a' := ?_) #[true, false, false, false, false, false, false, false] rfl rfl (qS24) (fun _ _ _ h => h) (zY ⟨by rfl, ?_⟩) ?_ ?_
 rotate_left; exact qS4_c1; rotate_left; exact qS4_c0
 refine pure_ (i := 2) (N := some 6) (v := ?_) (a' := ?_) #[true, false, true, false, false, false, false, false] rfl rfl (qS24) (fun _ _ _ h => h) (zY ⟨by rfl, ?_⟩) ?_ ?_
 rotate_left; exact qS4_c1; rotate_left; exact qS4_c0
 refine take_ (i := 1) (N := some 5) (v := ?_) (a' := ?_) #[true, true, true, false, false, false, false, false] rfl rfl (take_ofW HT_.1 HW_.1 (qS27)) (fun _ _ _ h => h) (zY ⟨by rfl, ?_⟩) hHeld ?_ ?_
 rotate_left; exact qS4_c2; rotate_left; exact qS4_c0
 refine take_ (i := 3) (N := some 7) (v := ?_) (a' := ?_) #[true, true, true, true, false, false, false, false] rfl rfl (take_ofW HT_.1 HW_.1 (qS27)) (fun _ _ _ h => h) (zY ⟨by rfl, ?_⟩) hHeld ?_ ?_
 rotate_left; exact qS4_c2; rotate_left; exact qS4_c0
 refine one_ (i := 4) (N := some 8) #[true, true, true, true, true, false, false, false] rfl rfl (qS70) (by decide) (fun K hK => ?_)
 refine goes_ Try.func95 (qS27) rfl #[.int .i64 a0_4] (by rfl) rfl rfl (qS2) ?_
 with_reducible refine (spec_l2Cosine.calls a0_4 t212 _ A2.1).mono ?_
 rintro e w13 ⟨rfl, hb⟩
 refine ⟨_, rfl, ?_⟩
 replace BK210 := za (zl (g := gb210) (o := .cells #[.int .i64 a0_0, .int .i64 a0_1, .int .i64 a0_2, .int .i64 a0_3, .int .i64 a0_4] 58 (0, 0)) (qS10 BK210.1) hb); replace BK211 := za (zl (g := gb211) (o := .cells #[.int .i64 0, .int .i64 0, .int .i64 0] 86 (0, 0)) (qS10 BK211.1) hb); replace HB := za (zW (qS33 GE210.1 GE211.1) hb)
 (try clear hb)
 (try clear hb2)
 (try clear hk)
 (try clear hi)
 refine hK.out _ _ ⟨(zf BK210.1 0).trans rfl, (zf BK210.1 1).trans rfl, (zf BK210.1 2).trans rfl, (zf BK210.1 3).trans rfl, (zf BK210.1 4).trans rfl⟩ (fun hHeld => ?_)
 clear hK K
 refine norm_ (a' := ?_) ?_ ?_
 rotate_left
 ·show Act.put _ (some 8) _ = _
  simp only [Act.put, yf, yg, yh, i64_w, i32_w]
  rfl
 refine pure_ (i := 5) (N := some 9) (v := ?_) (a' := ?_) #[true, true, true, true, true, true, false, false] rfl rfl (qS24) (fun _ _ _ h => h) (zY ⟨by rfl, ?_⟩) ?_ ?_
 rotate_left; exact qS4_c1; rotate_left; exact qS4_c0
 refine one_ (i := 6) (N := some 10) #[true, true, true, true, true, true, true, false] rfl rfl (qS70) (by decide) (fun K hK => ?_)
 refine goes_ Try.func94 (qS27) rfl #[.int .i64 (wrap64 (a0_2 * t212)), .int .i64 1000] (by rfl) rfl rfl (qS2) ?_
 with_reducible refine (spec_l2Div.calls (wrap64 (a0_2 * t212)) 1000 t213 _ A3.1).mono ?_
 rintro e w' ⟨rfl, ⟨nd, rfl⟩⟩
 refine ⟨_, rfl, ?_⟩
 refine hK.out _ _ ⟨(zf BK210.1 0).trans rfl, (zf BK210.1 1).trans rfl, (zf BK210.1 2).trans rfl, (zf BK210.1 3).trans rfl, (zf BK210.1 4).trans rfl⟩ (fun hHeld => ?_)
 clear hK K
 refine norm_ (a' := ?_) ?_ ?_
 rotate_left
 ·show Act.put _ (some 10) _ = _
  simp only [Act.put, yf, yg, yh, i64_w, i32_w]
  rfl
 refine pure_ (i := 7) (N := some 3) (v := ?_) (a' := ?_) #[true, true, true, true, true, true, true, true] rfl rfl (qS24) (fun _ _ _ h => h) (zY ⟨by rfl, ?_⟩) ?_ ?_
 rotate_left; exact qS4_c1; rotate_left; exact qS4_c0
 refine done_ (qS88) ?_
 try go_wp2
 (try (rw [drewN_self w13]; generalize hq_ : World.drewN w13 _ = w13; replace BK210 : Aside0 (w13.heap[gb210]? = some (.cells #[.int .i64 a0_0, .int .i64 a0_1, .int .i64 a0_2, .int .i64 a0_3, .int .i64 a0_4] 58 (0, 0))) := ⟨by rw [← hq_]; exact (qS10 BK210.1)⟩; replace BK211 : Aside0 (w13.heap[gb211]? = some (.cells #[.int .i64 0, .int .i64 0, .int .i64 0] 86 (0, 0))) := ⟨by rw [← hq_]; exact (qS10 BK211.1)⟩; replace HB : Aside0 (Below w.heap.size w w13) := ⟨by rw [← hq_]; exact (qS33 GE210.1 GE211.1)⟩; clear hq_)); replace BK210 := za (zi BK210.1); replace BK211 := za (zi BK211.1); replace HB := za (below_drew1 HB.1)
 refine start_ (n := 21) (S := fun w' => w'.cell? ⟨gb210, 0, none⟩ = some (.int .i64 a0_0) ∧ w'.cell? ⟨gb210, 1, none⟩ = some (.int .i64 a0_1) ∧ w'.cell? ⟨gb210, 2, none⟩ = some (.int .i64 a0_2) ∧ w'.cell? ⟨gb210, 3, none⟩ = some (.int .i64 a0_3) ∧ w'.cell? ⟨gb210, 4, none⟩ = some (.int .i64 a0_4)) (ds := []) #[false, false, false, false, false, false, false, false, false, false, false, false, false, false, false, false, false, false, false, false, false] (qS27) rfl rfl ⟨(zf BK210.1 0).trans rfl, (zf BK210.1 1).trans rfl, (zf BK210.1 2).trans rfl, (zf BK210.1 3).trans rfl, (zf BK210.1 4).trans rfl⟩ (fun hHeld => ?_); refine with_tabW spec_l4Shift.tab2 spec_l4Shift.bits2 (fun HT_ HW_ => ?_)
 generalize w13.drew = w14 at BK210 BK211 HB hHeld ⊢
 refine pure_ (i := 0) (N := some 11) (v := ?_) (a' := ?_) #[true, false, false, false, false, false, false, false, false, false, false, false, false, false, false, false, false, false, false, false, false] rfl rfl (qS24) (fun _ _ _ h => h) (zY ⟨by rfl, ?_⟩) ?_ ?_
 rotate_left; exact qS4_c1; rotate_left; exact qS4_c0
 refine pure_ (i := 1) (N := some 12) (v := ?_) (a' := ?_) #[true, true, false, false, false, false, false, false, false, false, false, false, false, false, false, false, false, false, false, false, false] rfl rfl (qS24) (fun _ _ _ h => h) (zY ⟨by rfl, ?_⟩) ?_ ?_
 rotate_left; exact qS4_c1; rotate_left; exact qS4_c0
 refine pure_ (i := 6) (N := some 17) (v := ?_) (a' := ?_) #[true, true, false, false, false, false, true, false, false, false, false, false, false, false, false, false, false, false, false, false, false] rfl rfl (qS24) (fun _ _ _ h => h) (zY ⟨by rfl, ?_⟩) ?_ ?_
 rotate_left; exact qS4_c1; rotate_left; exact qS4_c0
 refine pure_ (i := 7) (N := some 18) (v := ?_) (a' := ?_) #[true, true, false, false, false, false, true, true, false, false, false, false, false, false, false, false, false, false, false, false, false] rfl rfl (qS24) (fun _ _ _ h => h) (zY ⟨by rfl, ?_⟩) ?_ ?_
 rotate_left; exact qS4_c1; rotate_left; exact qS4_c0
 refine pure_ (i := 12) (N := some 23) (v := ?_) (a' := ?_) #[true, true, false, false, false, false, true, true, false, false, false, false, true, false, false, false, false, false, false, false, false] rfl rfl (qS24) (fun _ _ _ h => h) (zY ⟨by rfl, ?_⟩) ?_ ?_
 rotate_left; exact qS4_c1; rotate_left; exact qS4_c0
 refine pure_ (i := 14) (N := some 25) (v := ?_) (a' := ?_) #[true, true, false, false, false, false, true, true, false, false, false, false, true, false, true, false, false, false, false, false, false] rfl rfl (qS24) (fun _ _ _ h => h) (zY ⟨by rfl, ?_⟩) ?_ ?_
 rotate_left; exact qS4_c1; rotate_left; exact qS4_c0
 refine take_ (i := 2) (N := some 13) (v := ?_) (a' := ?_) #[true, true, true, false, false, false, true, true, false, false, false, false, true, false, true, false, false, false, false, false, false] rfl rfl (take_ofW HT_.1 HW_.1 (qS27)) (fun _ _ _ h => h) (zY ⟨by rfl, ?_⟩) hHeld ?_ ?_
 rotate_left; exact qS4_c2; rotate_left; exact qS4_c0
 refine take_ (i := 8) (N := some 19) (v := ?_) (a' := ?_) #[true, true, true, false, false, false, true, true, true, false, false, false, true, false, true, false, false, false, false, false, false] rfl rfl (take_ofW HT_.1 HW_.1 (qS27)) (fun _ _ _ h => h) (zY ⟨by rfl, ?_⟩) hHeld ?_ ?_
 rotate_left; exact qS4_c2; rotate_left; exact qS4_c0
 refine take_ (i := 13) (N := some 24) (v := ?_) (a' := ?_) #[true, true, true, false, false, false, true, true, true, false, false, false, true, true, true, false, false, false, false, false, false] rfl rfl (take_ofW HT_.1 HW_.1 (qS27)) (fun _ _ _ h => h) (zY ⟨by rfl, ?_⟩) hHeld ?_ ?_
 rotate_left; exact qS4_c2; rotate_left; exact qS4_c0
 refine take_ (i := 15) (N := some 26) (v := ?_) (a' := ?_) #[true, true, true, false, false, false, true, true, true, false, false, false, true, true, true, true, false, false, false, false, false] rfl rfl (take_ofW HT_.1 HW_.1 (qS27)) (fun _ _ _ h => h) (zY ⟨by rfl, ?_⟩) hHeld ?_ ?_
 rotate_left; exact qS4_c2; rotate_left; exact qS4_c0
 refine one_ (i := 3) (N := some 14) #[true, true, true, true, false, false, true, true, true, false, false, false, true, true, true, true, false, false, false, false, false] rfl rfl (qS70) (by decide) (fun K hK => ?_)
 refine goes_ Try.func96 (qS27) rfl #[.int .i64 a0_3] (by rfl) rfl rfl (qS2) ?_
 with_reducible refine (spec_l2Sine.calls a0_3 t214 _ A4.1).mono ?_
 rintro e w15 ⟨rfl, hb⟩
 refine ⟨_, rfl, ?_⟩
 replace BK210 := za (zl (g := gb210) (o := .cells #[.int .i64 a0_0, .int .i64 a0_1, .int .i64 a0_2, .int .i64 a0_3, .int .i64 a0_4] 58 (0, 0)) (qS10 BK210.1) hb); replace BK211 := za (zl (g := gb211) (o := .cells #[.int .i64 0, .int .i64 0, .int .i64 0] 86 (0, 0)) (qS10 BK211.1) hb); replace HB := za (zW (qS33 GE210.1 GE211.1) hb)
 (try clear hb)
 (try clear hb2)
 (try clear hk)
 (try clear hi)
 refine hK.out _ _ ⟨(zf BK210.1 0).trans rfl, (zf BK210.1 1).trans rfl, (zf BK210.1 2).trans rfl, (zf BK210.1 3).trans rfl, (zf BK210.1 4).trans rfl⟩ (fun hHeld => ?_)
 clear hK K
 refine norm_ (a' := ?_) ?_ ?_
 rotate_left
 ·show Act.put _ (some 14) _ = _
  simp only [Act.put, yf, yg, yh, i64_w, i32_w]
  rfl
 refine pure_ (i := 4) (N := some 15) (v := ?_) (a' := ?_) #[true, true, true, true, true, false, true, true, true, false, false, false, true, true, true, true, false, false, false, false, false] rfl rfl (qS24) (fun _ _ _ h => h) (zY ⟨by rfl, ?_⟩) ?_ ?_
 rotate_left; exact qS4_c1; rotate_left; exact qS4_c0
 refine one_ (i := 5) (N := some 16) #[true, true, true, true, true, true, true, true, true, false, false, false, true, true, true, true, false, false, false, false, false] rfl rfl (qS70) (by decide) (fun K hK => ?_)
 refine goes_ Try.func94 (qS27) rfl #[.int .i64 (wrap64 (t213 * t214)), .int .i64 1000] (by rfl) rfl rfl (qS2) ?_
 with_reducible refine (spec_l2Div.calls (wrap64 (t213 * t214)) 1000 t215 _ A5.1).mono ?_
 rintro e w' ⟨rfl, ⟨nd, rfl⟩⟩
 refine ⟨_, rfl, ?_⟩
 refine hK.out _ _ ⟨(zf BK210.1 0).trans rfl, (zf BK210.1 1).trans rfl, (zf BK210.1 2).trans rfl, (zf BK210.1 3).trans rfl, (zf BK210.1 4).trans rfl⟩ (fun hHeld => ?_)
 clear hK K
 refine norm_ (a' := ?_) ?_ ?_
 rotate_left
 ·show Act.put _ (some 16) _ = _
  simp only [Act.put, yf, yg, yh, i64_w, i32_w]
  rfl
 refine one_ (i := 9) (N := some 20) #[true, true, true, true, true, true, true, true, true, true, false, false, true, true, true, true, false, false, false, false, false] rfl rfl (qS70) (by decide) (fun K hK => ?_)
 refine goes_ Try.func95 (qS27) rfl #[.int .i64 a0_3] (by rfl) rfl rfl (qS2) ?_
 with_reducible refine (spec_l2Cosine.calls a0_3 t216 _ A6.1).mono ?_
 rintro e w16 ⟨rfl, hb⟩
 refine ⟨_, rfl, ?_⟩
 replace BK210 := za (zl (g := gb210) (o := .cells #[.int .i64 a0_0, .int .i64 a0_1, .int .i64 a0_2, .int .i64 a0_3, .int .i64 a0_4] 58 (0, 0)) (qS10 BK210.1) hb); replace BK211 := za (zl (g := gb211) (o := .cells #[.int .i64 0, .int .i64 0, .int .i64 0] 86 (0, 0)) (qS10 BK211.1) hb); replace HB := za (zW (qS33 GE210.1 GE211.1) hb)
 (try clear hb)
 (try clear hb2)
 (try clear hk)
 (try clear hi)
 refine hK.out _ _ ⟨(zf BK210.1 0).trans rfl, (zf BK210.1 1).trans rfl, (zf BK210.1 2).trans rfl, (zf BK210.1 3).trans rfl, (zf BK210.1 4).trans rfl⟩ (fun hHeld => ?_)
 clear hK K
 refine norm_ (a' := ?_) ?_ ?_
 rotate_left
 ·show Act.put _ (some 20) _ = _
  simp only [Act.put, yf, yg, yh, i64_w, i32_w]
  rfl
 refine pure_ (i := 10) (N := some 21) (v := ?_) (a' := ?_) #[true, true, true, true, true, true, true, true, true, true, true, false, true, true, true, true, false, false, false, false, false] rfl rfl (qS24) (fun _ _ _ h => h) (zY ⟨by rfl, ?_⟩) ?_ ?_
 rotate_left; exact qS4_c1; rotate_left; exact qS4_c0
 refine one_ (i := 11) (N := some 22) #[true, true, true, true, true, true, true, true, true, true, true, true, true, true, true, true, false, false, false, false, false] rfl rfl (qS70) (by decide) (fun K hK => ?_)
 refine goes_ Try.func94 (qS27) rfl #[.int .i64 (wrap64 (t213 * t216)), .int .i64 1000] (by rfl) rfl rfl (qS2) ?_
 with_reducible refine (spec_l2Div.calls (wrap64 (t213 * t216)) 1000 t217 _ A7.1).mono ?_
 rintro e w' ⟨rfl, ⟨nd, rfl⟩⟩
 refine ⟨_, rfl, ?_⟩
 refine hK.out _ _ ⟨(zf BK210.1 0).trans rfl, (zf BK210.1 1).trans rfl, (zf BK210.1 2).trans rfl, (zf BK210.1 3).trans rfl, (zf BK210.1 4).trans rfl⟩ (fun hHeld => ?_)
 clear hK K
 refine norm_ (a' := ?_) ?_ ?_
 rotate_left
 ·show Act.put _ (some 22) _ = _
  simp only [Act.put, yf, yg, yh, i64_w, i32_w]
  rfl
 refine one_ (i := 16) (N := some 27) #[true, true, true, true, true, true, true, true, true, true, true, true, true, true, true, true, true, false, false, false, false] rfl rfl (qS70) (by decide) (fun K hK => ?_)
 refine goes_ Try.func96 (qS27) rfl #[.int .i64 a0_4] (by rfl) rfl rfl (qS2) ?_
 with_reducible refine (spec_l2Sine.calls a0_4 t218 _ A8.1).mono ?_
 rintro e w17 ⟨rfl, hb⟩
 refine ⟨_, rfl, ?_⟩
 replace BK210 := za (zl (g := gb210) (o := .cells #[.int .i64 a0_0, .int .i64 a0_1, .int .i64 a0_2, .int .i64 a0_3, .int .i64 a0_4] 58 (0, 0)) (qS10 BK210.1) hb); replace BK211 := za (zl (g := gb211) (o := .cells #[.int .i64 0, .int .i64 0, .int .i64 0] 86 (0, 0)) (qS10 BK211.1) hb); replace HB := za (zW (qS33 GE210.1 GE211.1) hb)
 (try clear hb)
 (try clear hb2)
 (try clear hk)
 (try clear hi)
 refine hK.out _ _ ⟨(zf BK210.1 0).trans rfl, (zf BK210.1 1).trans rfl, (zf BK210.1 2).trans rfl, (zf BK210.1 3).trans rfl, (zf BK210.1 4).trans rfl⟩ (fun hHeld => ?_)
 clear hK K
 refine norm_ (a' := ?_) ?_ ?_
 rotate_left
 ·show Act.put _ (some 27) _ = _
  simp only [Act.put, yf, yg, yh, i64_w, i32_w]
  rfl
 refine pure_ (i := 17) (N := some 28) (v := ?_) (a' := ?_) #[true, true, true, true, true, true, true, true, true, true, true, true, true, true, true, true, true, true, false, false, false] rfl rfl (qS24) (fun _ _ _ h => h) (zY ⟨by rfl, ?_⟩) ?_ ?_
 rotate_left; exact qS4_c1; rotate_left; exact qS4_c0
 refine one_ (i := 18) (N := some 29) #[true, true, true, true, true, true, true, true, true, true, true, true, true, true, true, true, true, true, true, false, false] rfl rfl (qS70) (by decide) (fun K hK => ?_)
 refine goes_ Try.func94 (qS27) rfl #[.int .i64 (wrap64 (a0_2 * t218)), .int .i64 1000] (by rfl) rfl rfl (qS2) ?_
 with_reducible refine (spec_l2Div.calls (wrap64 (a0_2 * t218)) 1000 t219 _ A9.1).mono ?_
 rintro e w' ⟨rfl, ⟨nd, rfl⟩⟩
 refine ⟨_, rfl, ?_⟩
 refine hK.out _ _ ⟨(zf BK210.1 0).trans rfl, (zf BK210.1 1).trans rfl, (zf BK210.1 2).trans rfl, (zf BK210.1 3).trans rfl, (zf BK210.1 4).trans rfl⟩ (fun hHeld => ?_)
 clear hK K
 refine norm_ (a' := ?_) ?_ ?_
 rotate_left
 ·show Act.put _ (some 29) _ = _
  simp only [Act.put, yf, yg, yh, i64_w, i32_w]
  rfl
 refine pure_ (i := 19) (N := some 30) (v := ?_) (a' := ?_) #[true, true, true, true, true, true, true, true, true, true, true, true, true, true, true, true, true, true, true, true, false] rfl rfl (qS24) (fun _ _ _ h => h) (zY ⟨by rfl, ?_⟩) ?_ ?_
 rotate_left; exact qS4_c1; rotate_left; exact qS4_c0
 refine one_ (i := 20) (N := none) #[true, true, true, true, true, true, true, true, true, true, true, true, true, true, true, true, true, true, true, true, true] rfl rfl (qS70) (by decide) (fun K hK => ?_)
 have hs18 : w17.cell? ⟨gb211, 0, none⟩ = some (.int .i64 0) := (zf BK211.1 0).trans rfl; have hfs18 := ze BK211.1 0; have hns18_0 := NB210_211.1; have hms18_0 := NB211_210.1; have hs19 : w17.cell? ⟨gb211, 1, none⟩ = some (.int .i64 0) := (zf BK211.1 1).trans rfl; have hfs19 := ze BK211.1 1; have hns19_0 := NB210_211.1; have hms19_0 := NB211_210.1; have hs20 : w17.cell? ⟨gb211, 2, none⟩ = some (.int .i64 0) := (zf BK211.1 2).trans rfl; have hfs20 := ze BK211.1 2; have hns20_0 := NB210_211.1; have hms20_0 := NB211_210.1
 refine skip_ (w1 := ?_) (by rfl) rfl ?_ ?_
 rotate_left
 ·go_simp
  rfl
 refine hK.out _ _ ⟨((cell_far (p := ⟨gb211, _, none⟩) NB210_211.1 _).trans (((cell_far (p := ⟨gb211, _, none⟩) NB210_211.1 _).trans (((cell_far (p := ⟨gb211, _, none⟩) NB210_211.1 _).trans (hHeld.1)))))), ((cell_far (p := ⟨gb211, _, none⟩) NB210_211.1 _).trans (((cell_far (p := ⟨gb211, _, none⟩) NB210_211.1 _).trans (((cell_far (p := ⟨gb211, _, none⟩) NB210_211.1 _).trans (hHeld.2.1)))))), ((cell_far (p := ⟨gb211, _, none⟩) NB210_211.1 _).trans (((cell_far (p := ⟨gb211, _, none⟩) NB210_211.1 _).trans (((cell_far (p := ⟨gb211, _, none⟩) NB210_211.1 _).trans (hHeld.2.2.1)))))), ((cell_far (p := ⟨gb211, _, none⟩) NB210_211.1 _).trans (((cell_far (p := ⟨gb211, _, none⟩) NB210_211.1 _).trans (((cell_far (p := ⟨gb211, _, none⟩) NB210_211.1 _).trans (hHeld.2.2.2.1)))))), ((cell_far (p := ⟨gb211, _, none⟩) NB210_211.1 _).trans (((cell_far (p := ⟨gb211, _, none⟩) NB210_211.1 _).trans (((cell_far (p := ⟨gb211, _, none⟩) NB210_211.1 _).trans (hHeld.2.2.2.2))))))⟩ (fun hHeld => ?_)
 clear hK K
 refine done_ (qS88) ?_
 try go_wp2
 refine bodyPost_ret (results_cell_row rfl _ _ gb211 86 #[.int .i64 t215, .int .i64 t217, .int .i64 t219] (0, 0) _ rfl (by (with_reducible repeat (first | refine zh ?_ _ | refine zi ?_ | refine zg ?_ _)); refine zj (cs := #[.int .i64 t215, .int .i64 t217, .int .i64 0]) ?_ 2 _ rfl; (with_reducible repeat (first | refine zh ?_ _ | refine zi ?_ | refine zg ?_ _)); refine zj (cs := #[.int .i64 t215, .int .i64 0, .int .i64 0]) ?_ 1 _ rfl; (with_reducible repeat (first | refine zh ?_ _ | refine zi ?_ | refine zg ?_ _)); refine zj (cs := #[.int .i64 0, .int .i64 0, .int .i64 0]) ?_ 0 _ rfl; (with_reducible repeat (first | refine zh ?_ _ | refine zi ?_ | refine zg ?_ _)); exact BK211.1) Try.underlying86 rfl (qS27)) rfl ?_
 exact ⟨(qS11), (qS33 GE210.1 GE211.1)⟩

def spec_l4Reverse.f (a0_0 : Int) (a0_1 : Int) (a0_2 : Int) (a0_3 : Int) (a0_4 : Int) : Option (Int × Int × Int × Int × Int) := some (a0_1, a0_0, a0_2, Int.tmod (wrap64 (a0_3 + 180)) 360, wrap64 (-a0_4))
theorem spec_l4Reverse.calls (a0_0 : Int) (a0_1 : Int) (a0_2 : Int) (a0_3 : Int) (a0_4 : Int) (r1 : Int) (r2 : Int) (r3 : Int) (r4 : Int) (r5 : Int) (w : World) (h : spec_l4Reverse.f a0_0 a0_1 a0_2 a0_3 a0_4 = some (r1, r2, r3, r4, r5)) :
  Calls Try.prog 85 #[.agg #[.int .i64 a0_0, .int .i64 a0_1, .int .i64 a0_2, .int .i64 a0_3, .int .i64 a0_4]] w fun e w' => e = .returned (.agg #[.int .i64 r1, .int .i64 r2, .int .i64 r3, .int .i64 r4, .int .i64 r5]) ∧ Below w.heap.size w w' := by
 have hu58 := Try.underlying58; have HB := za (zs w.heap.size w); have H : (some (a0_1, a0_0, a0_2, Int.tmod (wrap64 (a0_3 + 180)) 360, wrap64 (-a0_4))) = some (r1, r2, r3, r4, r5) := h; clear h; simp only [yd, ye] at H; obtain ⟨rfl, rfl, rfl, rfl, rfl⟩ := H
 go_enter Try.func85, Try.ntmps85
 go_wp2_with (first | ((with_reducible refine zq (N := 1) rfl ?_); refine zB ?hg (N := 1) ?hd (cs := #[.int .i64 a0_0, .int .i64 a0_1, .int .i64 a0_2, .int .i64 a0_3, .int .i64 a0_4]) (t := 58) ?hr ?_; (case hd | hg => rfl); (case hr => exact (qS26)); intro gb220 hg w2 hbox hb; have BK220 := za hbox; have GW220 := za (by exact (by rw [hg]; exact (zX (qS0)) : w.heap.size ≤ gb220)); have GE220 := za (by exact (by rw [hg]; exact (zX (qS0)) : w.heap.size ≤ gb220)); replace HB := za qS64; clear hb hbox hg) | ((with_reducible refine zq (N := 2) rfl ?_); refine zB ?hg (N := 2) ?hd (cs := #[.int .i64 0, .int .i64 0, .int .i64 0, .int .i64 0, .int .i64 0]) (t := 58) ?hr ?_; (case hd | hg => rfl); (case hr => exact (qS26)); intro gb221 hg w3 hbox hb; have BK221 := za hbox; have GW221 := za ((by rw [hg]; exact (zX (qS25 GE220.1)) : w.heap.size ≤ gb221)); have GE221 := za ((by rw [hg]; exact (zX (qS25 GE220.1)) : w.heap.size ≤ gb221)); replace HB := za (zW (qS25 GE220.1) hb); have NB220_221 := za ((by rw [hg]; exact Nat.ne_of_lt (blk_lt (g := gb220) (o := .cells #[.int .i64 a0_0, .int .i64 a0_1, .int .i64 a0_2, .int .i64 a0_3, .int .i64 a0_4] 58 (0, 0)) (qS10 BK220.1)) : gb220 ≠ gb221)); have NB221_220 := za ((by rw [hg]; exact Nat.ne_of_gt (blk_lt (g := gb220) (o := .cells #[.int .i64 a0_0, .int .i64 a0_1, .int .i64 a0_2, .int .i64 a0_3, .int .i64 a0_4] 58 (0, 0)) (qS10 BK220.1)) : gb221 ≠ gb220)); replace BK220 := za (zl (g := gb220) (o := .cells #[.int .i64 a0_0, .int .i64 a0_1, .int .i64 a0_2, .int .i64 a0_3, .int .i64 a0_4] 58 (0, 0)) (qS10 BK220.1) hb); clear hb hbox hg; have hnb4 := NB220_221.1; have hnc4 := NB221_220.1; have hcz5_0 : w3.cell? ⟨gb220, 0, none⟩ = some (.int .i64 a0_0) := (zf BK220.1 0).trans rfl; have hcz5_1 : w3.cell? ⟨gb220, 1, none⟩ = some (.int .i64 a0_1) := (zf BK220.1 1).trans rfl; have hcz5_2 : w3.cell? ⟨gb220, 2, none⟩ = some (.int .i64 a0_2) := (zf BK220.1 2).trans rfl; have hcz5_3 : w3.cell? ⟨gb220, 3, none⟩ = some (.int .i64 a0_3) := (zf BK220.1 3).trans rfl; have hcz5_4 : w3.cell? ⟨gb220, 4, none⟩ = some (.int .i64 a0_4) := (zf BK220.1 4).trans rfl; have hfz5_0 := ze BK220.1 0; have hfz5_1 := ze BK220.1 1; have hfz5_2 := ze BK220.1 2; have hfz5_3 := ze BK220.1 3; have hfz5_4 := ze BK220.1 4; have hcz6_0 : w3.cell? ⟨gb221, 0, none⟩ = some (.int .i64 0) := (zf BK221.1 0).trans rfl; have hcz6_1 : w3.cell? ⟨gb221, 1, none⟩ = some (.int .i64 0) := (zf BK221.1 1).trans rfl; have hcz6_2 : w3.cell? ⟨gb221, 2, none⟩ = some (.int .i64 0) := (zf BK221.1 2).trans rfl; have hcz6_3 : w3.cell? ⟨gb221, 3, none⟩ = some (.int .i64 0) := (zf BK221.1 3).trans rfl; have hcz6_4 : w3.cell? ⟨gb221, 4, none⟩ = some (.int .i64 0) := (zf BK221.1 4).trans rfl; have hfz6_0 := ze BK221.1 0; have hfz6_1 := ze BK221.1 1; have hfz6_2 := ze BK221.1 2; have hfz6_3 := ze BK221.1 3; have hfz6_4 := ze BK221.1 4))
 refine bodyPost_ret (results_cell_row rfl _ _ gb221 58 #[.int .i64 a0_1, .int .i64 a0_0, .int .i64 a0_2, .int .i64 (Int.tmod (wrap64 (a0_3 + 180)) 360), .int .i64 (wrap64 (-a0_4))] (0, 0) _ rfl (by (with_reducible repeat (first | refine zh ?_ _ | refine zi ?_ | refine zg ?_ _)); refine zj (cs := #[.int .i64 a0_1, .int .i64 a0_0, .int .i64 a0_2, .int .i64 (Int.tmod (wrap64 (a0_3 + 180)) 360), .int .i64 0]) ?_ 4 _ rfl; (with_reducible repeat (first | refine zh ?_ _ | refine zi ?_ | refine zg ?_ _)); refine zj (cs := #[.int .i64 a0_1, .int .i64 a0_0, .int .i64 a0_2, .int .i64 0, .int .i64 0]) ?_ 3 _ rfl; (with_reducible repeat (first | refine zh ?_ _ | refine zi ?_ | refine zg ?_ _)); refine zj (cs := #[.int .i64 a0_1, .int .i64 a0_0, .int .i64 0, .int .i64 0, .int .i64 0]) ?_ 2 _ rfl; (with_reducible repeat (first | refine zh ?_ _ | refine zi ?_ | refine zg ?_ _)); refine zj (cs := #[.int .i64 a0_1, .int .i64 0, .int .i64 0, .int .i64 0, .int .i64 0]) ?_ 1 _ rfl; (with_reducible repeat (first | refine zh ?_ _ | refine zi ?_ | refine zg ?_ _)); refine zj (cs := #[.int .i64 0, .int .i64 0, .int .i64 0, .int .i64 0, .int .i64 0]) ?_ 0 _ rfl; (with_reducible repeat (first | refine zh ?_ _ | refine zi ?_ | refine zg ?_ _)); exact BK221.1) Try.underlying58 rfl (qS27)) rfl ?_
 exact ⟨(qS11), (qS33 GE220.1 GE221.1)⟩

def spec_l2Long.f (a0 : Int) : Option (Bool) := (spec_l1In.f a0 (-100000) 100000).bind fun t222 => (some t222)
theorem spec_l2Long.calls (a0 : Int) (r : Bool) (w : World) (h : spec_l2Long.f a0 = some r) :
  Calls Try.prog 97 #[.int .i64 a0] w fun e w' => e = .returned (.bool r) ∧ Drawn0 w w' := by
 have H : ((spec_l1In.f a0 (-100000) 100000).bind fun t222 => (some t222)) = some r := h; clear h; replace H := zC H; obtain ⟨t222, A20, H⟩ := H; replace H : (some t222) = some r := H; have A2 := za A20; clear A20; obtain rfl := zm H
 go_enter Try.func97, Try.ntmps97
 go_wp2_with (first | ((with_reducible refine zp (f := 69) rfl ?_); refine zV (some 4) rfl rfl Try.func69 (qS27) rfl #[.int .i64 a0, .int .i64 (-100000), .int .i64 100000] rfl (qS2) ?_; (with_reducible refine (spec_l1In.calls a0 (-100000) 100000 t222 _ A2.1).mono ?_); rintro e w' ⟨rfl, ⟨nd, rfl⟩⟩; refine ⟨_, rfl, ?_⟩))
 go_ret
 exact ⟨(qS16), (qS30)⟩

mutual
def spec_LengthOf.j0 : Nat → Int → Int → Int → Bool → Option (Int × Bool)
 | 0, _, _, _, _ => none
 | k + 1, x0, x1, x2, x24 => if x24 = true then (some (0, false)) else (spec_LengthOf.l0 k (wrap64 ((wrap64 ((wrap64 (x0 * x0)) + (wrap64 (x1 * x1)))) + (wrap64 (x2 * x2)))) 0 200000)
def spec_LengthOf.l0 : Nat → Int → Int → Int → Option (Int × Bool)
 | 0, _, _, _ => none
 | k + 1, x8, x9, x10 => if x9 < x10 then (if (wrap64 ((wrap64 (Int.tdiv (wrap64 ((wrap64 (x9 + x10)) + 1)) 2)) * (wrap64 (Int.tdiv (wrap64 ((wrap64 (x9 + x10)) + 1)) 2)))) ≤ x8 then (spec_LengthOf.l0 k x8 (wrap64 (Int.tdiv (wrap64 ((wrap64 (x9 + x10)) + 1)) 2)) x10) else (spec_LengthOf.l0 k x8 x9 (wrap64 ((wrap64 (Int.tdiv (wrap64 ((wrap64 (x9 + x10)) + 1)) 2)) - 1)))) else (some (x9, true))
end
def spec_LengthOf.f (k : Nat) (a0 : Int) (a1 : Int) (a2 : Int) : Option (Int × Bool) := (spec_l2Long.f a0).bind fun t223 => (if t223 = true then ((spec_l2Long.f a1).bind fun t224 => (if t224 = true then ((spec_l2Long.f a2).bind fun t225 => (spec_LengthOf.j0 k a0 a1 a2 (!t225))) else (spec_LengthOf.j0 k a0 a1 a2 true))) else (spec_LengthOf.j0 k a0 a1 a2 true))
theorem spec_LengthOf.calls (k : Nat) (a0 : Int) (a1 : Int) (a2 : Int) (r1 : Int) (r2 : Bool) (w : World) (h : spec_LengthOf.f k a0 a1 a2 = some (r1, r2)) :
  Calls Try.prog 86 #[.int .i64 a0, .int .i64 a1, .int .i64 a2] w fun e w' => e = .returned (.tuple #[.int .i64 r1, .bool r2]) ∧ Drawn0 w w' := by
 have H : ((spec_l2Long.f a0).bind fun t223 => (if t223 = true then ((spec_l2Long.f a1).bind fun t224 => (if t224 = true then ((spec_l2Long.f a2).bind fun t225 => (spec_LengthOf.j0 k a0 a1 a2 (!t225))) else (spec_LengthOf.j0 k a0 a1 a2 true))) else (spec_LengthOf.j0 k a0 a1 a2 true))) = some (r1, r2) := h; clear h; have HC4 := za H; clear H
 go_enter Try.func86, Try.ntmps86
 go_upto_region 1 with (fail)
 go_cut [24] (fun v24 wc => ∃ (kq : Nat) (x24_3 : Bool), v24 = .bool x24_3 ∧ Aside0 (spec_LengthOf.j0 kq a0 a1 a2 x24_3 = some (r1, r2)) ∧ Aside0 (kq ≤ k) ∧ Drawn0 w wc)
 case first =>
  have H := HC4.1; clear HC4; replace H := bindA H; obtain ⟨t223, A5, H⟩ := H; (try dsimp only at H)
  by_cases c6 : t223 = true
  ·subst c6; rw [yb rfl] at H; replace H := bindA H; obtain ⟨t224, A7, H⟩ := H; (try dsimp only at H)
   by_cases c8 : t224 = true
   ·subst c8; rw [yb rfl] at H; replace H := zC H; obtain ⟨t225, A90, H⟩ := H; replace H : (spec_LengthOf.j0 k a0 a1 a2 (!t225)) = some (r1, r2) := H; have A9 := za A90; clear A90; have H' := za H; clear H
    go_wp2_with (first | ((with_reducible refine zp (f := 97) rfl ?_); refine zV (some 13) rfl rfl Try.func97 (qS27) rfl #[.int .i64 a0] rfl (qS2) ?_; (with_reducible refine (spec_l2Long.calls a0 true _ A5.1).mono ?_); rintro e w' ⟨rfl, ⟨nd, rfl⟩⟩; refine ⟨_, rfl, ?_⟩) | (go_at_call 97; (with_reducible refine (spec_l2Long.calls a1 true _ A7.1).mono ?_); rintro e w' ⟨rfl, ⟨nd, rfl⟩⟩) | (go_at_call 97; (with_reducible refine (spec_l2Long.calls a2 t225 _ A9.1).mono ?_); rintro e w' ⟨rfl, ⟨nd, rfl⟩⟩))
    go_meet
    case rel => exact ⟨_, (!t225), (qS16), H', ⟨by first | omega | exact zo _⟩, (qS30)⟩
   ·replace c8 := zn c8; subst c8; rw [yc (show ¬ (false = true) by decide)] at H; have H' := za H; clear H
    go_wp2_with (first | ((with_reducible refine zp (f := 97) rfl ?_); refine zV (some 13) rfl rfl Try.func97 (qS27) rfl #[.int .i64 a0] rfl (qS2) ?_; (with_reducible refine (spec_l2Long.calls a0 true _ A5.1).mono ?_); rintro e w' ⟨rfl, ⟨nd, rfl⟩⟩; refine ⟨_, rfl, ?_⟩) | (go_at_call 97; (with_reducible refine (spec_l2Long.calls a1 false _ A7.1).mono ?_); rintro e w' ⟨rfl, ⟨nd, rfl⟩⟩))
    go_meet
    case rel => exact ⟨_, (true), (qS16), H', ⟨by first | omega | exact zo _⟩, (qS30)⟩
  ·replace c6 := zn c6; subst c6; rw [yc (show ¬ (false = true) by decide)] at H; have H' := za H; clear H
   go_wp2_with (first | ((with_reducible refine zp (f := 97) rfl ?_); refine zV (some 13) rfl rfl Try.func97 (qS27) rfl #[.int .i64 a0] rfl (qS2) ?_; (with_reducible refine (spec_l2Long.calls a0 false _ A5.1).mono ?_); rintro e w' ⟨rfl, ⟨nd, rfl⟩⟩; refine ⟨_, rfl, ?_⟩))
   go_meet
   case rel => exact ⟨_, (true), (qS16), H', ⟨by first | omega | exact zo _⟩, (qS30)⟩
 case rest =>
  clear HC4; (try clear p2); (try clear c6); (try clear c8); (try clear c9); obtain ⟨kq, x24_3, rfl, HA, HJ3, ⟨mc3, rfl⟩⟩ := hcut
  cases kq with
  | zero => exact absurd HA.1 (by simp [spec_LengthOf.j0])
  | succ kj3 =>
   have H := HA.1; clear HA; simp only [spec_LengthOf.j0] at H
   by_cases c10 : x24_3 = true
   ·subst c10; rw [yb rfl] at H; simp only [yd, ye] at H; obtain ⟨rfl, rfl⟩ := H
    go_wp2
    go_ret2
    exact ⟨(qS16), (qS30)⟩
   ·replace c10 := zn c10; subst c10; rw [yc (show ¬ (false = true) by decide)] at H; have H' := za H; clear H
    go_wp2
    go_loopg [9, 10] kj3 (fun kq v9 v10 w' => ∃ (x9_2 : Int) (x10_2 : Int), v9 = .int .i64 x9_2 ∧ v10 = .int .i64 x10_2 ∧ Aside0 (spec_LengthOf.l0 kq (wrap64 ((wrap64 ((wrap64 (a0 * a0)) + (wrap64 (a1 * a1)))) + (wrap64 (a2 * a2)))) x9_2 x10_2 = some (r1, r2)) ∧ Aside0 (kq ≤ kj3) ∧ Drawn0 w w')
    case atStart => exact ⟨(0), (200000), (qS16), (qS16), H', ⟨zo _⟩, (qS30)⟩
    case round =>
     clear H'; (try clear c1); (try clear p2); (try clear c3); (try clear c6); (try clear p6); (try clear c8); (try clear c9); (try clear c10); (try clear p2); obtain ⟨x9_2, x10_2, rfl, rfl, HA, HK2, ⟨m2, rfl⟩⟩ := hrel
     cases gk with
     | zero => exact absurd HA.1 (by simp [spec_LengthOf.l0])
     | succ k2 =>
      have H := HA.1; clear HA; simp only [spec_LengthOf.l0] at H
      by_cases c11 : x9_2 < x10_2
      ·rw [yb c11] at H; have c11b0 : decide (x9_2 < x10_2) = true := zc c11; clear c11
       by_cases c12 : (wrap64 ((wrap64 (Int.tdiv (wrap64 ((wrap64 (x9_2 + x10_2)) + 1)) 2)) * (wrap64 (Int.tdiv (wrap64 ((wrap64 (x9_2 + x10_2)) + 1)) 2)))) ≤ (wrap64 ((wrap64 ((wrap64 (a0 * a0)) + (wrap64 (a1 * a1)))) + (wrap64 (a2 * a2))))
       ·rw [yb c12] at H; have c12b0 : decide ((wrap64 ((wrap64 (Int.tdiv (wrap64 ((wrap64 (x9_2 + x10_2)) + 1)) 2)) * (wrap64 (Int.tdiv (wrap64 ((wrap64 (x9_2 + x10_2)) + 1)) 2)))) ≤ (wrap64 ((wrap64 ((wrap64 (a0 * a0)) + (wrap64 (a1 * a1)))) + (wrap64 (a2 * a2))))) = true := zc c12; clear c12; have H' := za H; clear H
        go_wp2
        go_roundg k2
        case measure => have := HJ3.1; have := HK2.1; omega
        case rel => exact ⟨(wrap64 (Int.tdiv (wrap64 ((wrap64 (x9_2 + x10_2)) + 1)) 2)), (x10_2), (qS16), (qS16), H', ⟨by have := HJ3.1; have := HK2.1; omega⟩, (qS30)⟩
       ·rw [yc c12] at H; have c12b0 : decide ((wrap64 ((wrap64 (Int.tdiv (wrap64 ((wrap64 (x9_2 + x10_2)) + 1)) 2)) * (wrap64 (Int.tdiv (wrap64 ((wrap64 (x9_2 + x10_2)) + 1)) 2)))) ≤ (wrap64 ((wrap64 ((wrap64 (a0 * a0)) + (wrap64 (a1 * a1)))) + (wrap64 (a2 * a2))))) = false := zv c12; clear c12; have H' := za H; clear H
        go_wp2
        go_roundg k2
        case measure => have := HJ3.1; have := HK2.1; omega
        case rel => exact ⟨(x9_2), (wrap64 ((wrap64 (Int.tdiv (wrap64 ((wrap64 (x9_2 + x10_2)) + 1)) 2)) - 1)), (qS16), (qS16), H', ⟨by have := HJ3.1; have := HK2.1; omega⟩, (qS30)⟩
      ·rw [yc c11] at H; have c11b0 : decide (x9_2 < x10_2) = false := zv c11; clear c11; simp only [yd, ye] at H; obtain ⟨rfl, rfl⟩ := H
       go_wp2
       go_ret2
       exact ⟨(qS16), (qS30)⟩

mutual
def spec_BearingTo.j0 : Nat → Int → Int → Bool → Option (Int × Bool)
 | 0, _, _, _ => none
 | k + 1, x0, x1, x23 => if x23 = true then (some (0, false)) else (spec_BearingTo.l0 k x0 x1 0 1)
def spec_BearingTo.l0 : Nat → Int → Int → Int → Int → Option (Int × Bool)
 | 0, _, _, _, _ => none
 | k + 1, x0, x1, x6, x7 => if x7 < 360 then ((spec_l2Sine.f x7).bind fun t228 => ((spec_l2Cosine.f x7).bind fun t229 => ((spec_l2Sine.f x6).bind fun t230 => ((spec_l2Cosine.f x6).bind fun t231 => (if (wrap64 ((wrap64 (x0 * t228)) + (wrap64 (x1 * t229)))) > (wrap64 ((wrap64 (x0 * t230)) + (wrap64 (x1 * t231)))) then (spec_BearingTo.l0 k x0 x1 x7 (wrap64 (x7 + 1))) else (spec_BearingTo.l0 k x0 x1 x6 (wrap64 (x7 + 1)))))))) else (some (x6, true))
end
def spec_BearingTo.f (k : Nat) (a0 : Int) (a1 : Int) : Option (Int × Bool) := (spec_l2Long.f a0).bind fun t226 => (if t226 = true then ((spec_l2Long.f a1).bind fun t227 => (if t227 = true then (if a0 = 0 then (spec_BearingTo.j0 k a0 a1 (a1 == 0)) else (spec_BearingTo.j0 k a0 a1 false)) else (spec_BearingTo.j0 k a0 a1 true))) else (spec_BearingTo.j0 k a0 a1 true))
theorem spec_BearingTo.calls (k : Nat) (a0 : Int) (a1 : Int) (r1 : Int) (r2 : Bool) (w : World) (h : spec_BearingTo.f k a0 a1 = some (r1, r2)) :
  Calls Try.prog 87 #[.int .i64 a0, .int .i64 a1] w fun e w' => e = .returned (.tuple #[.int .i64 r1, .bool r2]) ∧ Below w.heap.size w w' := by
 have HB := za (zs w.heap.size w); have H : ((spec_l2Long.f a0).bind fun t226 => (if t226 = true then ((spec_l2Long.f a1).bind fun t227 => (if t227 = true then (if a0 = 0 then (spec_BearingTo.j0 k a0 a1 (a1 == 0)) else (spec_BearingTo.j0 k a0 a1 false)) else (spec_BearingTo.j0 k a0 a1 true))) else (spec_BearingTo.j0 k a0 a1 true))) = some (r1, r2) := h; clear h; have HC3 := za H; clear H
 go_enter Try.func87, Try.ntmps87
 go_upto_region 1 with (fail)
 go_cut [23] (fun v23 wc => ∃ (kq : Nat) (x23_2 : Bool), v23 = .bool x23_2 ∧ Aside0 (spec_BearingTo.j0 kq a0 a1 x23_2 = some (r1, r2)) ∧ Aside0 (kq ≤ k) ∧ Aside0 (Below w.heap.size w wc))
 case first =>
  have H := HC3.1; clear HC3; replace H := bindA H; obtain ⟨t226, A4, H⟩ := H; (try dsimp only at H)
  by_cases c5 : t226 = true
  ·subst c5; rw [yb rfl] at H; replace H := bindA H; obtain ⟨t227, A6, H⟩ := H; (try dsimp only at H)
   by_cases c7 : t227 = true
   ·subst c7; rw [yb rfl] at H
    by_cases c8 : a0 = 0
    ·rw [yb c8] at H; have c8b0 : (a0 == 0) = true := zT c8; have c8b1 : (a0 != 0) = false := zy c8; clear c8
     (first | rw [c8b0] | (simp only [i64_w, i32_w]; rw [c8b0]) | skip)
     have H' := za H; clear H
     go_wp2_with (first | ((with_reducible refine zp (f := 97) rfl ?_); refine zV (some 9) rfl rfl Try.func97 (qS27) rfl #[.int .i64 a0] rfl (qS2) ?_; (with_reducible refine (spec_l2Long.calls a0 true _ A4.1).mono ?_); rintro e w' ⟨rfl, ⟨nd, rfl⟩⟩; refine ⟨_, rfl, ?_⟩) | (go_at_call 97; (with_reducible refine (spec_l2Long.calls a1 true _ A6.1).mono ?_); rintro e w' ⟨rfl, ⟨nd, rfl⟩⟩))
     go_meet
     case rel => exact ⟨_, ((a1 == 0)), (qS16), H', ⟨by first | omega | exact zo _⟩, ⟨(qS0)⟩⟩
    ·rw [yc c8] at H; have c8b0 : (a0 == 0) = false := zx c8; have c8b1 : (a0 != 0) = true := zU c8
     (first | rw [c8b0] | (simp only [i64_w, i32_w]; rw [c8b0]) | skip)
     have H' := za H; clear H
     go_wp2_with (first | ((with_reducible refine zp (f := 97) rfl ?_); refine zV (some 9) rfl rfl Try.func97 (qS27) rfl #[.int .i64 a0] rfl (qS2) ?_; (with_reducible refine (spec_l2Long.calls a0 true _ A4.1).mono ?_); rintro e w' ⟨rfl, ⟨nd, rfl⟩⟩; refine ⟨_, rfl, ?_⟩) | (go_at_call 97; (with_reducible refine (spec_l2Long.calls a1 true _ A6.1).mono ?_); rintro e w' ⟨rfl, ⟨nd, rfl⟩⟩))
     go_meet
     case rel => exact ⟨_, (false), (qS16), H', ⟨by first | omega | exact zo _⟩, ⟨(qS0)⟩⟩
   ·replace c7 := zn c7; subst c7; rw [yc (show ¬ (false = true) by decide)] at H; have H' := za H; clear H
    go_wp2_with (first | ((with_reducible refine zp (f := 97) rfl ?_); refine zV (some 9) rfl rfl Try.func97 (qS27) rfl #[.int .i64 a0] rfl (qS2) ?_; (with_reducible refine (spec_l2Long.calls a0 true _ A4.1).mono ?_); rintro e w' ⟨rfl, ⟨nd, rfl⟩⟩; refine ⟨_, rfl, ?_⟩) | (go_at_call 97; (with_reducible refine (spec_l2Long.calls a1 false _ A6.1).mono ?_); rintro e w' ⟨rfl, ⟨nd, rfl⟩⟩))
    go_meet
    case rel => exact ⟨_, (true), (qS16), H', ⟨by first | omega | exact zo _⟩, ⟨(qS0)⟩⟩
  ·replace c5 := zn c5; subst c5; rw [yc (show ¬ (false = true) by decide)] at H; have H' := za H; clear H
   go_wp2_with (first | ((with_reducible refine zp (f := 97) rfl ?_); refine zV (some 9) rfl rfl Try.func97 (qS27) rfl #[.int .i64 a0] rfl (qS2) ?_; (with_reducible refine (spec_l2Long.calls a0 false _ A4.1).mono ?_); rintro e w' ⟨rfl, ⟨nd, rfl⟩⟩; refine ⟨_, rfl, ?_⟩))
   go_meet
   case rel => exact ⟨_, (true), (qS16), H', ⟨by first | omega | exact zo _⟩, ⟨(qS0)⟩⟩
 case rest =>
  clear HC3; (try clear p2); (try clear c5); (try clear c7); (try clear c8); (try clear c8b0); (try clear c8b1); obtain ⟨kq, x23_2, rfl, HA, HJ2, HB⟩ := hcut
  cases kq with
  | zero => exact absurd HA.1 (by simp [spec_BearingTo.j0])
  | succ kj2 =>
   have H := HA.1; clear HA; simp only [spec_BearingTo.j0] at H
   by_cases c9 : x23_2 = true
   ·subst c9; rw [yb rfl] at H; simp only [yd, ye] at H; obtain ⟨rfl, rfl⟩ := H
    go_wp2
    go_ret2
    exact ⟨(qS11), (qS0)⟩
   ·replace c9 := zn c9; subst c9; rw [yc (show ¬ (false = true) by decide)] at H; have H' := za H; clear H
    go_wp2
    go_loopg [6, 7] kj2 (fun kq v6 v7 w' => ∃ (x6_2 : Int) (x7_2 : Int), v6 = .int .i64 x6_2 ∧ v7 = .int .i64 x7_2 ∧ Aside0 (spec_BearingTo.l0 kq a0 a1 x6_2 x7_2 = some (r1, r2)) ∧ Aside0 (kq ≤ kj2) ∧ Aside0 (Below w.heap.size w w'))
    case atStart => exact ⟨(0), (1), (qS16), (qS16), H', ⟨zo _⟩, ⟨(qS0)⟩⟩
    case round =>
     clear H'; (try clear p2); (try clear c5); (try clear c7); (try clear c8); (try clear c8b0); (try clear c8b1); (try clear c9); (try clear p2); obtain ⟨x6_2, x7_2, rfl, rfl, HA, HK2, HB⟩ := hrel
     cases gk with
     | zero => exact absurd HA.1 (by simp [spec_BearingTo.l0])
     | succ k2 =>
      have H := HA.1; clear HA; simp only [spec_BearingTo.l0] at H
      by_cases c10 : x7_2 < 360
      ·rw [yb c10] at H; have c10b0 : decide (x7_2 < 360) = true := zc c10; clear c10; replace H := bindA H; obtain ⟨t228, A11, H⟩ := H; (try dsimp only at H); replace H := bindA H; obtain ⟨t229, A12, H⟩ := H; (try dsimp only at H); replace H := bindA H; obtain ⟨t230, A13, H⟩ := H; (try dsimp only at H); replace H := bindA H; obtain ⟨t231, A14, H⟩ := H; (try dsimp only at H)
       by_cases c15 : (wrap64 ((wrap64 (a0 * t228)) + (wrap64 (a1 * t229)))) > (wrap64 ((wrap64 (a0 * t230)) + (wrap64 (a1 * t231))))
       ·rw [yb c15] at H; have c15b0 : decide ((wrap64 ((wrap64 (a0 * t230)) + (wrap64 (a1 * t231)))) < (wrap64 ((wrap64 (a0 * t228)) + (wrap64 (a1 * t229))))) = true := zc c15; clear c15; have H' := za H; clear H
        go_wp2_with (first | ((with_reducible refine zp (f := 96) rfl ?_); refine zV (some 30) rfl rfl Try.func96 (qS27) rfl #[.int .i64 x7_2] rfl (qS2) ?_; (with_reducible refine (spec_l2Sine.calls x7_2 t228 _ A11.1).mono ?_); rintro e w16 ⟨rfl, hb⟩; refine ⟨_, rfl, ?_⟩; replace HB := za qS64; clear hb) | ((with_reducible refine zp (f := 95) rfl ?_); refine zV (some 34) rfl rfl Try.func95 (qS27) rfl #[.int .i64 x7_2] rfl (qS2) ?_; (with_reducible refine (spec_l2Cosine.calls x7_2 t229 _ A12.1).mono ?_); rintro e w17 ⟨rfl, hb⟩; refine ⟨_, rfl, ?_⟩; replace HB := za qS64; clear hb) | ((with_reducible refine zp (f := 96) rfl ?_); refine zV (some 39) rfl rfl Try.func96 (qS27) rfl #[.int .i64 x6_2] rfl (qS2) ?_; (with_reducible refine (spec_l2Sine.calls x6_2 t230 _ A13.1).mono ?_); rintro e w18 ⟨rfl, hb⟩; refine ⟨_, rfl, ?_⟩; replace HB := za qS64; clear hb) | ((with_reducible refine zp (f := 95) rfl ?_); refine zV (some 43) rfl rfl Try.func95 (qS27) rfl #[.int .i64 x6_2] rfl (qS2) ?_; (with_reducible refine (spec_l2Cosine.calls x6_2 t231 _ A14.1).mono ?_); rintro e w19 ⟨rfl, hb⟩; refine ⟨_, rfl, ?_⟩; replace HB := za qS64; clear hb))
        go_roundg k2
        case measure => have := HJ2.1; have := HK2.1; omega
        case rel => exact ⟨(x7_2), (wrap64 (x7_2 + 1)), (qS16), (qS16), H', ⟨by have := HJ2.1; have := HK2.1; omega⟩, ⟨(qS0)⟩⟩
       ·rw [yc c15] at H; have c15b0 : decide ((wrap64 ((wrap64 (a0 * t230)) + (wrap64 (a1 * t231)))) < (wrap64 ((wrap64 (a0 * t228)) + (wrap64 (a1 * t229))))) = false := zv c15; clear c15; have H' := za H; clear H
        go_wp2_with (first | ((with_reducible refine zp (f := 96) rfl ?_); refine zV (some 30) rfl rfl Try.func96 (qS27) rfl #[.int .i64 x7_2] rfl (qS2) ?_; (with_reducible refine (spec_l2Sine.calls x7_2 t228 _ A11.1).mono ?_); rintro e w20 ⟨rfl, hb⟩; refine ⟨_, rfl, ?_⟩; replace HB := za qS64; clear hb) | ((with_reducible refine zp (f := 95) rfl ?_); refine zV (some 34) rfl rfl Try.func95 (qS27) rfl #[.int .i64 x7_2] rfl (qS2) ?_; (with_reducible refine (spec_l2Cosine.calls x7_2 t229 _ A12.1).mono ?_); rintro e w21 ⟨rfl, hb⟩; refine ⟨_, rfl, ?_⟩; replace HB := za qS64; clear hb) | ((with_reducible refine zp (f := 96) rfl ?_); refine zV (some 39) rfl rfl Try.func96 (qS27) rfl #[.int .i64 x6_2] rfl (qS2) ?_; (with_reducible refine (spec_l2Sine.calls x6_2 t230 _ A13.1).mono ?_); rintro e w22 ⟨rfl, hb⟩; refine ⟨_, rfl, ?_⟩; replace HB := za qS64; clear hb) | ((with_reducible refine zp (f := 95) rfl ?_); refine zV (some 43) rfl rfl Try.func95 (qS27) rfl #[.int .i64 x6_2] rfl (qS2) ?_; (with_reducible refine (spec_l2Cosine.calls x6_2 t231 _ A14.1).mono ?_); rintro e w23 ⟨rfl, hb⟩; refine ⟨_, rfl, ?_⟩; replace HB := za qS64; clear hb))
        go_roundg k2
        case measure => have := HJ2.1; have := HK2.1; omega
        case rel => exact ⟨(x6_2), (wrap64 (x7_2 + 1)), (qS16), (qS16), H', ⟨by have := HJ2.1; have := HK2.1; omega⟩, ⟨(qS0)⟩⟩
      ·rw [yc c10] at H; have c10b0 : decide (x7_2 < 360) = false := zv c10; clear c10; simp only [yd, ye] at H; obtain ⟨rfl, rfl⟩ := H
       go_wp2
       go_ret2
       exact ⟨(qS11), (qS0)⟩

mutual
def spec_SlopeTo.j0 : Nat → Int → Int → Bool → Option (Int × Bool)
 | 0, _, _, _ => none
 | k + 1, x0, x1, x24 => if x24 = true then (some (0, false)) else (spec_SlopeTo.l0 k x0 x1 0 1)
def spec_SlopeTo.l0 : Nat → Int → Int → Int → Int → Option (Int × Bool)
 | 0, _, _, _, _ => none
 | k + 1, x0, x1, x6, x7 => if x7 ≤ 90 then (spec_SlopeTo.l1 k x0 x1 x6 x7 1) else (some (x6, true))
def spec_SlopeTo.l1 : Nat → Int → Int → Int → Int → Int → Option (Int × Bool)
 | 0, _, _, _, _, _ => none
 | k + 1, x0, x1, x6, x7, x8 => if x8 ≥ (-1) then ((spec_l2Cosine.f x7).bind fun t234 => ((spec_l2Sine.f (wrap64 (x8 * x7))).bind fun t235 => ((spec_l2Cosine.f x6).bind fun t236 => ((spec_l2Sine.f x6).bind fun t237 => (if (wrap64 ((wrap64 (x0 * t234)) + (wrap64 (x1 * t235)))) > (wrap64 ((wrap64 (x0 * t236)) + (wrap64 (x1 * t237)))) then (spec_SlopeTo.l1 k x0 x1 (wrap64 (x8 * x7)) x7 (wrap64 (x8 - 2))) else (spec_SlopeTo.l1 k x0 x1 x6 x7 (wrap64 (x8 - 2)))))))) else (spec_SlopeTo.l0 k x0 x1 x6 (wrap64 (x7 + 1)))
end
def spec_SlopeTo.f (k : Nat) (a0 : Int) (a1 : Int) : Option (Int × Bool) := (spec_l1In.f a0 0 100000).bind fun t232 => (if t232 = true then ((spec_l2Long.f a1).bind fun t233 => (if t233 = true then (if a0 = 0 then (spec_SlopeTo.j0 k a0 a1 (a1 == 0)) else (spec_SlopeTo.j0 k a0 a1 false)) else (spec_SlopeTo.j0 k a0 a1 true))) else (spec_SlopeTo.j0 k a0 a1 true))
theorem spec_SlopeTo.calls (k : Nat) (a0 : Int) (a1 : Int) (r1 : Int) (r2 : Bool) (w : World) (h : spec_SlopeTo.f k a0 a1 = some (r1, r2)) :
  Calls Try.prog 88 #[.int .i64 a0, .int .i64 a1] w fun e w' => e = .returned (.tuple #[.int .i64 r1, .bool r2]) ∧ Below w.heap.size w w' := by
 have HB := za (zs w.heap.size w); have H : ((spec_l1In.f a0 0 100000).bind fun t232 => (if t232 = true then ((spec_l2Long.f a1).bind fun t233 => (if t233 = true then (if a0 = 0 then (spec_SlopeTo.j0 k a0 a1 (a1 == 0)) else (spec_SlopeTo.j0 k a0 a1 false)) else (spec_SlopeTo.j0 k a0 a1 true))) else (spec_SlopeTo.j0 k a0 a1 true))) = some (r1, r2) := h; clear h; have HC3 := za H; clear H
 go_enter Try.func88, Try.ntmps88
 go_upto_region 1 with (fail)
 go_cut [24] (fun v24 wc => ∃ (kq : Nat) (x24_2 : Bool), v24 = .bool x24_2 ∧ Aside0 (spec_SlopeTo.j0 kq a0 a1 x24_2 = some (r1, r2)) ∧ Aside0 (kq ≤ k) ∧ Aside0 (Below w.heap.size w wc))
 case first =>
  have H := HC3.1; clear HC3; replace H := bindA H; obtain ⟨t232, A4, H⟩ := H; (try dsimp only at H)
  by_cases c5 : t232 = true
  ·subst c5; rw [yb rfl] at H; replace H := bindA H; obtain ⟨t233, A6, H⟩ := H; (try dsimp only at H)
   by_cases c7 : t233 = true
   ·subst c7; rw [yb rfl] at H
    by_cases c8 : a0 = 0
    ·rw [yb c8] at H; have c8b0 : (a0 == 0) = true := zT c8; have c8b1 : (a0 != 0) = false := zy c8; clear c8
     (first | rw [c8b0] | (simp only [i64_w, i32_w]; rw [c8b0]) | skip)
     have H' := za H; clear H
     go_wp2_with (first | ((with_reducible refine zp (f := 69) rfl ?_); refine zV (some 10) rfl rfl Try.func69 (qS27) rfl #[.int .i64 a0, .int .i64 0, .int .i64 100000] rfl (qS2) ?_; (with_reducible refine (spec_l1In.calls a0 0 100000 true _ A4.1).mono ?_); rintro e w' ⟨rfl, ⟨nd, rfl⟩⟩; refine ⟨_, rfl, ?_⟩) | (go_at_call 97; (with_reducible refine (spec_l2Long.calls a1 true _ A6.1).mono ?_); rintro e w' ⟨rfl, ⟨nd, rfl⟩⟩))
     go_meet
     case rel => exact ⟨_, ((a1 == 0)), (qS16), H', ⟨by first | omega | exact zo _⟩, ⟨(qS0)⟩⟩
    ·rw [yc c8] at H; have c8b0 : (a0 == 0) = false := zx c8; have c8b1 : (a0 != 0) = true := zU c8
     (first | rw [c8b0] | (simp only [i64_w, i32_w]; rw [c8b0]) | skip)
     have H' := za H; clear H
     go_wp2_with (first | ((with_reducible refine zp (f := 69) rfl ?_); refine zV (some 10) rfl rfl Try.func69 (qS27) rfl #[.int .i64 a0, .int .i64 0, .int .i64 100000] rfl (qS2) ?_; (with_reducible refine (spec_l1In.calls a0 0 100000 true _ A4.1).mono ?_); rintro e w' ⟨rfl, ⟨nd, rfl⟩⟩; refine ⟨_, rfl, ?_⟩) | (go_at_call 97; (with_reducible refine (spec_l2Long.calls a1 true _ A6.1).mono ?_); rintro e w' ⟨rfl, ⟨nd, rfl⟩⟩))
     go_meet
     case rel => exact ⟨_, (false), (qS16), H', ⟨by first | omega | exact zo _⟩, ⟨(qS0)⟩⟩
   ·replace c7 := zn c7; subst c7; rw [yc (show ¬ (false = true) by decide)] at H; have H' := za H; clear H
    go_wp2_with (first | ((with_reducible refine zp (f := 69) rfl ?_); refine zV (some 10) rfl rfl Try.func69 (qS27) rfl #[.int .i64 a0, .int .i64 0, .int .i64 100000] rfl (qS2) ?_; (with_reducible refine (spec_l1In.calls a0 0 100000 true _ A4.1).mono ?_); rintro e w' ⟨rfl, ⟨nd, rfl⟩⟩; refine ⟨_, rfl, ?_⟩) | (go_at_call 97; (with_reducible refine (spec_l2Long.calls a1 false _ A6.1).mono ?_); rintro e w' ⟨rfl, ⟨nd, rfl⟩⟩))
    go_meet
    case rel => exact ⟨_, (true), (qS16), H', ⟨by first | omega | exact zo _⟩, ⟨(qS0)⟩⟩
  ·replace c5 := zn c5; subst c5; rw [yc (show ¬ (false = true) by decide)] at H; have H' := za H; clear H
   go_wp2_with (first | ((with_reducible refine zp (f := 69) rfl ?_); refine zV (some 10) rfl rfl Try.func69 (qS27) rfl #[.int .i64 a0, .int .i64 0, .int .i64 100000] rfl (qS2) ?_; (with_reducible refine (spec_l1In.calls a0 0 100000 false _ A4.1).mono ?_); rintro e w' ⟨rfl, ⟨nd, rfl⟩⟩; refine ⟨_, rfl, ?_⟩))
   go_meet
   case rel => exact ⟨_, (true), (qS16), H', ⟨by first | omega | exact zo _⟩, ⟨(qS0)⟩⟩
 case rest =>
  clear HC3; (try clear p2); (try clear c5); (try clear c6); (try clear c7); (try clear c8); (try clear c8b0); (try clear c8b1); obtain ⟨kq, x24_2, rfl, HA, HJ2, HB⟩ := hcut
  cases kq with
  | zero => exact absurd HA.1 (by simp [spec_SlopeTo.j0])
  | succ kj2 =>
   have H := HA.1; clear HA; simp only [spec_SlopeTo.j0] at H
   by_cases c9 : x24_2 = true
   ·subst c9; rw [yb rfl] at H; simp only [yd, ye] at H; obtain ⟨rfl, rfl⟩ := H
    go_wp2
    go_ret2
    exact ⟨(qS11), (qS0)⟩
   ·replace c9 := zn c9; subst c9; rw [yc (show ¬ (false = true) by decide)] at H; have H' := za H; clear H
    go_wp2
    go_loopg [6, 7] kj2 (fun kq v6 v7 w' => ∃ (x6_2 : Int) (x7_2 : Int), v6 = .int .i64 x6_2 ∧ v7 = .int .i64 x7_2 ∧ Aside0 (spec_SlopeTo.l0 kq a0 a1 x6_2 x7_2 = some (r1, r2)) ∧ Aside0 (kq ≤ kj2) ∧ Aside0 (Below w.heap.size w w'))
    case atStart => exact ⟨(0), (1), (qS16), (qS16), H', ⟨zo _⟩, ⟨(qS0)⟩⟩
    case round =>
     clear H'; (try clear p2); (try clear c5); (try clear c6); (try clear c7); (try clear c8); (try clear c8b0); (try clear c8b1); (try clear c9); (try clear p2); obtain ⟨x6_2, x7_2, rfl, rfl, HA, HK2, HB⟩ := hrel
     cases gk with
     | zero => exact absurd HA.1 (by simp [spec_SlopeTo.l0])
     | succ k2 =>
      have H := HA.1; clear HA; simp only [spec_SlopeTo.l0] at H
      by_cases c10 : x7_2 ≤ 90
      ·rw [yb c10] at H; have c10b0 : decide (x7_2 ≤ 90) = true := zc c10; clear c10; have H' := za H; clear H
       go_wp2
       go_loopg [6, 8] k2 (fun kq v6 v8 w' => ∃ (x6_3 : Int) (x8_3 : Int), v6 = .int .i64 x6_3 ∧ v8 = .int .i64 x8_3 ∧ Aside0 (spec_SlopeTo.l1 kq a0 a1 x6_3 x7_2 x8_3 = some (r1, r2)) ∧ Aside0 (kq ≤ k2) ∧ Aside0 (Below w.heap.size w w'))
       case atStart => exact ⟨(x6_2), (1), (qS16), (qS16), H', ⟨zo _⟩, ⟨(qS0)⟩⟩
       case round =>
        clear H'; (try clear c1); (try clear p2); (try clear c5); (try clear c6); (try clear c7); (try clear c8); (try clear c8b0); (try clear c8b1); (try clear c9); (try clear c10); (try clear c10b0); (try clear p2); obtain ⟨x6_3, x8_3, rfl, rfl, HA, HK3, HB⟩ := hrel
        cases gk with
        | zero => exact absurd HA.1 (by simp [spec_SlopeTo.l1])
        | succ k3 =>
         have H := HA.1; clear HA; simp only [spec_SlopeTo.l1] at H
         by_cases c11 : x8_3 ≥ (-1)
         ·rw [yb c11] at H; have c11b0 : decide ((-1) ≤ x8_3) = true := zc c11; clear c11; replace H := bindA H; obtain ⟨t234, A12, H⟩ := H; (try dsimp only at H); replace H := bindA H; obtain ⟨t235, A13, H⟩ := H; (try dsimp only at H); replace H := bindA H; obtain ⟨t236, A14, H⟩ := H; (try dsimp only at H); replace H := bindA H; obtain ⟨t237, A15, H⟩ := H; (try dsimp only at H)
          by_cases c16 : (wrap64 ((wrap64 (a0 * t234)) + (wrap64 (a1 * t235)))) > (wrap64 ((wrap64 (a0 * t236)) + (wrap64 (a1 * t237))))
          ·rw [yb c16] at H; have c16b0 : decide ((wrap64 ((wrap64 (a0 * t236)) + (wrap64 (a1 * t237)))) < (wrap64 ((wrap64 (a0 * t234)) + (wrap64 (a1 * t235))))) = true := zc c16; clear c16; have H' := za H; clear H
           go_wp2_with (first | ((with_reducible refine zp (f := 95) rfl ?_); refine zV (some 35) rfl rfl Try.func95 (qS27) rfl #[.int .i64 x7_2] rfl (qS2) ?_; (with_reducible refine (spec_l2Cosine.calls x7_2 t234 _ A12.1).mono ?_); rintro e w17 ⟨rfl, hb⟩; refine ⟨_, rfl, ?_⟩; replace HB := za qS64; clear hb) | ((with_reducible refine zp (f := 96) rfl ?_); refine zV (some 41) rfl rfl Try.func96 (qS27) rfl #[.int .i64 (wrap64 (x8_3 * x7_2))] rfl (qS2) ?_; (with_reducible refine (spec_l2Sine.calls (wrap64 (x8_3 * x7_2)) t235 _ A13.1).mono ?_); rintro e w18 ⟨rfl, hb⟩; refine ⟨_, rfl, ?_⟩; replace HB := za qS64; clear hb) | ((with_reducible refine zp (f := 95) rfl ?_); refine zV (some 46) rfl rfl Try.func95 (qS27) rfl #[.int .i64 x6_3] rfl (qS2) ?_; (with_reducible refine (spec_l2Cosine.calls x6_3 t236 _ A14.1).mono ?_); rintro e w19 ⟨rfl, hb⟩; refine ⟨_, rfl, ?_⟩; replace HB := za qS64; clear hb) | ((with_reducible refine zp (f := 96) rfl ?_); refine zV (some 50) rfl rfl Try.func96 (qS27) rfl #[.int .i64 x6_3] rfl (qS2) ?_; (with_reducible refine (spec_l2Sine.calls x6_3 t237 _ A15.1).mono ?_); rintro e w20 ⟨rfl, hb⟩; refine ⟨_, rfl, ?_⟩; replace HB := za qS64; clear hb))
           go_roundg k3
           case measure => have := HJ2.1; have := HK2.1; have := HK3.1; omega
           case rel => exact ⟨(wrap64 (x8_3 * x7_2)), (wrap64 (x8_3 - 2)), (qS16), (qS16), H', ⟨by have := HJ2.1; have := HK2.1; have := HK3.1; omega⟩, ⟨(qS0)⟩⟩
          ·rw [yc c16] at H; have c16b0 : decide ((wrap64 ((wrap64 (a0 * t236)) + (wrap64 (a1 * t237)))) < (wrap64 ((wrap64 (a0 * t234)) + (wrap64 (a1 * t235))))) = false := zv c16; clear c16; have H' := za H; clear H
           go_wp2_with (first | ((with_reducible refine zp (f := 95) rfl ?_); refine zV (some 35) rfl rfl Try.func95 (qS27) rfl #[.int .i64 x7_2] rfl (qS2) ?_; (with_reducible refine (spec_l2Cosine.calls x7_2 t234 _ A12.1).mono ?_); rintro e w21 ⟨rfl, hb⟩; refine ⟨_, rfl, ?_⟩; replace HB := za qS64; clear hb) | ((with_reducible refine zp (f := 96) rfl ?_); refine zV (some 41) rfl rfl Try.func96 (qS27) rfl #[.int .i64 (wrap64 (x8_3 * x7_2))] rfl (qS2) ?_; (with_reducible refine (spec_l2Sine.calls (wrap64 (x8_3 * x7_2)) t235 _ A13.1).mono ?_); rintro e w22 ⟨rfl, hb⟩; refine ⟨_, rfl, ?_⟩; replace HB := za qS64; clear hb) | ((with_reducible refine zp (f := 95) rfl ?_); refine zV (some 46) rfl rfl Try.func95 (qS27) rfl #[.int .i64 x6_3] rfl (qS2) ?_; (with_reducible refine (spec_l2Cosine.calls x6_3 t236 _ A14.1).mono ?_); rintro e w23 ⟨rfl, hb⟩; refine ⟨_, rfl, ?_⟩; replace HB := za qS64; clear hb) | ((with_reducible refine zp (f := 96) rfl ?_); refine zV (some 50) rfl rfl Try.func96 (qS27) rfl #[.int .i64 x6_3] rfl (qS2) ?_; (with_reducible refine (spec_l2Sine.calls x6_3 t237 _ A15.1).mono ?_); rintro e w24 ⟨rfl, hb⟩; refine ⟨_, rfl, ?_⟩; replace HB := za qS64; clear hb))
           go_roundg k3
           case measure => have := HJ2.1; have := HK2.1; have := HK3.1; omega
           case rel => exact ⟨(x6_3), (wrap64 (x8_3 - 2)), (qS16), (qS16), H', ⟨by have := HJ2.1; have := HK2.1; have := HK3.1; omega⟩, ⟨(qS0)⟩⟩
         ·rw [yc c11] at H; have c11b0 : decide ((-1) ≤ x8_3) = false := zv c11; clear c11; have H' := za H; clear H
          go_wp2
          go_roundg k3
          case measure => have := HJ2.1; have := HK2.1; have := HK3.1; omega
          case rel => exact ⟨(x6_3), (wrap64 (x7_2 + 1)), (qS16), (qS16), H', ⟨by have := HJ2.1; have := HK2.1; have := HK3.1; omega⟩, ⟨(qS0)⟩⟩
      ·rw [yc c10] at H; have c10b0 : decide (x7_2 ≤ 90) = false := zv c10; clear c10; simp only [yd, ye] at H; obtain ⟨rfl, rfl⟩ := H
       go_wp2
       go_ret2
       exact ⟨(qS11), (qS0)⟩

end Go.Proofs.Ytoljdjgndogegaa.MS
