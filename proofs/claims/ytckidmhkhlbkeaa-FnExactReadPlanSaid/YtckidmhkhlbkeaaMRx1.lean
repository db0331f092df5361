-- tight2 (a walk)
import Derived.Test.YtckidmhkhlbkeaaMRx0
namespace Go.Proofs.Ytckidmhkhlbkeaa.MR
open Go.RowKit Go.Proofs.YtckidmhkhlbkeaaW.PrintWords Go.Proofs.YtckidmhkhlbkeaaW.PrintLast Go.Proofs.YtckidmhkhlbkeaaW.PrintMore
set_option maxHeartbeats 8000000
set_option maxRecDepth 100000
theorem qR1_c0 {p : Prop} (h : p := by
  simp only [Act.put, zT, zU, zV, i64_w, i32_w]
  rfl) : p := h
theorem qR1_c1 {p : Prop} (h : p := by
  intro w'
  go_simp
  with_reducible rfl) : p := h
attribute [local go_sem] max2_int min2_int max_two min_two max_three min_three max_four min_four
set_option linter.unusedVariables false
set_option linter.unusedSimpArgs false

def laws_eqPlanMark.f (a0_0 : ByteArray) (a0_1 : Int) (a0_2 : Int) (a1_0 : ByteArray) (a1_1 : Int) (a1_2 : Int) : Option (Bool) := if a0_0.toList = a1_0.toList then (if a0_1 = a1_1 then (if a0_2 = a1_2 then (some true) else (some false)) else (some false)) else (some false)
theorem laws_eqPlanMark.calls (a0_0 : ByteArray) (a0_1 : Int) (a0_2 : Int) (a1_0 : ByteArray) (a1_1 : Int) (a1_2 : Int) (r : Bool) (w : World) (h : laws_eqPlanMark.f a0_0 a0_1 a0_2 a1_0 a1_1 a1_2 = some r) :
  Calls Try.prog 50 #[.agg #[.string a0_0, .int .i64 a0_1, .int .i64 a0_2], .agg #[.string a1_0, .int .i64 a1_1, .int .i64 a1_2]] w fun e w' => e = .returned (.bool r) ∧ Below w.heap.size w w' := by
 have hu44 := Try.underlying44; have HB := za (zq w.heap.size w); have H : (if a0_0.toList = a1_0.toList then (if a0_1 = a1_1 then (if a0_2 = a1_2 then (some true) else (some false)) else (some false)) else (some false)) = some r := h; clear h
 by_cases c3 : a0_0.toList = a1_0.toList
 ·rw [zP c3] at H; have c3b0 : (a0_0.toList == a1_0.toList) = true := zH c3; have c3b1 : (a0_0.toList != a1_0.toList) = false := zv c3; clear c3
  by_cases c4 : a0_1 = a1_1
  ·rw [zP c4] at H; have c4b0 : (a0_1 == a1_1) = true := zH c4; have c4b1 : (a0_1 != a1_1) = false := zv c4; clear c4
   by_cases c5 : a0_2 = a1_2
   ·rw [zP c5] at H; have c5b0 : (a0_2 == a1_2) = true := zH c5; have c5b1 : (a0_2 != a1_2) = false := zv c5; clear c5; obtain rfl := zl H
    go_enter Try.func50, Try.ntmps50
    go_wp2_with (first | ((with_reducible refine zp (N := 2) rfl ?_); refine zw ?hg (N := 2) ?hd (cs := #[.string a0_0, .int .i64 a0_1, .int .i64 a0_2]) (t := 44) ?hr ?_; (case hd | hg => rfl); (case hr => exact (qR16)); intro gb101 hg w6 hbox hb; have BK101 := za hbox; have GW101 := za qR69; have GE101 := za qR69; replace HB := za qR61; clear hb hbox hg) | ((with_reducible refine zp (N := 3) rfl ?_); refine zw ?hg (N := 3) ?hd (cs := #[.string a1_0, .int .i64 a1_1, .int .i64 a1_2]) (t := 44) ?hr ?_; (case hd | hg => rfl); (case hr => exact (qR16)); intro gb102 hg w7 hbox hb; have BK102 := za hbox; have GW102 := za ((by rw [hg]; exact (zL (qR2 GE101.1)) : w.heap.size ≤ gb102)); have GE102 := za ((by rw [hg]; exact (zL (qR2 GE101.1)) : w.heap.size ≤ gb102)); replace HB := za (zK (qR2 GE101.1) hb); have NB101_102 := za qR39; have NB102_101 := za qR40; replace BK101 := za (zk (qB BK101.1) hb); clear hb hbox hg; have hnb8 := NB101_102.1; have hnc8 := NB102_101.1; have hcz9_0 : w7.cell? ⟨gb101, 0, none⟩ = some (.string a0_0) := (blk_cell BK101.1 0).trans rfl; have hcz9_1 : w7.cell? ⟨gb101, 1, none⟩ = some (.int .i64 a0_1) := (blk_cell BK101.1 1).trans rfl; have hcz9_2 : w7.cell? ⟨gb101, 2, none⟩ = some (.int .i64 a0_2) := (blk_cell BK101.1 2).trans rfl; have hfz9_0 := ze BK101.1 0; have hfz9_1 := ze BK101.1 1; have hfz9_2 := ze BK101.1 2; have hcz10_0 : w7.cell? ⟨gb102, 0, none⟩ = some (.string a1_0) := (blk_cell BK102.1 0).trans rfl; have hcz10_1 : w7.cell? ⟨gb102, 1, none⟩ = some (.int .i64 a1_1) := (blk_cell BK102.1 1).trans rfl; have hcz10_2 : w7.cell? ⟨gb102, 2, none⟩ = some (.int .i64 a1_2) := (blk_cell BK102.1 2).trans rfl; have hfz10_0 := ze BK102.1 0; have hfz10_1 := ze BK102.1 1; have hfz10_2 := ze BK102.1 2))
    go_ret
    exact ⟨(qR9), (qR21 GE101.1 GE102.1)⟩
   ·rw [zQ c5] at H; have c5b0 : (a0_2 == a1_2) = false := zu c5; have c5b1 : (a0_2 != a1_2) = true := zI c5; obtain rfl := zl H
    go_enter Try.func50, Try.ntmps50
    go_wp2_with (first | ((with_reducible refine zp (N := 2) rfl ?_); refine zw ?hg (N := 2) ?hd (cs := #[.string a0_0, .int .i64 a0_1, .int .i64 a0_2]) (t := 44) ?hr ?_; (case hd | hg => rfl); (case hr => exact (qR16)); intro gb101 hg w11 hbox hb; have BK101 := za hbox; have GW101 := za qR69; have GE101 := za qR69; replace HB := za qR61; clear hb hbox hg) | ((with_reducible refine zp (N := 3) rfl ?_); refine zw ?hg (N := 3) ?hd (cs := #[.string a1_0, .int .i64 a1_1, .int .i64 a1_2]) (t := 44) ?hr ?_; (case hd | hg => rfl); (case hr => exact (qR16)); intro gb102 hg w12 hbox hb; have BK102 := za hbox; have GW102 := za ((by rw [hg]; exact (zL (qR2 GE101.1)) : w.heap.size ≤ gb102)); have GE102 := za ((by rw [hg]; exact (zL (qR2 GE101.1)) : w.heap.size ≤ gb102)); replace HB := za (zK (qR2 GE101.1) hb); have NB101_102 := za qR39; have NB102_101 := za qR40; replace BK101 := za (zk (qB BK101.1) hb); clear hb hbox hg; have hnb13 := NB101_102.1; have hnc13 := NB102_101.1; have hcz14_0 : w12.cell? ⟨gb101, 0, none⟩ = some (.string a0_0) := (blk_cell BK101.1 0).trans rfl; have hcz14_1 : w12.cell? ⟨gb101, 1, none⟩ = some (.int .i64 a0_1) := (blk_cell BK101.1 1).trans rfl; have hcz14_2 : w12.cell? ⟨gb101, 2, none⟩ = some (.int .i64 a0_2) := (blk_cell BK101.1 2).trans rfl; have hfz14_0 := ze BK101.1 0; have hfz14_1 := ze BK101.1 1; have hfz14_2 := ze BK101.1 2; have hcz15_0 : w12.cell? ⟨gb102, 0, none⟩ = some (.string a1_0) := (blk_cell BK102.1 0).trans rfl; have hcz15_1 : w12.cell? ⟨gb102, 1, none⟩ = some (.int .i64 a1_1) := (blk_cell BK102.1 1).trans rfl; have hcz15_2 : w12.cell? ⟨gb102, 2, none⟩ = some (.int .i64 a1_2) := (blk_cell BK102.1 2).trans rfl; have hfz15_0 := ze BK102.1 0; have hfz15_1 := ze BK102.1 1; have hfz15_2 := ze BK102.1 2))
    go_ret
    exact ⟨(qR9), (qR21 GE101.1 GE102.1)⟩
  ·rw [zQ c4] at H; have c4b0 : (a0_1 == a1_1) = false := zu c4; have c4b1 : (a0_1 != a1_1) = true := zI c4; obtain rfl := zl H
   go_enter Try.func50, Try.ntmps50
   go_wp2_with (first | ((with_reducible refine zp (N := 2) rfl ?_); refine zw ?hg (N := 2) ?hd (cs := #[.string a0_0, .int .i64 a0_1, .int .i64 a0_2]) (t := 44) ?hr ?_; (case hd | hg => rfl); (case hr => exact (qR16)); intro gb101 hg w16 hbox hb; have BK101 := za hbox; have GW101 := za qR69; have GE101 := za qR69; replace HB := za qR61; clear hb hbox hg) | ((with_reducible refine zp (N := 3) rfl ?_); refine zw ?hg (N := 3) ?hd (cs := #[.string a1_0, .int .i64 a1_1, .int .i64 a1_2]) (t := 44) ?hr ?_; (case hd | hg => rfl); (case hr => exact (qR16)); intro gb102 hg w17 hbox hb; have BK102 := za hbox; have GW102 := za ((by rw [hg]; exact (zL (qR2 GE101.1)) : w.heap.size ≤ gb102)); have GE102 := za ((by rw [hg]; exact (zL (qR2 GE101.1)) : w.heap.size ≤ gb102)); replace HB := za (zK (qR2 GE101.1) hb); have NB101_102 := za qR39; have NB102_101 := za qR40; replace BK101 := za (zk (qB BK101.1) hb); clear hb hbox hg; have hnb18 := NB101_102.1; have hnc18 := NB102_101.1; have hcz19_0 : w17.cell? ⟨gb101, 0, none⟩ = some (.string a0_0) := (blk_cell BK101.1 0).trans rfl; have hcz19_1 : w17.cell? ⟨gb101, 1, none⟩ = some (.int .i64 a0_1) := (blk_cell BK101.1 1).trans rfl; have hcz19_2 : w17.cell? ⟨gb101, 2, none⟩ = some (.int .i64 a0_2) := (blk_cell BK101.1 2).trans rfl; have hfz19_0 := ze BK101.1 0; have hfz19_1 := ze BK101.1 1; have hfz19_2 := ze BK101.1 2; have hcz20_0 : w17.cell? ⟨gb102, 0, none⟩ = some (.string a1_0) := (blk_cell BK102.1 0).trans rfl; have hcz20_1 : w17.cell? ⟨gb102, 1, none⟩ = some (.int .i64 a1_1) := (blk_cell BK102.1 1).trans rfl; have hcz20_2 : w17.cell? ⟨gb102, 2, none⟩ = some (.int .i64 a1_2) := (blk_cell BK102.1 2).trans rfl; have hfz20_0 := ze BK102.1 0; have hfz20_1 := ze BK102.1 1; have hfz20_2 := ze BK102.1 2))
   go_ret
   exact ⟨(qR9), (qR21 GE101.1 GE102.1)⟩
 ·rw [zQ c3] at H; have c3b0 : (a0_0.toList == a1_0.toList) = false := zu c3; have c3b1 : (a0_0.toList != a1_0.toList) = true := zI c3; obtain rfl := zl H
  go_enter Try.func50, Try.ntmps50
  go_wp2_with (first | ((with_reducible refine zp (N := 2) rfl ?_); refine zw ?hg (N := 2) ?hd (cs := #[.string a0_0, .int .i64 a0_1, .int .i64 a0_2]) (t := 44) ?hr ?_; (case hd | hg => rfl); (case hr => exact (qR16)); intro gb101 hg w21 hbox hb; have BK101 := za hbox; have GW101 := za qR69; have GE101 := za qR69; replace HB := za qR61; clear hb hbox hg) | ((with_reducible refine zp (N := 3) rfl ?_); refine zw ?hg (N := 3) ?hd (cs := #[.string a1_0, .int .i64 a1_1, .int .i64 a1_2]) (t := 44) ?hr ?_; (case hd | hg => rfl); (case hr => exact (qR16)); intro gb102 hg w22 hbox hb; have BK102 := za hbox; have GW102 := za ((by rw [hg]; exact (zL (qR2 GE101.1)) : w.heap.size ≤ gb102)); have GE102 := za ((by rw [hg]; exact (zL (qR2 GE101.1)) : w.heap.size ≤ gb102)); replace HB := za (zK (qR2 GE101.1) hb); have NB101_102 := za qR39; have NB102_101 := za qR40; replace BK101 := za (zk (qB BK101.1) hb); clear hb hbox hg; have hnb23 := NB101_102.1; have hnc23 := NB102_101.1; have hcz24_0 : w22.cell? ⟨gb101, 0, none⟩ = some (.string a0_0) := (blk_cell BK101.1 0).trans rfl; have hcz24_1 : w22.cell? ⟨gb101, 1, none⟩ = some (.int .i64 a0_1) := (blk_cell BK101.1 1).trans rfl; have hcz24_2 : w22.cell? ⟨gb101, 2, none⟩ = some (.int .i64 a0_2) := (blk_cell BK101.1 2).trans rfl; have hfz24_0 := ze BK101.1 0; have hfz24_1 := ze BK101.1 1; have hfz24_2 := ze BK101.1 2; have hcz25_0 : w22.cell? ⟨gb102, 0, none⟩ = some (.string a1_0) := (blk_cell BK102.1 0).trans rfl; have hcz25_1 : w22.cell? ⟨gb102, 1, none⟩ = some (.int .i64 a1_1) := (blk_cell BK102.1 1).trans rfl; have hcz25_2 : w22.cell? ⟨gb102, 2, none⟩ = some (.int .i64 a1_2) := (blk_cell BK102.1 2).trans rfl; have hfz25_0 := ze BK102.1 0; have hfz25_1 := ze BK102.1 1; have hfz25_2 := ze BK102.1 2))
  go_ret
  exact ⟨(qR9), (qR21 GE101.1 GE102.1)⟩

def laws_eqPlanMarkS.l0 : Nat → List (S44) → List (S44) → Int → Option (Bool)
 | 0, _, _, _ => none
 | k + 1, x0, x1, x5 => if x5 < (x0.length : Int) then (if 0 ≤ x5 then (if x5 < (x1.length : Int) then ((laws_eqPlanMark.f ((rd_T44 x0 x5).f0) ((rd_T44 x0 x5).f1) ((rd_T44 x0 x5).f2) ((rd_T44 x1 x5).f0) ((rd_T44 x1 x5).f1) ((rd_T44 x1 x5).f2)).bind fun t105 => (if t105 = true then (laws_eqPlanMarkS.l0 k x0 x1 (wrap64 (x5 + 1))) else (some false))) else (none)) else (none)) else (some true)
def laws_eqPlanMarkS.f (k : Nat) (l0 : List (S44)) (l1 : List (S44)) : Option (Bool) := if (l0.length : Int) = (l1.length : Int) then (laws_eqPlanMarkS.l0 k l0 l1 0) else (some false)
def laws_eqPlanMarkS.T6 : Bool × List (List Nat × List Nat) := (true, [([], []), ([], []), ([0, 1], [0, 1]), ([2], [2]), ([], []), ([], []), ([4, 5], [4, 5]), ([6], [6]), ([3, 7], [3, 7]), ([8], [8])])
def laws_eqPlanMarkS.B6 : List Nat := [0, 0, 3, 7, 0, 0, 48, 112, 255, 511]
theorem laws_eqPlanMarkS.tab6 : rtab .any (opsOf Try.f12 6) = laws_eqPlanMarkS.T6 := by kernel_rfl
theorem laws_eqPlanMarkS.bits6 : waitsOk laws_eqPlanMarkS.T6.2 laws_eqPlanMarkS.B6 = true := by kernel_rfl
theorem laws_eqPlanMarkS.calls (k : Nat) (A0 : Option Addr) (c0 : Nat) (l0 : List (S44)) (A1 : Option Addr) (c1 : Nat) (l1 : List (S44)) (r : Bool) (w : World) (hr0 : Kd.C k44 w A0 l0.length l0) (hc0 : l0.length ≤ c0) (hr1 : Kd.C k44 w A1 l1.length l1) (hc1 : l1.length ≤ c1) (h : laws_eqPlanMarkS.f k l0 l1 = some r) :
  Calls Try.prog 12 #[.slice A0 l0.length c0, .slice A1 l1.length c1] w fun e w' => e = .returned (.bool r) ∧ Below w.heap.size w w' := by
 have hu44 := Try.underlying44; have HR0 := za hr0; have HC0 := za hc0; clear hr0 hc0; have HR1 := za hr1; have HC1 := za hc1; clear hr1 hc1; have HB := za (zq w.heap.size w); have H : (if (l0.length : Int) = (l1.length : Int) then (laws_eqPlanMarkS.l0 k l0 l1 0) else (some false)) = some r := h; clear h
 by_cases c3 : (l0.length : Int) = (l1.length : Int)
 ·rw [zP c3] at H; have c3b0 : ((l0.length : Int) == (l1.length : Int)) = true := zH c3; have c3b1 : ((l0.length : Int) != (l1.length : Int)) = false := zv c3
  have c3b2 : (l0.length == l1.length) = true := by first | simpa using c3 | (simp at c3 ⊢; omega)
  clear c3; have H' := za H; clear H
  go_enter Try.func12, Try.ntmps12
  go_wp2
  go_loopg [5] k (fun kq v5 w' => ∃ (x5_1 : Int), v5 = .int .i64 x5_1 ∧ Aside0 (laws_eqPlanMarkS.l0 kq l0 l1 x5_1 = some r) ∧ Aside0 (kq ≤ k) ∧ Aside0 (Below w.heap.size w w'))
  case atStart => exact ⟨(0), (qR10), H', ⟨zn _⟩, ⟨(qR0)⟩⟩
  case round =>
   clear H'; (try clear c3b0); (try clear c3b1); (try clear c3b2); obtain ⟨x5_1, rfl, HA, HK1, HB⟩ := hrel
   cases gk with
   | zero => exact zF HA.1 (by simp [laws_eqPlanMarkS.l0])
   | succ k1 =>
    have H := HA.1; clear HA; simp only [laws_eqPlanMarkS.l0] at H
    by_cases c4 : x5_1 < (l0.length : Int)
    ·rw [zP c4] at H; have c4b0 : decide (x5_1 < (l0.length : Int)) = true := zc c4; clear c4
     by_cases c5 : 0 ≤ x5_1
     ·rw [zP c5] at H; have c5b0 : decide (0 ≤ x5_1) = true := zc c5; clear c5
      by_cases c6 : x5_1 < (l1.length : Int)
      ·rw [zP c6] at H; have c6b0 : decide (x5_1 < (l1.length : Int)) = true := zc c6; clear c6; replace H := bindA H; obtain ⟨t105, A7, H⟩ := H; (try dsimp only at H)
       by_cases c8 : t105 = true
       ·subst c8; rw [zP rfl] at H; have H' := za H; clear H
        try go_wp2
        replace HB := za (below_drew1 HB.1); have p103 : 0 ≤ (x5_1 : Int) := zb (qR6); have q103 : x5_1 < (l0.length : Int) := zb (qR6); obtain ⟨ad103, e103, hx103_0, hx103_1, hx103_2⟩ := at_T44 HR0.1 x5_1 p103 q103; have hw103_2 := hx103_2; have hw103_1 := hx103_1; have hw103_0 := hx103_0; cases e103; replace hx103_0 := (HB.1.cell (zd w _ hx103_0)).trans hx103_0; replace hx103_1 := (HB.1.cell (zd w _ hx103_1)).trans hx103_1; replace hx103_2 := (HB.1.cell (zd w _ hx103_2)).trans hx103_2; replace p103 := zt p103; replace q103 := zt q103; have p104 : 0 ≤ (x5_1 : Int) := zb (qR6); have q104 : x5_1 < (l1.length : Int) := zb (qR6); obtain ⟨ad104, e104, hx104_0, hx104_1, hx104_2⟩ := at_T44 HR1.1 x5_1 p104 q104; have hw104_2 := hx104_2; have hw104_1 := hx104_1; have hw104_0 := hx104_0; cases e104; replace hx104_0 := (HB.1.cell (zd w _ hx104_0)).trans hx104_0; replace hx104_1 := (HB.1.cell (zd w _ hx104_1)).trans hx104_1; replace hx104_2 := (HB.1.cell (zd w _ hx104_2)).trans hx104_2; replace p104 := zt p104; replace q104 := zt q104
        refine start_ (n := 10) (S := fun w' => w'.cell? (ad103.add ((x5_1).toNat * 3)) = some (.string ((rd_T44 l0 x5_1).f0)) ∧ w'.cell? ⟨(ad103.add ((x5_1).toNat * 3)).block, (ad103.add ((x5_1).toNat * 3)).off + 1, none⟩ = some (.int .i64 ((rd_T44 l0 x5_1).f1)) ∧ w'.cell? ⟨(ad103.add ((x5_1).toNat * 3)).block, (ad103.add ((x5_1).toNat * 3)).off + 2, none⟩ = some (.int .i64 ((rd_T44 l0 x5_1).f2)) ∧ w'.cell? (ad104.add ((x5_1).toNat * 3)) = some (.string ((rd_T44 l1 x5_1).f0)) ∧ w'.cell? ⟨(ad104.add ((x5_1).toNat * 3)).block, (ad104.add ((x5_1).toNat * 3)).off + 1, none⟩ = some (.int .i64 ((rd_T44 l1 x5_1).f1)) ∧ w'.cell? ⟨(ad104.add ((x5_1).toNat * 3)).block, (ad104.add ((x5_1).toNat * 3)).off + 2, none⟩ = some (.int .i64 ((rd_T44 l1 x5_1).f2))) (ds := []) qRb0 (qR8) rfl rfl ⟨((HB.1.cell (zd w _ hw103_0)).trans hw103_0), ((HB.1.cell (zd w _ hw103_1)).trans hw103_1), ((HB.1.cell (zd w _ hw103_2)).trans hw103_2), ((HB.1.cell (zd w _ hw104_0)).trans hw104_0), ((HB.1.cell (zd w _ hw104_1)).trans hw104_1), ((HB.1.cell (zd w _ hw104_2)).trans hw104_2)⟩ (fun hHeld => ?_); refine with_tabW laws_eqPlanMarkS.tab6 laws_eqPlanMarkS.bits6 (fun HT_ HW_ => ?_)
        generalize wr.drew = w9 at HB hx103_0 hx103_1 hx103_2 hx104_0 hx104_1 hx104_2 hHeld ⊢
        refine pure_ (i := 0) (N := some 17) (v := ?_) (a' := ?_) qRb1 rfl rfl (qR3) (fun _ _ _ h => h) (zM ⟨by rfl, ?_⟩) ?_ ?_
        rotate_left; exact qR1_c1; rotate_left; exact qR1_c0
        refine pure_ (i := 1) (N := some 18) (v := ?_) (a' := ?_) qRb2 rfl rfl (qR3) (fun _ _ _ h => h) (zM ⟨by rfl, ?_⟩) ?_ ?_
        rotate_left; exact qR1_c1; rotate_left; exact qR1_c0
        refine pure_ (i := 2) (N := some 19) (v := ?_) (a' := ?_) qRb3 rfl rfl (qR3) (fun _ _ _ h => h) (zM ⟨by rfl, ?_⟩) ?_ ?_
        rotate_left; exact qR1_c1; rotate_left; exact qR1_c0
        refine pure_ (i := 4) (N := some 21) (v := ?_) (a' := ?_) qRb4 rfl rfl (qR3) (fun _ _ _ h => h) (zM ⟨by rfl, ?_⟩) ?_ ?_
        rotate_left; exact qR1_c1; rotate_left; exact qR1_c0
        refine pure_ (i := 5) (N := some 22) (v := ?_) (a' := ?_) qRb5 rfl rfl (qR3) (fun _ _ _ h => h) (zM ⟨by rfl, ?_⟩) ?_ ?_
        rotate_left; exact qR1_c1; rotate_left; exact qR1_c0
        refine pure_ (i := 6) (N := some 23) (v := ?_) (a' := ?_) qRb6 rfl rfl (qR3) (fun _ _ _ h => h) (zM ⟨by rfl, ?_⟩) ?_ ?_
        rotate_left; exact qR1_c1; rotate_left; exact qR1_c0
        refine take_ (i := 3) (N := some 20) (v := ?_) (a' := ?_) qRb7 rfl rfl (take_ofW HT_.1 HW_.1 (qR8)) (fun _ _ _ h => h) (zM ⟨by rfl, ?_⟩) hHeld ?_ ?_
        rotate_left
        ·rintro w' ⟨s0, s1, s2, s3, s4, s5⟩
         go_simp
         with_reducible rfl
        rotate_left
        ·exact qR1_c0
        refine take_ (i := 7) (N := some 24) (v := ?_) (a' := ?_) qRb8 rfl rfl (take_ofW HT_.1 HW_.1 (qR8)) (fun _ _ _ h => h) (zM ⟨by rfl, ?_⟩) hHeld ?_ ?_
        rotate_left
        ·rintro w' ⟨s0, s1, s2, s3, s4, s5⟩
         go_simp
         with_reducible rfl
        rotate_left
        ·exact qR1_c0
        refine one_ (i := 8) (N := some 25) qRb9 rfl rfl (qR63) (by decide) (fun K hK => ?_)
        refine goes_ Try.func50 (qR8) rfl #[.agg #[.string ((rd_T44 l0 x5_1).f0), .int .i64 ((rd_T44 l0 x5_1).f1), .int .i64 ((rd_T44 l0 x5_1).f2)], .agg #[.string ((rd_T44 l1 x5_1).f0), .int .i64 ((rd_T44 l1 x5_1).f1), .int .i64 ((rd_T44 l1 x5_1).f2)]] (by rfl) rfl rfl (qR4) ?_
        with_reducible refine (laws_eqPlanMark.calls ((rd_T44 l0 x5_1).f0) ((rd_T44 l0 x5_1).f1) ((rd_T44 l0 x5_1).f2) ((rd_T44 l1 x5_1).f0) ((rd_T44 l1 x5_1).f1) ((rd_T44 l1 x5_1).f2) true _ A7.1).mono ?_
        rintro e w10 ⟨rfl, hb⟩
        refine ⟨_, rfl, ?_⟩
        replace HB := za qR61
        (try clear hb)
        (try clear hb2)
        (try clear hk)
        (try clear hi)
        refine hK.out _ _ ⟨((HB.1.cell (zd w _ hw103_0)).trans hw103_0), ((HB.1.cell (zd w _ hw103_1)).trans hw103_1), ((HB.1.cell (zd w _ hw103_2)).trans hw103_2), ((HB.1.cell (zd w _ hw104_0)).trans hw104_0), ((HB.1.cell (zd w _ hw104_1)).trans hw104_1), ((HB.1.cell (zd w _ hw104_2)).trans hw104_2)⟩ (fun hHeld => ?_)
        clear hK K
        refine norm_ (a' := ?_) ?_ ?_
        rotate_left
        ·show Act.put _ (some 25) _ = _
         simp only [Act.put, zT, zU, zV, i64_w, i32_w]
         rfl
        refine pure_ (i := 9) (N := some 26) (v := ?_) (a' := ?_) qRb10 rfl rfl (qR3) (fun _ _ _ h => h) (zM ⟨by rfl, ?_⟩) ?_ ?_
        rotate_left; exact qR1_c1; rotate_left; exact qR1_c0
        refine done_ (qR68) ?_
        try go_wp2
        go_roundg k1
        case measure => have := HK1.1; omega
        case rel => exact ⟨(wrap64 (x5_1 + 1)), (qR10), H', ⟨by have := HK1.1; omega⟩, ⟨(qR0)⟩⟩
       ·replace c8 := zm c8; subst c8; rw [zQ (show ¬ (false = true) by decide)] at H; obtain rfl := zl H
        try go_wp2
        replace HB := za (below_drew1 HB.1); have p103 : 0 ≤ (x5_1 : Int) := zb (qR6); have q103 : x5_1 < (l0.length : Int) := zb (qR6); obtain ⟨ad103, e103, hx103_0, hx103_1, hx103_2⟩ := at_T44 HR0.1 x5_1 p103 q103; have hw103_2 := hx103_2; have hw103_1 := hx103_1; have hw103_0 := hx103_0; cases e103; replace hx103_0 := (HB.1.cell (zd w _ hx103_0)).trans hx103_0; replace hx103_1 := (HB.1.cell (zd w _ hx103_1)).trans hx103_1; replace hx103_2 := (HB.1.cell (zd w _ hx103_2)).trans hx103_2; replace p103 := zt p103; replace q103 := zt q103; have p104 : 0 ≤ (x5_1 : Int) := zb (qR6); have q104 : x5_1 < (l1.length : Int) := zb (qR6); obtain ⟨ad104, e104, hx104_0, hx104_1, hx104_2⟩ := at_T44 HR1.1 x5_1 p104 q104; have hw104_2 := hx104_2; have hw104_1 := hx104_1; have hw104_0 := hx104_0; cases e104; replace hx104_0 := (HB.1.cell (zd w _ hx104_0)).trans hx104_0; replace hx104_1 := (HB.1.cell (zd w _ hx104_1)).trans hx104_1; replace hx104_2 := (HB.1.cell (zd w _ hx104_2)).trans hx104_2; replace p104 := zt p104; replace q104 := zt q104
        refine start_ (n := 10) (S := fun w' => w'.cell? (ad103.add ((x5_1).toNat * 3)) = some (.string ((rd_T44 l0 x5_1).f0)) ∧ w'.cell? ⟨(ad103.add ((x5_1).toNat * 3)).block, (ad103.add ((x5_1).toNat * 3)).off + 1, none⟩ = some (.int .i64 ((rd_T44 l0 x5_1).f1)) ∧ w'.cell? ⟨(ad103.add ((x5_1).toNat * 3)).block, (ad103.add ((x5_1).toNat * 3)).off + 2, none⟩ = some (.int .i64 ((rd_T44 l0 x5_1).f2)) ∧ w'.cell? (ad104.add ((x5_1).toNat * 3)) = some (.string ((rd_T44 l1 x5_1).f0)) ∧ w'.cell? ⟨(ad104.add ((x5_1).toNat * 3)).block, (ad104.add ((x5_1).toNat * 3)).off + 1, none⟩ = some (.int .i64 ((rd_T44 l1 x5_1).f1)) ∧ w'.cell? ⟨(ad104.add ((x5_1).toNat * 3)).block, (ad104.add ((x5_1).toNat * 3)).off + 2, none⟩ = some (.int .i64 ((rd_T44 l1 x5_1).f2))) (ds := []) qRb0 (qR8) rfl rfl ⟨((HB.1.cell (zd w _ hw103_0)).trans hw103_0), ((HB.1.cell (zd w _ hw103_1)).trans hw103_1), ((HB.1.cell (zd w _ hw103_2)).trans hw103_2), ((HB.1.cell (zd w _ hw104_0)).trans hw104_0), ((HB.1.cell (zd w _ hw104_1)).trans hw104_1), ((HB.1.cell (zd w _ hw104_2)).trans hw104_2)⟩ (fun hHeld => ?_); refine with_tabW laws_eqPlanMarkS.tab6 laws_eqPlanMarkS.bits6 (fun HT_ HW_ => ?_)
        generalize wr.drew = w11 at HB hx103_0 hx103_1 hx103_2 hx104_0 hx104_1 hx104_2 hHeld ⊢
        refine pure_ (i := 0) (N := some 17) (v := ?_) (a' := ?_) qRb1 rfl rfl (qR3) (fun _ _ _ h => h) (zM ⟨by rfl, ?_⟩) ?_ ?_
        rotate_left; exact qR1_c1; rotate_left; exact qR1_c0
        refine pure_ (i := 1) (N := some 18) (v := ?_) (a' := ?_) qRb2 rfl rfl (qR3) (fun _ _ _ h => h) (zM ⟨by rfl, ?_⟩) ?_ ?_
        rotate_left; exact qR1_c1; rotate_left; exact qR1_c0
        refine pure_ (i := 2) (N := some 19) (v := ?_) (a' := ?_) qRb3 rfl rfl (qR3) (fun _ _ _ h => h) (zM ⟨by rfl, ?_⟩) ?_ ?_
        rotate_left; exact qR1_c1; rotate_left; exact qR1_c0
        refine pure_ (i := 4) (N := some 21) (v := ?_) (a' := ?_) qRb4 rfl rfl (qR3) (fun _ _ _ h => h) (zM ⟨by rfl, ?_⟩) ?_ ?_
        rotate_left; exact qR1_c1; rotate_left; exact qR1_c0
        refine pure_ (i := 5) (N := some 22) (v := ?_) (a' := ?_) qRb5 rfl rfl (qR3) (fun _ _ _ h => h) (zM ⟨by rfl, ?_⟩) ?_ ?_
        rotate_left; exact qR1_c1; rotate_left; exact qR1_c0
        refine pure_ (i := 6) (N := some 23) (v := ?_) (a' := ?_) qRb6 rfl rfl (qR3) (fun _ _ _ h => h) (zM ⟨by rfl, ?_⟩) ?_ ?_
        rotate_left; exact qR1_c1; rotate_left; exact qR1_c0
        refine take_ (i := 3) (N := some 20) (v := ?_) (a' := ?_) qRb7 rfl rfl (take_ofW HT_.1 HW_.1 (qR8)) (fun _ _ _ h => h) (zM ⟨by rfl, ?_⟩) hHeld ?_ ?_
        rotate_left
        ·rintro w' ⟨s0, s1, s2, s3, s4, s5⟩
         go_simp
         with_reducible rfl
        rotate_left
        ·exact qR1_c0
        refine take_ (i := 7) (N := some 24) (v := ?_) (a' := ?_) qRb8 rfl rfl (take_ofW HT_.1 HW_.1 (qR8)) (fun _ _ _ h => h) (zM ⟨by rfl, ?_⟩) hHeld ?_ ?_
        rotate_left
        ·rintro w' ⟨s0, s1, s2, s3, s4, s5⟩
         go_simp
         with_reducible rfl
        rotate_left
        ·exact qR1_c0
        refine one_ (i := 8) (N := some 25) qRb9 rfl rfl (qR63) (by decide) (fun K hK => ?_)
        refine goes_ Try.func50 (qR8) rfl #[.agg #[.string ((rd_T44 l0 x5_1).f0), .int .i64 ((rd_T44 l0 x5_1).f1), .int .i64 ((rd_T44 l0 x5_1).f2)], .agg #[.string ((rd_T44 l1 x5_1).f0), .int .i64 ((rd_T44 l1 x5_1).f1), .int .i64 ((rd_T44 l1 x5_1).f2)]] (by rfl) rfl rfl (qR4) ?_
        with_reducible refine (laws_eqPlanMark.calls ((rd_T44 l0 x5_1).f0) ((rd_T44 l0 x5_1).f1) ((rd_T44 l0 x5_1).f2) ((rd_T44 l1 x5_1).f0) ((rd_T44 l1 x5_1).f1) ((rd_T44 l1 x5_1).f2) false _ A7.1).mono ?_
        rintro e w12 ⟨rfl, hb⟩
        refine ⟨_, rfl, ?_⟩
        replace HB := za qR61
        (try clear hb)
        (try clear hb2)
        (try clear hk)
        (try clear hi)
        refine hK.out _ _ ⟨((HB.1.cell (zd w _ hw103_0)).trans hw103_0), ((HB.1.cell (zd w _ hw103_1)).trans hw103_1), ((HB.1.cell (zd w _ hw103_2)).trans hw103_2), ((HB.1.cell (zd w _ hw104_0)).trans hw104_0), ((HB.1.cell (zd w _ hw104_1)).trans hw104_1), ((HB.1.cell (zd w _ hw104_2)).trans hw104_2)⟩ (fun hHeld => ?_)
        clear hK K
        refine norm_ (a' := ?_) ?_ ?_
        rotate_left
        ·show Act.put _ (some 25) _ = _
         simp only [Act.put, zT, zU, zV, i64_w, i32_w]
         rfl
        refine pure_ (i := 9) (N := some 26) (v := ?_) (a' := ?_) qRb10 rfl rfl (qR3) (fun _ _ _ h => h) (zM ⟨by rfl, ?_⟩) ?_ ?_
        rotate_left; exact qR1_c1; rotate_left; exact qR1_c0
        refine done_ (qR68) ?_
        try go_wp2
        go_ret
        exact ⟨(qR9), (qR0)⟩
      ·rw [zQ c6] at H
       exact zF H (by simp)
     ·rw [zQ c5] at H
      exact zF H (by simp)
    ·rw [zQ c4] at H; have c4b0 : decide (x5_1 < (l0.length : Int)) = false := zs c4; clear c4; obtain rfl := zl H
     go_wp2
     go_ret
     exact ⟨(qR9), (qR0)⟩
 ·rw [zQ c3] at H; have c3b0 : ((l0.length : Int) == (l1.length : Int)) = false := zu c3; have c3b1 : ((l0.length : Int) != (l1.length : Int)) = true := zI c3
  have c3b2 : (l0.length == l1.length) = false := by first | simpa using c3 | (simp at c3 ⊢; omega)
  obtain rfl := zl H
  go_enter Try.func12, Try.ntmps12
  go_wp2
  go_ret
  exact ⟨(qR9), (qR0)⟩

def laws_markText.l0 : Nat → Int → ByteArray → Option (ByteArray)
 | 0, _, _ => none
 | k + 1, x0, x3 => if x0 > 0 then ((some (([(wrap64 (48 + (Int.tmod x0 10))) % 256] : List Int) : List Int)).bind fun y106 => (if (strOfNums y106).size + x3.size ≤ 9223372036854775807 then (laws_markText.l0 k (wrap64 (Int.tdiv x0 10)) ((strOfNums y106) ++ x3)) else (none))) else (if 1 + x3.size ≤ 9223372036854775807 then (some ((⟨#[109]⟩ : ByteArray) ++ x3)) else (none))
def laws_markText.f (k : Nat) (a0 : Int) : Option (ByteArray) := if a0 ≤ 0 then (some (⟨#[109, 48]⟩ : ByteArray)) else (laws_markText.l0 k a0 (⟨#[]⟩ : ByteArray))
theorem laws_markText.calls (k : Nat) (a0 : Int) (r : ByteArray) (w : World) (h : laws_markText.f k a0 = some r) :
  Calls Try.prog 54 #[.int .i64 a0] w fun e w' => e = .returned (.string r) ∧ Below w.heap.size w w' := by
 have HB := za (zq w.heap.size w); have H : (if a0 ≤ 0 then (some (⟨#[109, 48]⟩ : ByteArray)) else (laws_markText.l0 k a0 (⟨#[]⟩ : ByteArray))) = some r := h; clear h
 by_cases c2 : a0 ≤ 0
 ·rw [zP c2] at H; have c2b0 : decide (a0 ≤ 0) = true := zc c2; clear c2; obtain rfl := zl H
  go_enter Try.func54, Try.ntmps54
  go_wp2
  go_ret
  exact ⟨(qR9), (qR0)⟩
 ·rw [zQ c2] at H; have c2b0 : decide (a0 ≤ 0) = false := zs c2; clear c2; have H' := za H; clear H
  go_enter Try.func54, Try.ntmps54
  go_wp2
  go_loopg [0, 3] k (fun kq v0 v3 w' => ∃ (x0_1 : Int) (x3_1 : ByteArray), v0 = .int .i64 x0_1 ∧ v3 = .string x3_1 ∧ Aside0 (laws_markText.l0 kq x0_1 x3_1 = some r) ∧ Aside0 (kq ≤ k) ∧ Aside0 (Below w.heap.size w w'))
  case atStart => exact ⟨(a0), ((⟨#[]⟩ : ByteArray)), (qR10), (qR10), H', ⟨zn _⟩, ⟨(qR0)⟩⟩
  case round =>
   clear H'; (try clear c2b0); obtain ⟨x0_1, x3_1, rfl, rfl, HA, HK1, HB⟩ := hrel
   cases gk with
   | zero => exact zF HA.1 (by simp [laws_markText.l0])
   | succ k1 =>
    have H := HA.1; clear HA; simp only [laws_markText.l0] at H
    by_cases c3 : x0_1 > 0
    ·rw [zP c3] at H; have c3b0 : decide (0 < x0_1) = true := zc c3; clear c3; obtain ⟨y106, hy106⟩ : ∃ y_ : List Int, y_ = (([(wrap64 (48 + (Int.tmod x0_1 10))) % 256] : List Int)) := ⟨_, rfl⟩; replace H : (if (strOfNums y106).size + x3_1.size ≤ 9223372036854775807 then (laws_markText.l0 k1 (wrap64 (Int.tdiv x0_1 10)) ((strOfNums y106) ++ x3_1)) else (none)) = some r := (qR5 hy106); have Ny106 := za hy106; clear hy106
     by_cases c4 : (strOfNums y106).size + x3_1.size ≤ 9223372036854775807
     ·rw [zP c4] at H; have c4b0 := zt c4; have c4b1 : decide ((strOfNums y106).size + x3_1.size ≤ 9223372036854775807) = true := zc c4
      try have c4b2 : (9223372036854775807 < (strOfNums y106).size + x3_1.size) = False := eq_false (Nat.not_lt.2 c4)
      have H' := za H; clear H
      go_wp2_with (first | ((with_reducible refine zp (N := 12) rfl ?_); refine Kd.R_lit (Kd.int .u8) _ 5 ?hg (N := 12) ?hd (xs := ([(wrap64 (48 + (Int.tmod x0_1 10))) % 256] : List Int)) (inner := [.int .u8 ((wrap64 (48 + (Int.tmod x0_1 10))) % 256)]) (ok := fun _ => True) (okp := fun _ => True) ?hr ?hp (fun _ hk => hk) trivial (zq _ _) (zn _) (by simp) ?_; (case hd | hg => rfl); (case hr => exact (qR16)); (case hp => exact (by exact (Reps.one (show Kd.M (Kd.int .u8) _ _ _ ((wrap64 (48 + (Int.tmod x0_1 10))) % 256) [.int .u8 ((wrap64 (48 + (Int.tmod x0_1 10))) % 256)] from rfl) (zr _ _)))); intro v107 w5 ho6 hb hg_ hnew_; clear hg_ hnew_; (first | rw [← Ny106.1] at ho6 | (simp only [Int.reduceToNat] at ho6; rw [← Ny106.1] at ho6)); have HO108 := za (qR81 ho6); replace HB := za qR61; clear hb ho6; have hcv7 := own_string (P := Try.prog) Try.underlying36 Try.underlying5 Try.underlying9 (Kd.own_of_R HO108.1)))
      go_roundg k1
      case measure => have := HK1.1; omega
      case rel => exact ⟨(wrap64 (Int.tdiv x0_1 10)), ((strOfNums y106) ++ x3_1), (qR10), (qR10), H', ⟨by have := HK1.1; omega⟩, ⟨(qR0)⟩⟩
     ·rw [zQ c4] at H
      exact zF H (by simp)
    ·rw [zQ c3] at H; have c3b0 : decide (0 < x0_1) = false := zs c3; clear c3
     by_cases c8 : 1 + x3_1.size ≤ 9223372036854775807
     ·rw [zP c8] at H; have c8b0 := zt c8; have c8b1 : decide (1 + x3_1.size ≤ 9223372036854775807) = true := zc c8
      try have c8b2 : (9223372036854775807 < 1 + x3_1.size) = False := eq_false (Nat.not_lt.2 c8)
      obtain rfl := zl H
      go_wp2
      go_ret
      exact ⟨(qR9), (qR0)⟩
     ·rw [zQ c8] at H
      exact zF H (by simp)

def laws_markPlanMarkS.l0 : Nat → List (S44) → Int → Int → Option (Int × (List (S44)))
 | 0, _, _, _ => none
 | k + 1, x0, x1, x5 => if x5 < (x0.length : Int) then ((laws_markText.f k x1).bind fun t109 => (if 0 ≤ x5 then ((some (x0.set (x5 : Int).toNat (⟨t109, (rd_T44 x0 x5).f1, (rd_T44 x0 x5).f2⟩ : S44) : List (S44))).bind fun y110 => ((some (y110.set (x5 : Int).toNat (⟨(rd_T44 y110 x5).f0, wrap64 (x1 + 1), (rd_T44 y110 x5).f2⟩ : S44) : List (S44))).bind fun y111 => (laws_markPlanMarkS.l0 k (y111.set (x5 : Int).toNat (⟨(rd_T44 y111 x5).f0, (rd_T44 y111 x5).f1, wrap64 ((wrap64 (x1 + 1)) + 1)⟩ : S44)) (wrap64 ((wrap64 ((wrap64 (x1 + 1)) + 1)) + 1)) (wrap64 (x5 + 1))))) else (none))) else (some (x1, x0))
def laws_markPlanMarkS.f (k : Nat) (l0 : List (S44)) (a1 : Int) : Option (Int × (List (S44))) := laws_markPlanMarkS.l0 k l0 a1 0
theorem laws_markPlanMarkS.calls (k : Nat) (P0_ : Nat → Prop) (u9000_ : Value) (l0 : List (S44)) (a1 : Int) (r1 : Int) (r2 : List (S44)) (w0 w : World) (hB : Below w0.heap.size w0 w) (ho0 : Kd.R k44 44 w w0.heap.size P0_ u9000_ l0) (h : laws_markPlanMarkS.f k l0 a1 = some (r1, r2)) :
  Calls Try.prog 16 #[u9000_, .int .i64 a1] w fun e w' => e = .returned (.int .i64 r1) ∧ Kd.R k44 44 w' w0.heap.size (fun k_ => (P0_ k_ ∨ w.heap.size ≤ k_)) u9000_ r2 ∧ Below w0.heap.size w0 w' ∧ Kept w w' (fun k_ => P0_ k_) := by
 have HO0 := za (by exact show Kd.R k44 44 w w0.heap.size (fun k_ => (P0_ k_ ∨ w.heap.size ≤ k_)) u9000_ l0 from zA ho0 (fun k_ hk => (.inl hk))); have HK := za (Kept.refl w (fun k_ => P0_ k_)); have HW0 := za hB.size; have HB := za hB; clear hB; have H : (laws_markPlanMarkS.l0 k l0 a1 0) = some (r1, r2) := h; clear h; have H' := za H; clear H
 go_enter Try.func16, Try.ntmps16
 go_wp2
 go_loopg [1, 5] k (fun kq v1 v5 w' => ∃ (x0_1 : List (S44)) (x1_1 : Int) (x5_1 : Int), v1 = .int .i64 x1_1 ∧ v5 = .int .i64 x5_1 ∧ Aside0 (laws_markPlanMarkS.l0 kq x0_1 x1_1 x5_1 = some (r1, r2)) ∧ Aside0 (kq ≤ k) ∧ Aside0 (Kd.R k44 44 w' w0.heap.size (fun k_ => (P0_ k_ ∨ w.heap.size ≤ k_)) u9000_ x0_1) ∧ Aside0 (Kept w w' (fun k_ => P0_ k_)) ∧ Aside0 (Below w0.heap.size w0 w'))
 case atStart => exact ⟨(l0), (a1), (0), (qR10), (qR10), H', ⟨zn _⟩, ⟨(qR1 HO0.1)⟩, ⟨(qR27)⟩, ⟨(qR0)⟩⟩
 case round =>
  clear H'; obtain ⟨x0_1, x1_1, x5_1, rfl, rfl, HA, HK1, HO_0, HK, HB⟩ := hrel
  cases gk with
  | zero => exact zF HA.1 (by simp [laws_markPlanMarkS.l0])
  | succ k1 =>
   have H := HA.1; clear HA; simp only [laws_markPlanMarkS.l0] at H
   by_cases c3 : x5_1 < (x0_1.length : Int)
   ·rw [zP c3] at H; have c3b0 : decide (x5_1 < (x0_1.length : Int)) = true := zc c3; clear c3; replace H := bindA H; obtain ⟨t109, A4, H⟩ := H; (try dsimp only at H)
    by_cases c5 : 0 ≤ x5_1
    ·rw [zP c5] at H; have c5b0 : decide (0 ≤ x5_1) = true := zc c5; clear c5; obtain ⟨y110, hy110⟩ : ∃ y_ : List (S44), y_ = (x0_1.set (x5_1 : Int).toNat (⟨t109, (rd_T44 x0_1 x5_1).f1, (rd_T44 x0_1 x5_1).f2⟩ : S44)) := ⟨_, rfl⟩; replace H : ((some (y110.set (x5_1 : Int).toNat (⟨(rd_T44 y110 x5_1).f0, wrap64 (x1_1 + 1), (rd_T44 y110 x5_1).f2⟩ : S44) : List (S44))).bind fun y111 => (laws_markPlanMarkS.l0 k1 (y111.set (x5_1 : Int).toNat (⟨(rd_T44 y111 x5_1).f0, (rd_T44 y111 x5_1).f1, wrap64 ((wrap64 (x1_1 + 1)) + 1)⟩ : S44)) (wrap64 ((wrap64 ((wrap64 (x1_1 + 1)) + 1)) + 1)) (wrap64 (x5_1 + 1)))) = some (r1, r2) := (qR5 hy110); have Ny110 := za hy110; clear hy110; obtain ⟨y111, hy111⟩ : ∃ y_ : List (S44), y_ = (y110.set (x5_1 : Int).toNat (⟨(rd_T44 y110 x5_1).f0, wrap64 (x1_1 + 1), (rd_T44 y110 x5_1).f2⟩ : S44)) := ⟨_, rfl⟩; replace H : (laws_markPlanMarkS.l0 k1 (y111.set (x5_1 : Int).toNat (⟨(rd_T44 y111 x5_1).f0, (rd_T44 y111 x5_1).f1, wrap64 ((wrap64 (x1_1 + 1)) + 1)⟩ : S44)) (wrap64 ((wrap64 ((wrap64 (x1_1 + 1)) + 1)) + 1)) (wrap64 (x5_1 + 1))) = some (r1, r2) := (qR5 hy111); have Ny111 := za hy111; clear hy111; obtain ⟨y112, hy112⟩ : ∃ y_ : List (S44), y_ = (y111.set (x5_1 : Int).toNat (⟨(rd_T44 y111 x5_1).f0, (rd_T44 y111 x5_1).f1, wrap64 ((wrap64 (x1_1 + 1)) + 1)⟩ : S44)) := ⟨_, rfl⟩; replace H : (laws_markPlanMarkS.l0 k1 y112 (wrap64 ((wrap64 ((wrap64 (x1_1 + 1)) + 1)) + 1)) (wrap64 (x5_1 + 1))) = some (r1, r2) := (qR5 hy112); have Ny112 := za hy112; clear hy112
     have H' := za H; clear H; obtain ⟨Ao9, co9, eo9⟩ := zz HO_0.1; subst eo9
     go_wp2_with (first | ((with_reducible refine zo (f := 54) rfl ?_); refine zJ (some 15) rfl rfl Try.func54 (qR8) rfl #[.int .i64 x1_1] rfl (qR4) ?_; (with_reducible refine (laws_markText.calls k1 x1_1 t109 _ A4.1).mono ?_); rintro e w10 ⟨rfl, hb⟩; refine ⟨_, rfl, ?_⟩; replace HO_0 := za (qR64 HO_0.1); replace HK := za (by exact Kept.below (S := (fun k_ => P0_ k_)) (qR27) hb); replace HB := za qR61; clear hb; have p6 : 0 ≤ (x5_1 : Int) := zb (qR6); have q6 : (x5_1 : Int) < ((x0_1.length : Int) : Int) := zb (qR6); obtain ⟨go6, co6, eo6, gb6, gl6, cl6, HG6⟩ := Kd.R_form HO_0.1 (by omega); (first | cases eo6 | (injection eo6 with ea_ en_ ec_; (first | subst ea_ | (injection ea_ with ea_; subst ea_)); subst ec_; clear en_)); have GB6 := za gb6; have GG6 := za HG6; clear gb6 gl6 HG6; have HMgo6 := za (by exact show (P0_ go6 ∨ w.heap.size ≤ go6) from (HO_0.1.1 _ rfl)); obtain ⟨ce6, hcl6, hM6, hcc6, hfr6⟩ := Kd.R_elem HO_0.1 z44 (x5_1 : Int) p6 q6; obtain rfl := k44_openM hM6; have hx6_0 : w10.cell? ⟨go6, (x5_1 : Int).toNat * 3, none⟩ = some (.string ((rd_T44 x0_1 x5_1).f0)) := hcc6 0 _ rfl; have hx6_1 : w10.cell? ⟨go6, (x5_1 : Int).toNat * 3 + 1, none⟩ = some (.int .i64 ((rd_T44 x0_1 x5_1).f1)) := hcc6 1 _ rfl; have hx6_2 : w10.cell? ⟨go6, (x5_1 : Int).toNat * 3 + 2, none⟩ = some (.int .i64 ((rd_T44 x0_1 x5_1).f2)) := hcc6 2 _ rfl; have hf6_0 : w10.frozen? ⟨go6, (x5_1 : Int).toNat * 3, none⟩ = false := hfr6 0; have hf6_1 : w10.frozen? ⟨go6, (x5_1 : Int).toNat * 3 + 1, none⟩ = false := hfr6 1; have hf6_2 : w10.frozen? ⟨go6, (x5_1 : Int).toNat * 3 + 2, none⟩ = false := hfr6 2; clear hcl6 hcc6 hfr6 hM6; replace p6 := zt p6; replace q6 := zt q6; have HX11 := za (by exact show Kd.R k44 44 w10 w0.heap.size (fun k_ => (P0_ k_ ∨ w.heap.size ≤ k_)) (.slice (some ⟨go6, 0, none⟩) x0_1.length co9) x0_1 from (qR1 HO_0.1)); obtain ⟨ce11, hcl11, hM11, hcc11, hfr11⟩ := Kd.R_elem HX11.1 z44 (x5_1 : Int) (zb (qR6)) (by have h_ : (x5_1 : Int) < ((x0_1.length : Int) : Int) := zb (qR6); first | exact h_ | (have e_ := (Kd.R_reads' HO_0.1).1; omega) | simpa using h_); obtain rfl := k44_openM hM11; have HP11 := Kd.R_seg HX11.1 (x5_1 : Int) (zb (qR6)) (by have h_ : (x5_1 : Int) < ((x0_1.length : Int) : Int) := zb (qR6); first | exact h_ | (have e_ := (Kd.R_reads' HO_0.1).1; omega) | simpa using h_) (seg := [.string t109]) (j := 0) hcl11 hcc11 (show 1 ≤ 3 from by decide) (x' := (⟨t109, (rd_T44 x0_1 x5_1).f1, (rd_T44 x0_1 x5_1).f2⟩ : S44)) (k44_mkM _ _ _ (⟨t109, (rd_T44 x0_1 x5_1).f1, (rd_T44 x0_1 x5_1).f2⟩ : S44) ) (fun _ hk => hk); have hx11_0 := hcc11 0 _ rfl; (try simp only [show (k44).sz = 3 from rfl, Nat.mul_one, Nat.add_zero] at hx11_0); have hf11_0 := hfr11 0; (try simp only [show (k44).sz = 3 from rfl, Nat.mul_one, Nat.add_zero] at hf11_0); clear hcl11 hcc11 hfr11 hM11) | ((with_reducible refine gate_store (t := 9) (p := 17) rfl ?_); refine store_event (t := 9) (p := 17) (v := ?vo_w12) (w1 := (w10.setCell ⟨go6, (x5_1 : Int).toNat * 3, none⟩ (.string t109))) ?hg ?ho ?hn ?hr ?_; (case ho => rfl); (case hg => rfl); (case hn => rfl); (case hr => exact (qR16)); intro w12 hw; have hg : w10.grownBy w12 (some go6) := (by rw [hw]; exact HP11.2); have hp_ : Kd.R k44 44 w12 w0.heap.size (fun k_ => (P0_ k_ ∨ w.heap.size ≤ k_)) (.slice (some ⟨go6, 0, none⟩) x0_1.length co9) y110 := (by rw [hw, Ny110.1]; exact HP11.1); clear HP11; replace HB := za (by exact (by rw [hw]; exact zO (HB.1) GB6.1 : Below w0.heap.size w0 w12)); replace HK := za qR78; replace HO_0 := za hp_; clear hg hw hp_; have p7 : 0 ≤ (x5_1 : Int) := zb (qR6); have q7 : (x5_1 : Int) < ((x0_1.length : Int) : Int) := zb (qR6); obtain ⟨ce7, hcl7, hM7, hcc7, hfr7⟩ := Kd.R_elem HO_0.1 z44 (x5_1 : Int) p7 q7; obtain rfl := k44_openM hM7; have hx7_0 : w12.cell? ⟨go6, (x5_1 : Int).toNat * 3, none⟩ = some (.string ((rd_T44 y110 x5_1).f0)) := hcc7 0 _ rfl; have hx7_1 : w12.cell? ⟨go6, (x5_1 : Int).toNat * 3 + 1, none⟩ = some (.int .i64 ((rd_T44 y110 x5_1).f1)) := hcc7 1 _ rfl; have hx7_2 : w12.cell? ⟨go6, (x5_1 : Int).toNat * 3 + 2, none⟩ = some (.int .i64 ((rd_T44 y110 x5_1).f2)) := hcc7 2 _ rfl; have hf7_0 : w12.frozen? ⟨go6, (x5_1 : Int).toNat * 3, none⟩ = false := hfr7 0; have hf7_1 : w12.frozen? ⟨go6, (x5_1 : Int).toNat * 3 + 1, none⟩ = false := hfr7 1; have hf7_2 : w12.frozen? ⟨go6, (x5_1 : Int).toNat * 3 + 2, none⟩ = false := hfr7 2; clear hcl7 hcc7 hfr7 hM7; replace p7 := zt p7; replace q7 := zt q7; have HX13 := za (by exact show Kd.R k44 44 w12 w0.heap.size (fun k_ => (P0_ k_ ∨ w.heap.size ≤ k_)) (.slice (some ⟨go6, 0, none⟩) x0_1.length co9) y110 from (qR1 HO_0.1)); obtain ⟨ce13, hcl13, hM13, hcc13, hfr13⟩ := Kd.R_elem HX13.1 z44 (x5_1 : Int) (zb (qR6)) (by have h_ : (x5_1 : Int) < ((x0_1.length : Int) : Int) := zb (qR6); first | exact h_ | (have e_ := (Kd.R_reads' HO_0.1).1; omega) | simpa using h_); obtain rfl := k44_openM hM13; have HP13 := Kd.R_seg HX13.1 (x5_1 : Int) (zb (qR6)) (by have h_ : (x5_1 : Int) < ((x0_1.length : Int) : Int) := zb (qR6); first | exact h_ | (have e_ := (Kd.R_reads' HO_0.1).1; omega) | simpa using h_) (seg := [.int .i64 (wrap64 (x1_1 + 1))]) (j := 1) hcl13 hcc13 (show 2 ≤ 3 from by decide) (x' := (⟨(rd_T44 y110 x5_1).f0, wrap64 (x1_1 + 1), (rd_T44 y110 x5_1).f2⟩ : S44)) (k44_mkM _ _ _ (⟨(rd_T44 y110 x5_1).f0, wrap64 (x1_1 + 1), (rd_T44 y110 x5_1).f2⟩ : S44) ) (fun _ hk => hk); have hx13_1 := hcc13 1 _ rfl; (try simp only [show (k44).sz = 3 from rfl, Nat.mul_one, Nat.add_zero] at hx13_1); have hf13_1 := hfr13 1; (try simp only [show (k44).sz = 3 from rfl, Nat.mul_one, Nat.add_zero] at hf13_1); clear hcl13 hcc13 hfr13 hM13) | ((with_reducible refine gate_store (t := 3) (p := 24) rfl ?_); refine store_event (t := 3) (p := 24) (v := ?vo_w14) (w1 := (w12.setCell ⟨go6, (x5_1 : Int).toNat * 3 + 1, none⟩ (.int .i64 (wrap64 (x1_1 + 1))))) ?hg ?ho ?hn ?hr ?_; (case ho => rfl); (case hg => rfl); (case hn => rfl); (case hr => exact (qR16)); intro w14 hw; have hg : w12.grownBy w14 (some go6) := (by rw [hw]; exact HP13.2); have hp_ : Kd.R k44 44 w14 w0.heap.size (fun k_ => (P0_ k_ ∨ w.heap.size ≤ k_)) (.slice (some ⟨go6, 0, none⟩) x0_1.length co9) y111 := (by rw [hw, Ny111.1]; exact HP13.1); clear HP13; replace HB := za (by exact (by rw [hw]; exact zO (HB.1) GB6.1 : Below w0.heap.size w0 w14)); replace HK := za qR78; replace HO_0 := za hp_; clear hg hw hp_; have p8 : 0 ≤ (x5_1 : Int) := zb (qR6); have q8 : (x5_1 : Int) < ((x0_1.length : Int) : Int) := zb (qR6); obtain ⟨ce8, hcl8, hM8, hcc8, hfr8⟩ := Kd.R_elem HO_0.1 z44 (x5_1 : Int) p8 q8; obtain rfl := k44_openM hM8; have hx8_0 : w14.cell? ⟨go6, (x5_1 : Int).toNat * 3, none⟩ = some (.string ((rd_T44 y111 x5_1).f0)) := hcc8 0 _ rfl; have hx8_1 : w14.cell? ⟨go6, (x5_1 : Int).toNat * 3 + 1, none⟩ = some (.int .i64 ((rd_T44 y111 x5_1).f1)) := hcc8 1 _ rfl; have hx8_2 : w14.cell? ⟨go6, (x5_1 : Int).toNat * 3 + 2, none⟩ = some (.int .i64 ((rd_T44 y111 x5_1).f2)) := hcc8 2 _ rfl; have hf8_0 : w14.frozen? ⟨go6, (x5_1 : Int).toNat * 3, none⟩ = false := hfr8 0; have hf8_1 : w14.frozen? ⟨go6, (x5_1 : Int).toNat * 3 + 1, none⟩ = false := hfr8 1; have hf8_2 : w14.frozen? ⟨go6, (x5_1 : Int).toNat * 3 + 2, none⟩ = false := hfr8 2; clear hcl8 hcc8 hfr8 hM8; replace p8 := zt p8; replace q8 := zt q8; have HX15 := za (by exact show Kd.R k44 44 w14 w0.heap.size (fun k_ => (P0_ k_ ∨ w.heap.size ≤ k_)) (.slice (some ⟨go6, 0, none⟩) x0_1.length co9) y111 from (qR1 HO_0.1)); obtain ⟨ce15, hcl15, hM15, hcc15, hfr15⟩ := Kd.R_elem HX15.1 z44 (x5_1 : Int) (zb (qR6)) (by have h_ : (x5_1 : Int) < ((x0_1.length : Int) : Int) := zb (qR6); first | exact h_ | (have e_ := (Kd.R_reads' HO_0.1).1; omega) | simpa using h_); obtain rfl := k44_openM hM15; have HP15 := Kd.R_seg HX15.1 (x5_1 : Int) (zb (qR6)) (by have h_ : (x5_1 : Int) < ((x0_1.length : Int) : Int) := zb (qR6); first | exact h_ | (have e_ := (Kd.R_reads' HO_0.1).1; omega) | simpa using h_) (seg := [.int .i64 (wrap64 ((wrap64 (x1_1 + 1)) + 1))]) (j := 2) hcl15 hcc15 (show 3 ≤ 3 from by decide) (x' := (⟨(rd_T44 y111 x5_1).f0, (rd_T44 y111 x5_1).f1, wrap64 ((wrap64 (x1_1 + 1)) + 1)⟩ : S44)) (k44_mkM _ _ _ (⟨(rd_T44 y111 x5_1).f0, (rd_T44 y111 x5_1).f1, wrap64 ((wrap64 (x1_1 + 1)) + 1)⟩ : S44) ) (fun _ hk => hk); have hx15_2 := hcc15 2 _ rfl; (try simp only [show (k44).sz = 3 from rfl, Nat.mul_one, Nat.add_zero] at hx15_2); have hf15_2 := hfr15 2; (try simp only [show (k44).sz = 3 from rfl, Nat.mul_one, Nat.add_zero] at hf15_2); clear hcl15 hcc15 hfr15 hM15) | ((with_reducible refine gate_store (t := 3) (p := 31) rfl ?_); refine store_event (t := 3) (p := 31) (v := ?vo_w16) (w1 := (w14.setCell ⟨go6, (x5_1 : Int).toNat * 3 + 2, none⟩ (.int .i64 (wrap64 ((wrap64 (x1_1 + 1)) + 1))))) ?hg ?ho ?hn ?hr ?_; (case ho => rfl); (case hg => rfl); (case hn => rfl); (case hr => exact (qR16)); intro w16 hw; have hg : w14.grownBy w16 (some go6) := (by rw [hw]; exact HP15.2); have hp_ : Kd.R k44 44 w16 w0.heap.size (fun k_ => (P0_ k_ ∨ w.heap.size ≤ k_)) (.slice (some ⟨go6, 0, none⟩) x0_1.length co9) y112 := (by rw [hw, Ny112.1]; exact HP15.1); clear HP15; replace HB := za (by exact (by rw [hw]; exact zO (HB.1) GB6.1 : Below w0.heap.size w0 w16)); replace HK := za qR78; replace HO_0 := za hp_; clear hg hw hp_))
     go_roundg k1
     case measure => have := HK1.1; omega
     case rel => exact ⟨(y112), (wrap64 ((wrap64 ((wrap64 (x1_1 + 1)) + 1)) + 1)), (wrap64 (x5_1 + 1)), (qR10), (qR10), H', ⟨by have := HK1.1; omega⟩, ⟨(qR1 HO_0.1)⟩, ⟨(qR27)⟩, ⟨(qR0)⟩⟩
    ·rw [zQ c5] at H
     exact zF H (by simp)
   ·rw [zQ c3] at H; have c3b0 : decide (x5_1 < (x0_1.length : Int)) = false := zs c3; clear c3; simp only [zR, zS] at H; obtain ⟨rfl, rfl⟩ := H; obtain ⟨Ao17, co17, eo17⟩ := zz HO_0.1; subst eo17
    go_wp2
    go_ret
    exact ⟨(qR9), (qR1 HO_0.1), (qR0), (qR27)⟩

def spec_l13Square.f (a0 : Int) (a1 : Int) : Option (Int) := if a1 = 0 then (none) else (some (wrap64 ((wrap64 (Int.tdiv (wrap64 (a0 + (wrap64 (1000 * a1)))) a1)) - 1000)))
theorem spec_l13Square.calls (a0 : Int) (a1 : Int) (r : Int) (w : World) (h : spec_l13Square.f a0 a1 = some r) :
  Calls Try.prog 51 #[.int .i64 a0, .int .i64 a1] w fun e w' => e = .returned (.int .i64 r) ∧ Drawn0 w w' := by
 have H : (if a1 = 0 then (none) else (some (wrap64 ((wrap64 (Int.tdiv (wrap64 (a0 + (wrap64 (1000 * a1)))) a1)) - 1000)))) = some r := h; clear h
 by_cases c3 : a1 = 0
 ·rw [zP c3] at H
  exact zF H (by simp)
 ·rw [zQ c3] at H; have c3b0 : (a1 == 0) = false := zu c3; have c3b1 : (a1 != 0) = true := zI c3; obtain rfl := zl H
  go_enter Try.func51, Try.ntmps51
  go_wp2
  go_ret
  exact ⟨(qR10), (qR22)⟩

def spec_l1Least.f (a0 : Int) (a1 : Int) : Option (Int) := if a0 < a1 then (some a0) else (some a1)
theorem spec_l1Least.calls (a0 : Int) (a1 : Int) (r : Int) (w : World) (h : spec_l1Least.f a0 a1 = some r) :
  Calls Try.prog 76 #[.int .i64 a0, .int .i64 a1] w fun e w' => e = .returned (.int .i64 r) ∧ Drawn0 w w' := by
 have H : (if a0 < a1 then (some a0) else (some a1)) = some r := h; clear h
 by_cases c3 : a0 < a1
 ·rw [zP c3] at H; have c3b0 : decide (a0 < a1) = true := zc c3; clear c3; obtain rfl := zl H
  go_enter Try.func76, Try.ntmps76
  go_wp2
  go_ret
  exact ⟨(qR10), (qR22)⟩
 ·rw [zQ c3] at H; have c3b0 : decide (a0 < a1) = false := zs c3; clear c3; obtain rfl := zl H
  go_enter Try.func76, Try.ntmps76
  go_wp2
  go_ret
  exact ⟨(qR10), (qR22)⟩

def spec_l1Most.f (a0 : Int) (a1 : Int) : Option (Int) := if a0 > a1 then (some a0) else (some a1)
theorem spec_l1Most.calls (a0 : Int) (a1 : Int) (r : Int) (w : World) (h : spec_l1Most.f a0 a1 = some r) :
  Calls Try.prog 77 #[.int .i64 a0, .int .i64 a1] w fun e w' => e = .returned (.int .i64 r) ∧ Drawn0 w w' := by
 have H : (if a0 > a1 then (some a0) else (some a1)) = some r := h; clear h
 by_cases c3 : a0 > a1
 ·rw [zP c3] at H; have c3b0 : decide (a1 < a0) = true := zc c3; clear c3; obtain rfl := zl H
  go_enter Try.func77, Try.ntmps77
  go_wp2
  go_ret
  exact ⟨(qR10), (qR22)⟩
 ·rw [zQ c3] at H; have c3b0 : decide (a1 < a0) = false := zs c3; clear c3; obtain rfl := zl H
  go_enter Try.func77, Try.ntmps77
  go_wp2
  go_ret
  exact ⟨(qR10), (qR22)⟩

def spec_l13Bounds.l0 : Nat → List (S44) → Int → Int → Int → Int → Int → Int → Option (Int × Int × Int × Int)
 | 0, _, _, _, _, _, _, _ => none
 | k + 1, x0, x1, x8, x9, x10, x11, x12 => if x12 < (x0.length : Int) then (if 0 ≤ x12 then ((spec_l13Square.f ((rd_T44 x0 x12).f1) x1).bind fun t118 => ((spec_l13Square.f ((rd_T44 x0 x12).f2) x1).bind fun t120 => ((spec_l1Least.f x8 t118).bind fun t121 => ((spec_l1Most.f x10 t118).bind fun t122 => ((spec_l1Least.f x9 t120).bind fun t123 => ((spec_l1Most.f x11 t120).bind fun t124 => (spec_l13Bounds.l0 k x0 x1 t121 t123 t122 t124 (wrap64 (x12 + 1))))))))) else (none)) else (some (x8, x10, x9, x11))
def spec_l13Bounds.f (k : Nat) (l0 : List (S44)) (a1 : Int) : Option (Int × Int × Int × Int) := if 0 < (l0.length : Int) then ((spec_l13Square.f ((rd_T44 l0 0).f1) a1).bind fun t114 => ((spec_l13Square.f ((rd_T44 l0 0).f2) a1).bind fun t116 => (spec_l13Bounds.l0 k l0 a1 t114 t116 t114 t116 1))) else (none)
theorem spec_l13Bounds.calls (k : Nat) (A0 : Option Addr) (c0 : Nat) (l0 : List (S44)) (a1 : Int) (r1 : Int) (r2 : Int) (r3 : Int) (r4 : Int) (w : World) (hr0 : Kd.C k44 w A0 l0.length l0) (hc0 : l0.length ≤ c0) (h : spec_l13Bounds.f k l0 a1 = some (r1, r2, r3, r4)) :
  Calls Try.prog 45 #[.slice A0 l0.length c0, .int .i64 a1] w fun e w' => e = .returned (.tuple #[.int .i64 r1, .int .i64 r2, .int .i64 r3, .int .i64 r4]) ∧ Drawn0 w w' := by
 have HR0 := za hr0; have HC0 := za hc0; clear hr0 hc0; have H : (if 0 < (l0.length : Int) then ((spec_l13Square.f ((rd_T44 l0 0).f1) a1).bind fun t114 => ((spec_l13Square.f ((rd_T44 l0 0).f2) a1).bind fun t116 => (spec_l13Bounds.l0 k l0 a1 t114 t116 t114 t116 1))) else (none)) = some (r1, r2, r3, r4) := h; clear h
 by_cases c3 : 0 < (l0.length : Int)
 ·rw [zP c3] at H; have c3b0 : decide (0 < (l0.length : Int)) = true := zc c3; have c3b1 : decide (0 < l0.length) = true := zc (by omega); clear c3; replace H := bindA H; obtain ⟨t114, A4, H⟩ := H; (try dsimp only at H); replace H := bindA H; obtain ⟨t116, A5, H⟩ := H; (try dsimp only at H); have H' := za H; clear H; have p113 : 0 ≤ (0 : Int) := (by omega); have q113 : 0 < (l0.length : Int) := zb (qR6); obtain ⟨ad113, e113, hx113_0, hx113_1, hx113_2⟩ := at_T44 HR0.1 0 p113 q113; cases e113; have qi113 : (0 < l0.length) = True := zt (by omega)
  (try rw [show ((0 : Int)).toNat = 0 from rfl] at hx113_0)
  (try rw [show 0 * 3 = 0 from rfl] at hx113_0)
  (try rw [Addr.add_zero'] at hx113_0)
  (try rw [show ((0 : Int)).toNat = 0 from rfl] at hx113_1)
  (try rw [show 0 * 3 = 0 from rfl] at hx113_1)
  (try rw [Addr.add_zero'] at hx113_1)
  (try rw [show ((0 : Int)).toNat = 0 from rfl] at hx113_2)
  (try rw [show 0 * 3 = 0 from rfl] at hx113_2)
  (try rw [Addr.add_zero'] at hx113_2); replace p113 := zt p113; replace q113 := zt q113
  go_enter Try.func45, Try.ntmps45
  go_wp2_with (first | (go_at_call 51; (with_reducible refine (spec_l13Square.calls ((rd_T44 l0 0).f1) a1 t114 _ A4.1).mono ?_); rintro e w' ⟨rfl, ⟨nd, rfl⟩⟩; (try first | exact ⟨rfl, _, zG _ _ _⟩ | exact ⟨rfl, _, Eq.trans (zG _ _ _) (congrArg (World.drewN _) (Nat.add_assoc _ _ _))⟩); have p115 : 0 ≤ (0 : Int) := (by omega); have q115 : 0 < (l0.length : Int) := zb (qR6); obtain ⟨ad115, e115, hx115_0, hx115_1, hx115_2⟩ := at_T44 HR0.1 0 p115 q115; obtain rfl : ad113 = ad115 := (by injection e115); have qi115 : (0 < l0.length) = True := zt (by omega); (try rw [show ((0 : Int)).toNat = 0 from rfl] at hx115_0); (try rw [show 0 * 3 = 0 from rfl] at hx115_0); (try rw [Addr.add_zero'] at hx115_0); (try rw [show ((0 : Int)).toNat = 0 from rfl] at hx115_1); (try rw [show 0 * 3 = 0 from rfl] at hx115_1); (try rw [Addr.add_zero'] at hx115_1); (try rw [show ((0 : Int)).toNat = 0 from rfl] at hx115_2); (try rw [show 0 * 3 = 0 from rfl] at hx115_2); (try rw [Addr.add_zero'] at hx115_2); replace p115 := zt p115; replace q115 := zt q115) | (go_at_call 51; (with_reducible refine (spec_l13Square.calls ((rd_T44 l0 0).f2) a1 t116 _ A5.1).mono ?_); rintro e w' ⟨rfl, ⟨nd, rfl⟩⟩; (try first | exact ⟨rfl, _, zG _ _ _⟩ | exact ⟨rfl, _, Eq.trans (zG _ _ _) (congrArg (World.drewN _) (Nat.add_assoc _ _ _))⟩)))
  repeat (go_quiet (first | (go_at_call 51; (with_reducible refine (spec_l13Square.calls ((rd_T44 l0 0).f1) a1 t114 _ A4.1).mono ?_); rintro e w' ⟨rfl, ⟨nd, rfl⟩⟩; (try first | exact ⟨rfl, _, zG _ _ _⟩ | exact ⟨rfl, _, Eq.trans (zG _ _ _) (congrArg (World.drewN _) (Nat.add_assoc _ _ _))⟩); have p115 : 0 ≤ (0 : Int) := (by omega); have q115 : 0 < (l0.length : Int) := zb (qR6); obtain ⟨ad115, e115, hx115_0, hx115_1, hx115_2⟩ := at_T44 HR0.1 0 p115 q115; obtain rfl : ad113 = ad115 := (by injection e115); have qi115 : (0 < l0.length) = True := zt (by omega); (try rw [show ((0 : Int)).toNat = 0 from rfl] at hx115_0); (try rw [show 0 * 3 = 0 from rfl] at hx115_0); (try rw [Addr.add_zero'] at hx115_0); (try rw [show ((0 : Int)).toNat = 0 from rfl] at hx115_1); (try rw [show 0 * 3 = 0 from rfl] at hx115_1); (try rw [Addr.add_zero'] at hx115_1); (try rw [show ((0 : Int)).toNat = 0 from rfl] at hx115_2); (try rw [show 0 * 3 = 0 from rfl] at hx115_2); (try rw [Addr.add_zero'] at hx115_2); replace p115 := zt p115; replace q115 := zt q115) | (go_at_call 51; (with_reducible refine (spec_l13Square.calls ((rd_T44 l0 0).f2) a1 t116 _ A5.1).mono ?_); rintro e w' ⟨rfl, ⟨nd, rfl⟩⟩; (try first | exact ⟨rfl, _, zG _ _ _⟩ | exact ⟨rfl, _, Eq.trans (zG _ _ _) (congrArg (World.drewN _) (Nat.add_assoc _ _ _))⟩))); try go_wp2_with (first | (go_at_call 51; (with_reducible refine (spec_l13Square.calls ((rd_T44 l0 0).f1) a1 t114 _ A4.1).mono ?_); rintro e w' ⟨rfl, ⟨nd, rfl⟩⟩; (try first | exact ⟨rfl, _, zG _ _ _⟩ | exact ⟨rfl, _, Eq.trans (zG _ _ _) (congrArg (World.drewN _) (Nat.add_assoc _ _ _))⟩); have p115 : 0 ≤ (0 : Int) := (by omega); have q115 : 0 < (l0.length : Int) := zb (qR6); obtain ⟨ad115, e115, hx115_0, hx115_1, hx115_2⟩ := at_T44 HR0.1 0 p115 q115; obtain rfl : ad113 = ad115 := (by injection e115); have qi115 : (0 < l0.length) = True := zt (by omega); (try rw [show ((0 : Int)).toNat = 0 from rfl] at hx115_0); (try rw [show 0 * 3 = 0 from rfl] at hx115_0); (try rw [Addr.add_zero'] at hx115_0); (try rw [show ((0 : Int)).toNat = 0 from rfl] at hx115_1); (try rw [show 0 * 3 = 0 from rfl] at hx115_1); (try rw [Addr.add_zero'] at hx115_1); (try rw [show ((0 : Int)).toNat = 0 from rfl] at hx115_2); (try rw [show 0 * 3 = 0 from rfl] at hx115_2); (try rw [Addr.add_zero'] at hx115_2); replace p115 := zt p115; replace q115 := zt q115) | (go_at_call 51; (with_reducible refine (spec_l13Square.calls ((rd_T44 l0 0).f2) a1 t116 _ A5.1).mono ?_); rintro e w' ⟨rfl, ⟨nd, rfl⟩⟩; (try first | exact ⟨rfl, _, zG _ _ _⟩ | exact ⟨rfl, _, Eq.trans (zG _ _ _) (congrArg (World.drewN _) (Nat.add_assoc _ _ _))⟩))))
  go_loopg [8, 9, 10, 11, 12] k (fun kq v8 v9 v10 v11 v12 w' => ∃ (x8_1 : Int) (x9_1 : Int) (x10_1 : Int) (x11_1 : Int) (x12_1 : Int), v8 = .int .i64 x8_1 ∧ v9 = .int .i64 x9_1 ∧ v10 = .int .i64 x10_1 ∧ v11 = .int .i64 x11_1 ∧ v12 = .int .i64 x12_1 ∧ Aside0 (spec_l13Bounds.l0 kq l0 a1 x8_1 x9_1 x10_1 x11_1 x12_1 = some (r1, r2, r3, r4)) ∧ Aside0 (kq ≤ k) ∧ Drawn0 w w')
  case atStart => exact ⟨(t114), (t116), (t114), (t116), (1), (qR10), (qR10), (qR10), (qR10), (qR10), H', ⟨zn _⟩, (qR22)⟩
  case round =>
   clear H'; (try clear qi1); (try clear c3b0); (try clear c3b1); (try clear hx113_0); (try clear hx113_1); (try clear hx113_2); (try clear hx115_0); (try clear hx115_1); (try clear hx115_2); (try clear p113); (try clear p115); (try clear q113); (try clear q115); obtain ⟨x8_1, x9_1, x10_1, x11_1, x12_1, rfl, rfl, rfl, rfl, rfl, HA, HK1, ⟨m1, rfl⟩⟩ := hrel
   cases gk with
   | zero => exact zF HA.1 (by simp [spec_l13Bounds.l0])
   | succ k1 =>
    have H := HA.1; clear HA; simp only [spec_l13Bounds.l0] at H
    by_cases c6 : x12_1 < (l0.length : Int)
    ·rw [zP c6] at H; have c6b0 : decide (x12_1 < (l0.length : Int)) = true := zc c6; clear c6
     by_cases c7 : 0 ≤ x12_1
     ·rw [zP c7] at H; have c7b0 : decide (0 ≤ x12_1) = true := zc c7; clear c7; replace H := bindA H; obtain ⟨t118, A8, H⟩ := H; (try dsimp only at H); replace H := bindA H; obtain ⟨t120, A9, H⟩ := H; (try dsimp only at H); replace H := bindA H; obtain ⟨t121, A10, H⟩ := H; (try dsimp only at H); replace H := bindA H; obtain ⟨t122, A11, H⟩ := H; (try dsimp only at H); replace H := bindA H; obtain ⟨t123, A12, H⟩ := H; (try dsimp only at H); replace H := bindA H; obtain ⟨t124, A13, H⟩ := H; (try dsimp only at H); have H' := za H; clear H; have p117 : 0 ≤ (x12_1 : Int) := zb (qR6); have q117 : x12_1 < (l0.length : Int) := zb (qR6); obtain ⟨ad117, e117, hx117_0, hx117_1, hx117_2⟩ := at_T44 HR0.1 x12_1 p117 q117; obtain rfl : ad113 = ad117 := (by injection e117); replace p117 := zt p117; replace q117 := zt q117
      go_wp2_with (first | (go_at_call 51; (with_reducible refine (spec_l13Square.calls ((rd_T44 l0 x12_1).f1) a1 t118 _ A8.1).mono ?_); rintro e w' ⟨rfl, ⟨nd, rfl⟩⟩; (try first | exact ⟨rfl, _, zG _ _ _⟩ | exact ⟨rfl, _, Eq.trans (zG _ _ _) (congrArg (World.drewN _) (Nat.add_assoc _ _ _))⟩); have p119 : 0 ≤ (x12_1 : Int) := zb (qR6); have q119 : x12_1 < (l0.length : Int) := zb (qR6); obtain ⟨ad119, e119, hx119_0, hx119_1, hx119_2⟩ := at_T44 HR0.1 x12_1 p119 q119; obtain rfl : ad113 = ad119 := (by injection e119); replace p119 := zt p119; replace q119 := zt q119) | (go_at_call 51; (with_reducible refine (spec_l13Square.calls ((rd_T44 l0 x12_1).f2) a1 t120 _ A9.1).mono ?_); rintro e w' ⟨rfl, ⟨nd, rfl⟩⟩; (try first | exact ⟨rfl, _, zG _ _ _⟩ | exact ⟨rfl, _, Eq.trans (zG _ _ _) (congrArg (World.drewN _) (Nat.add_assoc _ _ _))⟩)) | (go_at_call 76; (with_reducible refine (spec_l1Least.calls x8_1 t118 t121 _ A10.1).mono ?_); rintro e w' ⟨rfl, ⟨nd, rfl⟩⟩; (try first | exact ⟨rfl, _, zG _ _ _⟩ | exact ⟨rfl, _, Eq.trans (zG _ _ _) (congrArg (World.drewN _) (Nat.add_assoc _ _ _))⟩)) | (go_at_call 77; (with_reducible refine (spec_l1Most.calls x10_1 t118 t122 _ A11.1).mono ?_); rintro e w' ⟨rfl, ⟨nd, rfl⟩⟩; (try first | exact ⟨rfl, _, zG _ _ _⟩ | exact ⟨rfl, _, Eq.trans (zG _ _ _) (congrArg (World.drewN _) (Nat.add_assoc _ _ _))⟩)) | (go_at_call 76; (with_reducible refine (spec_l1Least.calls x9_1 t120 t123 _ A12.1).mono ?_); rintro e w' ⟨rfl, ⟨nd, rfl⟩⟩; (try first | exact ⟨rfl, _, zG _ _ _⟩ | exact ⟨rfl, _, Eq.trans (zG _ _ _) (congrArg (World.drewN _) (Nat.add_assoc _ _ _))⟩)) | (go_at_call 77; (with_reducible refine (spec_l1Most.calls x11_1 t120 t124 _ A13.1).mono ?_); rintro e w' ⟨rfl, ⟨nd, rfl⟩⟩; (try first | exact ⟨rfl, _, zG _ _ _⟩ | exact ⟨rfl, _, Eq.trans (zG _ _ _) (congrArg (World.drewN _) (Nat.add_assoc _ _ _))⟩)))
      repeat (go_quiet (first | (go_at_call 51; (with_reducible refine (spec_l13Square.calls ((rd_T44 l0 x12_1).f1) a1 t118 _ A8.1).mono ?_); rintro e w' ⟨rfl, ⟨nd, rfl⟩⟩; (try first | exact ⟨rfl, _, zG _ _ _⟩ | exact ⟨rfl, _, Eq.trans (zG _ _ _) (congrArg (World.drewN _) (Nat.add_assoc _ _ _))⟩); have p119 : 0 ≤ (x12_1 : Int) := zb (qR6); have q119 : x12_1 < (l0.length : Int) := zb (qR6); obtain ⟨ad119, e119, hx119_0, hx119_1, hx119_2⟩ := at_T44 HR0.1 x12_1 p119 q119; obtain rfl : ad113 = ad119 := (by injection e119); replace p119 := zt p119; replace q119 := zt q119) | (go_at_call 51; (with_reducible refine (spec_l13Square.calls ((rd_T44 l0 x12_1).f2) a1 t120 _ A9.1).mono ?_); rintro e w' ⟨rfl, ⟨nd, rfl⟩⟩; (try first | exact ⟨rfl, _, zG _ _ _⟩ | exact ⟨rfl, _, Eq.trans (zG _ _ _) (congrArg (World.drewN _) (Nat.add_assoc _ _ _))⟩)) | (go_at_call 76; (with_reducible refine (spec_l1Least.calls x8_1 t118 t121 _ A10.1).mono ?_); rintro e w' ⟨rfl, ⟨nd, rfl⟩⟩; (try first | exact ⟨rfl, _, zG _ _ _⟩ | exact ⟨rfl, _, Eq.trans (zG _ _ _) (congrArg (World.drewN _) (Nat.add_assoc _ _ _))⟩)) | (go_at_call 77; (with_reducible refine (spec_l1Most.calls x10_1 t118 t122 _ A11.1).mono ?_); rintro e w' ⟨rfl, ⟨nd, rfl⟩⟩; (try first | exact ⟨rfl, _, zG _ _ _⟩ | exact ⟨rfl, _, Eq.trans (zG _ _ _) (congrArg (World.drewN _) (Nat.add_assoc _ _ _))⟩)) | (go_at_call 76; (with_reducible refine (spec_l1Least.calls x9_1 t120 t123 _ A12.1).mono ?_); rintro e w' ⟨rfl, ⟨nd, rfl⟩⟩; (try first | exact ⟨rfl, _, zG _ _ _⟩ | exact ⟨rfl, _, Eq.trans (zG _ _ _) (congrArg (World.drewN _) (Nat.add_assoc _ _ _))⟩)) | (go_at_call 77; (with_reducible refine (spec_l1Most.calls x11_1 t120 t124 _ A13.1).mono ?_); rintro e w' ⟨rfl, ⟨nd, rfl⟩⟩; (try first | exact ⟨rfl, _, zG _ _ _⟩ | exact ⟨rfl, _, Eq.trans (zG _ _ _) (congrArg (World.drewN _) (Nat.add_assoc _ _ _))⟩))); try go_wp2_with (first | (go_at_call 51; (with_reducible refine (spec_l13Square.calls ((rd_T44 l0 x12_1).f1) a1 t118 _ A8.1).mono ?_); rintro e w' ⟨rfl, ⟨nd, rfl⟩⟩; (try first | exact ⟨rfl, _, zG _ _ _⟩ | exact ⟨rfl, _, Eq.trans (zG _ _ _) (congrArg (World.drewN _) (Nat.add_assoc _ _ _))⟩); have p119 : 0 ≤ (x12_1 : Int) := zb (qR6); have q119 : x12_1 < (l0.length : Int) := zb (qR6); obtain ⟨ad119, e119, hx119_0, hx119_1, hx119_2⟩ := at_T44 HR0.1 x12_1 p119 q119; obtain rfl : ad113 = ad119 := (by injection e119); replace p119 := zt p119; replace q119 := zt q119) | (go_at_call 51; (with_reducible refine (spec_l13Square.calls ((rd_T44 l0 x12_1).f2) a1 t120 _ A9.1).mono ?_); rintro e w' ⟨rfl, ⟨nd, rfl⟩⟩; (try first | exact ⟨rfl, _, zG _ _ _⟩ | exact ⟨rfl, _, Eq.trans (zG _ _ _) (congrArg (World.drewN _) (Nat.add_assoc _ _ _))⟩)) | (go_at_call 76; (with_reducible refine (spec_l1Least.calls x8_1 t118 t121 _ A10.1).mono ?_); rintro e w' ⟨rfl, ⟨nd, rfl⟩⟩; (try first | exact ⟨rfl, _, zG _ _ _⟩ | exact ⟨rfl, _, Eq.trans (zG _ _ _) (congrArg (World.drewN _) (Nat.add_assoc _ _ _))⟩)) | (go_at_call 77; (with_reducible refine (spec_l1Most.calls x10_1 t118 t122 _ A11.1).mono ?_); rintro e w' ⟨rfl, ⟨nd, rfl⟩⟩; (try first | exact ⟨rfl, _, zG _ _ _⟩ | exact ⟨rfl, _, Eq.trans (zG _ _ _) (congrArg (World.drewN _) (Nat.add_assoc _ _ _))⟩)) | (go_at_call 76; (with_reducible refine (spec_l1Least.calls x9_1 t120 t123 _ A12.1).mono ?_); rintro e w' ⟨rfl, ⟨nd, rfl⟩⟩; (try first | exact ⟨rfl, _, zG _ _ _⟩ | exact ⟨rfl, _, Eq.trans (zG _ _ _) (congrArg (World.drewN _) (Nat.add_assoc _ _ _))⟩)) | (go_at_call 77; (with_reducible refine (spec_l1Most.calls x11_1 t120 t124 _ A13.1).mono ?_); rintro e w' ⟨rfl, ⟨nd, rfl⟩⟩; (try first | exact ⟨rfl, _, zG _ _ _⟩ | exact ⟨rfl, _, Eq.trans (zG _ _ _) (congrArg (World.drewN _) (Nat.add_assoc _ _ _))⟩))))
      go_roundg k1
      case measure => have := HK1.1; omega
      case rel => exact ⟨(t121), (t123), (t122), (t124), (wrap64 (x12_1 + 1)), (qR10), (qR10), (qR10), (qR10), (qR10), H', ⟨by have := HK1.1; omega⟩, (qR22)⟩
     ·rw [zQ c7] at H
      exact zF H (by simp)
    ·rw [zQ c6] at H; have c6b0 : decide (x12_1 < (l0.length : Int)) = false := zs c6; clear c6; simp only [zR, zS] at H; obtain ⟨rfl, rfl, rfl, rfl⟩ := H
     go_wp2
     repeat (go_quiet (fail); try go_wp2)
     refine bodyPost_ret (results_list (rs := [.tmp 4, .tmp 5, .tmp 6, .tmp 7]) rfl (by simp) (.tmp (.tmp (.tmp (.tmp .nil))))) rfl ?_
     exact ⟨(qR10), (qR22)⟩
 ·rw [zQ c3] at H
  exact zF H (by simp)

def spec_l1In.f (a0 : Int) (a1 : Int) (a2 : Int) : Option (Bool) := if a0 ≥ a1 then (some (decide (a0 ≤ a2))) else (some false)
theorem spec_l1In.calls (a0 : Int) (a1 : Int) (a2 : Int) (r : Bool) (w : World) (h : spec_l1In.f a0 a1 a2 = some r) :
  Calls Try.prog 64 #[.int .i64 a0, .int .i64 a1, .int .i64 a2] w fun e w' => e = .returned (.bool r) ∧ Drawn0 w w' := by
 have H : (if a0 ≥ a1 then (some (decide (a0 ≤ a2))) else (some false)) = some r := h; clear h
 by_cases c4 : a0 ≥ a1
 ·rw [zP c4] at H; have c4b0 : decide (a1 ≤ a0) = true := zc c4; clear c4; obtain rfl := zl H
  go_enter Try.func64, Try.ntmps64
  go_wp2
  go_ret
  exact ⟨(qR10), (qR22)⟩
 ·rw [zQ c4] at H; have c4b0 : decide (a1 ≤ a0) = false := zs c4; clear c4; obtain rfl := zl H
  go_enter Try.func64, Try.ntmps64
  go_wp2
  go_ret
  exact ⟨(qR10), (qR22)⟩

def spec_l13Letter.f (a0 : ByteArray) : Option (Bool) := if (a0.size : Int) = 1 then (if 0 < (a0.size : Int) then (if (bt a0 0) ≥ 65 then (some (decide ((bt a0 0) ≤ 90))) else (some false)) else (none)) else (some false)
theorem spec_l13Letter.calls (a0 : ByteArray) (r : Bool) (w : World) (h : spec_l13Letter.f a0 = some r) :
  Calls Try.prog 68 #[.string a0] w fun e w' => e = .returned (.bool r) ∧ Drawn0 w w' := by
 have H : (if (a0.size : Int) = 1 then (if 0 < (a0.size : Int) then (if (bt a0 0) ≥ 65 then (some (decide ((bt a0 0) ≤ 90))) else (some false)) else (none)) else (some false)) = some r := h; clear h
 by_cases c2 : (a0.size : Int) = 1
 ·rw [zP c2] at H; have c2b0 : ((a0.size : Int) == 1) = true := zH c2; have c2b1 : ((a0.size : Int) != 1) = false := zv c2; clear c2
  by_cases c3 : 0 < (a0.size : Int)
  ·rw [zP c3] at H; have c3b0 : decide (0 < (a0.size : Int)) = true := zc c3; have c3b1 : decide (0 < a0.size) = true := zc (by omega); clear c3
   by_cases c5 : (bt a0 0) ≥ 65
   ·rw [zP c5] at H; have c5b0 : decide (65 ≤ (bt a0 0)) = true := zc c5; clear c5; obtain rfl := zl H; have p4 : 0 ≤ (0 : Int) := (by omega); have q4 : 0 < a0.size := (by have : (0 : Int) < (a0.size : Int) := zb (qR6); omega); have hx4 : ∀ h : 0 < a0.size, ((a0[0]'h).toNat : Int) = bt a0 0 := bt_at a0 0; clear p4; have qi4 : (0 < (a0.size : Int)) = True := zt (zb (qR6)); replace q4 := zt q4; have p6 : 0 ≤ (0 : Int) := (by omega); have q6 : 0 < a0.size := (by have : (0 : Int) < (a0.size : Int) := zb (qR6); omega); have hx6 : ∀ h : 0 < a0.size, ((a0[0]'h).toNat : Int) = bt a0 0 := bt_at a0 0; clear p6; have qi6 : (0 < (a0.size : Int)) = True := zt (zb (qR6)); replace q6 := zt q6
    go_enter Try.func68, Try.ntmps68
    go_wp2
    go_ret
    exact ⟨(qR10), (qR22)⟩
   ·rw [zQ c5] at H; have c5b0 : decide (65 ≤ (bt a0 0)) = false := zs c5; clear c5; obtain rfl := zl H; have p4 : 0 ≤ (0 : Int) := (by omega); have q4 : 0 < a0.size := (by have : (0 : Int) < (a0.size : Int) := zb (qR6); omega); have hx4 : ∀ h : 0 < a0.size, ((a0[0]'h).toNat : Int) = bt a0 0 := bt_at a0 0; clear p4; have qi4 : (0 < (a0.size : Int)) = True := zt (zb (qR6)); replace q4 := zt q4
    go_enter Try.func68, Try.ntmps68
    go_wp2
    go_ret
    exact ⟨(qR10), (qR22)⟩
  ·rw [zQ c3] at H
   exact zF H (by simp)
 ·rw [zQ c2] at H; have c2b0 : ((a0.size : Int) == 1) = false := zu c2; have c2b1 : ((a0.size : Int) != 1) = true := zI c2; obtain rfl := zl H
  go_enter Try.func68, Try.ntmps68
  go_wp2
  go_ret
  exact ⟨(qR10), (qR22)⟩

end Go.Proofs.Ytckidmhkhlbkeaa.MR
