-- tight2 (a walk)
import Derived.Test.YtckidmhkhlbkeaaStr
import Derived.Test.YtckidmhkhlbkeaaMKx0
namespace Go.Proofs.Ytckidmhkhlbkeaa.MK
open Go.RowKit Go.Proofs.YtckidmhkhlbkeaaW.PrintWords Go.Proofs.YtckidmhkhlbkeaaW.PrintLast
set_option maxHeartbeats 8000000
set_option maxRecDepth 100000
theorem qK2_c0 {p : Prop} (h : p := by
  simp only [Act.put, yb, yc, yd, i64_w, i32_w]
  rfl) : p := h
theorem qK2_c1 {p : Prop} (h : p := by
  intro w'
  go_simp
  with_reducible rfl) : p := h
attribute [local go_sem] max2_int min2_int max_two min_two
set_option linter.unusedVariables false
set_option linter.unusedSimpArgs false

def impl_within.f (a0 : Int) (a1 : Int) (a2 : Int) : Option (Bool) := if a0 ≥ a1 then (some (decide (a0 ≤ a2))) else (some false)
theorem impl_within.calls (a0 : Int) (a1 : Int) (a2 : Int) (r : Bool) (w : World) (h : impl_within.f a0 a1 a2 = some r) :
  Calls Try.prog 61 #[.int .i64 a0, .int .i64 a1, .int .i64 a2] w fun e w' => e = .returned (.bool r) ∧ Drawn0 w w' := by
 have H : (if a0 ≥ a1 then (some (decide (a0 ≤ a2))) else (some false)) = some r := h; clear h
 by_cases c4 : a0 ≥ a1
 ·rw [zX c4] at H; have c4b0 : decide (a1 ≤ a0) = true := zc c4; clear c4; obtain rfl := zl H
  go_enter Try.func61, Try.ntmps61
  go_wp2
  go_ret
  exact ⟨(qK17), (qK35)⟩
 ·rw [zY c4] at H; have c4b0 : decide (a1 ≤ a0) = false := zu c4; clear c4; obtain rfl := zl H
  go_enter Try.func61, Try.ntmps61
  go_wp2
  go_ret
  exact ⟨(qK17), (qK35)⟩

mutual
def impl_AreMarks.l0 : Nat → List (S44) → List (S44) → Int → Int → Option (Bool)
 | 0, _, _, _, _ => none
 | k + 1, x0, x5, x6, x7 => if x7 < x6 then (if 0 ≤ x7 then (if x7 < (x5.length : Int) then (if (((rd_T44 x5 x7).f0).size : Int) = 1 then (if (Op.bytesLess (((rd_T44 x5 x7).f0).toList) ([65] : List UInt8)) = true then (impl_AreMarks.j1 k x0 x7 x5 x6 x7 true ((rd_T44 x5 x7).f0) ((rd_T44 x5 x7).f1) ((rd_T44 x5 x7).f2)) else (if (Op.bytesLess ([90] : List UInt8) (((rd_T44 x5 x7).f0).toList)) = true then (impl_AreMarks.j1 k x0 x7 x5 x6 x7 true ((rd_T44 x5 x7).f0) ((rd_T44 x5 x7).f1) ((rd_T44 x5 x7).f2)) else ((impl_within.f ((rd_T44 x5 x7).f1) (-1000) 1000).bind fun t103 => (if t103 = true then ((impl_within.f ((rd_T44 x5 x7).f2) (-1000) 1000).bind fun t104 => (impl_AreMarks.j1 k x0 x7 x5 x6 x7 (!t104) ((rd_T44 x5 x7).f0) ((rd_T44 x5 x7).f1) ((rd_T44 x5 x7).f2))) else (impl_AreMarks.j1 k x0 x7 x5 x6 x7 true ((rd_T44 x5 x7).f0) ((rd_T44 x5 x7).f1) ((rd_T44 x5 x7).f2)))))) else (impl_AreMarks.j1 k x0 x7 x5 x6 x7 true ((rd_T44 x5 x7).f0) ((rd_T44 x5 x7).f1) ((rd_T44 x5 x7).f2))) else (none)) else (none)) else (some (decide ((x0.length : Int) ≤ 12)))
def impl_AreMarks.j1 : Nat → List (S44) → Int → List (S44) → Int → Int → Bool → ByteArray → Int → Int → Option (Bool)
 | 0, _, _, _, _, _, _, _, _, _ => none
 | k + 1, x0, x3, x5, x6, x7, x37, x103000, x103001, x103002 => if x37 = true then (some false) else (if x3 > 0 then (if 0 ≤ (wrap64 (x3 - 1)) then (if (wrap64 (x3 - 1)) < (x0.length : Int) then (if ((Op.bytesLess (((rd_T44 x0 (wrap64 (x3 - 1))).f0).toList) x103000.toList) = true) then (impl_AreMarks.l0 k x0 x5 x6 (wrap64 (x7 + 1))) else (some false)) else (none)) else (none)) else (impl_AreMarks.l0 k x0 x5 x6 (wrap64 (x7 + 1))))
end
def impl_AreMarks.f (k : Nat) (l0 : List (S44)) : Option (Bool) := impl_AreMarks.l0 k l0 l0 (l0.length : Int) 0
theorem impl_AreMarks.calls (k : Nat) (A0 : Option Addr) (c0 : Nat) (l0 : List (S44)) (r : Bool) (w : World) (hr0 : Kd.C k44 w A0 l0.length l0) (hc0 : l0.length ≤ c0) (h : impl_AreMarks.f k l0 = some r) :
  Calls Try.prog 36 #[.slice A0 l0.length c0] w fun e w' => e = .returned (.bool r) ∧ Below w.heap.size w w' := by
 have hu44 := Try.underlying44; have HR0 := za hr0; have HC0 := za hc0; clear hr0 hc0; have HB := za (zr w.heap.size w); have H : (impl_AreMarks.l0 k l0 l0 (l0.length : Int) 0) = some r := h; clear h; have H' := za H; clear H
 go_enter Try.func36, Try.ntmps36
 go_wp2
 repeat (go_quiet (fail); try go_wp2)
 go_loopg [7] k (fun kq v7 w' => ∃ (x7_1 : Int), v7 = .int .i64 x7_1 ∧ Aside0 (impl_AreMarks.l0 kq l0 l0 (l0.length : Int) x7_1 = some r) ∧ Aside0 (kq ≤ k) ∧ Aside0 (Below w.heap.size w w'))
 case atStart => exact ⟨(0), (qK17), H', ⟨zn _⟩, ⟨(qK2)⟩⟩
 case round =>
  clear H'; obtain ⟨x7_1, rfl, HA, HK1, HB⟩ := hrel
  cases gk with
  | zero => exact zM HA.1 (by simp [impl_AreMarks.l0])
  | succ k1 =>
   have H := HA.1; clear HA; simp only [impl_AreMarks.l0] at H
   by_cases c2 : x7_1 < (l0.length : Int)
   ·rw [zX c2] at H; have c2b0 : decide (x7_1 < (l0.length : Int)) = true := zc c2; clear c2
    by_cases c3 : 0 ≤ x7_1
    ·rw [zX c3] at H; have c3b0 : decide (0 ≤ x7_1) = true := zc c3; clear c3
     by_cases c4 : x7_1 < (l0.length : Int)
     ·rw [zX c4] at H; have c4b0 : decide (x7_1 < (l0.length : Int)) = true := zc c4; clear c4; have HC5 := za H; clear H; have p101 : 0 ≤ (x7_1 : Int) := zb (qK12); have q101 : x7_1 < (l0.length : Int) := zb (qK12); obtain ⟨ad101, e101, hx101_0, hx101_1, hx101_2⟩ := at_T44 HR0.1 x7_1 p101 q101; cases e101; replace hx101_0 := (HB.1.cell (zd w _ hx101_0)).trans hx101_0; replace hx101_1 := (HB.1.cell (zd w _ hx101_1)).trans hx101_1; replace hx101_2 := (HB.1.cell (zd w _ hx101_2)).trans hx101_2; replace p101 := zv p101; replace q101 := zv q101
      go_upto_region 4 with (first | ((with_reducible refine zp (N := 4) rfl ?_); refine zA ?hg (N := 4) ?hd (cs := #[.string (⟨#[]⟩ : ByteArray), .int .i64 0, .int .i64 0]) (t := 44) ?hr ?_; (case hd | hg => rfl); (case hr => exact (qK21)); intro gb102 hg w6 hbox hb; have BK102 := za hbox; have GW102 := za qK102; have GE102 := za qK102; replace HB := za qK85; clear hb hbox hg; have hcz7_0 : w6.cell? ⟨gb102, 0, none⟩ = some (.string (⟨#[]⟩ : ByteArray)) := (blk_cell BK102.1 0).trans rfl; have hcz7_1 : w6.cell? ⟨gb102, 1, none⟩ = some (.int .i64 0) := (blk_cell BK102.1 1).trans rfl; have hcz7_2 : w6.cell? ⟨gb102, 2, none⟩ = some (.int .i64 0) := (blk_cell BK102.1 2).trans rfl; have hfz7_0 := ze BK102.1 0; have hfz7_1 := ze BK102.1 1; have hfz7_2 := ze BK102.1 2))
      repeat (go_quiet (first | ((with_reducible refine zp (N := 4) rfl ?_); refine zA ?hg (N := 4) ?hd (cs := #[.string (⟨#[]⟩ : ByteArray), .int .i64 0, .int .i64 0]) (t := 44) ?hr ?_; (case hd | hg => rfl); (case hr => exact (qK21)); intro gb102 hg w6 hbox hb; have BK102 := za hbox; have GW102 := za qK102; have GE102 := za qK102; replace HB := za qK85; clear hb hbox hg; have hcz7_0 : w6.cell? ⟨gb102, 0, none⟩ = some (.string (⟨#[]⟩ : ByteArray)) := (blk_cell BK102.1 0).trans rfl; have hcz7_1 : w6.cell? ⟨gb102, 1, none⟩ = some (.int .i64 0) := (blk_cell BK102.1 1).trans rfl; have hcz7_2 : w6.cell? ⟨gb102, 2, none⟩ = some (.int .i64 0) := (blk_cell BK102.1 2).trans rfl; have hfz7_0 := ze BK102.1 0; have hfz7_1 := ze BK102.1 1; have hfz7_2 := ze BK102.1 2)); go_upto_region 4 with (first | ((with_reducible refine zp (N := 4) rfl ?_); refine zA ?hg (N := 4) ?hd (cs := #[.string (⟨#[]⟩ : ByteArray), .int .i64 0, .int .i64 0]) (t := 44) ?hr ?_; (case hd | hg => rfl); (case hr => exact (qK21)); intro gb102 hg w6 hbox hb; have BK102 := za hbox; have GW102 := za qK102; have GE102 := za qK102; replace HB := za qK85; clear hb hbox hg; have hcz7_0 : w6.cell? ⟨gb102, 0, none⟩ = some (.string (⟨#[]⟩ : ByteArray)) := (blk_cell BK102.1 0).trans rfl; have hcz7_1 : w6.cell? ⟨gb102, 1, none⟩ = some (.int .i64 0) := (blk_cell BK102.1 1).trans rfl; have hcz7_2 : w6.cell? ⟨gb102, 2, none⟩ = some (.int .i64 0) := (blk_cell BK102.1 2).trans rfl; have hfz7_0 := ze BK102.1 0; have hfz7_1 := ze BK102.1 1; have hfz7_2 := ze BK102.1 2)))
      (try simp only [Act.put, yb, yc, yd])
      go_cut [37] (fun v37 wc => ∃ (kq : Nat) (x37_4 : Bool), v37 = .bool x37_4 ∧ Aside0 (impl_AreMarks.j1 kq l0 x7_1 l0 (l0.length : Int) x7_1 x37_4 ((rd_T44 l0 x7_1).f0) ((rd_T44 l0 x7_1).f1) ((rd_T44 l0 x7_1).f2) = some r) ∧ Aside0 (kq ≤ k1) ∧ Aside0 (wc.heap[gb102]? = some (.cells #[.string ((rd_T44 l0 x7_1).f0), .int .i64 ((rd_T44 l0 x7_1).f1), .int .i64 ((rd_T44 l0 x7_1).f2)] 44 (0, 0))) ∧ Aside0 (Below w.heap.size w wc))
      case first =>
       have H := HC5.1; clear HC5
       by_cases c8 : (((rd_T44 l0 x7_1).f0).size : Int) = 1
       ·rw [zX c8] at H; have c8b0 : ((((rd_T44 l0 x7_1).f0).size : Int) == 1) = true := zP c8; have c8b1 : ((((rd_T44 l0 x7_1).f0).size : Int) != 1) = false := zx c8; clear c8
        (first | rw [c8b0] | (simp only [i64_w, i32_w]; rw [c8b0]) | skip)
        by_cases c9 : (Op.bytesLess (((rd_T44 l0 x7_1).f0).toList) ([65] : List UInt8)) = true
        ·rw [zX c9] at H; have c9b0 : (Op.bytesLess (((rd_T44 l0 x7_1).f0).toList) ([65] : List UInt8)) = true := c9; clear c9; have H' := za H; clear H; have hcz10_0 : w6.cell? ⟨gb102, 0, none⟩ = some (.string (⟨#[]⟩ : ByteArray)) := (blk_cell BK102.1 0).trans rfl; have hcz10_1 : w6.cell? ⟨gb102, 1, none⟩ = some (.int .i64 0) := (blk_cell BK102.1 1).trans rfl; have hcz10_2 : w6.cell? ⟨gb102, 2, none⟩ = some (.int .i64 0) := (blk_cell BK102.1 2).trans rfl; have hfz10_0 := ze BK102.1 0; have hfz10_1 := ze BK102.1 1; have hfz10_2 := ze BK102.1 2
         go_wp2
         repeat (go_quiet (fail); try go_wp2)
         go_meet
         case rel => exact ⟨_, (true), (qK17), H', ⟨by have := HK1.1; first | omega | exact zn _⟩, ⟨(qK26)⟩, ⟨(qK6 GE102.1)⟩⟩
        ·rw [zY c9] at H
         have c9b0 : (Op.bytesLess (((rd_T44 l0 x7_1).f0).toList) ([65] : List UInt8)) = false := by simpa using c9
         clear c9
         by_cases c11 : (Op.bytesLess ([90] : List UInt8) (((rd_T44 l0 x7_1).f0).toList)) = true
         ·rw [zX c11] at H; have c11b0 : (Op.bytesLess ([90] : List UInt8) (((rd_T44 l0 x7_1).f0).toList)) = true := c11; clear c11; have H' := za H; clear H; have hcz12_0 : w6.cell? ⟨gb102, 0, none⟩ = some (.string (⟨#[]⟩ : ByteArray)) := (blk_cell BK102.1 0).trans rfl; have hcz12_1 : w6.cell? ⟨gb102, 1, none⟩ = some (.int .i64 0) := (blk_cell BK102.1 1).trans rfl; have hcz12_2 : w6.cell? ⟨gb102, 2, none⟩ = some (.int .i64 0) := (blk_cell BK102.1 2).trans rfl; have hfz12_0 := ze BK102.1 0; have hfz12_1 := ze BK102.1 1; have hfz12_2 := ze BK102.1 2
          go_wp2
          repeat (go_quiet (fail); try go_wp2)
          go_meet
          case rel => exact ⟨_, (true), (qK17), H', ⟨by have := HK1.1; first | omega | exact zn _⟩, ⟨(qK26)⟩, ⟨(qK6 GE102.1)⟩⟩
         ·rw [zY c11] at H
          have c11b0 : (Op.bytesLess ([90] : List UInt8) (((rd_T44 l0 x7_1).f0).toList)) = false := by simpa using c11
          clear c11; replace H := bindA H; obtain ⟨t103, A13, H⟩ := H; (try dsimp only at H)
          by_cases c14 : t103 = true
          ·subst c14; rw [zX rfl] at H; replace H := bindA H; obtain ⟨t104, A15, H⟩ := H; (try dsimp only at H); have H' := za H; clear H; have hcz16_0 : w6.cell? ⟨gb102, 0, none⟩ = some (.string (⟨#[]⟩ : ByteArray)) := (blk_cell BK102.1 0).trans rfl; have hcz16_1 : w6.cell? ⟨gb102, 1, none⟩ = some (.int .i64 0) := (blk_cell BK102.1 1).trans rfl; have hcz16_2 : w6.cell? ⟨gb102, 2, none⟩ = some (.int .i64 0) := (blk_cell BK102.1 2).trans rfl; have hfz16_0 := ze BK102.1 0; have hfz16_1 := ze BK102.1 1; have hfz16_2 := ze BK102.1 2
           go_wp2_with (first | (go_at_call 61; (with_reducible refine (impl_within.calls ((rd_T44 l0 x7_1).f1) (-1000) 1000 true _ A13.1).mono ?_); rintro e w' ⟨rfl, ⟨nd, rfl⟩⟩; (try first | exact ⟨rfl, _, zO _ _ _⟩ | exact ⟨rfl, _, Eq.trans (zO _ _ _) (congrArg (World.drewN _) (Nat.add_assoc _ _ _))⟩)) | (go_at_call 61; (with_reducible refine (impl_within.calls ((rd_T44 l0 x7_1).f2) (-1000) 1000 t104 _ A15.1).mono ?_); rintro e w' ⟨rfl, ⟨nd, rfl⟩⟩; (try first | exact ⟨rfl, _, zO _ _ _⟩ | exact ⟨rfl, _, Eq.trans (zO _ _ _) (congrArg (World.drewN _) (Nat.add_assoc _ _ _))⟩)))
           repeat (go_quiet (first | (go_at_call 61; (with_reducible refine (impl_within.calls ((rd_T44 l0 x7_1).f1) (-1000) 1000 true _ A13.1).mono ?_); rintro e w' ⟨rfl, ⟨nd, rfl⟩⟩; (try first | exact ⟨rfl, _, zO _ _ _⟩ | exact ⟨rfl, _, Eq.trans (zO _ _ _) (congrArg (World.drewN _) (Nat.add_assoc _ _ _))⟩)) | (go_at_call 61; (with_reducible refine (impl_within.calls ((rd_T44 l0 x7_1).f2) (-1000) 1000 t104 _ A15.1).mono ?_); rintro e w' ⟨rfl, ⟨nd, rfl⟩⟩; (try first | exact ⟨rfl, _, zO _ _ _⟩ | exact ⟨rfl, _, Eq.trans (zO _ _ _) (congrArg (World.drewN _) (Nat.add_assoc _ _ _))⟩))); try go_wp2_with (first | (go_at_call 61; (with_reducible refine (impl_within.calls ((rd_T44 l0 x7_1).f1) (-1000) 1000 true _ A13.1).mono ?_); rintro e w' ⟨rfl, ⟨nd, rfl⟩⟩; (try first | exact ⟨rfl, _, zO _ _ _⟩ | exact ⟨rfl, _, Eq.trans (zO _ _ _) (congrArg (World.drewN _) (Nat.add_assoc _ _ _))⟩)) | (go_at_call 61; (with_reducible refine (impl_within.calls ((rd_T44 l0 x7_1).f2) (-1000) 1000 t104 _ A15.1).mono ?_); rintro e w' ⟨rfl, ⟨nd, rfl⟩⟩; (try first | exact ⟨rfl, _, zO _ _ _⟩ | exact ⟨rfl, _, Eq.trans (zO _ _ _) (congrArg (World.drewN _) (Nat.add_assoc _ _ _))⟩))))
           go_meet
           case rel => exact ⟨_, (!t104), (qK17), H', ⟨by have := HK1.1; first | omega | exact zn _⟩, ⟨(qK26)⟩, ⟨(qK6 GE102.1)⟩⟩
          ·replace c14 := zm c14; subst c14; rw [zY (show ¬ (false = true) by decide)] at H; have H' := za H; clear H; have hcz17_0 : w6.cell? ⟨gb102, 0, none⟩ = some (.string (⟨#[]⟩ : ByteArray)) := (blk_cell BK102.1 0).trans rfl; have hcz17_1 : w6.cell? ⟨gb102, 1, none⟩ = some (.int .i64 0) := (blk_cell BK102.1 1).trans rfl; have hcz17_2 : w6.cell? ⟨gb102, 2, none⟩ = some (.int .i64 0) := (blk_cell BK102.1 2).trans rfl; have hfz17_0 := ze BK102.1 0; have hfz17_1 := ze BK102.1 1; have hfz17_2 := ze BK102.1 2
           go_wp2_with (first | (go_at_call 61; (with_reducible refine (impl_within.calls ((rd_T44 l0 x7_1).f1) (-1000) 1000 false _ A13.1).mono ?_); rintro e w' ⟨rfl, ⟨nd, rfl⟩⟩; (try first | exact ⟨rfl, _, zO _ _ _⟩ | exact ⟨rfl, _, Eq.trans (zO _ _ _) (congrArg (World.drewN _) (Nat.add_assoc _ _ _))⟩)))
           repeat (go_quiet (first | (go_at_call 61; (with_reducible refine (impl_within.calls ((rd_T44 l0 x7_1).f1) (-1000) 1000 false _ A13.1).mono ?_); rintro e w' ⟨rfl, ⟨nd, rfl⟩⟩; (try first | exact ⟨rfl, _, zO _ _ _⟩ | exact ⟨rfl, _, Eq.trans (zO _ _ _) (congrArg (World.drewN _) (Nat.add_assoc _ _ _))⟩))); try go_wp2_with (first | (go_at_call 61; (with_reducible refine (impl_within.calls ((rd_T44 l0 x7_1).f1) (-1000) 1000 false _ A13.1).mono ?_); rintro e w' ⟨rfl, ⟨nd, rfl⟩⟩; (try first | exact ⟨rfl, _, zO _ _ _⟩ | exact ⟨rfl, _, Eq.trans (zO _ _ _) (congrArg (World.drewN _) (Nat.add_assoc _ _ _))⟩))))
           go_meet
           case rel => exact ⟨_, (true), (qK17), H', ⟨by have := HK1.1; first | omega | exact zn _⟩, ⟨(qK26)⟩, ⟨(qK6 GE102.1)⟩⟩
       ·rw [zY c8] at H; have c8b0 : ((((rd_T44 l0 x7_1).f0).size : Int) == 1) = false := zw c8; have c8b1 : ((((rd_T44 l0 x7_1).f0).size : Int) != 1) = true := zQ c8
        (first | rw [c8b0] | (simp only [i64_w, i32_w]; rw [c8b0]) | skip)
        have H' := za H; clear H; have hcz18_0 : w6.cell? ⟨gb102, 0, none⟩ = some (.string (⟨#[]⟩ : ByteArray)) := (blk_cell BK102.1 0).trans rfl; have hcz18_1 : w6.cell? ⟨gb102, 1, none⟩ = some (.int .i64 0) := (blk_cell BK102.1 1).trans rfl; have hcz18_2 : w6.cell? ⟨gb102, 2, none⟩ = some (.int .i64 0) := (blk_cell BK102.1 2).trans rfl; have hfz18_0 := ze BK102.1 0; have hfz18_1 := ze BK102.1 1; have hfz18_2 := ze BK102.1 2
        go_wp2
        repeat (go_quiet (fail); try go_wp2)
        go_meet
        case rel => exact ⟨_, (true), (qK17), H', ⟨by have := HK1.1; first | omega | exact zn _⟩, ⟨(qK26)⟩, ⟨(qK6 GE102.1)⟩⟩
      case rest =>
       clear HC5; (try clear c2b0); (try clear c3b0); (try clear c4b0); (try clear hcz7_0); (try clear hcz7_1); (try clear hcz7_2); (try clear hfz7_0); (try clear hfz7_1); (try clear hfz7_2); (try clear hx101_0); (try clear hx101_1); (try clear hx101_2); (try clear p101); (try clear q101); obtain ⟨kq, x37_4, rfl, HA, HJ4, BK102, HB⟩ := hcut
       cases kq with
       | zero => exact zM HA.1 (by simp [impl_AreMarks.j1])
       | succ kj4 =>
        have H := HA.1; clear HA; simp only [impl_AreMarks.j1] at H
        by_cases c19 : x37_4 = true
        ·subst c19; rw [zX rfl] at H; obtain rfl := zl H
         go_wp2
         repeat (go_quiet (fail); try go_wp2)
         go_ret
         exact ⟨(qK15), (qK6 GE102.1)⟩
        ·replace c19 := zm c19; subst c19; rw [zY (show ¬ (false = true) by decide)] at H
         by_cases c20 : x7_1 > 0
         ·rw [zX c20] at H; have c20b0 : decide (0 < x7_1) = true := zc c20; clear c20; obtain ⟨ji21, hji21⟩ : ∃ j_ : Int, (wrap64 (x7_1 - 1)) = j_ := ⟨_, rfl⟩
          replace H : (if 0 ≤ (ji21) then (if (ji21) < (l0.length : Int) then (if ((Op.bytesLess (((rd_T44 l0 (ji21)).f0).toList) ((rd_T44 l0 x7_1).f0).toList) = true) then (impl_AreMarks.l0 kj4 l0 l0 (l0.length : Int) (wrap64 (x7_1 + 1))) else (some false)) else (none)) else (none)) = some r := by first | (rw [hji21] at H; exact H) | (simp only [hji21] at H ⊢; exact H)
          have hji21w : (IntKind.i64.wrap (x7_1 - 1)) = ji21 := (i64_w _).trans hji21
          by_cases c22 : 0 ≤ (ji21)
          ·rw [zX c22] at H; have c22b0 : decide (0 ≤ (ji21)) = true := zc c22; clear c22
           by_cases c23 : (ji21) < (l0.length : Int)
           ·rw [zX c23] at H; have c23b0 : decide ((ji21) < (l0.length : Int)) = true := zc c23; clear c23
            by_cases c24 : ((Op.bytesLess (((rd_T44 l0 (ji21)).f0).toList) ((rd_T44 l0 x7_1).f0).toList) = true)
            ·rw [zX c24] at H; have c24b0 : (Op.bytesLess (((rd_T44 l0 (ji21)).f0).toList) ((rd_T44 l0 x7_1).f0).toList) = true := c24; clear c24; have H' := za H; clear H; have p105 : 0 ≤ ((ji21) : Int) := zb (qK12); have q105 : (ji21) < (l0.length : Int) := zb (qK12); obtain ⟨ad105, e105, hx105_0, hx105_1, hx105_2⟩ := at_T44 HR0.1 (ji21) p105 q105; obtain rfl : ad101 = ad105 := (by injection e105); replace hx105_0 := (HB.1.cell (zd w _ hx105_0)).trans hx105_0; replace hx105_1 := (HB.1.cell (zd w _ hx105_1)).trans hx105_1; replace hx105_2 := (HB.1.cell (zd w _ hx105_2)).trans hx105_2; replace p105 := zv p105; replace q105 := zv q105; have hcz25_0 : wc.cell? ⟨gb102, 0, none⟩ = some (.string ((rd_T44 l0 x7_1).f0)) := (blk_cell BK102.1 0).trans rfl; have hcz25_1 : wc.cell? ⟨gb102, 1, none⟩ = some (.int .i64 ((rd_T44 l0 x7_1).f1)) := (blk_cell BK102.1 1).trans rfl; have hcz25_2 : wc.cell? ⟨gb102, 2, none⟩ = some (.int .i64 ((rd_T44 l0 x7_1).f2)) := (blk_cell BK102.1 2).trans rfl; have hfz25_0 := ze BK102.1 0; have hfz25_1 := ze BK102.1 1; have hfz25_2 := ze BK102.1 2
             go_wp2
             repeat (go_quiet (fail); try go_wp2)
             go_roundg kj4
             case measure => have := HK1.1; have := HJ4.1; omega
             case rel => exact ⟨(wrap64 (x7_1 + 1)), (qK17), H', ⟨by have := HK1.1; have := HJ4.1; omega⟩, ⟨(qK6 GE102.1)⟩⟩
            ·rw [zY c24] at H
             have c24b0 : (Op.bytesLess (((rd_T44 l0 (ji21)).f0).toList) ((rd_T44 l0 x7_1).f0).toList) = false := by simpa using c24
             clear c24; obtain rfl := zl H; have p105 : 0 ≤ ((ji21) : Int) := zb (qK12); have q105 : (ji21) < (l0.length : Int) := zb (qK12); obtain ⟨ad105, e105, hx105_0, hx105_1, hx105_2⟩ := at_T44 HR0.1 (ji21) p105 q105; obtain rfl : ad101 = ad105 := (by injection e105); replace hx105_0 := (HB.1.cell (zd w _ hx105_0)).trans hx105_0; replace hx105_1 := (HB.1.cell (zd w _ hx105_1)).trans hx105_1; replace hx105_2 := (HB.1.cell (zd w _ hx105_2)).trans hx105_2; replace p105 := zv p105; replace q105 := zv q105; have hcz26_0 : wc.cell? ⟨gb102, 0, none⟩ = some (.string ((rd_T44 l0 x7_1).f0)) := (blk_cell BK102.1 0).trans rfl; have hcz26_1 : wc.cell? ⟨gb102, 1, none⟩ = some (.int .i64 ((rd_T44 l0 x7_1).f1)) := (blk_cell BK102.1 1).trans rfl; have hcz26_2 : wc.cell? ⟨gb102, 2, none⟩ = some (.int .i64 ((rd_T44 l0 x7_1).f2)) := (blk_cell BK102.1 2).trans rfl; have hfz26_0 := ze BK102.1 0; have hfz26_1 := ze BK102.1 1; have hfz26_2 := ze BK102.1 2
             go_wp2
             repeat (go_quiet (fail); try go_wp2)
             go_ret
             exact ⟨(by first | rfl | (simp [errW_none, errW_some] <;> rfl) | (simp only [← hji21]; first | rfl | (simp [errW_none, errW_some] <;> rfl)) | (simp [*, errW_none, errW_some] <;> rfl)), (qK6 GE102.1)⟩
           ·rw [zY c23] at H
            exact zM H (by simp)
          ·rw [zY c22] at H
           exact zM H (by simp)
         ·rw [zY c20] at H; have c20b0 : decide (0 < x7_1) = false := zu c20; clear c20; have H' := za H; clear H
          go_wp2
          repeat (go_quiet (fail); try go_wp2)
          go_roundg kj4
          case measure => have := HK1.1; have := HJ4.1; omega
          case rel => exact ⟨(wrap64 (x7_1 + 1)), (qK17), H', ⟨by have := HK1.1; have := HJ4.1; omega⟩, ⟨(qK6 GE102.1)⟩⟩
     ·rw [zY c4] at H
      exact zM H (by simp)
    ·rw [zY c3] at H
     exact zM H (by simp)
   ·rw [zY c2] at H; have c2b0 : decide (x7_1 < (l0.length : Int)) = false := zu c2; clear c2; obtain rfl := zl H
    go_wp2
    repeat (go_quiet (fail); try go_wp2)
    go_ret
    exact ⟨(qK15), (qK2)⟩

def impl_modulo.f (a0 : Int) (a1 : Int) : Option (Int) := if a1 = 0 then (none) else (some (Int.tmod (wrap64 ((Int.tmod a0 a1) + a1)) a1))
theorem impl_modulo.calls (a0 : Int) (a1 : Int) (r : Int) (w : World) (h : impl_modulo.f a0 a1 = some r) :
  Calls Try.prog 95 #[.int .i64 a0, .int .i64 a1] w fun e w' => e = .returned (.int .i64 r) ∧ Drawn0 w w' := by
 have H : (if a1 = 0 then (none) else (some (Int.tmod (wrap64 ((Int.tmod a0 a1) + a1)) a1))) = some r := h; clear h
 by_cases c3 : a1 = 0
 ·rw [zX c3] at H
  exact zM H (by simp)
 ·rw [zY c3] at H; have c3b0 : (a1 == 0) = false := zw c3; have c3b1 : (a1 != 0) = true := zQ c3; obtain rfl := zl H
  go_enter Try.func95, Try.ntmps95
  go_wp2
  go_ret
  exact ⟨(qK17), (qK35)⟩

def impl_floorDiv.f (a0 : Int) (a1 : Int) : Option (Int) := (impl_modulo.f a0 a1).bind fun t106 => (if a1 = 0 then (none) else (some (wrap64 (Int.tdiv (wrap64 (a0 - t106)) a1))))
theorem impl_floorDiv.calls (a0 : Int) (a1 : Int) (r : Int) (w : World) (h : impl_floorDiv.f a0 a1 = some r) :
  Calls Try.prog 82 #[.int .i64 a0, .int .i64 a1] w fun e w' => e = .returned (.int .i64 r) ∧ Drawn0 w w' := by
 have H : ((impl_modulo.f a0 a1).bind fun t106 => (if a1 = 0 then (none) else (some (wrap64 (Int.tdiv (wrap64 (a0 - t106)) a1))))) = some r := h; clear h; replace H := bindA H; obtain ⟨t106, A3, H⟩ := H; (try dsimp only at H)
 by_cases c4 : a1 = 0
 ·rw [zX c4] at H
  exact zM H (by simp)
 ·rw [zY c4] at H; have c4b0 : (a1 == 0) = false := zw c4; have c4b1 : (a1 != 0) = true := zQ c4; obtain rfl := zl H
  go_enter Try.func82, Try.ntmps82
  go_wp2_with (first | ((with_reducible refine zo (f := 95) rfl ?_); refine zR (some 8) rfl rfl Try.func95 (qK18) rfl #[.int .i64 a0, .int .i64 a1] rfl (qK5) ?_; (with_reducible refine (impl_modulo.calls a0 a1 t106 _ A3.1).mono ?_); rintro e w' ⟨rfl, ⟨nd, rfl⟩⟩; refine ⟨_, rfl, ?_⟩))
  go_ret
  exact ⟨(qK17), (qK35)⟩

/-- A state of type 79 at block g of W; what its slices lead to came in by w0. -/
def IsS79 (w0 W : World) (g : Nat) (f0 : List (S44)) (f1 : Int) (f2 : Int) (f3 : Int) (f4 : Int) (f5 : Int) : Prop := ∃ A0 c0, W.heap[g]? = some (.cells #[.slice A0 f0.length c0, .int .i64 f1, .int .i64 f2, .int .i64 f3, .int .i64 f4, .int .i64 f5] 79 (0, 0)) ∧ w0.heap.size ≤ g ∧ Kd.C k44 w0 A0 f0.length f0
theorem IsS79.grown {w0 W : World} {g : Nat} {f0 : List (S44)} {f1 : Int} {f2 : Int} {f3 : Int} {f4 : Int} {f5 : Int} {W1 : World} {row : Option Nat} (h : IsS79 w0 W g f0 f1 f2 f3 f4 f5) (hw : W.grownBy W1 row) (hne : some g ≠ row) : IsS79 w0 W1 g f0 f1 f2 f3 f4 f5 := by
 obtain ⟨A0, c0, hb, hg, hr0⟩ := h
 exact ⟨A0, c0, blk_grown hb hw hne, hg, hr0⟩
theorem IsS79.below {w0 W : World} {g : Nat} {f0 : List (S44)} {f1 : Int} {f2 : Int} {f3 : Int} {f4 : Int} {f5 : Int} {W1 : World} (h : IsS79 w0 W g f0 f1 f2 f3 f4 f5) (hw : Below W.heap.size W W1) : IsS79 w0 W1 g f0 f1 f2 f3 f4 f5 := h.grown (grown_of_below hw none) (by simp)
theorem IsS79.alloc {w0 W : World} {g : Nat} {f0 : List (S44)} {f1 : Int} {f2 : Int} {f3 : Int} {f4 : Int} {f5 : Int} (h : IsS79 w0 W g f0 f1 f2 f3 f4 f5) (o : Obj) : IsS79 w0 (W.alloc o) g f0 f1 f2 f3 f4 f5 := h.below (zV (zr _ _) o)
theorem IsS79.drewN {w0 W : World} {g : Nat} {f0 : List (S44)} {f1 : Int} {f2 : Int} {f3 : Int} {f4 : Int} {f5 : Int} (h : IsS79 w0 W g f0 f1 f2 f3 f4 f5) (m : Nat) : IsS79 w0 (W.drewN m) g f0 f1 f2 f3 f4 f5 := h
theorem IsS79.drew {w0 W : World} {g : Nat} {f0 : List (S44)} {f1 : Int} {f2 : Int} {f3 : Int} {f4 : Int} {f5 : Int} (h : IsS79 w0 W g f0 f1 f2 f3 f4 f5) : IsS79 w0 W.drew g f0 f1 f2 f3 f4 f5 := h
theorem IsS79.lt {w0 W : World} {g : Nat} {f0 : List (S44)} {f1 : Int} {f2 : Int} {f3 : Int} {f4 : Int} {f5 : Int} (h : IsS79 w0 W g f0 f1 f2 f3 f4 f5) : g < W.heap.size := by
 obtain ⟨A0, c0, hb, hg, hr0⟩ := h
 exact blk_lt hb
theorem IsS79.ge {w0 W : World} {g : Nat} {f0 : List (S44)} {f1 : Int} {f2 : Int} {f3 : Int} {f4 : Int} {f5 : Int} (h : IsS79 w0 W g f0 f1 f2 f3 f4 f5) : w0.heap.size ≤ g := by
 obtain ⟨A0, c0, hb, hg, hr0⟩ := h
 exact hg
theorem IsS79.ne_blk {w0 W : World} {g : Nat} {f0 : List (S44)} {f1 : Int} {f2 : Int} {f3 : Int} {f4 : Int} {f5 : Int} {a : Nat} {cs : Array Value} {t : TypeId} {fr : Nat × Nat} (h : IsS79 w0 W g f0 f1 f2 f3 f4 f5) (hb2 : W.heap[a]? = some (.cells cs t fr)) (ht : t ≠ 79) : g ≠ a := by
 obtain ⟨A0, c0, hb, hg, hr0⟩ := h
 rintro rfl
 rw [hb] at hb2
 injection hb2 with hb2
 injection hb2 with _ ht2
 exact ht ht2.symm
theorem IsS79.far {w0 W : World} {g : Nat} {f0 : List (S44)} {f1 : Int} {f2 : Int} {f3 : Int} {f4 : Int} {f5 : Int} {p : Addr} (h : IsS79 w0 W g f0 f1 f2 f3 f4 f5) (hne : g ≠ p.block) (u : Value) : IsS79 w0 (W.setCell p u) g f0 f1 f2 f3 f4 f5 := by
 obtain ⟨A0, c0, hb, hg, hr0⟩ := h
 exact ⟨A0, c0, zj hb hne u, hg, hr0⟩
theorem cellS79_0 {W : World} {g : Nat} {A0 : Option Addr} {c0 : Nat} {f0 : List (S44)} {f1 : Int} {f2 : Int} {f3 : Int} {f4 : Int} {f5 : Int} (h : W.heap[g]? = some (.cells #[.slice A0 f0.length c0, .int .i64 f1, .int .i64 f2, .int .i64 f3, .int .i64 f4, .int .i64 f5] 79 (0, 0))) : W.cell? ⟨g, 0, none⟩ = some (.slice A0 f0.length c0) := (blk_cell h 0).trans rfl
theorem cellS79_1 {W : World} {g : Nat} {A0 : Option Addr} {c0 : Nat} {f0 : List (S44)} {f1 : Int} {f2 : Int} {f3 : Int} {f4 : Int} {f5 : Int} (h : W.heap[g]? = some (.cells #[.slice A0 f0.length c0, .int .i64 f1, .int .i64 f2, .int .i64 f3, .int .i64 f4, .int .i64 f5] 79 (0, 0))) : W.cell? ⟨g, 1, none⟩ = some (.int .i64 f1) := (blk_cell h 1).trans rfl
theorem IsS79.set_1 {w0 W : World} {g : Nat} {f0 : List (S44)} {f1 : Int} {f2 : Int} {f3 : Int} {f4 : Int} {f5 : Int} (h : IsS79 w0 W g f0 f1 f2 f3 f4 f5) (x : Int) : IsS79 w0 (W.setCell ⟨g, 1, none⟩ (.int .i64 x)) g f0 x f2 f3 f4 f5 := by
 obtain ⟨A0, c0, hb, hg, hr0⟩ := h
 exact ⟨A0, c0, by simpa using blk_set hb 1 (.int .i64 x), hg, hr0⟩
theorem cellS79_2 {W : World} {g : Nat} {A0 : Option Addr} {c0 : Nat} {f0 : List (S44)} {f1 : Int} {f2 : Int} {f3 : Int} {f4 : Int} {f5 : Int} (h : W.heap[g]? = some (.cells #[.slice A0 f0.length c0, .int .i64 f1, .int .i64 f2, .int .i64 f3, .int .i64 f4, .int .i64 f5] 79 (0, 0))) : W.cell? ⟨g, 2, none⟩ = some (.int .i64 f2) := (blk_cell h 2).trans rfl
theorem IsS79.set_2 {w0 W : World} {g : Nat} {f0 : List (S44)} {f1 : Int} {f2 : Int} {f3 : Int} {f4 : Int} {f5 : Int} (h : IsS79 w0 W g f0 f1 f2 f3 f4 f5) (x : Int) : IsS79 w0 (W.setCell ⟨g, 2, none⟩ (.int .i64 x)) g f0 f1 x f3 f4 f5 := by
 obtain ⟨A0, c0, hb, hg, hr0⟩ := h
 exact ⟨A0, c0, by simpa using blk_set hb 2 (.int .i64 x), hg, hr0⟩
theorem cellS79_3 {W : World} {g : Nat} {A0 : Option Addr} {c0 : Nat} {f0 : List (S44)} {f1 : Int} {f2 : Int} {f3 : Int} {f4 : Int} {f5 : Int} (h : W.heap[g]? = some (.cells #[.slice A0 f0.length c0, .int .i64 f1, .int .i64 f2, .int .i64 f3, .int .i64 f4, .int .i64 f5] 79 (0, 0))) : W.cell? ⟨g, 3, none⟩ = some (.int .i64 f3) := (blk_cell h 3).trans rfl
theorem IsS79.set_3 {w0 W : World} {g : Nat} {f0 : List (S44)} {f1 : Int} {f2 : Int} {f3 : Int} {f4 : Int} {f5 : Int} (h : IsS79 w0 W g f0 f1 f2 f3 f4 f5) (x : Int) : IsS79 w0 (W.setCell ⟨g, 3, none⟩ (.int .i64 x)) g f0 f1 f2 x f4 f5 := by
 obtain ⟨A0, c0, hb, hg, hr0⟩ := h
 exact ⟨A0, c0, by simpa using blk_set hb 3 (.int .i64 x), hg, hr0⟩
theorem cellS79_4 {W : World} {g : Nat} {A0 : Option Addr} {c0 : Nat} {f0 : List (S44)} {f1 : Int} {f2 : Int} {f3 : Int} {f4 : Int} {f5 : Int} (h : W.heap[g]? = some (.cells #[.slice A0 f0.length c0, .int .i64 f1, .int .i64 f2, .int .i64 f3, .int .i64 f4, .int .i64 f5] 79 (0, 0))) : W.cell? ⟨g, 4, none⟩ = some (.int .i64 f4) := (blk_cell h 4).trans rfl
theorem IsS79.set_4 {w0 W : World} {g : Nat} {f0 : List (S44)} {f1 : Int} {f2 : Int} {f3 : Int} {f4 : Int} {f5 : Int} (h : IsS79 w0 W g f0 f1 f2 f3 f4 f5) (x : Int) : IsS79 w0 (W.setCell ⟨g, 4, none⟩ (.int .i64 x)) g f0 f1 f2 f3 x f5 := by
 obtain ⟨A0, c0, hb, hg, hr0⟩ := h
 exact ⟨A0, c0, by simpa using blk_set hb 4 (.int .i64 x), hg, hr0⟩
theorem cellS79_5 {W : World} {g : Nat} {A0 : Option Addr} {c0 : Nat} {f0 : List (S44)} {f1 : Int} {f2 : Int} {f3 : Int} {f4 : Int} {f5 : Int} (h : W.heap[g]? = some (.cells #[.slice A0 f0.length c0, .int .i64 f1, .int .i64 f2, .int .i64 f3, .int .i64 f4, .int .i64 f5] 79 (0, 0))) : W.cell? ⟨g, 5, none⟩ = some (.int .i64 f5) := (blk_cell h 5).trans rfl
theorem IsS79.set_5 {w0 W : World} {g : Nat} {f0 : List (S44)} {f1 : Int} {f2 : Int} {f3 : Int} {f4 : Int} {f5 : Int} (h : IsS79 w0 W g f0 f1 f2 f3 f4 f5) (x : Int) : IsS79 w0 (W.setCell ⟨g, 5, none⟩ (.int .i64 x)) g f0 f1 f2 f3 f4 x := by
 obtain ⟨A0, c0, hb, hg, hr0⟩ := h
 exact ⟨A0, c0, by simpa using blk_set hb 5 (.int .i64 x), hg, hr0⟩
def impl_newPlan.l0 : Nat → Int → Int → Int → List (S44) → Int → Int → List (S44) → Int → Int → Int → Int → Int → Option ((List (S44)) × Int × Int × Int × Int × Int)
 | 0, _, _, _, _, _, _, _, _, _, _, _, _ => none
 | k + 1, x1, x6, x7, x16, x17, x18, x108000, x108001, x108002, x108003, x108004, x108005 => if x18 < x17 then (if 0 ≤ x18 then (if x18 < (x16.length : Int) then ((impl_floorDiv.f ((rd_T44 x16 x18).f1) x1).bind fun t110 => ((impl_floorDiv.f ((rd_T44 x16 x18).f2) x1).bind fun t111 => (if x18 = 0 then (impl_newPlan.l0 k x1 (mx t110 t110) (mn t111 t111) x16 x17 (wrap64 (x18 + 1)) x108000 x108001 (mn t110 t110) (mx t111 t111) x108004 x108005) else (impl_newPlan.l0 k x1 (mx x6 t110) (mn x7 t111) x16 x17 (wrap64 (x18 + 1)) x108000 x108001 (mn x108002 t110) (mx x108003 t111) x108004 x108005)))) else (none)) else (none)) else (some (x108000, x108001, x108002, x108003, wrap64 ((wrap64 (x6 - x108002)) + 1), wrap64 ((wrap64 (x108003 - x7)) + 1)))
def impl_newPlan.f (k : Nat) (l0 : List (S44)) (a1 : Int) : Option ((List (S44)) × Int × Int × Int × Int × Int) := impl_newPlan.l0 k a1 0 0 l0 (l0.length : Int) 0 l0 a1 0 0 0 0
def impl_newPlan.T6 : Bool × List (List Nat × List Nat) := (true, [([], []), ([0], [0]), ([], []), ([1, 2], [1, 2]), ([], []), ([4], [4]), ([], []), ([5, 6, 3], [5, 6]), ([3, 7, 0, 1, 2, 3], [3]), ([7, 8, 0, 1, 2, 3, 4, 5, 6, 7, 8], [7])])
def impl_newPlan.B6 : List Nat := [0, 1, 0, 7, 0, 16, 0, 127, 255, 511]
theorem impl_newPlan.tab6 : rtab .any (opsOf Try.f62 6) = impl_newPlan.T6 := by kernel_rfl
theorem impl_newPlan.bits6 : waitsOk impl_newPlan.T6.2 impl_newPlan.B6 = true := by kernel_rfl
def impl_newPlan.T12 : Bool × List (List Nat × List Nat) := (true, [([], []), ([], []), ([], []), ([], []), ([3], [3]), ([4], [4]), ([5], [5]), ([2, 6], [2, 6]), ([7], [7]), ([], []), ([9], [9]), ([10], [10]), ([11], [11]), ([], []), ([12, 13], [12, 13]), ([14], [14]), ([0, 0, 2, 3, 4, 5, 6, 7, 8, 12], [0]), ([16, 0, 2, 3, 4, 5, 6, 7, 8, 12], [16]), ([17, 8, 0, 2, 3, 4, 5, 6, 7, 8, 12], [8, 17]), ([1, 0, 1, 2, 3, 4, 5, 6, 7, 8, 9, 10, 11, 12, 13, 14, 15, 16, 17, 18], [1]), ([19, 0, 1, 2, 3, 4, 5, 6, 7, 8, 9, 10, 11, 12, 13, 14, 15, 16, 17, 18], [19]), ([20, 15, 18, 0, 1, 2, 3, 4, 5, 6, 7, 8, 9, 10, 11, 12, 13, 14, 15, 16, 17, 18], [15, 20])])
def impl_newPlan.B12 : List Nat := [0, 0, 0, 0, 8, 24, 56, 124, 252, 0, 512, 1536, 3584, 0, 15872, 32256, 8189, 73725, 204797, 524287, 1048575, 2097151]
theorem impl_newPlan.tab12 : rtab .any (opsOf Try.f62 12) = impl_newPlan.T12 := by kernel_rfl
theorem impl_newPlan.bits12 : waitsOk impl_newPlan.T12.2 impl_newPlan.B12 = true := by kernel_rfl
theorem impl_newPlan.calls (k : Nat) (A0 : Option Addr) (c0 : Nat) (l0 : List (S44)) (a1 : Int) (r1 : List (S44)) (r2 : Int) (r3 : Int) (r4 : Int) (r5 : Int) (r6 : Int) (w0 w : World) (hB : Below w0.heap.size w0 w) (hr0 : Kd.C k44 w0 A0 l0.length l0) (hc0 : l0.length ≤ c0) (h : impl_newPlan.f k l0 a1 = some (r1, r2, r3, r4, r5, r6)) :
  Calls Try.prog 62 #[.slice A0 l0.length c0, .int .i64 a1] w fun e w' => ∃ g_ : Nat, e = .returned (.pointer (some ⟨g_, 0, none⟩)) ∧ IsS79 w0 w' g_ r1 r2 r3 r4 r5 r6 ∧ Below w0.heap.size w0 w' ∧ Below w.heap.size w w' := by
 have hu79 := Try.underlying79; have hu44 := Try.underlying44; have HR0 := za hr0; have HC0 := za hc0; clear hr0 hc0; have HBW := za (zr w.heap.size w); have HW0 := za hB.size; have HB := za hB; clear hB; have H : (impl_newPlan.l0 k a1 0 0 l0 (l0.length : Int) 0 l0 a1 0 0 0 0) = some (r1, r2, r3, r4, r5, r6) := h; clear h; have H' := za H; clear H
 go_enter Try.func62, Try.ntmps62
 go_wp2_with (first | ((with_reducible refine zp (N := 15) rfl ?_); refine zA ?hg (N := 15) ?hd (cs := #[.slice A0 l0.length c0, .int .i64 a1, .int .i64 0, .int .i64 0, .int .i64 0, .int .i64 0]) (t := 79) ?hr ?_; (case hd | hg => rfl); (case hr => exact (qK21)); intro gb107 hg w3 hbox hb; replace HB := za qK85; have BK107 := za hbox; have GW107 := za (by exact (by rw [hg]; exact (zT (qK66)) : w.heap.size ≤ gb107)); have GE107 := za (by exact (Nat.le_trans HW0.1 (by rw [hg]; exact (zT (qK66)) : w.heap.size ≤ gb107) : w0.heap.size ≤ gb107)); replace HBW := za (zS HBW.1 hb); clear hb hbox hg))
 go_loopg [6, 7, 18] k (fun kq v6 v7 v18 w' => ∃ (x6_1 : Int) (x7_1 : Int) (x18_1 : Int) (x108002_1 : Int) (x108003_1 : Int), v6 = .int .i64 x6_1 ∧ v7 = .int .i64 x7_1 ∧ v18 = .int .i64 x18_1 ∧ Aside0 (impl_newPlan.l0 kq a1 x6_1 x7_1 l0 (l0.length : Int) x18_1 l0 a1 x108002_1 x108003_1 0 0 = some (r1, r2, r3, r4, r5, r6)) ∧ Aside0 (kq ≤ k) ∧ Aside0 (w'.heap[gb107]? = some (.cells #[(.slice A0 l0.length c0), .int .i64 a1, .int .i64 x108002_1, .int .i64 x108003_1, .int .i64 0, .int .i64 0] 79 (0, 0))) ∧ Aside0 (Below w0.heap.size w0 w') ∧ Aside0 (Below w.heap.size w w'))
 case atStart => exact ⟨(0), (0), (0), (0), (0), (qK17), (qK17), (qK17), H', ⟨zn _⟩, ⟨(qK41 BK107.1)⟩, ⟨(qK6 GE107.1)⟩, ⟨(qK43)⟩⟩
 case round =>
  clear H'; obtain ⟨x6_1, x7_1, x18_1, x108002_1, x108003_1, rfl, rfl, rfl, HA, HK1, BK107, HB, HBW⟩ := hrel
  cases gk with
  | zero => exact zM HA.1 (by simp [impl_newPlan.l0])
  | succ k1 =>
   have H := HA.1; clear HA; simp only [impl_newPlan.l0] at H
   by_cases c4 : x18_1 < (l0.length : Int)
   ·rw [zX c4] at H; have c4b0 : decide (x18_1 < (l0.length : Int)) = true := zc c4; clear c4
    by_cases c5 : 0 ≤ x18_1
    ·rw [zX c5] at H; have c5b0 : decide (0 ≤ x18_1) = true := zc c5; clear c5
     by_cases c6 : x18_1 < (l0.length : Int)
     ·rw [zX c6] at H; have c6b0 : decide (x18_1 < (l0.length : Int)) = true := zc c6; clear c6; replace H := bindA H; obtain ⟨t110, A7, H⟩ := H; (try dsimp only at H); replace H := bindA H; obtain ⟨t111, A8, H⟩ := H; (try dsimp only at H)
      by_cases c9 : x18_1 = 0
      ·rw [zX c9] at H; have c9b0 : (x18_1 == 0) = true := zP c9; have c9b1 : (x18_1 != 0) = false := zx c9; clear c9; obtain ⟨ji10, hji10⟩ : ∃ j_ : Int, (mn t110 t110) = j_ := ⟨_, rfl⟩
       replace H : (impl_newPlan.l0 k1 a1 (mx t110 t110) (mn t111 t111) l0 (l0.length : Int) (wrap64 (x18_1 + 1)) l0 a1 ji10 (mx t111 t111) 0 0) = some (r1, r2, r3, r4, r5, r6) := by first | (rw [hji10] at H; exact H) | (simp only [hji10] at H ⊢; exact H)
       (try rw [hji10] at A7)
       (try rw [hji10] at A8); have hji10_ : (if t110 < t110 then t110 else t110) = ji10 := hji10; obtain ⟨ji11, hji11⟩ : ∃ j_ : Int, (mx t110 t110) = j_ := ⟨_, rfl⟩
       replace H : (impl_newPlan.l0 k1 a1 ji11 (mn t111 t111) l0 (l0.length : Int) (wrap64 (x18_1 + 1)) l0 a1 ji10 (mx t111 t111) 0 0) = some (r1, r2, r3, r4, r5, r6) := by first | (rw [hji11] at H; exact H) | (simp only [hji11] at H ⊢; exact H)
       (try rw [hji11] at A7)
       (try rw [hji11] at A8); have hji11_ : (if t110 < t110 then t110 else t110) = ji11 := hji11; obtain ⟨ji12, hji12⟩ : ∃ j_ : Int, (mx t111 t111) = j_ := ⟨_, rfl⟩
       replace H : (impl_newPlan.l0 k1 a1 ji11 (mn t111 t111) l0 (l0.length : Int) (wrap64 (x18_1 + 1)) l0 a1 ji10 ji12 0 0) = some (r1, r2, r3, r4, r5, r6) := by first | (rw [hji12] at H; exact H) | (simp only [hji12] at H ⊢; exact H)
       (try rw [hji12] at A7)
       (try rw [hji12] at A8); have hji12_ : (if t111 < t111 then t111 else t111) = ji12 := hji12; obtain ⟨ji13, hji13⟩ : ∃ j_ : Int, (mn t111 t111) = j_ := ⟨_, rfl⟩
       replace H : (impl_newPlan.l0 k1 a1 ji11 ji13 l0 (l0.length : Int) (wrap64 (x18_1 + 1)) l0 a1 ji10 ji12 0 0) = some (r1, r2, r3, r4, r5, r6) := by first | (rw [hji13] at H; exact H) | (simp only [hji13] at H ⊢; exact H)
       (try rw [hji13] at A7)
       (try rw [hji13] at A8); have hji13_ : (if t111 < t111 then t111 else t111) = ji13 := hji13
       have e_ji10 : mn t110 t110 = t110 := by simp [mn]
       rw [e_ji10] at hji10; subst hji10
       have e_ji11 : mx t110 t110 = t110 := by simp [mx]
       rw [e_ji11] at hji11; subst hji11
       have e_ji12 : mx t111 t111 = t111 := by simp [mx]
       rw [e_ji12] at hji12; subst hji12
       have e_ji13 : mn t111 t111 = t111 := by simp [mn]
       rw [e_ji13] at hji13; subst hji13; have H' := za H; clear H; have p108 : 0 ≤ (x18_1 : Int) := zb (qK12); have q108 : x18_1 < (l0.length : Int) := zb (qK12); obtain ⟨ad108, e108, hx108_0, hx108_1, hx108_2⟩ := at_T44 HR0.1 x18_1 p108 q108; cases e108; replace hx108_0 := pw_cell_below HB.1 hx108_0; replace hx108_1 := pw_cell_below HB.1 hx108_1; replace hx108_2 := pw_cell_below HB.1 hx108_2; replace p108 := zv p108; replace q108 := zv q108
       try go_wp2_with (first | ((with_reducible refine zp (N := 9) rfl ?_); refine zA ?hg (N := 9) ?hd (cs := #[.string (⟨#[]⟩ : ByteArray), .int .i64 0, .int .i64 0]) (t := 44) ?hr ?_; (case hd | hg => rfl); (case hr => exact (qK21)); intro gb109 hg w14 hbox hb; replace HB := za (zS (qK6 GE107.1) hb); have BK109 := za hbox; have GW109 := za ((by rw [hg]; exact (zT (qK43)) : w.heap.size ≤ gb109)); have GE109 := za ((Nat.le_trans HW0.1 (by rw [hg]; exact (zT (qK43)) : w.heap.size ≤ gb109) : w0.heap.size ≤ gb109)); replace HBW := za (zS HBW.1 hb); have NB107_109 := za qK79; have NB109_107 := za qK80; replace BK107 := za (zk (qB BK107.1) hb); clear hb hbox hg; have hnb15 := NB109_107.1; have hnc15 := NB107_109.1; have hcz16_0 : w14.cell? ⟨gb109, 0, none⟩ = some (.string (⟨#[]⟩ : ByteArray)) := (blk_cell BK109.1 0).trans rfl; have hcz16_1 : w14.cell? ⟨gb109, 1, none⟩ = some (.int .i64 0) := (blk_cell BK109.1 1).trans rfl; have hcz16_2 : w14.cell? ⟨gb109, 2, none⟩ = some (.int .i64 0) := (blk_cell BK109.1 2).trans rfl; have hfz16_0 := ze BK109.1 0; have hfz16_1 := ze BK109.1 1; have hfz16_2 := ze BK109.1 2))
       have n0_ : Aside0 ((((w14.setCell ⟨gb109, 0, none⟩ (.string ((rd_T44 l0 x18_1).f0))).setCell ⟨gb109, 1, none⟩ (.int .i64 ((rd_T44 l0 x18_1).f1))).setCell ⟨gb109, 2, none⟩ (.int .i64 ((rd_T44 l0 x18_1).f2))).heap[gb107]? = some (.cells #[.slice (some ad108) l0.length c0, .int .i64 a1, .int .i64 x108002_1, .int .i64 x108003_1, .int .i64 0, .int .i64 0] 79 (0, 0))) := ⟨(qK54)⟩; have n1_ : Aside0 ((((w14.setCell ⟨gb109, 0, none⟩ (.string ((rd_T44 l0 x18_1).f0))).setCell ⟨gb109, 1, none⟩ (.int .i64 ((rd_T44 l0 x18_1).f1))).setCell ⟨gb109, 2, none⟩ (.int .i64 ((rd_T44 l0 x18_1).f2))).heap[gb109]? = some (.cells #[.string ((rd_T44 l0 x18_1).f0), .int .i64 ((rd_T44 l0 x18_1).f1), .int .i64 ((rd_T44 l0 x18_1).f2)] 44 (0, 0))) := ⟨(qK46)⟩; have n2_ : Aside0 (Below w0.heap.size w0 (((w14.setCell ⟨gb109, 0, none⟩ (.string ((rd_T44 l0 x18_1).f0))).setCell ⟨gb109, 1, none⟩ (.int .i64 ((rd_T44 l0 x18_1).f1))).setCell ⟨gb109, 2, none⟩ (.int .i64 ((rd_T44 l0 x18_1).f2)))) := ⟨(qK52)⟩; have nW_ : Aside0 (Below w.heap.size w (((w14.setCell ⟨gb109, 0, none⟩ (.string ((rd_T44 l0 x18_1).f0))).setCell ⟨gb109, 1, none⟩ (.int .i64 ((rd_T44 l0 x18_1).f1))).setCell ⟨gb109, 2, none⟩ (.int .i64 ((rd_T44 l0 x18_1).f2)))) := ⟨(qK51)⟩
       (try clear BK107)
       (try clear BK109)
       (try clear HB)
       generalize (((w14.setCell ⟨gb109, 0, none⟩ (.string ((rd_T44 l0 x18_1).f0))).setCell ⟨gb109, 1, none⟩ (.int .i64 ((rd_T44 l0 x18_1).f1))).setCell ⟨gb109, 2, none⟩ (.int .i64 ((rd_T44 l0 x18_1).f2))) = w17 at n0_ n1_ n2_ nW_ ⊢
       have BK107 := n0_; have BK109 := n1_; have HB := n2_; clear HBW; have HBW := nW_; clear nW_; clear n0_ n1_ n2_; have n0_ := za (zh BK107.1); have n1_ := za (zh BK109.1); have n2_ := za (below_drew1 HB.1); have nW_ := za (below_drew1 HBW.1); clear BK107; clear BK109; clear HB; have BK107 := n0_; have BK109 := n1_; have HB := n2_; clear HBW; have HBW := nW_; clear nW_; clear n0_ n1_ n2_
       refine start_ (n := 10) (S := fun w' => w'.cell? ⟨gb109, 0, none⟩ = some (.string ((rd_T44 l0 x18_1).f0)) ∧ w'.cell? ⟨gb109, 1, none⟩ = some (.int .i64 ((rd_T44 l0 x18_1).f1)) ∧ w'.cell? ⟨gb109, 2, none⟩ = some (.int .i64 ((rd_T44 l0 x18_1).f2))) (ds := []) qKb0 (qK18) rfl rfl ⟨(blk_cell BK109.1 0).trans rfl, (blk_cell BK109.1 1).trans rfl, (blk_cell BK109.1 2).trans rfl⟩ (fun hHeld => ?_); refine with_tabW impl_newPlan.tab6 impl_newPlan.bits6 (fun HT_ HW_ => ?_)
       generalize w17.drew = w18 at BK107 BK109 HB HBW hHeld ⊢
       refine pure_ (i := 0) (N := some 23) (v := ?_) (a' := ?_) qKb1 rfl rfl (qK9) (fun _ _ _ h => h) (zU ⟨by rfl, ?_⟩) ?_ ?_
       rotate_left; exact qK2_c1; rotate_left; exact qK2_c0
       refine pure_ (i := 2) (N := some 25) (v := ?_) (a' := ?_) qKb2 rfl rfl (qK9) (fun _ _ _ h => h) (zU ⟨by rfl, ?_⟩) ?_ ?_
       rotate_left; exact qK2_c1; rotate_left; exact qK2_c0
       refine pure_ (i := 4) (N := some 27) (v := ?_) (a' := ?_) qKb3 rfl rfl (qK9) (fun _ _ _ h => h) (zU ⟨by rfl, ?_⟩) ?_ ?_
       rotate_left; exact qK2_c1; rotate_left; exact qK2_c0
       refine pure_ (i := 6) (N := some 29) (v := ?_) (a' := ?_) qKb4 rfl rfl (qK9) (fun _ _ _ h => h) (zU ⟨by rfl, ?_⟩) ?_ ?_
       rotate_left; exact qK2_c1; rotate_left; exact qK2_c0
       refine take_ (i := 1) (N := some 24) (v := ?_) (a' := ?_) qKb5 rfl rfl (take_ofW HT_.1 HW_.1 (qK18)) (fun _ _ _ h => h) (zU ⟨by rfl, ?_⟩) hHeld ?_ ?_
       rotate_left
       ·rintro w' ⟨s0, s1, s2⟩
        go_simp
        with_reducible rfl
       rotate_left
       ·exact qK2_c0
       refine take_ (i := 5) (N := some 28) (v := ?_) (a' := ?_) qKb6 rfl rfl (take_ofW HT_.1 HW_.1 (qK18)) (fun _ _ _ h => h) (zU ⟨by rfl, ?_⟩) hHeld ?_ ?_
       rotate_left
       ·rintro w' ⟨s0, s1, s2⟩
        go_simp
        with_reducible rfl
       rotate_left
       ·exact qK2_c0
       refine one_ (i := 3) (N := some 26) qKb7 rfl rfl (qK88) (by decide) (fun K hK => ?_)
       refine goes_ Try.func82 (qK18) rfl #[.int .i64 ((rd_T44 l0 x18_1).f1), .int .i64 a1] (by rfl) rfl rfl (qK5) ?_
       with_reducible refine (impl_floorDiv.calls ((rd_T44 l0 x18_1).f1) a1 t110 _ A7.1).mono ?_
       rintro e w' ⟨rfl, ⟨nd, rfl⟩⟩
       refine ⟨_, rfl, ?_⟩
       refine hK.out _ _ ⟨(blk_cell BK109.1 0).trans rfl, (blk_cell BK109.1 1).trans rfl, (blk_cell BK109.1 2).trans rfl⟩ (fun hHeld => ?_)
       clear hK K
       refine norm_ (a' := ?_) ?_ ?_
       rotate_left
       ·show Act.put _ (some 26) _ = _
        simp only [Act.put, yb, yc, yd, i64_w, i32_w]
        rfl
       refine one_ (i := 7) (N := some 30) qKb8 rfl rfl (qK88) (by decide) (fun K hK => ?_)
       refine goes_ Try.func82 (qK18) rfl #[.int .i64 ((rd_T44 l0 x18_1).f2), .int .i64 a1] (by rfl) rfl rfl (qK5) ?_
       with_reducible refine (impl_floorDiv.calls ((rd_T44 l0 x18_1).f2) a1 t111 _ A8.1).mono ?_
       rintro e w' ⟨rfl, ⟨nd, rfl⟩⟩
       refine ⟨_, rfl, ?_⟩
       refine hK.out _ _ ⟨(blk_cell BK109.1 0).trans rfl, (blk_cell BK109.1 1).trans rfl, (blk_cell BK109.1 2).trans rfl⟩ (fun hHeld => ?_)
       clear hK K
       refine norm_ (a' := ?_) ?_ ?_
       rotate_left
       ·show Act.put _ (some 30) _ = _
        simp only [Act.put, yb, yc, yd, i64_w, i32_w]
        rfl
       refine pure_ (i := 8) (N := some 10) (v := ?_) (a' := ?_) qKb9 rfl rfl (qK9) (fun _ _ _ h => h) (zU ⟨by rfl, ?_⟩) ?_ ?_
       rotate_left; exact qK2_c1; rotate_left; exact qK2_c0
       refine pure_ (i := 9) (N := some 11) (v := ?_) (a' := ?_) qKb10 rfl rfl (qK9) (fun _ _ _ h => h) (zU ⟨by rfl, ?_⟩) ?_ ?_
       rotate_left; exact qK2_c1; rotate_left; exact qK2_c0
       refine done_ (qK101) ?_
       have hcz19_0 : w18.cell? ⟨gb107, 0, none⟩ = some (.slice (some ad108) l0.length c0) := (blk_cell BK107.1 0).trans rfl; have hcz19_1 : w18.cell? ⟨gb107, 1, none⟩ = some (.int .i64 a1) := (blk_cell BK107.1 1).trans rfl; have hcz19_2 : w18.cell? ⟨gb107, 2, none⟩ = some (.int .i64 x108002_1) := (blk_cell BK107.1 2).trans rfl; have hcz19_3 : w18.cell? ⟨gb107, 3, none⟩ = some (.int .i64 x108003_1) := (blk_cell BK107.1 3).trans rfl; have hcz19_4 : w18.cell? ⟨gb107, 4, none⟩ = some (.int .i64 0) := (blk_cell BK107.1 4).trans rfl; have hcz19_5 : w18.cell? ⟨gb107, 5, none⟩ = some (.int .i64 0) := (blk_cell BK107.1 5).trans rfl; have hfz19_0 := ze BK107.1 0; have hfz19_1 := ze BK107.1 1; have hfz19_2 := ze BK107.1 2; have hfz19_3 := ze BK107.1 3; have hfz19_4 := ze BK107.1 4; have hfz19_5 := ze BK107.1 5
       try go_wp2
       go_roundg k1
       case measure => have := HK1.1; omega
       case rel => exact ⟨(t110), (t111), (wrap64 (x18_1 + 1)), (t110), (t111), (by first | rfl | (simp; done) | (simp only [← hji11] <;> (first | rfl | simp)) | (simp [*]; done)), (by first | rfl | (simp; done) | (simp only [← hji13] <;> (first | rfl | simp)) | (simp [*]; done)), (qK17), H', ⟨by have := HK1.1; omega⟩, ⟨(by (with_reducible repeat (first | refine zg ?_ _ | refine zh ?_ | refine zf ?_ _)); refine zi (cs := #[.slice (some ad108) l0.length c0, .int .i64 a1, .int .i64 t110, .int .i64 t111, .int .i64 0, .int .i64 0]) ?_ 3 _ rfl; (with_reducible repeat (first | refine zg ?_ _ | refine zh ?_ | refine zf ?_ _)); refine zi (cs := #[.slice (some ad108) l0.length c0, .int .i64 a1, .int .i64 t110, .int .i64 t111, .int .i64 0, .int .i64 0]) ?_ 2 _ rfl; (with_reducible repeat (first | refine zg ?_ _ | refine zh ?_ | refine zf ?_ _)); refine zi (cs := #[.slice (some ad108) l0.length c0, .int .i64 a1, .int .i64 t110, .int .i64 x108003_1, .int .i64 0, .int .i64 0]) ?_ 3 _ rfl; (with_reducible repeat (first | refine zg ?_ _ | refine zh ?_ | refine zf ?_ _)); refine zi (cs := #[.slice (some ad108) l0.length c0, .int .i64 a1, .int .i64 x108002_1, .int .i64 x108003_1, .int .i64 0, .int .i64 0]) ?_ 2 _ rfl; (with_reducible repeat (first | refine zg ?_ _ | refine zh ?_ | refine zf ?_ _)); exact BK107.1)⟩, ⟨(qK52)⟩, ⟨(qK51)⟩⟩
      ·rw [zY c9] at H; have c9b0 : (x18_1 == 0) = false := zw c9; have c9b1 : (x18_1 != 0) = true := zQ c9; obtain ⟨ji20, hji20⟩ : ∃ j_ : Int, (mn x108002_1 t110) = j_ := ⟨_, rfl⟩
       replace H : (impl_newPlan.l0 k1 a1 (mx x6_1 t110) (mn x7_1 t111) l0 (l0.length : Int) (wrap64 (x18_1 + 1)) l0 a1 ji20 (mx x108003_1 t111) 0 0) = some (r1, r2, r3, r4, r5, r6) := by first | (rw [hji20] at H; exact H) | (simp only [hji20] at H ⊢; exact H)
       (try rw [hji20] at A7)
       (try rw [hji20] at A8); have hji20_ : (if t110 < x108002_1 then t110 else x108002_1) = ji20 := hji20; obtain ⟨ji21, hji21⟩ : ∃ j_ : Int, (mx x6_1 t110) = j_ := ⟨_, rfl⟩
       replace H : (impl_newPlan.l0 k1 a1 ji21 (mn x7_1 t111) l0 (l0.length : Int) (wrap64 (x18_1 + 1)) l0 a1 ji20 (mx x108003_1 t111) 0 0) = some (r1, r2, r3, r4, r5, r6) := by first | (rw [hji21] at H; exact H) | (simp only [hji21] at H ⊢; exact H)
       (try rw [hji21] at A7)
       (try rw [hji21] at A8); have hji21_ : (if x6_1 < t110 then t110 else x6_1) = ji21 := hji21; obtain ⟨ji22, hji22⟩ : ∃ j_ : Int, (mx x108003_1 t111) = j_ := ⟨_, rfl⟩
       replace H : (impl_newPlan.l0 k1 a1 ji21 (mn x7_1 t111) l0 (l0.length : Int) (wrap64 (x18_1 + 1)) l0 a1 ji20 ji22 0 0) = some (r1, r2, r3, r4, r5, r6) := by first | (rw [hji22] at H; exact H) | (simp only [hji22] at H ⊢; exact H)
       (try rw [hji22] at A7)
       (try rw [hji22] at A8); have hji22_ : (if x108003_1 < t111 then t111 else x108003_1) = ji22 := hji22; obtain ⟨ji23, hji23⟩ : ∃ j_ : Int, (mn x7_1 t111) = j_ := ⟨_, rfl⟩
       replace H : (impl_newPlan.l0 k1 a1 ji21 ji23 l0 (l0.length : Int) (wrap64 (x18_1 + 1)) l0 a1 ji20 ji22 0 0) = some (r1, r2, r3, r4, r5, r6) := by first | (rw [hji23] at H; exact H) | (simp only [hji23] at H ⊢; exact H)
       (try rw [hji23] at A7)
       (try rw [hji23] at A8); have hji23_ : (if t111 < x7_1 then t111 else x7_1) = ji23 := hji23; have H' := za H; clear H; have p108 : 0 ≤ (x18_1 : Int) := zb (qK12); have q108 : x18_1 < (l0.length : Int) := zb (qK12); obtain ⟨ad108, e108, hx108_0, hx108_1, hx108_2⟩ := at_T44 HR0.1 x18_1 p108 q108; cases e108; replace hx108_0 := pw_cell_below HB.1 hx108_0; replace hx108_1 := pw_cell_below HB.1 hx108_1; replace hx108_2 := pw_cell_below HB.1 hx108_2; replace p108 := zv p108; replace q108 := zv q108
       try go_wp2_with (first | ((with_reducible refine zp (N := 9) rfl ?_); refine zA ?hg (N := 9) ?hd (cs := #[.string (⟨#[]⟩ : ByteArray), .int .i64 0, .int .i64 0]) (t := 44) ?hr ?_; (case hd | hg => rfl); (case hr => exact (qK21)); intro gb109 hg w24 hbox hb; replace HB := za (zS (qK6 GE107.1) hb); have BK109 := za hbox; have GW109 := za ((by rw [hg]; exact (zT (qK43)) : w.heap.size ≤ gb109)); have GE109 := za ((Nat.le_trans HW0.1 (by rw [hg]; exact (zT (qK43)) : w.heap.size ≤ gb109) : w0.heap.size ≤ gb109)); replace HBW := za (zS HBW.1 hb); have NB107_109 := za qK79; have NB109_107 := za qK80; replace BK107 := za (zk (qB BK107.1) hb); clear hb hbox hg; have hnb25 := NB109_107.1; have hnc25 := NB107_109.1; have hcz26_0 : w24.cell? ⟨gb109, 0, none⟩ = some (.string (⟨#[]⟩ : ByteArray)) := (blk_cell BK109.1 0).trans rfl; have hcz26_1 : w24.cell? ⟨gb109, 1, none⟩ = some (.int .i64 0) := (blk_cell BK109.1 1).trans rfl; have hcz26_2 : w24.cell? ⟨gb109, 2, none⟩ = some (.int .i64 0) := (blk_cell BK109.1 2).trans rfl; have hfz26_0 := ze BK109.1 0; have hfz26_1 := ze BK109.1 1; have hfz26_2 := ze BK109.1 2))
       have n0_ : Aside0 ((((w24.setCell ⟨gb109, 0, none⟩ (.string ((rd_T44 l0 x18_1).f0))).setCell ⟨gb109, 1, none⟩ (.int .i64 ((rd_T44 l0 x18_1).f1))).setCell ⟨gb109, 2, none⟩ (.int .i64 ((rd_T44 l0 x18_1).f2))).heap[gb107]? = some (.cells #[.slice (some ad108) l0.length c0, .int .i64 a1, .int .i64 x108002_1, .int .i64 x108003_1, .int .i64 0, .int .i64 0] 79 (0, 0))) := ⟨(qK54)⟩; have n1_ : Aside0 ((((w24.setCell ⟨gb109, 0, none⟩ (.string ((rd_T44 l0 x18_1).f0))).setCell ⟨gb109, 1, none⟩ (.int .i64 ((rd_T44 l0 x18_1).f1))).setCell ⟨gb109, 2, none⟩ (.int .i64 ((rd_T44 l0 x18_1).f2))).heap[gb109]? = some (.cells #[.string ((rd_T44 l0 x18_1).f0), .int .i64 ((rd_T44 l0 x18_1).f1), .int .i64 ((rd_T44 l0 x18_1).f2)] 44 (0, 0))) := ⟨(qK46)⟩; have n2_ : Aside0 (Below w0.heap.size w0 (((w24.setCell ⟨gb109, 0, none⟩ (.string ((rd_T44 l0 x18_1).f0))).setCell ⟨gb109, 1, none⟩ (.int .i64 ((rd_T44 l0 x18_1).f1))).setCell ⟨gb109, 2, none⟩ (.int .i64 ((rd_T44 l0 x18_1).f2)))) := ⟨(qK52)⟩; have nW_ : Aside0 (Below w.heap.size w (((w24.setCell ⟨gb109, 0, none⟩ (.string ((rd_T44 l0 x18_1).f0))).setCell ⟨gb109, 1, none⟩ (.int .i64 ((rd_T44 l0 x18_1).f1))).setCell ⟨gb109, 2, none⟩ (.int .i64 ((rd_T44 l0 x18_1).f2)))) := ⟨(qK51)⟩
       (try clear BK107)
       (try clear BK109)
       (try clear HB)
       generalize (((w24.setCell ⟨gb109, 0, none⟩ (.string ((rd_T44 l0 x18_1).f0))).setCell ⟨gb109, 1, none⟩ (.int .i64 ((rd_T44 l0 x18_1).f1))).setCell ⟨gb109, 2, none⟩ (.int .i64 ((rd_T44 l0 x18_1).f2))) = w27 at n0_ n1_ n2_ nW_ ⊢
       have BK107 := n0_; have BK109 := n1_; have HB := n2_; clear HBW; have HBW := nW_; clear nW_; clear n0_ n1_ n2_; have n0_ := za (zh BK107.1); have n1_ := za (zh BK109.1); have n2_ := za (below_drew1 HB.1); have nW_ := za (below_drew1 HBW.1); clear BK107; clear BK109; clear HB; have BK107 := n0_; have BK109 := n1_; have HB := n2_; clear HBW; have HBW := nW_; clear nW_; clear n0_ n1_ n2_
       refine start_ (n := 10) (S := fun w' => w'.cell? ⟨gb109, 0, none⟩ = some (.string ((rd_T44 l0 x18_1).f0)) ∧ w'.cell? ⟨gb109, 1, none⟩ = some (.int .i64 ((rd_T44 l0 x18_1).f1)) ∧ w'.cell? ⟨gb109, 2, none⟩ = some (.int .i64 ((rd_T44 l0 x18_1).f2))) (ds := []) qKb0 (qK18) rfl rfl ⟨(blk_cell BK109.1 0).trans rfl, (blk_cell BK109.1 1).trans rfl, (blk_cell BK109.1 2).trans rfl⟩ (fun hHeld => ?_); refine with_tabW impl_newPlan.tab6 impl_newPlan.bits6 (fun HT_ HW_ => ?_)
       generalize w27.drew = w28 at BK107 BK109 HB HBW hHeld ⊢
       refine pure_ (i := 0) (N := some 23) (v := ?_) (a' := ?_) qKb1 rfl rfl (qK9) (fun _ _ _ h => h) (zU ⟨by rfl, ?_⟩) ?_ ?_
       rotate_left; exact qK2_c1; rotate_left; exact qK2_c0
       refine pure_ (i := 2) (N := some 25) (v := ?_) (a' := ?_) qKb2 rfl rfl (qK9) (fun _ _ _ h => h) (zU ⟨by rfl, ?_⟩) ?_ ?_
       rotate_left; exact qK2_c1; rotate_left; exact qK2_c0
       refine pure_ (i := 4) (N := some 27) (v := ?_) (a' := ?_) qKb3 rfl rfl (qK9) (fun _ _ _ h => h) (zU ⟨by rfl, ?_⟩) ?_ ?_
       rotate_left; exact qK2_c1; rotate_left; exact qK2_c0
       refine pure_ (i := 6) (N := some 29) (v := ?_) (a' := ?_) qKb4 rfl rfl (qK9) (fun _ _ _ h => h) (zU ⟨by rfl, ?_⟩) ?_ ?_
       rotate_left; exact qK2_c1; rotate_left; exact qK2_c0
       refine take_ (i := 1) (N := some 24) (v := ?_) (a' := ?_) qKb5 rfl rfl (take_ofW HT_.1 HW_.1 (qK18)) (fun _ _ _ h => h) (zU ⟨by rfl, ?_⟩) hHeld ?_ ?_
       rotate_left
       ·rintro w' ⟨s0, s1, s2⟩
        go_simp
        with_reducible rfl
       rotate_left
       ·exact qK2_c0
       refine take_ (i := 5) (N := some 28) (v := ?_) (a' := ?_) qKb6 rfl rfl (take_ofW HT_.1 HW_.1 (qK18)) (fun _ _ _ h => h) (zU ⟨by rfl, ?_⟩) hHeld ?_ ?_
       rotate_left
       ·rintro w' ⟨s0, s1, s2⟩
        go_simp
        with_reducible rfl
       rotate_left
       ·exact qK2_c0
       refine one_ (i := 3) (N := some 26) qKb7 rfl rfl (qK88) (by decide) (fun K hK => ?_)
       refine goes_ Try.func82 (qK18) rfl #[.int .i64 ((rd_T44 l0 x18_1).f1), .int .i64 a1] (by rfl) rfl rfl (qK5) ?_
       with_reducible refine (impl_floorDiv.calls ((rd_T44 l0 x18_1).f1) a1 t110 _ A7.1).mono ?_
       rintro e w' ⟨rfl, ⟨nd, rfl⟩⟩
       refine ⟨_, rfl, ?_⟩
       refine hK.out _ _ ⟨(blk_cell BK109.1 0).trans rfl, (blk_cell BK109.1 1).trans rfl, (blk_cell BK109.1 2).trans rfl⟩ (fun hHeld => ?_)
       clear hK K
       refine norm_ (a' := ?_) ?_ ?_
       rotate_left
       ·show Act.put _ (some 26) _ = _
        simp only [Act.put, yb, yc, yd, i64_w, i32_w]
        rfl
       refine one_ (i := 7) (N := some 30) qKb8 rfl rfl (qK88) (by decide) (fun K hK => ?_)
       refine goes_ Try.func82 (qK18) rfl #[.int .i64 ((rd_T44 l0 x18_1).f2), .int .i64 a1] (by rfl) rfl rfl (qK5) ?_
       with_reducible refine (impl_floorDiv.calls ((rd_T44 l0 x18_1).f2) a1 t111 _ A8.1).mono ?_
       rintro e w' ⟨rfl, ⟨nd, rfl⟩⟩
       refine ⟨_, rfl, ?_⟩
       refine hK.out _ _ ⟨(blk_cell BK109.1 0).trans rfl, (blk_cell BK109.1 1).trans rfl, (blk_cell BK109.1 2).trans rfl⟩ (fun hHeld => ?_)
       clear hK K
       refine norm_ (a' := ?_) ?_ ?_
       rotate_left
       ·show Act.put _ (some 30) _ = _
        simp only [Act.put, yb, yc, yd, i64_w, i32_w]
        rfl
       refine pure_ (i := 8) (N := some 10) (v := ?_) (a' := ?_) qKb9 rfl rfl (qK9) (fun _ _ _ h => h) (zU ⟨by rfl, ?_⟩) ?_ ?_
       rotate_left; exact qK2_c1; rotate_left; exact qK2_c0
       refine pure_ (i := 9) (N := some 11) (v := ?_) (a' := ?_) qKb10 rfl rfl (qK9) (fun _ _ _ h => h) (zU ⟨by rfl, ?_⟩) ?_ ?_
       rotate_left; exact qK2_c1; rotate_left; exact qK2_c0
       refine done_ (qK101) ?_
       have hcz29_0 : w28.cell? ⟨gb107, 0, none⟩ = some (.slice (some ad108) l0.length c0) := (blk_cell BK107.1 0).trans rfl; have hcz29_1 : w28.cell? ⟨gb107, 1, none⟩ = some (.int .i64 a1) := (blk_cell BK107.1 1).trans rfl; have hcz29_2 : w28.cell? ⟨gb107, 2, none⟩ = some (.int .i64 x108002_1) := (blk_cell BK107.1 2).trans rfl; have hcz29_3 : w28.cell? ⟨gb107, 3, none⟩ = some (.int .i64 x108003_1) := (blk_cell BK107.1 3).trans rfl; have hcz29_4 : w28.cell? ⟨gb107, 4, none⟩ = some (.int .i64 0) := (blk_cell BK107.1 4).trans rfl; have hcz29_5 : w28.cell? ⟨gb107, 5, none⟩ = some (.int .i64 0) := (blk_cell BK107.1 5).trans rfl; have hfz29_0 := ze BK107.1 0; have hfz29_1 := ze BK107.1 1; have hfz29_2 := ze BK107.1 2; have hfz29_3 := ze BK107.1 3; have hfz29_4 := ze BK107.1 4; have hfz29_5 := ze BK107.1 5
       try go_wp2
       go_roundg k1
       case measure => have := HK1.1; omega
       case rel => exact ⟨(ji21), (ji23), (wrap64 (x18_1 + 1)), (ji20), (ji22), (by first | rfl | (simp; done) | (simp only [← hji21] <;> (first | rfl | simp)) | (simp [*]; done)), (by first | rfl | (simp; done) | (simp only [← hji23] <;> (first | rfl | simp)) | (simp [*]; done)), (qK17), H', ⟨by have := HK1.1; omega⟩, ⟨(by (with_reducible repeat (first | refine zg ?_ _ | refine zh ?_ | refine zf ?_ _)); refine zi (cs := #[.slice (some ad108) l0.length c0, .int .i64 a1, .int .i64 ji20, .int .i64 x108003_1, .int .i64 0, .int .i64 0]) ?_ 3 _ rfl; (with_reducible repeat (first | refine zg ?_ _ | refine zh ?_ | refine zf ?_ _)); refine zi (cs := #[.slice (some ad108) l0.length c0, .int .i64 a1, .int .i64 x108002_1, .int .i64 x108003_1, .int .i64 0, .int .i64 0]) ?_ 2 _ rfl; (with_reducible repeat (first | refine zg ?_ _ | refine zh ?_ | refine zf ?_ _)); exact BK107.1)⟩, ⟨(qK52)⟩, ⟨(qK51)⟩⟩
     ·rw [zY c6] at H
      exact zM H (by simp)
    ·rw [zY c5] at H
     exact zM H (by simp)
   ·rw [zY c4] at H; have c4b0 : decide (x18_1 < (l0.length : Int)) = false := zu c4; clear c4; simp only [zZ, ya] at H; obtain ⟨rfl, rfl, rfl, rfl, rfl, rfl⟩ := H
    try go_wp2
    have n0_ := za (zh BK107.1); have n1_ := za (below_drew1 HB.1); have nW_ := za (below_drew1 HBW.1); clear BK107; clear HB; have BK107 := n0_; have HB := n1_; clear HBW; have HBW := nW_; clear nW_; clear n0_ n1_
    refine start_ (n := 22) (S := fun w' => w'.cell? ⟨gb107, 0, none⟩ = some (.slice A0 l0.length c0) ∧ w'.cell? ⟨gb107, 1, none⟩ = some (.int .i64 a1) ∧ w'.cell? ⟨gb107, 2, none⟩ = some (.int .i64 x108002_1) ∧ w'.cell? ⟨gb107, 3, none⟩ = some (.int .i64 x108003_1) ∧ w'.cell? ⟨gb107, 4, none⟩ = some (.int .i64 0) ∧ w'.cell? ⟨gb107, 5, none⟩ = some (.int .i64 0)) (ds := [18, 21]) #[false, false, false, false, false, false, false, false, false, false, false, false, false, false, false, false, false, false, false, false, false, false] (qK18) rfl rfl ⟨(blk_cell BK107.1 0).trans rfl, (blk_cell BK107.1 1).trans rfl, (blk_cell BK107.1 2).trans rfl, (blk_cell BK107.1 3).trans rfl, (blk_cell BK107.1 4).trans rfl, (blk_cell BK107.1 5).trans rfl⟩ (fun hHeld => ?_); refine with_tabW impl_newPlan.tab12 impl_newPlan.bits12 (fun HT_ HW_ => ?_)
    generalize wr.drew = w30 at BK107 HB HBW hHeld ⊢
    refine pure_ (i := 0) (N := some 68) (v := ?_) (a' := ?_) #[true, false, false, false, false, false, false, false, false, false, false, false, false, false, false, false, false, false, false, false, false, false] rfl rfl (qK9) (fun _ _ _ h => h) (zU ⟨by rfl, ?_⟩) ?_ ?_
    rotate_left; exact qK2_c1; rotate_left; exact qK2_c0
    refine pure_ (i := 1) (N := some 69) (v := ?_) (a' := ?_) #[true, true, false, false, false, false, false, false, false, false, false, false, false, false, false, false, false, false, false, false, false, false] rfl rfl (qK9) (fun _ _ _ h => h) (zU ⟨by rfl, ?_⟩) ?_ ?_
    rotate_left; exact qK2_c1; rotate_left; exact qK2_c0
    refine pure_ (i := 2) (N := some 70) (v := ?_) (a' := ?_) #[true, true, true, false, false, false, false, false, false, false, false, false, false, false, false, false, false, false, false, false, false, false] rfl rfl (qK9) (fun _ _ _ h => h) (zU ⟨by rfl, ?_⟩) ?_ ?_
    rotate_left; exact qK2_c1; rotate_left; exact qK2_c0
    refine pure_ (i := 3) (N := some 71) (v := ?_) (a' := ?_) #[true, true, true, true, false, false, false, false, false, false, false, false, false, false, false, false, false, false, false, false, false, false] rfl rfl (qK9) (fun _ _ _ h => h) (zU ⟨by rfl, ?_⟩) ?_ ?_
    rotate_left; exact qK2_c1; rotate_left; exact qK2_c0
    refine pure_ (i := 4) (N := some 72) (v := ?_) (a' := ?_) #[true, true, true, true, true, false, false, false, false, false, false, false, false, false, false, false, false, false, false, false, false, false] rfl rfl (qK9) (fun _ _ _ h => h) (zU ⟨by rfl, ?_⟩) ?_ ?_
    rotate_left; exact qK2_c1; rotate_left; exact qK2_c0
    refine pure_ (i := 5) (N := some 73) (v := ?_) (a' := ?_) #[true, true, true, true, true, true, false, false, false, false, false, false, false, false, false, false, false, false, false, false, false, false] rfl rfl (qK9) (fun _ _ _ h => h) (zU ⟨by rfl, ?_⟩) ?_ ?_
    rotate_left; exact qK2_c1; rotate_left; exact qK2_c0
    refine pure_ (i := 9) (N := some 77) (v := ?_) (a' := ?_) #[true, true, true, true, true, true, false, false, false, true, false, false, false, false, false, false, false, false, false, false, false, false] rfl rfl (qK9) (fun _ _ _ h => h) (zU ⟨by rfl, ?_⟩) ?_ ?_
    rotate_left; exact qK2_c1; rotate_left; exact qK2_c0
    refine pure_ (i := 10) (N := some 78) (v := ?_) (a' := ?_) #[true, true, true, true, true, true, false, false, false, true, true, false, false, false, false, false, false, false, false, false, false, false] rfl rfl (qK9) (fun _ _ _ h => h) (zU ⟨by rfl, ?_⟩) ?_ ?_
    rotate_left; exact qK2_c1; rotate_left; exact qK2_c0
    refine pure_ (i := 11) (N := some 79) (v := ?_) (a' := ?_) #[true, true, true, true, true, true, false, false, false, true, true, true, false, false, false, false, false, false, false, false, false, false] rfl rfl (qK9) (fun _ _ _ h => h) (zU ⟨by rfl, ?_⟩) ?_ ?_
    rotate_left; exact qK2_c1; rotate_left; exact qK2_c0
    refine pure_ (i := 13) (N := some 81) (v := ?_) (a' := ?_) #[true, true, true, true, true, true, false, false, false, true, true, true, false, true, false, false, false, false, false, false, false, false] rfl rfl (qK9) (fun _ _ _ h => h) (zU ⟨by rfl, ?_⟩) ?_ ?_
    rotate_left; exact qK2_c1; rotate_left; exact qK2_c0
    refine take_ (i := 6) (N := some 74) (v := ?_) (a' := ?_) #[true, true, true, true, true, true, true, false, false, true, true, true, false, true, false, false, false, false, false, false, false, false] rfl rfl (take_ofW HT_.1 HW_.1 (qK18)) (fun _ _ _ h => h) (zU ⟨by rfl, ?_⟩) hHeld ?_ ?_
    rotate_left
    ·rintro w' ⟨s0, s1, s2, s3, s4, s5⟩
     go_simp
     with_reducible rfl
    rotate_left
    ·exact qK2_c0
    refine pure_ (i := 7) (N := some 75) (v := ?_) (a' := ?_) #[true, true, true, true, true, true, true, true, false, true, true, true, false, true, false, false, false, false, false, false, false, false] rfl rfl (qK9) (fun _ _ _ h => h) (zU ⟨by rfl, ?_⟩) ?_ ?_
    rotate_left; exact qK2_c1; rotate_left; exact qK2_c0
    refine pure_ (i := 8) (N := some 76) (v := ?_) (a' := ?_) #[true, true, true, true, true, true, true, true, true, true, true, true, false, true, false, false, false, false, false, false, false, false] rfl rfl (qK9) (fun _ _ _ h => h) (zU ⟨by rfl, ?_⟩) ?_ ?_
    rotate_left; exact qK2_c1; rotate_left; exact qK2_c0
    refine take_ (i := 12) (N := some 80) (v := ?_) (a' := ?_) #[true, true, true, true, true, true, true, true, true, true, true, true, true, true, false, false, false, false, false, false, false, false] rfl rfl (take_ofW HT_.1 HW_.1 (qK18)) (fun _ _ _ h => h) (zU ⟨by rfl, ?_⟩) hHeld ?_ ?_
    rotate_left
    ·rintro w' ⟨s0, s1, s2, s3, s4, s5⟩
     go_simp
     with_reducible rfl
    rotate_left
    ·exact qK2_c0
    refine pure_ (i := 14) (N := some 82) (v := ?_) (a' := ?_) #[true, true, true, true, true, true, true, true, true, true, true, true, true, true, true, false, false, false, false, false, false, false] rfl rfl (qK9) (fun _ _ _ h => h) (zU ⟨by rfl, ?_⟩) ?_ ?_
    rotate_left; exact qK2_c1; rotate_left; exact qK2_c0
    refine pure_ (i := 15) (N := some 83) (v := ?_) (a' := ?_) #[true, true, true, true, true, true, true, true, true, true, true, true, true, true, true, true, false, false, false, false, false, false] rfl rfl (qK9) (fun _ _ _ h => h) (zU ⟨by rfl, ?_⟩) ?_ ?_
    rotate_left; exact qK2_c1; rotate_left; exact qK2_c0
    refine pure_ (i := 16) (N := some 84) (v := ?_) (a' := ?_) #[true, true, true, true, true, true, true, true, true, true, true, true, true, true, true, true, true, false, false, false, false, false] rfl rfl (qK9) (fun _ _ _ h => h) (zU ⟨by rfl, ?_⟩) ?_ ?_
    rotate_left; exact qK2_c1; rotate_left; exact qK2_c0
    refine pure_ (i := 17) (N := some 85) (v := ?_) (a' := ?_) #[true, true, true, true, true, true, true, true, true, true, true, true, true, true, true, true, true, true, false, false, false, false] rfl rfl (qK9) (fun _ _ _ h => h) (zU ⟨by rfl, ?_⟩) ?_ ?_
    rotate_left; exact qK2_c1; rotate_left; exact qK2_c0
    refine last_ (i := 18) (N := none) #[true, true, true, true, true, true, true, true, true, true, true, true, true, true, true, true, true, true, true, false, false, false] rfl rfl (qK88) (by decide) (fun K hK => ?_)
    have hs31 : w30.cell? ⟨gb107, 4, none⟩ = some (.int .i64 0) := (blk_cell BK107.1 4).trans rfl; have hfs31 := ze BK107.1 4
    refine skip_ (w1 := ?_) (by rfl) rfl ?_ ?_
    rotate_left
    ·go_simp
     rfl
    refine hK.out _ _ ?_
    clear hK K
    refine pure_ (i := 19) (N := some 86) (v := ?_) (a' := ?_) #[true, true, true, true, true, true, true, true, true, true, true, true, true, true, true, true, true, true, true, true, false, false] rfl rfl (qK9) (fun _ _ _ h => h) (zU ⟨by rfl, ?_⟩) ?_ ?_
    rotate_left; exact qK2_c1; rotate_left; exact qK2_c0
    refine pure_ (i := 20) (N := some 87) (v := ?_) (a' := ?_) #[true, true, true, true, true, true, true, true, true, true, true, true, true, true, true, true, true, true, true, true, true, false] rfl rfl (qK9) (fun _ _ _ h => h) (zU ⟨by rfl, ?_⟩) ?_ ?_
    rotate_left; exact qK2_c1; rotate_left; exact qK2_c0
    refine last_ (i := 21) (N := none) #[true, true, true, true, true, true, true, true, true, true, true, true, true, true, true, true, true, true, true, true, true, true] rfl rfl (qK88) (by decide) (fun K hK => ?_)
    have hs32 : w30.cell? ⟨gb107, 5, none⟩ = some (.int .i64 0) := (blk_cell BK107.1 5).trans rfl; have hfs32 := ze BK107.1 5
    refine skip_ (w1 := ?_) (by rfl) rfl ?_ ?_
    rotate_left
    ·go_simp
     rfl
    refine hK.out _ _ ?_
    clear hK K
    refine done_ (qK101) ?_
    try go_wp2
    go_ret
    exact ⟨_, rfl, (show IsS79 w0 _ gb107 l0 a1 x108002_1 x108003_1 (wrap64 ((wrap64 (x6_1 - x108002_1)) + 1)) (wrap64 ((wrap64 (x108003_1 - x7_1)) + 1)) from ⟨_, _, (by (with_reducible repeat (first | refine zg ?_ _ | refine zh ?_ | refine zf ?_ _)); refine zi (cs := #[.slice A0 l0.length c0, .int .i64 a1, .int .i64 x108002_1, .int .i64 x108003_1, .int .i64 (wrap64 ((wrap64 (x6_1 - x108002_1)) + 1)), .int .i64 0]) ?_ 5 _ rfl; (with_reducible repeat (first | refine zg ?_ _ | refine zh ?_ | refine zf ?_ _)); refine zi (cs := #[.slice A0 l0.length c0, .int .i64 a1, .int .i64 x108002_1, .int .i64 x108003_1, .int .i64 0, .int .i64 0]) ?_ 4 _ rfl; (with_reducible repeat (first | refine zg ?_ _ | refine zh ?_ | refine zf ?_ _)); exact BK107.1), GE107.1, HR0.1⟩), (qK6 GE107.1), (qK43)⟩

def impl_planOf.f (k : Nat) (l0 : List (S44)) (a1 : Int) : Option (Option ((List (S44)) × Int × Int × Int × Int × Int)) := (impl_AreMarks.f k l0).bind fun t => (if t = true then (if (l0.length : Int) = 0 then (some none) else ((impl_within.f a1 1 500).bind fun t2 => (if t2 = true then ((impl_newPlan.f k l0 a1).bind fun p => some (some p)) else (some none)))) else (some none))
theorem impl_planOf.no (k : Nat) (A0 : Option Addr) (c0 : Nat) (l0 : List (S44)) (a1 : Int) (w : World) (hr0 : Kd.C k44 w A0 l0.length l0) (hc0 : l0.length ≤ c0) (h : impl_planOf.f k l0 a1 = some none) :
  Calls Try.prog 48 #[.slice A0 l0.length c0, .int .i64 a1] w fun e w' => e = .returned (.tuple #[.pointer none, .bool false]) ∧ Below w.heap.size w w' := by
 have HR0 := za hr0; have HC0 := za hc0; clear hr0 hc0; have HB := za (zr w.heap.size w)
 unfold impl_planOf.f at h
 obtain ⟨t, A1, h⟩ := zB h; have H1 := za A1; clear A1
 cases t with
 | false =>
  clear h
  go_enter Try.func48, Try.ntmps48
  go_wp2_with (first | (go_at_call 36; (with_reducible refine (impl_AreMarks.calls k _ _ l0 false _ ?s1 ?s2 H1.1).mono ?_); (case s1 => exact (qK25)); (case s2 => exact HC0.1); rintro e w8 ⟨rfl, hb⟩; replace HB := za qK85; (try clear hb)))
  go_ret2
  exact ⟨rfl, (qK2)⟩
 | true =>
  rw [zX rfl] at h
  by_cases c2 : (l0.length : Int) = 0
  ·have c2b0 : ((l0.length : Int) == 0) = true := zP c2; clear c2 h
   go_enter Try.func48, Try.ntmps48
   go_wp2_with (first | (go_at_call 36; (with_reducible refine (impl_AreMarks.calls k _ _ l0 true _ ?s1 ?s2 H1.1).mono ?_); (case s1 => exact (qK25)); (case s2 => exact HC0.1); rintro e w8 ⟨rfl, hb⟩; replace HB := za qK85; (try clear hb)))
   go_ret2
   exact ⟨rfl, (qK2)⟩
  ·rw [zY c2] at h; have c2b0 : ((l0.length : Int) == 0) = false := zw c2; clear c2; obtain ⟨t2, A2, h⟩ := zB h; have H2 := za A2; clear A2
   cases t2 with
   | true =>
    rw [zX rfl] at h; obtain ⟨p, _, h⟩ := zB h
    simp at h
   | false =>
    clear h
    go_enter Try.func48, Try.ntmps48
    go_wp2_with (first | (go_at_call 36; (with_reducible refine (impl_AreMarks.calls k _ _ l0 true _ ?s1 ?s2 H1.1).mono ?_); (case s1 => exact (qK25)); (case s2 => exact HC0.1); rintro e w8 ⟨rfl, hb⟩; replace HB := za qK85; (try clear hb)) | (go_at_call 61; (with_reducible refine (impl_within.calls a1 1 500 false _ H2.1).mono ?_); rintro e w' ⟨rfl, ⟨nd, rfl⟩⟩))
    go_ret2
    exact ⟨rfl, (qK2)⟩
theorem impl_planOf.yes (k : Nat) (A0 : Option Addr) (c0 : Nat) (l0 : List (S44)) (a1 : Int) (r1 : List (S44)) (r2 r3 r4 r5 r6 : Int) (b5 b6 : Bool) (w : World) (hr0 : Kd.C k44 w A0 l0.length l0) (hc0 : l0.length ≤ c0) (h : impl_planOf.f k l0 a1 = some (some (r1, r2, r3, r4, r5, r6))) (h5 : decide (r5 ≤ 20) = b5) (h6 : decide (r6 ≤ 20) = b6) :
  Calls Try.prog 48 #[.slice A0 l0.length c0, .int .i64 a1] w fun e w' => ∃ g_ : Nat, e = .returned (.tuple #[.pointer (some ⟨g_, 0, none⟩), .bool (b5 && b6)]) ∧ IsS79 w w' g_ r1 r2 r3 r4 r5 r6 ∧ Below w.heap.size w w' := by
 have HR0 := za hr0; have HC0 := za hc0; clear hr0 hc0; have HB := za (zr w.heap.size w)
 unfold impl_planOf.f at h
 obtain ⟨t, A1, h⟩ := zB h; have H1 := za A1; clear A1
 cases t with
 | false => rw [zY (by decide)] at h; simp at h
 | true =>
  rw [zX rfl] at h
  by_cases c2 : (l0.length : Int) = 0
  ·rw [zX c2] at h; simp at h
  ·rw [zY c2] at h; have c2b0 : ((l0.length : Int) == 0) = false := zw c2; clear c2; obtain ⟨t2, A2, h⟩ := zB h; have H2 := za A2; clear A2
   cases t2 with
   | false => rw [zY (by decide)] at h; simp at h
   | true =>
    rw [zX rfl] at h; obtain ⟨p, A3, h⟩ := zB h; simp only [zZ] at h; subst h; have H3 := za A3; clear A3
    cases b5 with
    | true =>
     cases b6 with
     | true =>
      go_enter Try.func48, Try.ntmps48
      go_wp2_with (first | (go_at_call 36; (with_reducible refine (impl_AreMarks.calls k _ _ l0 true _ ?s1 ?s2 H1.1).mono ?_); (case s1 => exact (qK25)); (case s2 => exact HC0.1); rintro e w8 ⟨rfl, hb⟩; replace HB := za qK85; (try clear hb)) | (go_at_call 61; (with_reducible refine (impl_within.calls a1 1 500 true _ H2.1).mono ?_); rintro e w' ⟨rfl, ⟨nd, rfl⟩⟩) | (go_at_call 62; (with_reducible refine (impl_newPlan.calls k _ _ l0 a1 r1 r2 r3 r4 r5 r6 w _ ?s1 ?s2 ?s3 H3.1).mono ?_); (case s1 => exact (qK2)); (case s2 => exact HR0.1); (case s3 => exact HC0.1); rintro e w20 ⟨g299, rfl, hi, hb, hb2⟩; have n0_ := za hb; have HI := za hi; clear HB; have HB := n0_; clear n0_ hb hb2 hi; obtain ⟨ASz, cSz, HGz, hgz, HSz⟩ := HI.1; have hcz0 := cellS79_0 HGz; have hcz1 := cellS79_1 HGz; have hcz2 := cellS79_2 HGz; have hcz3 := cellS79_3 HGz; have hcz4 := cellS79_4 HGz; have hcz5 := cellS79_5 HGz; have hfz0 := ze HGz 0; have hfz1 := ze HGz 1; have hfz2 := ze HGz 2; have hfz3 := ze HGz 3; have hfz4 := ze HGz 4; have hfz5 := ze HGz 5; clear HGz hgz))
      go_quiet (fail)
      go_wp2
      go_ret2
      exact ⟨_, rfl, HI.1, (qK2)⟩
     | false =>
      go_enter Try.func48, Try.ntmps48
      go_wp2_with (first | (go_at_call 36; (with_reducible refine (impl_AreMarks.calls k _ _ l0 true _ ?s1 ?s2 H1.1).mono ?_); (case s1 => exact (qK25)); (case s2 => exact HC0.1); rintro e w8 ⟨rfl, hb⟩; replace HB := za qK85; (try clear hb)) | (go_at_call 61; (with_reducible refine (impl_within.calls a1 1 500 true _ H2.1).mono ?_); rintro e w' ⟨rfl, ⟨nd, rfl⟩⟩) | (go_at_call 62; (with_reducible refine (impl_newPlan.calls k _ _ l0 a1 r1 r2 r3 r4 r5 r6 w _ ?s1 ?s2 ?s3 H3.1).mono ?_); (case s1 => exact (qK2)); (case s2 => exact HR0.1); (case s3 => exact HC0.1); rintro e w20 ⟨g299, rfl, hi, hb, hb2⟩; have n0_ := za hb; have HI := za hi; clear HB; have HB := n0_; clear n0_ hb hb2 hi; obtain ⟨ASz, cSz, HGz, hgz, HSz⟩ := HI.1; have hcz0 := cellS79_0 HGz; have hcz1 := cellS79_1 HGz; have hcz2 := cellS79_2 HGz; have hcz3 := cellS79_3 HGz; have hcz4 := cellS79_4 HGz; have hcz5 := cellS79_5 HGz; have hfz0 := ze HGz 0; have hfz1 := ze HGz 1; have hfz2 := ze HGz 2; have hfz3 := ze HGz 3; have hfz4 := ze HGz 4; have hfz5 := ze HGz 5; clear HGz hgz))
      go_quiet (fail)
      go_wp2
      go_ret2
      exact ⟨_, rfl, HI.1, (qK2)⟩
    | false =>
     go_enter Try.func48, Try.ntmps48
     go_wp2_with (first | (go_at_call 36; (with_reducible refine (impl_AreMarks.calls k _ _ l0 true _ ?s1 ?s2 H1.1).mono ?_); (case s1 => exact (qK25)); (case s2 => exact HC0.1); rintro e w8 ⟨rfl, hb⟩; replace HB := za qK85; (try clear hb)) | (go_at_call 61; (with_reducible refine (impl_within.calls a1 1 500 true _ H2.1).mono ?_); rintro e w' ⟨rfl, ⟨nd, rfl⟩⟩) | (go_at_call 62; (with_reducible refine (impl_newPlan.calls k _ _ l0 a1 r1 r2 r3 r4 r5 r6 w _ ?s1 ?s2 ?s3 H3.1).mono ?_); (case s1 => exact (qK2)); (case s2 => exact HR0.1); (case s3 => exact HC0.1); rintro e w20 ⟨g299, rfl, hi, hb, hb2⟩; have n0_ := za hb; have HI := za hi; clear HB; have HB := n0_; clear n0_ hb hb2 hi; obtain ⟨ASz, cSz, HGz, hgz, HSz⟩ := HI.1; have hcz0 := cellS79_0 HGz; have hcz1 := cellS79_1 HGz; have hcz2 := cellS79_2 HGz; have hcz3 := cellS79_3 HGz; have hcz4 := cellS79_4 HGz; have hcz5 := cellS79_5 HGz; have hfz0 := ze HGz 0; have hfz1 := ze HGz 1; have hfz2 := ze HGz 2; have hfz3 := ze HGz 3; have hfz4 := ze HGz 4; have hfz5 := ze HGz 5; clear HGz hgz))
     go_quiet (fail)
     go_wp2
     go_ret2
     exact ⟨_, rfl, HI.1, (qK2)⟩


def impl_plan_square.f (s0_0 : List (S44)) (s0_1 : Int) (s0_2 : Int) (s0_3 : Int) (s0_4 : Int) (s0_5 : Int) (a1_0 : ByteArray) (a1_1 : Int) (a1_2 : Int) : Option (Int × Int × Int × Int × Int × Int × Int) := (impl_floorDiv.f a1_1 s0_1).bind fun t113 => ((impl_floorDiv.f a1_2 s0_1).bind fun t114 => (some (wrap64 (t113 - s0_2), wrap64 (s0_3 - t114), s0_1, s0_2, s0_3, s0_4, s0_5)))
theorem impl_plan_square.calls (g : Nat) (s0_0 : List (S44)) (s0_1 : Int) (s0_2 : Int) (s0_3 : Int) (s0_4 : Int) (s0_5 : Int) (a1_0 : ByteArray) (a1_1 : Int) (a1_2 : Int) (r1 : Int) (r2 : Int) (r3 : Int) (r4 : Int) (r5 : Int) (r6 : Int) (r7 : Int) (w0 w : World) (hI : IsS79 w0 w g s0_0 s0_1 s0_2 s0_3 s0_4 s0_5) (hB : Below w0.heap.size w0 w) (h : impl_plan_square.f s0_0 s0_1 s0_2 s0_3 s0_4 s0_5 a1_0 a1_1 a1_2 = some (r1, r2, r3, r4, r5, r6, r7)) :
  Calls Try.prog 53 #[.pointer (some ⟨g, 0, none⟩), .agg #[.string a1_0, .int .i64 a1_1, .int .i64 a1_2]] w fun e w' => e = .returned (.tuple #[.int .i64 r1, .int .i64 r2]) ∧ IsS79 w0 w' g s0_0 r3 r4 r5 r6 r7 ∧ Below w0.heap.size w0 w' ∧ KeepBut w w' g none := by
 have hu44 := Try.underlying44; have HI0 := za hI; have HK := za (KeepBut.refl w g none); have HL := za hB.size; clear hI; have HW0 := za hB.size; have HB := za hB; clear hB; have H : ((impl_floorDiv.f a1_1 s0_1).bind fun t113 => ((impl_floorDiv.f a1_2 s0_1).bind fun t114 => (some (wrap64 (t113 - s0_2), wrap64 (s0_3 - t114), s0_1, s0_2, s0_3, s0_4, s0_5)))) = some (r1, r2, r3, r4, r5, r6, r7) := h; clear h; replace H := bindA H; obtain ⟨t113, A3, H⟩ := H; (try dsimp only at H); replace H := bindA H; obtain ⟨t114, A4, H⟩ := H; (try dsimp only at H); simp only [zZ, ya] at H; obtain ⟨rfl, rfl, rfl, rfl, rfl, rfl, rfl⟩ := H
 go_enter Try.func53, Try.ntmps53
 go_wp2_with (first | ((with_reducible refine zp (N := 3) rfl ?_); refine zA ?hg (N := 3) ?hd (cs := #[.string a1_0, .int .i64 a1_1, .int .i64 a1_2]) (t := 44) ?hr ?_; (case hd | hg => rfl); (case hr => exact (qK21)); intro gb112 hg w5 hbox hb; replace HB := za (zS (qK59) hb); have BK112 := za hbox; have GW112 := za qK113; have GE112 := za qK105; replace HK := za qK82; have NB0_112 := za qK109; have NB112_0 := za qK110; replace HI0 := za (by exact IsS79.below (qK31) hb); clear hb hbox hg; have hnb6 := NB112_0.1; have hnc6 := NB0_112.1; have hcz7_0 : w5.cell? ⟨gb112, 0, none⟩ = some (.string a1_0) := (blk_cell BK112.1 0).trans rfl; have hcz7_1 : w5.cell? ⟨gb112, 1, none⟩ = some (.int .i64 a1_1) := (blk_cell BK112.1 1).trans rfl; have hcz7_2 : w5.cell? ⟨gb112, 2, none⟩ = some (.int .i64 a1_2) := (blk_cell BK112.1 2).trans rfl; have hfz7_0 := ze BK112.1 0; have hfz7_1 := ze BK112.1 1; have hfz7_2 := ze BK112.1 2; obtain ⟨ASz8_0, cSz8_0, HGz8, hgz8, HSz8_0⟩ := HI0.1; have hcz8_0 := cellS79_0 HGz8; have hcz8_1 := cellS79_1 HGz8; have hcz8_2 := cellS79_2 HGz8; have hcz8_3 := cellS79_3 HGz8; have hcz8_4 := cellS79_4 HGz8; have hcz8_5 := cellS79_5 HGz8; have hfz8_1 := ze HGz8 1; have hfz8_2 := ze HGz8 2; have hfz8_3 := ze HGz8 3; have hfz8_4 := ze HGz8 4; have hfz8_5 := ze HGz8 5; clear HGz8 hgz8) | (go_at_call 82; (with_reducible refine (impl_floorDiv.calls a1_1 s0_1 t113 _ A3.1).mono ?_); rintro e w' ⟨rfl, ⟨nd, rfl⟩⟩; (try first | exact ⟨rfl, _, zO _ _ _⟩ | exact ⟨rfl, _, Eq.trans (zO _ _ _) (congrArg (World.drewN _) (Nat.add_assoc _ _ _))⟩)) | (go_at_call 82; (with_reducible refine (impl_floorDiv.calls a1_2 s0_1 t114 _ A4.1).mono ?_); rintro e w' ⟨rfl, ⟨nd, rfl⟩⟩; (try first | exact ⟨rfl, _, zO _ _ _⟩ | exact ⟨rfl, _, Eq.trans (zO _ _ _) (congrArg (World.drewN _) (Nat.add_assoc _ _ _))⟩)))
 repeat (go_quiet (first | ((with_reducible refine zp (N := 3) rfl ?_); refine zA ?hg (N := 3) ?hd (cs := #[.string a1_0, .int .i64 a1_1, .int .i64 a1_2]) (t := 44) ?hr ?_; (case hd | hg => rfl); (case hr => exact (qK21)); intro gb112 hg w5 hbox hb; replace HB := za (zS (qK59) hb); have BK112 := za hbox; have GW112 := za qK113; have GE112 := za qK105; replace HK := za qK82; have NB0_112 := za qK109; have NB112_0 := za qK110; replace HI0 := za (by exact IsS79.below (qK31) hb); clear hb hbox hg; have hnb6 := NB112_0.1; have hnc6 := NB0_112.1; have hcz7_0 : w5.cell? ⟨gb112, 0, none⟩ = some (.string a1_0) := (blk_cell BK112.1 0).trans rfl; have hcz7_1 : w5.cell? ⟨gb112, 1, none⟩ = some (.int .i64 a1_1) := (blk_cell BK112.1 1).trans rfl; have hcz7_2 : w5.cell? ⟨gb112, 2, none⟩ = some (.int .i64 a1_2) := (blk_cell BK112.1 2).trans rfl; have hfz7_0 := ze BK112.1 0; have hfz7_1 := ze BK112.1 1; have hfz7_2 := ze BK112.1 2; obtain ⟨ASz8_0, cSz8_0, HGz8, hgz8, HSz8_0⟩ := HI0.1; have hcz8_0 := cellS79_0 HGz8; have hcz8_1 := cellS79_1 HGz8; have hcz8_2 := cellS79_2 HGz8; have hcz8_3 := cellS79_3 HGz8; have hcz8_4 := cellS79_4 HGz8; have hcz8_5 := cellS79_5 HGz8; have hfz8_1 := ze HGz8 1; have hfz8_2 := ze HGz8 2; have hfz8_3 := ze HGz8 3; have hfz8_4 := ze HGz8 4; have hfz8_5 := ze HGz8 5; clear HGz8 hgz8) | (go_at_call 82; (with_reducible refine (impl_floorDiv.calls a1_1 s0_1 t113 _ A3.1).mono ?_); rintro e w' ⟨rfl, ⟨nd, rfl⟩⟩; (try first | exact ⟨rfl, _, zO _ _ _⟩ | exact ⟨rfl, _, Eq.trans (zO _ _ _) (congrArg (World.drewN _) (Nat.add_assoc _ _ _))⟩)) | (go_at_call 82; (with_reducible refine (impl_floorDiv.calls a1_2 s0_1 t114 _ A4.1).mono ?_); rintro e w' ⟨rfl, ⟨nd, rfl⟩⟩; (try first | exact ⟨rfl, _, zO _ _ _⟩ | exact ⟨rfl, _, Eq.trans (zO _ _ _) (congrArg (World.drewN _) (Nat.add_assoc _ _ _))⟩))); try go_wp2_with (first | ((with_reducible refine zp (N := 3) rfl ?_); refine zA ?hg (N := 3) ?hd (cs := #[.string a1_0, .int .i64 a1_1, .int .i64 a1_2]) (t := 44) ?hr ?_; (case hd | hg => rfl); (case hr => exact (qK21)); intro gb112 hg w5 hbox hb; replace HB := za (zS (qK59) hb); have BK112 := za hbox; have GW112 := za qK113; have GE112 := za qK105; replace HK := za qK82; have NB0_112 := za qK109; have NB112_0 := za qK110; replace HI0 := za (by exact IsS79.below (qK31) hb); clear hb hbox hg; have hnb6 := NB112_0.1; have hnc6 := NB0_112.1; have hcz7_0 : w5.cell? ⟨gb112, 0, none⟩ = some (.string a1_0) := (blk_cell BK112.1 0).trans rfl; have hcz7_1 : w5.cell? ⟨gb112, 1, none⟩ = some (.int .i64 a1_1) := (blk_cell BK112.1 1).trans rfl; have hcz7_2 : w5.cell? ⟨gb112, 2, none⟩ = some (.int .i64 a1_2) := (blk_cell BK112.1 2).trans rfl; have hfz7_0 := ze BK112.1 0; have hfz7_1 := ze BK112.1 1; have hfz7_2 := ze BK112.1 2; obtain ⟨ASz8_0, cSz8_0, HGz8, hgz8, HSz8_0⟩ := HI0.1; have hcz8_0 := cellS79_0 HGz8; have hcz8_1 := cellS79_1 HGz8; have hcz8_2 := cellS79_2 HGz8; have hcz8_3 := cellS79_3 HGz8; have hcz8_4 := cellS79_4 HGz8; have hcz8_5 := cellS79_5 HGz8; have hfz8_1 := ze HGz8 1; have hfz8_2 := ze HGz8 2; have hfz8_3 := ze HGz8 3; have hfz8_4 := ze HGz8 4; have hfz8_5 := ze HGz8 5; clear HGz8 hgz8) | (go_at_call 82; (with_reducible refine (impl_floorDiv.calls a1_1 s0_1 t113 _ A3.1).mono ?_); rintro e w' ⟨rfl, ⟨nd, rfl⟩⟩; (try first | exact ⟨rfl, _, zO _ _ _⟩ | exact ⟨rfl, _, Eq.trans (zO _ _ _) (congrArg (World.drewN _) (Nat.add_assoc _ _ _))⟩)) | (go_at_call 82; (with_reducible refine (impl_floorDiv.calls a1_2 s0_1 t114 _ A4.1).mono ?_); rintro e w' ⟨rfl, ⟨nd, rfl⟩⟩; (try first | exact ⟨rfl, _, zO _ _ _⟩ | exact ⟨rfl, _, Eq.trans (zO _ _ _) (congrArg (World.drewN _) (Nat.add_assoc _ _ _))⟩))))
 go_ret2
 exact ⟨(qK15), (by repeat (first | (with_reducible first | exact HI0.1 | apply IsS79.alloc | apply IsS79.drewN | apply IsS79.drew | apply IsS79.set_1 | apply IsS79.set_2 | apply IsS79.set_3 | apply IsS79.set_4 | apply IsS79.set_5 | refine IsS79.far ?_ NB0_112.1 _) | exact HI0.1)), (by repeat (first | (with_reducible first | exact HB.1 | apply zV | apply pw_below_drewN | apply below_drew1 | refine zW ?_ (IsS79.ge HI0.1) | refine zW ?_ GE112.1) | exact HB.1)), (by repeat (first | (with_reducible first | exact HK.1 | apply KeepBut.set_ | apply keep_drewN | apply keep_drew | apply keep_alloc | refine keep_far ?_ GW112.1 _) | exact HK.1))⟩

-- NOT PRINTED: function 108 (abi_NoEscape)

-- NOT PRINTED: function 89 (strings_Builder_copyCheck)

-- NOT PRINTED: function 78 (strings_Builder_WriteString)

-- NOT PRINTED: function 79 (strings_Builder_String)

def bits_Mul32.f (a0 : Int) (a1 : Int) : Option (Int × Int) := some (((IntKind.u64.wrap ((IntKind.u64.wrap (a0)) * (IntKind.u64.wrap (a1)))) / 4294967296) % 4294967296, (IntKind.u64.wrap ((IntKind.u64.wrap (a0)) * (IntKind.u64.wrap (a1)))) % 4294967296)
def bits_Mul64.f (a0 : Int) (a1 : Int) : Option (Int × Int) := some (IntKind.u64.wrap ((IntKind.u64.wrap ((IntKind.u64.wrap ((a0 / 4294967296) * (a1 / 4294967296))) + ((IntKind.u64.wrap ((IntKind.u64.wrap ((a0 / 4294967296) * (Go.bits .and .u64 a1 4294967295))) + ((IntKind.u64.wrap ((Go.bits .and .u64 a0 4294967295) * (Go.bits .and .u64 a1 4294967295))) / 4294967296))) / 4294967296))) + ((IntKind.u64.wrap ((Go.bits .and .u64 (IntKind.u64.wrap ((IntKind.u64.wrap ((a0 / 4294967296) * (Go.bits .and .u64 a1 4294967295))) + ((IntKind.u64.wrap ((Go.bits .and .u64 a0 4294967295) * (Go.bits .and .u64 a1 4294967295))) / 4294967296))) 4294967295) + (IntKind.u64.wrap ((Go.bits .and .u64 a0 4294967295) * (a1 / 4294967296))))) / 4294967296)), IntKind.u64.wrap (a0 * a1))
def bits_Mul.f (a0 : Int) (a1 : Int) : Option (Int × Int) := (bits_Mul64.f a0 a1).bind fun bt115 => (some (bt115.1, bt115.2))
def stringslite_HasPrefix.f (a0 : ByteArray) (a1 : ByteArray) : Option (Bool) := if (a0.size : Int) ≥ (a1.size : Int) then (if 0 ≤ (a1.size : Int) then (if (a1.size : Int) ≤ (a0.size : Int) then (some ((a0.extract 0 ((a1.size : Int) : Int).toNat).toList == a1.toList)) else (none)) else (none)) else (some false)
def strings_HasPrefix.f (a0 : ByteArray) (a1 : ByteArray) : Option (Bool) := (stringslite_HasPrefix.f a0 a1).bind fun t117 => (some t117)
-- NOT PRINTED: function 119 (bytealg_MakeNoZero)

-- NOT PRINTED: function 112 (strings_Builder_grow)

-- NOT PRINTED: function 92 (strings_Builder_Grow)

-- NOT PRINTED: function 93 (strings_Builder_Len)

-- NOT PRINTED: function 80 (strings_Repeat)

-- NOT PRINTED: function 94 (impl_PlanMark_1)

-- NOT PRINTED: function 81 (impl_PlanMark_81)

end Go.Proofs.Ytckidmhkhlbkeaa.MK
