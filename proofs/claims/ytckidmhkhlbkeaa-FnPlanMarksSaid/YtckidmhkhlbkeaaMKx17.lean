-- tight2 (a walk)
import Derived.Test.YtckidmhkhlbkeaaMKx0
import Derived.Test.YtckidmhkhlbkeaaMKx2
import Derived.Test.YtckidmhkhlbkeaaMKx3
import Derived.Test.YtckidmhkhlbkeaaMKx6
import Derived.Test.YtckidmhkhlbkeaaMKx8
import Derived.Test.YtckidmhkhlbkeaaMKx9
import Derived.Test.YtckidmhkhlbkeaaMKx12
namespace Go.Proofs.Ytckidmhkhlbkeaa.MK
open Go.RowKit Go.Proofs.YtckidmhkhlbkeaaW.PrintWords Go.Proofs.YtckidmhkhlbkeaaW.PrintLast
attribute [local go_sem] max2_int min2_int max_two min_two
set_option linter.unusedVariables false
set_option linter.unusedSimpArgs false

mutual
def impl_MoveMarks.j0 : Nat → List (S44) → Int → Int → Bool → Option ((List (S44)) × Bool)
 | 0, _, _, _, _ => none
 | k + 1, x0, x1, x2, x23 => if x23 = true then (some (([] : List (S44)), false)) else (impl_MoveMarks.l0 k x1 x2 ([] : List (S44)) x0 (x0.length : Int) 0)
def impl_MoveMarks.l0 : Nat → Int → Int → List (S44) → List (S44) → Int → Int → Option ((List (S44)) × Bool)
 | 0, _, _, _, _, _, _ => none
 | k + 1, x1, x2, x8, x24, x25, x26 => if x26 < x25 then (if 0 ≤ x26 then (if x26 < (x24.length : Int) then (if x8.length < 4398046511104 then (impl_MoveMarks.l0 k x1 x2 (x8 ++ [(⟨(rd_T44 x24 x26).f0, wrap64 (((rd_T44 x24 x26).f1) + x1), wrap64 (((rd_T44 x24 x26).f2) + x2)⟩ : S44)]) x24 x25 (wrap64 (x26 + 1))) else (none)) else (none)) else (none)) else ((impl_AreMarks.f k x8).bind fun t400 => (if t400 = true then (some (x8, true)) else (some (([] : List (S44)), false))))
end
def impl_MoveMarks.f (k : Nat) (l0 : List (S44)) (a1 : Int) (a2 : Int) : Option ((List (S44)) × Bool) := (impl_AreMarks.f k l0).bind fun t392 => (if t392 = true then ((impl_within.f a1 (-2000) 2000).bind fun t393 => (if t393 = true then ((impl_within.f a2 (-2000) 2000).bind fun t394 => (impl_MoveMarks.j0 k l0 a1 a2 (!t394))) else (impl_MoveMarks.j0 k l0 a1 a2 true))) else (impl_MoveMarks.j0 k l0 a1 a2 true))
set_option maxHeartbeats 8000000 in
set_option maxRecDepth 100000 in
theorem impl_MoveMarks.calls (k : Nat) (A0 : Option Addr) (c0 : Nat) (l0 : List (S44)) (a1 : Int) (a2 : Int) (r1 : List (S44)) (r2 : Bool) (w : World) (hr0 : Kd.C k44 w A0 l0.length l0) (hc0 : l0.length ≤ c0) (h : impl_MoveMarks.f k l0 a1 a2 = some (r1, r2)) :
  Calls Try.prog 41 #[.slice A0 l0.length c0, .int .i64 a1, .int .i64 a2] w fun e w' => ∃ v0_ : Value, e = .returned (.tuple #[v0_, .bool r2]) ∧ Kd.R k44 44 w' w.heap.size (fun _ => True) v0_ r1 ∧ Below w.heap.size w w' := by
 have hu44 := Try.underlying44; have HR0 := za hr0; have HC0 := za hc0; clear hr0 hc0; have HB := za (zr w.heap.size w); have H : ((impl_AreMarks.f k l0).bind fun t392 => (if t392 = true then ((impl_within.f a1 (-2000) 2000).bind fun t393 => (if t393 = true then ((impl_within.f a2 (-2000) 2000).bind fun t394 => (impl_MoveMarks.j0 k l0 a1 a2 (!t394))) else (impl_MoveMarks.j0 k l0 a1 a2 true))) else (impl_MoveMarks.j0 k l0 a1 a2 true))) = some (r1, r2) := h; clear h; have HC4 := za H; clear H
 go_enter Try.func41, Try.ntmps41
 go_upto_region 1 with (fail)
 go_cut [23] (fun v23 wc => ∃ (kq : Nat) (x23_3 : Bool), v23 = .bool x23_3 ∧ Aside0 (impl_MoveMarks.j0 kq l0 a1 a2 x23_3 = some (r1, r2)) ∧ Aside0 (kq ≤ k) ∧ Aside0 (Below w.heap.size w wc))
 case first =>
  have H := HC4.1; clear HC4; replace H := bindA H; obtain ⟨t392, A5, H⟩ := H; (try dsimp only at H)
  by_cases c6 : t392 = true
  ·subst c6; rw [zX rfl] at H; replace H := bindA H; obtain ⟨t393, A7, H⟩ := H; (try dsimp only at H)
   by_cases c8 : t393 = true
   ·subst c8; rw [zX rfl] at H; replace H := zB H; obtain ⟨t394, A90, H⟩ := H; replace H : (impl_MoveMarks.j0 k l0 a1 a2 (!t394)) = some (r1, r2) := H; have A9 := za A90; clear A90; have H' := za H; clear H
    go_wp2_with (first | ((with_reducible refine zo (f := 36) rfl ?_); refine zR (some 12) rfl rfl Try.func36 (qK18) rfl #[.slice A0 l0.length c0] rfl (qK5) ?_; (with_reducible refine (impl_AreMarks.calls k _ _ l0 true _ ?s1 ?s2 A5.1).mono ?_); (case s1 => exact (qK25)); (case s2 => exact HC0.1); rintro e w10 ⟨rfl, hb⟩; refine ⟨_, rfl, ?_⟩; replace HB := za qK85; clear hb) | (go_at_call 61; (with_reducible refine (impl_within.calls a1 (-2000) 2000 true _ A7.1).mono ?_); rintro e w' ⟨rfl, ⟨nd, rfl⟩⟩) | (go_at_call 61; (with_reducible refine (impl_within.calls a2 (-2000) 2000 t394 _ A9.1).mono ?_); rintro e w' ⟨rfl, ⟨nd, rfl⟩⟩))
    go_meet
    case rel => exact ⟨_, (!t394), (qK17), H', ⟨by first | omega | exact zn _⟩, ⟨(qK2)⟩⟩
   ·replace c8 := zm c8; subst c8; rw [zY (show ¬ (false = true) by decide)] at H; have H' := za H; clear H
    go_wp2_with (first | ((with_reducible refine zo (f := 36) rfl ?_); refine zR (some 12) rfl rfl Try.func36 (qK18) rfl #[.slice A0 l0.length c0] rfl (qK5) ?_; (with_reducible refine (impl_AreMarks.calls k _ _ l0 true _ ?s1 ?s2 A5.1).mono ?_); (case s1 => exact (qK25)); (case s2 => exact HC0.1); rintro e w11 ⟨rfl, hb⟩; refine ⟨_, rfl, ?_⟩; replace HB := za qK85; clear hb) | (go_at_call 61; (with_reducible refine (impl_within.calls a1 (-2000) 2000 false _ A7.1).mono ?_); rintro e w' ⟨rfl, ⟨nd, rfl⟩⟩))
    go_meet
    case rel => exact ⟨_, (true), (qK17), H', ⟨by first | omega | exact zn _⟩, ⟨(qK2)⟩⟩
  ·replace c6 := zm c6; subst c6; rw [zY (show ¬ (false = true) by decide)] at H; have H' := za H; clear H
   go_wp2_with (first | ((with_reducible refine zo (f := 36) rfl ?_); refine zR (some 12) rfl rfl Try.func36 (qK18) rfl #[.slice A0 l0.length c0] rfl (qK5) ?_; (with_reducible refine (impl_AreMarks.calls k _ _ l0 false _ ?s1 ?s2 A5.1).mono ?_); (case s1 => exact (qK25)); (case s2 => exact HC0.1); rintro e w12 ⟨rfl, hb⟩; refine ⟨_, rfl, ?_⟩; replace HB := za qK85; clear hb))
   go_meet
   case rel => exact ⟨_, (true), (qK17), H', ⟨by first | omega | exact zn _⟩, ⟨(qK2)⟩⟩
 case rest =>
  clear HC4; obtain ⟨kq, x23_3, rfl, HA, HJ3, HB⟩ := hcut
  cases kq with
  | zero => exact zM HA.1 (by simp [impl_MoveMarks.j0])
  | succ kj3 =>
   have H := HA.1; clear HA; simp only [impl_MoveMarks.j0] at H
   by_cases c13 : x23_3 = true
   ·subst c13; rw [zX rfl] at H; simp only [zZ, ya] at H; obtain ⟨rfl, rfl⟩ := H
    go_wp2
    go_ret2
    exact ⟨_, (qK15), by first | exact Kd.R_nil _ _ _ _ _ | exact Kd.N_nil _ _ _ _ _ | exact Kd.V_nil _ _ _ _ _ | exact Kd.Q_nil _ _ _ _ _ | exact Kd.S_nil _ _ _ _ _, (qK2)⟩
   ·replace c13 := zm c13; subst c13; rw [zY (show ¬ (false = true) by decide)] at H; have H' := za H; clear H
    go_wp2
    go_loopg [8, 26] kj3 (fun kq v8 v26 w' => ∃ (x8_2 : List (S44)) (x26_2 : Int), v26 = .int .i64 x26_2 ∧ Aside0 (impl_MoveMarks.l0 kq a1 a2 x8_2 l0 (l0.length : Int) x26_2 = some (r1, r2)) ∧ Aside0 (kq ≤ kj3) ∧ Aside0 (Kd.R k44 44 w' w.heap.size (fun _ => True) v8 x8_2) ∧ Aside0 (Below w.heap.size w w'))
    case atStart => exact ⟨(([] : List (S44))), (0), (qK17), H', ⟨zn _⟩, ⟨by first | exact Kd.R_nil _ _ _ _ _ | exact Kd.N_nil _ _ _ _ _ | exact Kd.V_nil _ _ _ _ _ | exact Kd.Q_nil _ _ _ _ _ | exact Kd.S_nil _ _ _ _ _⟩, ⟨(qK2)⟩⟩
    case round =>
     clear H'; (try clear c13); obtain ⟨x8_2, x26_2, rfl, HA, HK2, HO_8, HB⟩ := hrel
     cases gk with
     | zero => exact zM HA.1 (by simp [impl_MoveMarks.l0])
     | succ k2 =>
      have H := HA.1; clear HA; simp only [impl_MoveMarks.l0] at H
      by_cases c14 : x26_2 < (l0.length : Int)
      ·rw [zX c14] at H; have c14b0 : decide (x26_2 < (l0.length : Int)) = true := zc c14; clear c14
       by_cases c15 : 0 ≤ x26_2
       ·rw [zX c15] at H; have c15b0 : decide (0 ≤ x26_2) = true := zc c15; clear c15
        by_cases c16 : x26_2 < (l0.length : Int)
        ·rw [zX c16] at H; have c16b0 : decide (x26_2 < (l0.length : Int)) = true := zc c16; clear c16
         by_cases c17 : x8_2.length < 4398046511104
         ·rw [zX c17] at H; have LMc17 := za c17; clear c17; obtain ⟨y397, hy397⟩ : ∃ y_ : List (S44), y_ = (x8_2 ++ [(⟨(rd_T44 l0 x26_2).f0, wrap64 (((rd_T44 l0 x26_2).f1) + a1), wrap64 (((rd_T44 l0 x26_2).f2) + a2)⟩ : S44)]) := ⟨_, rfl⟩; replace H : (impl_MoveMarks.l0 k2 a1 a2 y397 l0 (l0.length : Int) (wrap64 (x26_2 + 1))) = some (r1, r2) := (qK7 hy397); have Ny397 := za hy397; clear hy397; have H' := za H; clear H; have p395 : 0 ≤ (x26_2 : Int) := zb (qK12); have q395 : x26_2 < (l0.length : Int) := zb (qK12); obtain ⟨ad395, e395, hx395_0, hx395_1, hx395_2⟩ := at_T44 HR0.1 x26_2 p395 q395; cases e395; replace hx395_0 := (HB.1.cell (zd w _ hx395_0)).trans hx395_0; replace hx395_1 := (HB.1.cell (zd w _ hx395_1)).trans hx395_1; replace hx395_2 := (HB.1.cell (zd w _ hx395_2)).trans hx395_2; replace p395 := zv p395; replace q395 := zv q395
          go_wp2_with (first | ((with_reducible refine zp (N := 10) rfl ?_); refine zA ?hg (N := 10) ?hd (cs := #[.string (⟨#[]⟩ : ByteArray), .int .i64 0, .int .i64 0]) (t := 44) ?hr ?_; (case hd | hg => rfl); (case hr => exact (qK21)); intro gb396 hg w18 hbox hb; replace HO_8 := za (by exact Kd.R_below (Kd.R_elderB (qK0 HO_8.1) gb396 (Nat.le_of_eq hg.symm)) hb); have BK396 := za hbox; have GW396 := za (by exact (by rw [hg]; exact (zT (qK2)) : w.heap.size ≤ gb396)); have GE396 := za (by exact (by rw [hg]; exact (zT (qK2)) : w.heap.size ≤ gb396)); replace HB := za qK85; clear hb hbox hg; have hcz19_0 : w18.cell? ⟨gb396, 0, none⟩ = some (.string (⟨#[]⟩ : ByteArray)) := (blk_cell BK396.1 0).trans rfl; have hcz19_1 : w18.cell? ⟨gb396, 1, none⟩ = some (.int .i64 0) := (blk_cell BK396.1 1).trans rfl; have hcz19_2 : w18.cell? ⟨gb396, 2, none⟩ = some (.int .i64 0) := (blk_cell BK396.1 2).trans rfl; have hfz19_0 := ze BK396.1 0; have hfz19_1 := ze BK396.1 1; have hfz19_2 := ze BK396.1 2) | ((with_reducible refine zq (b := .append) (xs := #[.tmp 30, .tmp 42]) rfl ?_); at_builtin; refine Kd.R_append k44 (w0 := w) w.heap.size rfl (.tmp 30) (.tmp 42) 26 44 (.agg #[(.string ⟨#[]⟩), (.int .i64 0), (.int .i64 0)]) 32 rfl Try.underlying26 info44 rfl (by decide) (by omega) u8 x8_2 (⟨(rd_T44 l0 x26_2).f0, wrap64 (((rd_T44 l0 x26_2).f1) + a1), wrap64 (((rd_T44 l0 x26_2).f2) + a2)⟩ : S44) [.string ((rd_T44 l0 x26_2).f0), .int .i64 (wrap64 (((rd_T44 l0 x26_2).f1) + a1)), .int .i64 (wrap64 (((rd_T44 l0 x26_2).f2) + a2))] (fun k_ => k_ ≠ gb396) (fun _ => False) rfl (qK21) ?aP (fun _ hk => hk.elim) ?aF ?aO ?aB ?aS ?aL ?_; (case aP => exact (by exact k44_mkM _ _ _ (⟨(rd_T44 l0 x26_2).f0, wrap64 (((rd_T44 l0 x26_2).f1) + a1), wrap64 (((rd_T44 l0 x26_2).f2) + a2)⟩ : S44))); (case aB => exact (qK6 GE396.1)); (case aF => exact (by exact (fun k_ hk => Kd.freshB (g := gb396) (o := .cells #[.string ((rd_T44 l0 x26_2).f0), .int .i64 ((rd_T44 l0 x26_2).f1), .int .i64 ((rd_T44 l0 x26_2).f2)] 44 (0, 0)) (qK45) k_ hk))); (case aO => exact (by (with_reducible repeat (first | apply Kd.R_alloc | apply Kd.R_drewN | apply zJ)); exact zF (zG (p := ⟨gb396, 2, none⟩) (zG (p := ⟨gb396, 1, none⟩) (zG (p := ⟨gb396, 0, none⟩) (zF HO_8.1 (fun k_ hk => (⟨hk, hk.2⟩ : _ ∧ k_ ≠ gb396))) (fun _ hk => hk.2) (.string ((rd_T44 l0 x26_2).f0))) (fun _ hk => hk.2) (.int .i64 ((rd_T44 l0 x26_2).f1))) (fun _ hk => hk.2) (.int .i64 ((rd_T44 l0 x26_2).f2))) (fun _ hk => hk.1.2))); (case aS => exact (by exact (zT (qK6 GE396.1)))); (case aL => have := LMc17.1; omega); intro v398 w20 ho hb hg hat; rw [← Ny397.1] at ho; replace BK396 := za (blk_grown (g := gb396) (o := .cells #[.string ((rd_T44 l0 x26_2).f0), .int .i64 ((rd_T44 l0 x26_2).f1), .int .i64 ((rd_T44 l0 x26_2).f2)] 44 (0, 0)) (qK45) hg (Kd.R_away HO_8.1 (fun _ hk => hk.2))); replace HB := za hb; have HO399 := za ho; clear HO_8; clear ho hb hg hat))
          go_roundg k2
          case measure => have := HJ3.1; have := HK2.1; omega
          case rel => exact ⟨(y397), (wrap64 (x26_2 + 1)), (qK17), H', ⟨by have := HJ3.1; have := HK2.1; omega⟩, ⟨(qK33 HO399.1)⟩, ⟨(qK6 GE396.1)⟩⟩
         ·rw [zY c17] at H
          exact zM H (by simp)
        ·rw [zY c16] at H
         exact zM H (by simp)
       ·rw [zY c15] at H
        exact zM H (by simp)
      ·rw [zY c14] at H; have c14b0 : decide (x26_2 < (l0.length : Int)) = false := zu c14; clear c14; replace H := bindA H; obtain ⟨t400, A21, H⟩ := H; (try dsimp only at H)
       by_cases c22 : t400 = true
       ·subst c22; rw [zX rfl] at H; simp only [zZ, ya] at H; obtain ⟨rfl, rfl⟩ := H; obtain ⟨Ao23, co23, eo23⟩ := zE HO_8.1; subst eo23
        go_wp2_with (first | ((with_reducible refine zo (f := 36) rfl ?_); refine zR (some 46) rfl rfl Try.func36 (qK18) rfl #[.slice Ao23 x8_2.length co23] rfl (qK5) ?_; (with_reducible refine (impl_AreMarks.calls k2 _ _ x8_2 true _ ?s1 ?s2 A21.1).mono ?_); (case s1 => exact (qK11 HO_8.1)); (case s2 => exact (qK42 HO_8.1)); rintro e w24 ⟨rfl, hb⟩; refine ⟨_, rfl, ?_⟩; replace HO_8 := za (qK83 HO_8.1); replace HB := za qK85; clear hb))
        go_ret2
        exact ⟨_, (qK15), (qK0 HO_8.1), (qK2)⟩
       ·replace c22 := zm c22; subst c22; rw [zY (show ¬ (false = true) by decide)] at H; simp only [zZ, ya] at H; obtain ⟨rfl, rfl⟩ := H; obtain ⟨Ao25, co25, eo25⟩ := zE HO_8.1; subst eo25
        go_wp2_with (first | ((with_reducible refine zo (f := 36) rfl ?_); refine zR (some 46) rfl rfl Try.func36 (qK18) rfl #[.slice Ao25 x8_2.length co25] rfl (qK5) ?_; (with_reducible refine (impl_AreMarks.calls k2 _ _ x8_2 false _ ?s1 ?s2 A21.1).mono ?_); (case s1 => exact (qK11 HO_8.1)); (case s2 => exact (qK42 HO_8.1)); rintro e w26 ⟨rfl, hb⟩; refine ⟨_, rfl, ?_⟩; replace HO_8 := za (qK83 HO_8.1); replace HB := za qK85; clear hb))
        go_ret2
        exact ⟨_, (qK15), by first | exact Kd.R_nil _ _ _ _ _ | exact Kd.N_nil _ _ _ _ _ | exact Kd.V_nil _ _ _ _ _ | exact Kd.Q_nil _ _ _ _ _ | exact Kd.S_nil _ _ _ _ _, (qK2)⟩

mutual
def spec_MoveMarks.j0 : Nat → List (S44) → Int → Int → List (S44) → Bool → Option ((List (S44)) × Bool)
 | 0, _, _, _, _, _ => none
 | k + 1, x0, x1, x2, x8, x24 => if x24 = true then (some (x8, false)) else (spec_MoveMarks.l0 k x0 x1 x2 x8 0)
def spec_MoveMarks.l0 : Nat → List (S44) → Int → Int → List (S44) → Int → Option ((List (S44)) × Bool)
 | 0, _, _, _, _, _ => none
 | k + 1, x0, x1, x2, x8, x9 => if x9 < (x0.length : Int) then (if 0 ≤ x9 then (if x8.length < 4398046511104 then (spec_MoveMarks.l0 k x0 x1 x2 (x8 ++ [(⟨(rd_T44 x0 x9).f0, wrap64 (((rd_T44 x0 x9).f1) + x1), wrap64 (((rd_T44 x0 x9).f2) + x2)⟩ : S44)]) (wrap64 (x9 + 1))) else (none)) else (none)) else ((spec_l13Good.f k x8).bind fun t412 => (if t412 = true then (some (x8, true)) else (some ((([] : List (S44))), false))))
end
def spec_MoveMarks.f (k : Nat) (l0 : List (S44)) (a1 : Int) (a2 : Int) : Option ((List (S44)) × Bool) := (some (([] : List (S44)) : List (S44))).bind fun y401 => ((spec_l13Good.f k l0).bind fun t404 => (if t404 = true then ((spec_l1In.f a1 (-2000) 2000).bind fun t405 => (if t405 = true then ((spec_l1In.f a2 (-2000) 2000).bind fun t406 => (spec_MoveMarks.j0 k l0 a1 a2 y401 (!t406))) else (spec_MoveMarks.j0 k l0 a1 a2 y401 true))) else (spec_MoveMarks.j0 k l0 a1 a2 y401 true)))
set_option maxHeartbeats 8000000 in
set_option maxRecDepth 100000 in
theorem spec_MoveMarks.calls (k : Nat) (A0 : Option Addr) (c0 : Nat) (l0 : List (S44)) (a1 : Int) (a2 : Int) (r1 : List (S44)) (r2 : Bool) (w : World) (hr0 : Kd.C k44 w A0 l0.length l0) (hc0 : l0.length ≤ c0) (h : spec_MoveMarks.f k l0 a1 a2 = some (r1, r2)) :
  Calls Try.prog 42 #[.slice A0 l0.length c0, .int .i64 a1, .int .i64 a2] w fun e w' => ∃ v0_ : Value, e = .returned (.tuple #[v0_, .bool r2]) ∧ Kd.R k44 44 w' w.heap.size (fun _ => True) v0_ r1 ∧ Below w.heap.size w w' := by
 have hu44 := Try.underlying44; have HR0 := za hr0; have HC0 := za hc0; clear hr0 hc0; have HB := za (zr w.heap.size w); have H : ((some (([] : List (S44)) : List (S44))).bind fun y401 => ((spec_l13Good.f k l0).bind fun t404 => (if t404 = true then ((spec_l1In.f a1 (-2000) 2000).bind fun t405 => (if t405 = true then ((spec_l1In.f a2 (-2000) 2000).bind fun t406 => (spec_MoveMarks.j0 k l0 a1 a2 y401 (!t406))) else (spec_MoveMarks.j0 k l0 a1 a2 y401 true))) else (spec_MoveMarks.j0 k l0 a1 a2 y401 true)))) = some (r1, r2) := h; clear h; obtain ⟨y401, hy401⟩ : ∃ y_ : List (S44), y_ = (([] : List (S44))) := ⟨_, rfl⟩; replace H : ((spec_l13Good.f k l0).bind fun t404 => (if t404 = true then ((spec_l1In.f a1 (-2000) 2000).bind fun t405 => (if t405 = true then ((spec_l1In.f a2 (-2000) 2000).bind fun t406 => (spec_MoveMarks.j0 k l0 a1 a2 y401 (!t406))) else (spec_MoveMarks.j0 k l0 a1 a2 y401 true))) else (spec_MoveMarks.j0 k l0 a1 a2 y401 true))) = some (r1, r2) := (qK7 hy401); have Ny401 := za hy401; clear hy401; have HC4 := za H; clear H
 go_enter Try.func42, Try.ntmps42
 go_upto_region 2 with (first | ((with_reducible refine zp (N := 11) rfl ?_); refine zL k44 _ 44 ?hg (N := 11) ?hd (xs := ([] : List (S44))) (inner := []) (ok := fun _ => True) (okp := fun _ => True) ?hr ?hp (fun _ hk => hk) trivial (zr _ _) (zn _) (by simp) ?_; (case hd | hg => rfl); (case hr => exact (qK21)); (case hp => exact (zt _ _)); intro v402 w5 ho6 hb hg_ hnew_; clear hg_ hnew_; (first | rw [← Ny401.1] at ho6 | (simp only [Int.reduceToNat] at ho6; rw [← Ny401.1] at ho6)); have HO403 := za (qK106 ho6); replace HB := za qK85; clear hb ho6))
 (try simp only [Act.put, yb, yc, yd])
 go_cut [24] (fun v24 wc => ∃ (kq : Nat) (x24_3 : Bool), v24 = .bool x24_3 ∧ Aside0 (spec_MoveMarks.j0 kq l0 a1 a2 y401 x24_3 = some (r1, r2)) ∧ Aside0 (kq ≤ k) ∧ Aside0 (Kd.R k44 44 wc w.heap.size (fun _ => True) v402 y401) ∧ Aside0 (Below w.heap.size w wc))
 case first =>
  have H := HC4.1; clear HC4; replace H := bindA H; obtain ⟨t404, A7, H⟩ := H; (try dsimp only at H)
  by_cases c8 : t404 = true
  ·subst c8; rw [zX rfl] at H; replace H := bindA H; obtain ⟨t405, A9, H⟩ := H; (try dsimp only at H)
   by_cases c10 : t405 = true
   ·subst c10; rw [zX rfl] at H; replace H := zB H; obtain ⟨t406, A110, H⟩ := H; replace H : (spec_MoveMarks.j0 k l0 a1 a2 y401 (!t406)) = some (r1, r2) := H; have A11 := za A110; clear A110; have H' := za H; clear H
    go_wp2_with (first | ((with_reducible refine zo (f := 63) rfl ?_); refine zR (some 13) rfl rfl Try.func63 (qK18) rfl #[.slice A0 l0.length c0] rfl (qK5) ?_; (with_reducible refine (spec_l13Good.calls k _ _ l0 true _ ?s1 ?s2 A7.1).mono ?_); (case s1 => exact (qK25)); (case s2 => exact HC0.1); rintro e w12 ⟨rfl, hb⟩; refine ⟨_, rfl, ?_⟩; replace HO403 := za (qK83 HO403.1); replace HB := za qK85; clear hb) | (go_at_call 64; (with_reducible refine (spec_l1In.calls a1 (-2000) 2000 true _ A9.1).mono ?_); rintro e w' ⟨rfl, ⟨nd, rfl⟩⟩) | (go_at_call 64; (with_reducible refine (spec_l1In.calls a2 (-2000) 2000 t406 _ A11.1).mono ?_); rintro e w' ⟨rfl, ⟨nd, rfl⟩⟩))
    go_meet
    case rel => exact ⟨_, (!t406), (qK17), H', ⟨by first | omega | exact zn _⟩, ⟨(qK0 HO403.1)⟩, ⟨(qK2)⟩⟩
   ·replace c10 := zm c10; subst c10; rw [zY (show ¬ (false = true) by decide)] at H; have H' := za H; clear H
    go_wp2_with (first | ((with_reducible refine zo (f := 63) rfl ?_); refine zR (some 13) rfl rfl Try.func63 (qK18) rfl #[.slice A0 l0.length c0] rfl (qK5) ?_; (with_reducible refine (spec_l13Good.calls k _ _ l0 true _ ?s1 ?s2 A7.1).mono ?_); (case s1 => exact (qK25)); (case s2 => exact HC0.1); rintro e w13 ⟨rfl, hb⟩; refine ⟨_, rfl, ?_⟩; replace HO403 := za (qK83 HO403.1); replace HB := za qK85; clear hb) | (go_at_call 64; (with_reducible refine (spec_l1In.calls a1 (-2000) 2000 false _ A9.1).mono ?_); rintro e w' ⟨rfl, ⟨nd, rfl⟩⟩))
    go_meet
    case rel => exact ⟨_, (true), (qK17), H', ⟨by first | omega | exact zn _⟩, ⟨(qK0 HO403.1)⟩, ⟨(qK2)⟩⟩
  ·replace c8 := zm c8; subst c8; rw [zY (show ¬ (false = true) by decide)] at H; have H' := za H; clear H
   go_wp2_with (first | ((with_reducible refine zo (f := 63) rfl ?_); refine zR (some 13) rfl rfl Try.func63 (qK18) rfl #[.slice A0 l0.length c0] rfl (qK5) ?_; (with_reducible refine (spec_l13Good.calls k _ _ l0 false _ ?s1 ?s2 A7.1).mono ?_); (case s1 => exact (qK25)); (case s2 => exact HC0.1); rintro e w14 ⟨rfl, hb⟩; refine ⟨_, rfl, ?_⟩; replace HO403 := za (qK83 HO403.1); replace HB := za qK85; clear hb))
   go_meet
   case rel => exact ⟨_, (true), (qK17), H', ⟨by first | omega | exact zn _⟩, ⟨(qK0 HO403.1)⟩, ⟨(qK2)⟩⟩
 case rest =>
  clear HC4; obtain ⟨kq, x24_3, rfl, HA, HJ3, HO_8, HB⟩ := hcut
  cases kq with
  | zero => exact zM HA.1 (by simp [spec_MoveMarks.j0])
  | succ kj3 =>
   have H := HA.1; clear HA; simp only [spec_MoveMarks.j0] at H
   by_cases c15 : x24_3 = true
   ·subst c15; rw [zX rfl] at H; simp only [zZ, ya] at H; obtain ⟨rfl, rfl⟩ := H
    go_wp2
    go_ret2
    exact ⟨_, (qK15), (qK0 HO_8.1), (qK2)⟩
   ·replace c15 := zm c15; subst c15; rw [zY (show ¬ (false = true) by decide)] at H; have H' := za H; clear H
    go_wp2
    go_loopg [8, 9] kj3 (fun kq v8 v9 w' => ∃ (x8_2 : List (S44)) (x9_2 : Int), v9 = .int .i64 x9_2 ∧ Aside0 (spec_MoveMarks.l0 kq l0 a1 a2 x8_2 x9_2 = some (r1, r2)) ∧ Aside0 (kq ≤ kj3) ∧ Aside0 (Kd.R k44 44 w' w.heap.size (fun _ => True) v8 x8_2) ∧ Aside0 (Below w.heap.size w w'))
    case atStart => exact ⟨(y401), (0), (qK17), H', ⟨zn _⟩, ⟨(qK0 HO_8.1)⟩, ⟨(qK2)⟩⟩
    case round =>
     clear H'; (try clear c15); obtain ⟨x8_2, x9_2, rfl, HA, HK2, HO_8, HB⟩ := hrel
     cases gk with
     | zero => exact zM HA.1 (by simp [spec_MoveMarks.l0])
     | succ k2 =>
      have H := HA.1; clear HA; simp only [spec_MoveMarks.l0] at H
      by_cases c16 : x9_2 < (l0.length : Int)
      ·rw [zX c16] at H; have c16b0 : decide (x9_2 < (l0.length : Int)) = true := zc c16; clear c16
       by_cases c17 : 0 ≤ x9_2
       ·rw [zX c17] at H; have c17b0 : decide (0 ≤ x9_2) = true := zc c17; clear c17
        by_cases c18 : x8_2.length < 4398046511104
        ·rw [zX c18] at H; have LMc18 := za c18; clear c18; obtain ⟨y409, hy409⟩ : ∃ y_ : List (S44), y_ = (x8_2 ++ [(⟨(rd_T44 l0 x9_2).f0, wrap64 (((rd_T44 l0 x9_2).f1) + a1), wrap64 (((rd_T44 l0 x9_2).f2) + a2)⟩ : S44)]) := ⟨_, rfl⟩; replace H : (spec_MoveMarks.l0 k2 l0 a1 a2 y409 (wrap64 (x9_2 + 1))) = some (r1, r2) := (qK7 hy409); have Ny409 := za hy409; clear hy409; have H' := za H; clear H; have p407 : 0 ≤ (x9_2 : Int) := zb (qK12); have q407 : x9_2 < (l0.length : Int) := zb (qK12); obtain ⟨ad407, e407, hx407_0, hx407_1, hx407_2⟩ := at_T44 HR0.1 x9_2 p407 q407; cases e407; replace hx407_0 := (HB.1.cell (zd w _ hx407_0)).trans hx407_0; replace hx407_1 := (HB.1.cell (zd w _ hx407_1)).trans hx407_1; replace hx407_2 := (HB.1.cell (zd w _ hx407_2)).trans hx407_2; replace p407 := zv p407; replace q407 := zv q407
         go_wp2_with (first | ((with_reducible refine zp (N := 10) rfl ?_); refine zA ?hg (N := 10) ?hd (cs := #[.string (⟨#[]⟩ : ByteArray), .int .i64 0, .int .i64 0]) (t := 44) ?hr ?_; (case hd | hg => rfl); (case hr => exact (qK21)); intro gb408 hg w19 hbox hb; replace HO_8 := za (by exact Kd.R_below (Kd.R_elderB (qK0 HO_8.1) gb408 (Nat.le_of_eq hg.symm)) hb); have BK408 := za hbox; have GW408 := za (by exact (by rw [hg]; exact (zT (qK2)) : w.heap.size ≤ gb408)); have GE408 := za (by exact (by rw [hg]; exact (zT (qK2)) : w.heap.size ≤ gb408)); replace HB := za qK85; clear hb hbox hg; have hcz20_0 : w19.cell? ⟨gb408, 0, none⟩ = some (.string (⟨#[]⟩ : ByteArray)) := (blk_cell BK408.1 0).trans rfl; have hcz20_1 : w19.cell? ⟨gb408, 1, none⟩ = some (.int .i64 0) := (blk_cell BK408.1 1).trans rfl; have hcz20_2 : w19.cell? ⟨gb408, 2, none⟩ = some (.int .i64 0) := (blk_cell BK408.1 2).trans rfl; have hfz20_0 := ze BK408.1 0; have hfz20_1 := ze BK408.1 1; have hfz20_2 := ze BK408.1 2) | ((with_reducible refine zq (b := .append) (xs := #[.tmp 36, .tmp 48]) rfl ?_); at_builtin; refine Kd.R_append k44 (w0 := w) w.heap.size rfl (.tmp 36) (.tmp 48) 26 44 (.agg #[(.string ⟨#[]⟩), (.int .i64 0), (.int .i64 0)]) 32 rfl Try.underlying26 info44 rfl (by decide) (by omega) u8 x8_2 (⟨(rd_T44 l0 x9_2).f0, wrap64 (((rd_T44 l0 x9_2).f1) + a1), wrap64 (((rd_T44 l0 x9_2).f2) + a2)⟩ : S44) [.string ((rd_T44 l0 x9_2).f0), .int .i64 (wrap64 (((rd_T44 l0 x9_2).f1) + a1)), .int .i64 (wrap64 (((rd_T44 l0 x9_2).f2) + a2))] (fun k_ => k_ ≠ gb408) (fun _ => False) rfl (qK21) ?aP (fun _ hk => hk.elim) ?aF ?aO ?aB ?aS ?aL ?_; (case aP => exact (by exact k44_mkM _ _ _ (⟨(rd_T44 l0 x9_2).f0, wrap64 (((rd_T44 l0 x9_2).f1) + a1), wrap64 (((rd_T44 l0 x9_2).f2) + a2)⟩ : S44))); (case aB => exact (qK6 GE408.1)); (case aF => exact (by exact (fun k_ hk => Kd.freshB (g := gb408) (o := .cells #[.string ((rd_T44 l0 x9_2).f0), .int .i64 ((rd_T44 l0 x9_2).f1), .int .i64 ((rd_T44 l0 x9_2).f2)] 44 (0, 0)) (qK48) k_ hk))); (case aO => exact (by (with_reducible repeat (first | apply Kd.R_alloc | apply Kd.R_drewN | apply zJ)); exact zF (zG (p := ⟨gb408, 2, none⟩) (zG (p := ⟨gb408, 1, none⟩) (zG (p := ⟨gb408, 0, none⟩) (zF HO_8.1 (fun k_ hk => (⟨hk, hk.2⟩ : _ ∧ k_ ≠ gb408))) (fun _ hk => hk.2) (.string ((rd_T44 l0 x9_2).f0))) (fun _ hk => hk.2) (.int .i64 ((rd_T44 l0 x9_2).f1))) (fun _ hk => hk.2) (.int .i64 ((rd_T44 l0 x9_2).f2))) (fun _ hk => hk.1.2))); (case aS => exact (by exact (zT (qK6 GE408.1)))); (case aL => have := LMc18.1; omega); intro v410 w21 ho hb hg hat; rw [← Ny409.1] at ho; replace BK408 := za (blk_grown (g := gb408) (o := .cells #[.string ((rd_T44 l0 x9_2).f0), .int .i64 ((rd_T44 l0 x9_2).f1), .int .i64 ((rd_T44 l0 x9_2).f2)] 44 (0, 0)) (qK48) hg (Kd.R_away HO_8.1 (fun _ hk => hk.2))); replace HB := za hb; have HO411 := za ho; clear HO_8; clear ho hb hg hat))
         go_roundg k2
         case measure => have := HJ3.1; have := HK2.1; omega
         case rel => exact ⟨(y409), (wrap64 (x9_2 + 1)), (qK17), H', ⟨by have := HJ3.1; have := HK2.1; omega⟩, ⟨(qK33 HO411.1)⟩, ⟨(qK6 GE408.1)⟩⟩
        ·rw [zY c18] at H
         exact zM H (by simp)
       ·rw [zY c17] at H
        exact zM H (by simp)
      ·rw [zY c16] at H; have c16b0 : decide (x9_2 < (l0.length : Int)) = false := zu c16; clear c16; replace H := bindA H; obtain ⟨t412, A22, H⟩ := H; (try dsimp only at H)
       by_cases c23 : t412 = true
       ·subst c23; rw [zX rfl] at H; simp only [zZ, ya] at H; obtain ⟨rfl, rfl⟩ := H; obtain ⟨Ao24, co24, eo24⟩ := zE HO_8.1; subst eo24
        go_wp2_with (first | ((with_reducible refine zo (f := 63) rfl ?_); refine zR (some 51) rfl rfl Try.func63 (qK18) rfl #[.slice Ao24 x8_2.length co24] rfl (qK5) ?_; (with_reducible refine (spec_l13Good.calls k2 _ _ x8_2 true _ ?s1 ?s2 A22.1).mono ?_); (case s1 => exact (qK11 HO_8.1)); (case s2 => exact (qK42 HO_8.1)); rintro e w25 ⟨rfl, hb⟩; refine ⟨_, rfl, ?_⟩; replace HO_8 := za (qK83 HO_8.1); replace HB := za qK85; clear hb))
        go_ret2
        exact ⟨_, (qK15), (qK0 HO_8.1), (qK2)⟩
       ·replace c23 := zm c23; subst c23; rw [zY (show ¬ (false = true) by decide)] at H; obtain ⟨y413, hy413⟩ : ∃ y_ : List (S44), y_ = (([] : List (S44))) := ⟨_, rfl⟩; replace H : (some (y413, false)) = some (r1, r2) := (qK7 hy413); have Ny413 := za hy413; clear hy413; simp only [zZ, ya] at H; obtain ⟨rfl, rfl⟩ := H; obtain ⟨Ao26, co26, eo26⟩ := zE HO_8.1; subst eo26
        go_wp2_with (first | ((with_reducible refine zo (f := 63) rfl ?_); refine zR (some 51) rfl rfl Try.func63 (qK18) rfl #[.slice Ao26 x8_2.length co26] rfl (qK5) ?_; (with_reducible refine (spec_l13Good.calls k2 _ _ x8_2 false _ ?s1 ?s2 A22.1).mono ?_); (case s1 => exact (qK11 HO_8.1)); (case s2 => exact (qK42 HO_8.1)); rintro e w27 ⟨rfl, hb⟩; refine ⟨_, rfl, ?_⟩; replace HO_8 := za (qK83 HO_8.1); replace HB := za qK85; clear hb) | ((with_reducible refine zp (N := 53) rfl ?_); refine zL k44 _ 44 ?hg (N := 53) ?hd (xs := ([] : List (S44))) (inner := []) (ok := fun _ => True) (okp := fun _ => True) ?hr ?hp (fun _ hk => hk) trivial (zr _ _) (zn _) (by simp) ?_; (case hd | hg => rfl); (case hr => exact (qK21)); (case hp => exact (zt _ _)); intro v414 w28 ho29 hb hg_ hnew_; clear hg_ hnew_; (first | rw [← Ny413.1] at ho29 | (simp only [Int.reduceToNat] at ho29; rw [← Ny413.1] at ho29)); have HO415 := za (qK108 ho29 HO_8.1); replace HO_8 := za (qK86 HO_8.1 ho29); replace HB := za qK85; clear hb ho29))
        go_ret2
        exact ⟨_, (qK15), (qK33 HO415.1), (qK2)⟩

mutual
def laws_FnPlanMarks.j0 : Nat → List Int → ByteArray → List (S44) → Bool → Bool → Option (Bool)
 | 0, _, _, _, _, _ => none
 | k + 1, x0, x3, x4, x5, x52 => if x52 = true then (some false) else (if x5 = true then ((impl_PlanText.f k x4 1).bind fun bt427 => (if bt427.2 = true then (if bt427.1.toList = x3.toList then ((impl_AreMarks.f k x4).bind fun t429 => (if t429 = true then (laws_FnPlanMarks.j1 k x0) else (some false))) else (some false)) else (some false))) else (laws_FnPlanMarks.j1 k x0))
def laws_FnPlanMarks.j1 : Nat → List Int → Option (Bool)
 | 0, _ => none
 | k + 1, x0 => (spec_DrawTurnMarks.f k x0).bind fun t430 => ((impl_TurnMarks.f k t430).bind fun bt433 => ((spec_TurnMarks.f k t430).bind fun bt437 => (if (bt433.2 != bt437.2) = true then (laws_FnPlanMarks.j2 k x0 t430 bt433.1 bt433.2 true) else ((laws_rMarks.f k bt433.1 bt437.1).bind fun t441 => (laws_FnPlanMarks.j2 k x0 t430 bt433.1 bt433.2 (!t441))))))
def laws_FnPlanMarks.j2 : Nat → List Int → List (S44) → List (S44) → Bool → Bool → Option (Bool)
 | 0, _, _, _, _, _ => none
 | k + 1, x0, x10, x11, x12, x91 => if x91 = true then (some false) else (if x12 = true then ((impl_TurnMarks.f k x11).bind fun bt442 => ((impl_TurnMarks.f k bt442.1).bind fun bt446 => ((impl_TurnMarks.f k bt446.1).bind fun bt450 => (if bt442.2 = true then (if bt446.2 = true then (if bt450.2 = true then ((laws_rMarks.f k bt450.1 x10).bind fun t454 => (if t454 = true then (laws_FnPlanMarks.j3 k x0) else (some false))) else (some false)) else (some false)) else (some false))))) else (laws_FnPlanMarks.j3 k x0))
def laws_FnPlanMarks.j3 : Nat → List Int → Option (Bool)
 | 0, _ => none
 | k + 1, x0 => (spec_DrawMoveMarks.f k x0).bind fun bt455 => ((impl_MoveMarks.f k bt455.1 bt455.2.1 bt455.2.2).bind fun bt460 => ((spec_MoveMarks.f k bt455.1 bt455.2.1 bt455.2.2).bind fun bt464 => (if (bt460.2 != bt464.2) = true then (laws_FnPlanMarks.j4 k bt455.1 bt455.2.1 bt455.2.2 bt460.1 bt460.2 true) else ((laws_rMarks.f k bt460.1 bt464.1).bind fun t468 => (laws_FnPlanMarks.j4 k bt455.1 bt455.2.1 bt455.2.2 bt460.1 bt460.2 (!t468))))))
def laws_FnPlanMarks.j4 : Nat → List (S44) → Int → Int → List (S44) → Bool → Bool → Option (Bool)
 | 0, _, _, _, _, _, _ => none
 | k + 1, x21, x22, x23, x24, x25, x152 => if x152 = true then (some false) else (if x25 = true then ((impl_MoveMarks.f k x24 (wrap64 (-x22)) (wrap64 (-x23))).bind fun bt469 => (if bt469.2 = true then ((laws_rMarks.f k bt469.1 x21).bind fun t473 => (some t473)) else (some false))) else (some true))
end
def laws_FnPlanMarks.f (k : Nat) (l0 : List Int) : Option (Bool) := (laws_rBig.f l0).bind fun t416 => (if t416 = true then (some true) else ((spec_DrawReadPlan.f k l0).bind fun t417 => ((impl_ReadPlan.f k t417).bind fun bt418 => ((spec_ReadPlan.f k t417).bind fun bt422 => (if (bt418.2 != bt422.2) = true then (laws_FnPlanMarks.j0 k l0 t417 bt418.1 bt418.2 true) else ((laws_rMarks.f k bt418.1 bt422.1).bind fun t426 => (laws_FnPlanMarks.j0 k l0 t417 bt418.1 bt418.2 (!t426))))))))
set_option maxHeartbeats 8000000 in
set_option maxRecDepth 100000 in
theorem laws_FnPlanMarks.calls (k : Nat) (A0 : Option Addr) (c0 : Nat) (l0 : List Int) (r : Bool) (w : World) (hr0 : Kd.C (Kd.int .u8) w A0 l0.length l0) (hc0 : l0.length ≤ c0) (h : laws_FnPlanMarks.f k l0 = some r) (ht : r = true := by rfl) :
  Calls Try.prog 7 #[.slice A0 l0.length c0] w fun e w' => e = .returned (.bool r) ∧ Below w.heap.size w w' := by
 have HT := za ht; clear ht; have HR0 := za hr0; have HC0 := za hc0; clear hr0 hc0; have HB := za (zr w.heap.size w); have H : ((laws_rBig.f l0).bind fun t416 => (if t416 = true then (some true) else ((spec_DrawReadPlan.f k l0).bind fun t417 => ((impl_ReadPlan.f k t417).bind fun bt418 => ((spec_ReadPlan.f k t417).bind fun bt422 => (if (bt418.2 != bt422.2) = true then (laws_FnPlanMarks.j0 k l0 t417 bt418.1 bt418.2 true) else ((laws_rMarks.f k bt418.1 bt422.1).bind fun t426 => (laws_FnPlanMarks.j0 k l0 t417 bt418.1 bt418.2 (!t426))))))))) = some r := h; clear h; replace H := bindA H; obtain ⟨t416, A2, H⟩ := H; (try dsimp only at H)
 by_cases c3 : t416 = true
 ·as_aux_lemma =>
  subst c3; rw [zX rfl] at H; obtain rfl := zl H
  go_enter Try.func7, Try.ntmps7
  go_wp2_with (first | ((with_reducible refine zo (f := 19) rfl ?_); refine zR (some 31) rfl rfl Try.func19 (qK18) rfl #[.slice A0 l0.length c0] rfl (qK5) ?_; (with_reducible refine (laws_rBig.calls _ _ l0 true _ ?s1 ?s2 A2.1).mono ?_); (case s1 => exact (qK32)); (case s2 => exact HC0.1); rintro e w' ⟨rfl, ⟨nd, rfl⟩⟩; refine ⟨_, rfl, ?_⟩))
  go_ret
  exact ⟨(qK15), (qK2)⟩
 ·as_aux_lemma =>
  replace c3 := zm c3; subst c3; rw [zY (show ¬ (false = true) by decide)] at H; replace H := bindA H; obtain ⟨t417, A4, H⟩ := H; (try dsimp only at H); replace H := bindA H; obtain ⟨⟨t418, t419⟩, A5, H⟩ := H; (try dsimp only at H); replace H := bindA H; obtain ⟨⟨t422, t423⟩, A6, H⟩ := H; (try dsimp only at H); have HC7 := za H; clear H
  go_enter Try.func7, Try.ntmps7
  go_upto_region 6 with (first | ((with_reducible refine zo (f := 19) rfl ?_); refine zR (some 31) rfl rfl Try.func19 (qK18) rfl #[.slice A0 l0.length c0] rfl (qK5) ?_; (with_reducible refine (laws_rBig.calls _ _ l0 false _ ?s1 ?s2 A2.1).mono ?_); (case s1 => exact (qK32)); (case s2 => exact HC0.1); rintro e w' ⟨rfl, ⟨nd, rfl⟩⟩; refine ⟨_, rfl, ?_⟩) | ((with_reducible refine zo (f := 34) rfl ?_); refine zR (some 33) rfl rfl Try.func34 (qK18) rfl #[.slice A0 l0.length c0] rfl (qK5) ?_; (with_reducible refine (spec_DrawReadPlan.calls k _ _ l0 t417 _ ?s1 ?s2 A4.1).mono ?_); (case s1 => exact (qK32)); (case s2 => exact HC0.1); rintro e w8 ⟨rfl, hb⟩; refine ⟨_, rfl, ?_⟩; replace HB := za qK85; clear hb) | ((with_reducible refine zo (f := 32) rfl ?_); refine zR (some 36) rfl rfl Try.func32 (qK18) rfl #[.string t417] rfl (qK5) ?_; (with_reducible refine (impl_ReadPlan.calls k t417 t418 t419 _ A5.1).mono ?_); rintro e w9 ⟨v420, rfl, ho0, hb⟩; refine ⟨_, rfl, ?_⟩; have HO421 := za (qK106 ho0); replace HB := za qK85; clear hb ho0) | ((with_reducible refine zo (f := 31) rfl ?_); refine zR (some 41) rfl rfl Try.func31 (qK18) rfl #[.string t417] rfl (qK5) ?_; (with_reducible refine (spec_ReadPlan.calls k t417 t422 t423 _ A6.1).mono ?_); rintro e w10 ⟨v424, rfl, ho0, hb⟩; refine ⟨_, rfl, ?_⟩; have HO425 := za (qK108 ho0 HO421.1); replace HO421 := za (qK86 HO421.1 ho0); replace HB := za qK85; clear hb ho0))
  (try simp only [Act.put, yb, yc, yd])
  go_cut [52] (fun v52 wc => ∃ (kq : Nat) (x52_6 : Bool), v52 = .bool x52_6 ∧ Aside0 (laws_FnPlanMarks.j0 kq l0 t417 t418 t419 x52_6 = some r) ∧ Aside0 (kq ≤ k) ∧ Aside0 (Kd.R k44 44 wc w.heap.size (fun _ => True) v420 t418) ∧ Aside0 (Below w.heap.size w wc))
  case first =>
   have H := HC7.1; clear HC7
   by_cases c11 : (t419 != t423) = true
   ·as_aux_lemma =>
    rw [zX c11] at H; have c11b0 : (t419 != t423) = true := c11
    (try (have c11b1 : decide (t419 = t423) = false := by simpa using c11))
    (try (have c11b2 : (t419 == t423) = false := by simpa using c11))
    (try (have c11b3 : ¬ (t419 = t423) := by simpa using c11)); clear c11
    (first | rw [c11b0] | (simp only [i64_w, i32_w]; rw [c11b0]) | skip)
    have H' := za H; clear H
    go_wp2
    go_meet
    case rel => exact ⟨_, (true), (qK17), H', ⟨by first | omega | exact zn _⟩, ⟨(qK33 HO421.1)⟩, ⟨(qK2)⟩⟩
   ·as_aux_lemma =>
    rw [zY c11] at H
    have c11b0 : (t419 != t423) = false := by simpa using c11
    (try (have c11b1 : decide (t419 = t423) = true := by simpa using c11))
    (try (have c11b2 : (t419 == t423) = true := by simpa using c11)); clear c11
    (first | rw [c11b0] | (simp only [i64_w, i32_w]; rw [c11b0]) | skip)
    replace H := zB H; obtain ⟨t426, A120, H⟩ := H; replace H : (laws_FnPlanMarks.j0 k l0 t417 t418 t419 (!t426)) = some r := H; have A12 := za A120; clear A120; have H' := za H; clear H; obtain ⟨Ao13, co13, eo13⟩ := zE HO421.1; subst eo13; obtain ⟨Ao14, co14, eo14⟩ := zE HO425.1; subst eo14
    go_wp2_with (first | (go_at_call 35; (with_reducible refine (laws_rMarks.calls k _ _ t418 _ _ t422 t426 _ ?s1 ?s2 ?s3 ?s4 A12.1).mono ?_); (case s1 => exact (qK11 HO421.1)); (case s2 => exact (qK42 HO421.1)); (case s3 => exact (qK11 HO425.1)); (case s4 => exact (qK42 HO425.1)); rintro e w' ⟨rfl, ⟨nd, rfl⟩⟩))
    go_meet
    case rel => exact ⟨_, (!t426), (qK17), H', ⟨by first | omega | exact zn _⟩, ⟨(qK33 HO421.1)⟩, ⟨(qK2)⟩⟩
  case rest =>
   clear HC7; (try clear c3); obtain ⟨kq, x52_6, rfl, HA, HJ6, HO_4, HB⟩ := hcut
   cases kq with
   | zero => exact zM HA.1 (by simp [laws_FnPlanMarks.j0])
   | succ kj6 =>
    have H := HA.1; clear HA; simp only [laws_FnPlanMarks.j0] at H
    by_cases c15 : x52_6 = true
    ·as_aux_lemma =>
     subst c15; rw [zX rfl] at H
     exact zM (HT.1.symm.trans (zl H).symm) (by decide)
    ·as_aux_lemma =>
     replace c15 := zm c15; subst c15; rw [zY (show ¬ (false = true) by decide)] at H; have HC16 := za H; clear H
     go_upto_if 53 with (fail)
     go_cut [] (fun wc => ∃ (kq : Nat), Aside0 (laws_FnPlanMarks.j1 kq l0 = some r) ∧ Aside0 (kq ≤ kj6) ∧ Aside0 (Below w.heap.size w wc))
     case first =>
      have H := HC16.1; clear HC16
      by_cases c17 : t419 = true
      ·as_aux_lemma =>
       subst c17; rw [zX rfl] at H; replace H := bindA H; obtain ⟨⟨t427, t428⟩, A18, H⟩ := H; (try dsimp only at H)
       by_cases c19 : t428 = true
       ·as_aux_lemma =>
        subst c19; rw [zX rfl] at H
        by_cases c20 : t427.toList = t417.toList
        ·as_aux_lemma =>
         rw [zX c20] at H; have c20b0 : (t427.toList == t417.toList) = true := zP c20; have c20b1 : (t427.toList != t417.toList) = false := zx c20; clear c20
         (first | rw [c20b0] | (simp only [i64_w, i32_w]; rw [c20b0]) | skip)
         replace H := bindA H; obtain ⟨t429, A21, H⟩ := H; (try dsimp only at H)
         by_cases c22 : t429 = true
         ·as_aux_lemma =>
          subst c22; rw [zX rfl] at H; have H' := za H; clear H; obtain ⟨Ao23, co23, eo23⟩ := zE HO_4.1; subst eo23
          go_wp2_with (first | ((with_reducible refine zo (f := 11) rfl ?_); refine zR (some 56) rfl rfl Try.func11 (qK18) rfl #[.slice Ao23 t418.length co23, .int .i64 1] rfl (qK5) ?_; (with_reducible refine (impl_PlanText.calls kj6 _ _ t418 1 t427 true _ ?s1 ?s2 A18.1).mono ?_); (case s1 => exact (qK11 HO_4.1)); (case s2 => exact (qK42 HO_4.1)); rintro e w24 ⟨rfl, hb⟩; refine ⟨_, rfl, ?_⟩; replace HO_4 := za (qK83 HO_4.1); replace HB := za qK85; clear hb) | (go_at_call 36; (with_reducible refine (impl_AreMarks.calls kj6 _ _ t418 true _ ?s1 ?s2 A21.1).mono ?_); (case s1 => exact (qK11 HO_4.1)); (case s2 => exact (qK42 HO_4.1)); rintro e w25 ⟨rfl, hb⟩; replace HO_4 := za (qK83 HO_4.1); replace HB := za qK85; clear hb))
          go_meet
          case rel => exact ⟨_, H', ⟨by have := HJ6.1; first | omega | exact zn _⟩, ⟨(qK2)⟩⟩
         ·as_aux_lemma =>
          replace c22 := zm c22; subst c22; rw [zY (show ¬ (false = true) by decide)] at H
          exact zM (HT.1.symm.trans (zl H).symm) (by decide)
        ·as_aux_lemma =>
         rw [zY c20] at H; have c20b0 : (t427.toList == t417.toList) = false := zw c20; have c20b1 : (t427.toList != t417.toList) = true := zQ c20
         (first | rw [c20b0] | (simp only [i64_w, i32_w]; rw [c20b0]) | skip)
         exact zM (HT.1.symm.trans (zl H).symm) (by decide)
       ·as_aux_lemma =>
        replace c19 := zm c19; subst c19; rw [zY (show ¬ (false = true) by decide)] at H
        exact zM (HT.1.symm.trans (zl H).symm) (by decide)
      ·as_aux_lemma =>
       replace c17 := zm c17; subst c17; rw [zY (show ¬ (false = true) by decide)] at H; have H' := za H; clear H
       go_wp2
       go_meet
       case rel => exact ⟨_, H', ⟨by have := HJ6.1; first | omega | exact zn _⟩, ⟨(qK2)⟩⟩
     case rest =>
      clear HC16; (try clear c15); obtain ⟨kq, HA, HJ15, HB⟩ := hcut
      cases kq with
      | zero => exact zM HA.1 (by simp [laws_FnPlanMarks.j1])
      | succ kj15 =>
       have H := HA.1; clear HA; simp only [laws_FnPlanMarks.j1] at H; replace H := bindA H; obtain ⟨t430, A33, H⟩ := H; (try dsimp only at H); replace H := bindA H; obtain ⟨⟨t433, t434⟩, A34, H⟩ := H; (try dsimp only at H); replace H := bindA H; obtain ⟨⟨t437, t438⟩, A35, H⟩ := H; (try dsimp only at H); have HC36 := za H; clear H
       go_upto_region 15 with (first | ((with_reducible refine zo (f := 37) rfl ?_); refine zR (some 72) rfl rfl Try.func37 (qK18) rfl #[.slice A0 l0.length c0] rfl (qK5) ?_; (with_reducible refine (spec_DrawTurnMarks.calls kj15 _ _ l0 t430 _ ?s1 ?s2 A33.1).mono ?_); (case s1 => exact (qK25)); (case s2 => exact HC0.1); rintro e w37 ⟨v431, rfl, ho0, hb⟩; refine ⟨_, rfl, ?_⟩; have HO432 := za (qK106 ho0); replace HB := za qK85; clear hb ho0; obtain ⟨Ao38, co38, eo38⟩ := zE HO432.1; subst eo38) | ((with_reducible refine zo (f := 38) rfl ?_); refine zR (some 75) rfl rfl Try.func38 (qK18) rfl #[.slice Ao38 t430.length co38] rfl (qK5) ?_; (with_reducible refine (impl_TurnMarks.calls kj15 _ _ t430 t433 t434 _ ?s1 ?s2 A34.1).mono ?_); (case s1 => exact (qK11 HO432.1)); (case s2 => exact (qK42 HO432.1)); rintro e w39 ⟨v435, rfl, ho0, hb⟩; refine ⟨_, rfl, ?_⟩; have HO436 := za (qK108 ho0 HO432.1); replace HO432 := za (qK86 HO432.1 ho0); replace HB := za qK85; clear hb ho0) | ((with_reducible refine zo (f := 39) rfl ?_); refine zR (some 80) rfl rfl Try.func39 (qK18) rfl #[.slice Ao38 t430.length co38] rfl (qK5) ?_; (with_reducible refine (spec_TurnMarks.calls kj15 _ _ t430 t437 t438 _ ?s1 ?s2 A35.1).mono ?_); (case s1 => exact (qK11 HO432.1)); (case s2 => exact (qK42 HO432.1)); rintro e w40 ⟨v439, rfl, ho0, hb⟩; refine ⟨_, rfl, ?_⟩; have HO440 := za (qK115 ho0 HO432.1 HO436.1); replace HO432 := za (qK86 HO432.1 ho0); replace HO436 := za (qK86 HO436.1 ho0); replace HB := za qK85; clear hb ho0))
       (try simp only [Act.put, yb, yc, yd])
       go_cut [91] (fun v91 wc => ∃ (kq : Nat) (x91_35 : Bool), v91 = .bool x91_35 ∧ Aside0 (laws_FnPlanMarks.j2 kq l0 t430 t433 t434 x91_35 = some r) ∧ Aside0 (kq ≤ kj15) ∧ Aside0 (Kd.R k44 44 wc w.heap.size (fun k_ => some k_ ≠ (v435 : Value).ownBlock) (.slice Ao38 t430.length co38) t430) ∧ Aside0 (Kd.R k44 44 wc w.heap.size (fun k_ => some k_ ≠ ((.slice Ao38 t430.length co38) : Value).ownBlock) v435 t433) ∧ Aside0 (Below w.heap.size w wc))
       case first =>
        have H := HC36.1; clear HC36
        by_cases c41 : (t434 != t438) = true
        ·as_aux_lemma =>
         rw [zX c41] at H; have c41b0 : (t434 != t438) = true := c41
         (try (have c41b1 : decide (t434 = t438) = false := by simpa using c41))
         (try (have c41b2 : (t434 == t438) = false := by simpa using c41))
         (try (have c41b3 : ¬ (t434 = t438) := by simpa using c41)); clear c41
         (first | rw [c41b0] | (simp only [i64_w, i32_w]; rw [c41b0]) | skip)
         have H' := za H; clear H
         go_wp2
         go_meet
         case rel => exact ⟨_, (true), (qK17), H', ⟨by have := HJ6.1; have := HJ15.1; first | omega | exact zn _⟩, ⟨(qK44 HO432.1)⟩, ⟨(qK44 HO436.1)⟩, ⟨(qK2)⟩⟩
        ·as_aux_lemma =>
         rw [zY c41] at H
         have c41b0 : (t434 != t438) = false := by simpa using c41
         (try (have c41b1 : decide (t434 = t438) = true := by simpa using c41))
         (try (have c41b2 : (t434 == t438) = true := by simpa using c41)); clear c41
         (first | rw [c41b0] | (simp only [i64_w, i32_w]; rw [c41b0]) | skip)
         replace H := bindA H; obtain ⟨t441, A42, H⟩ := H; (try dsimp only at H); have H' := za H; clear H; obtain ⟨Ao43, co43, eo43⟩ := zE HO436.1; subst eo43; obtain ⟨Ao44, co44, eo44⟩ := zE HO440.1; subst eo44
         go_wp2_with (first | (go_at_call 35; (with_reducible refine (laws_rMarks.calls kj15 _ _ t433 _ _ t437 t441 _ ?s1 ?s2 ?s3 ?s4 A42.1).mono ?_); (case s1 => exact (qK11 HO436.1)); (case s2 => exact (qK42 HO436.1)); (case s3 => exact (qK11 HO440.1)); (case s4 => exact (qK42 HO440.1)); rintro e w' ⟨rfl, ⟨nd, rfl⟩⟩))
         go_meet
         case rel => exact ⟨_, (!t441), (qK17), H', ⟨by have := HJ6.1; have := HJ15.1; first | omega | exact zn _⟩, ⟨(qK44 HO432.1)⟩, ⟨(qK44 HO436.1)⟩, ⟨(qK2)⟩⟩
       case rest =>
        clear HC36; obtain ⟨kq, x91_35, rfl, HA, HJ35, HO_10, HO_11, HB⟩ := hcut
        cases kq with
        | zero => exact zM HA.1 (by simp [laws_FnPlanMarks.j2])
        | succ kj35 =>
         have H := HA.1; clear HA; simp only [laws_FnPlanMarks.j2] at H
         by_cases c45 : x91_35 = true
         ·as_aux_lemma =>
          subst c45; rw [zX rfl] at H
          exact zM (HT.1.symm.trans (zl H).symm) (by decide)
         ·as_aux_lemma =>
          replace c45 := zm c45; subst c45; rw [zY (show ¬ (false = true) by decide)] at H; have HC46 := za H; clear H
          go_upto_if 92 with (fail)
          go_cut [] (fun wc => ∃ (kq : Nat), Aside0 (laws_FnPlanMarks.j3 kq l0 = some r) ∧ Aside0 (kq ≤ kj35) ∧ Aside0 (Below w.heap.size w wc))
          case first =>
           have H := HC46.1; clear HC46
           by_cases c47 : t434 = true
           ·as_aux_lemma =>
            subst c47; rw [zX rfl] at H; replace H := bindA H; obtain ⟨⟨t442, t443⟩, A48, H⟩ := H; (try dsimp only at H); replace H := bindA H; obtain ⟨⟨t446, t447⟩, A49, H⟩ := H; (try dsimp only at H); replace H := bindA H; obtain ⟨⟨t450, t451⟩, A50, H⟩ := H; (try dsimp only at H)
            by_cases c51 : t443 = true
            ·as_aux_lemma =>
             subst c51; rw [zX rfl] at H
             by_cases c52 : t447 = true
             ·as_aux_lemma =>
              subst c52; rw [zX rfl] at H
              by_cases c53 : t451 = true
              ·as_aux_lemma =>
               subst c53; rw [zX rfl] at H; replace H := bindA H; obtain ⟨t454, A54, H⟩ := H; (try dsimp only at H)
               by_cases c55 : t454 = true
               ·as_aux_lemma =>
                subst c55; rw [zX rfl] at H; have H' := za H; clear H; obtain ⟨Ao56, co56, eo56⟩ := zE HO_11.1; subst eo56
                go_wp2_with (first | ((with_reducible refine zo (f := 38) rfl ?_); refine zR (some 95) rfl rfl Try.func38 (qK18) rfl #[.slice Ao56 t433.length co56] rfl (qK5) ?_; (with_reducible refine (impl_TurnMarks.calls kj35 _ _ t433 t442 true _ ?s1 ?s2 A48.1).mono ?_); (case s1 => exact (qK11 HO_11.1)); (case s2 => exact (qK42 HO_11.1)); rintro e w57 ⟨v444, rfl, ho0, hb⟩; refine ⟨_, rfl, ?_⟩; have HO445 := za (qK115 ho0 HO_10.1 HO_11.1); replace HO_10 := za (qK86 HO_10.1 ho0); replace HO_11 := za (qK86 HO_11.1 ho0); replace HB := za qK85; clear hb ho0; obtain ⟨Ao58, co58, eo58⟩ := zE HO445.1; subst eo58) | ((with_reducible refine zo (f := 38) rfl ?_); refine zR (some 100) rfl rfl Try.func38 (qK18) rfl #[.slice Ao58 t442.length co58] rfl (qK5) ?_; (with_reducible refine (impl_TurnMarks.calls kj35 _ _ t442 t446 true _ ?s1 ?s2 A49.1).mono ?_); (case s1 => exact (qK11 HO445.1)); (case s2 => exact (qK42 HO445.1)); rintro e w59 ⟨v448, rfl, ho0, hb⟩; refine ⟨_, rfl, ?_⟩; have HO449 := za (by exact zK (Kd.R_new' (Kd.R_new' (Kd.R_new' ho0 (Kd.R_lt (qK0 HO_10.1))) (Kd.R_lt (qK0 HO_11.1))) (Kd.R_lt (qK0 HO445.1))) (zT (qK2))); replace HO_10 := za (qK86 HO_10.1 ho0); replace HO_11 := za (qK86 HO_11.1 ho0); replace HO445 := za (qK86 HO445.1 ho0); replace HB := za qK85; clear hb ho0; obtain ⟨Ao60, co60, eo60⟩ := zE HO449.1; subst eo60) | ((with_reducible refine zo (f := 38) rfl ?_); refine zR (some 105) rfl rfl Try.func38 (qK18) rfl #[.slice Ao60 t446.length co60] rfl (qK5) ?_; (with_reducible refine (impl_TurnMarks.calls kj35 _ _ t446 t450 true _ ?s1 ?s2 A50.1).mono ?_); (case s1 => exact (qK11 HO449.1)); (case s2 => exact (qK42 HO449.1)); rintro e w61 ⟨v452, rfl, ho0, hb⟩; refine ⟨_, rfl, ?_⟩; have HO453 := za (by exact zK (Kd.R_new' (Kd.R_new' (Kd.R_new' (Kd.R_new' ho0 (Kd.R_lt (qK0 HO_10.1))) (Kd.R_lt (qK0 HO_11.1))) (Kd.R_lt (qK0 HO445.1))) (Kd.R_lt (qK0 HO449.1))) (zT (qK2))); replace HO_10 := za (qK86 HO_10.1 ho0); replace HO_11 := za (qK86 HO_11.1 ho0); replace HO445 := za (qK86 HO445.1 ho0); replace HO449 := za (qK86 HO449.1 ho0); replace HB := za qK85; clear hb ho0; obtain ⟨Ao62, co62, eo62⟩ := zE HO453.1; subst eo62) | (go_at_call 35; (with_reducible refine (laws_rMarks.calls kj35 _ _ t450 _ _ t430 true _ ?s1 ?s2 ?s3 ?s4 A54.1).mono ?_); (case s1 => exact (qK11 HO453.1)); (case s2 => exact (qK42 HO453.1)); (case s3 => exact (qK11 HO_10.1)); (case s4 => exact (qK42 HO_10.1)); rintro e w' ⟨rfl, ⟨nd, rfl⟩⟩))
                go_meet
                case rel => exact ⟨_, H', ⟨by have := HJ6.1; have := HJ15.1; have := HJ35.1; first | omega | exact zn _⟩, ⟨(qK2)⟩⟩
               ·as_aux_lemma =>
                replace c55 := zm c55; subst c55; rw [zY (show ¬ (false = true) by decide)] at H
                exact zM (HT.1.symm.trans (zl H).symm) (by decide)
              ·as_aux_lemma =>
               replace c53 := zm c53; subst c53; rw [zY (show ¬ (false = true) by decide)] at H
               exact zM (HT.1.symm.trans (zl H).symm) (by decide)
             ·as_aux_lemma =>
              replace c52 := zm c52; subst c52; rw [zY (show ¬ (false = true) by decide)] at H
              exact zM (HT.1.symm.trans (zl H).symm) (by decide)
            ·as_aux_lemma =>
             replace c51 := zm c51; subst c51; rw [zY (show ¬ (false = true) by decide)] at H
             exact zM (HT.1.symm.trans (zl H).symm) (by decide)
           ·as_aux_lemma =>
            replace c47 := zm c47; subst c47; rw [zY (show ¬ (false = true) by decide)] at H; have H' := za H; clear H
            go_wp2
            go_meet
            case rel => exact ⟨_, H', ⟨by have := HJ6.1; have := HJ15.1; have := HJ35.1; first | omega | exact zn _⟩, ⟨(qK2)⟩⟩
          case rest =>
           clear HC46; (try clear c45); obtain ⟨kq, HA, HJ45, HB⟩ := hcut
           cases kq with
           | zero => exact zM HA.1 (by simp [laws_FnPlanMarks.j3])
           | succ kj45 =>
            have H := HA.1; clear HA; simp only [laws_FnPlanMarks.j3] at H; replace H := bindA H; obtain ⟨⟨t455, t456, t457⟩, A88, H⟩ := H; (try dsimp only at H); replace H := bindA H; obtain ⟨⟨t460, t461⟩, A89, H⟩ := H; (try dsimp only at H); replace H := bindA H; obtain ⟨⟨t464, t465⟩, A90, H⟩ := H; (try dsimp only at H); have HC91 := za H; clear H
            go_upto_region 26 with (first | ((with_reducible refine zo (f := 40) rfl ?_); refine zR (some 126) rfl rfl Try.func40 (qK18) rfl #[.slice A0 l0.length c0] rfl (qK5) ?_; (with_reducible refine (spec_DrawMoveMarks.calls kj45 _ _ l0 t455 t456 t457 _ ?s1 ?s2 A88.1).mono ?_); (case s1 => exact (qK25)); (case s2 => exact HC0.1); rintro e w92 ⟨v458, rfl, ho0, hb⟩; refine ⟨_, rfl, ?_⟩; have HO459 := za (qK106 ho0); replace HB := za qK85; clear hb ho0; obtain ⟨Ao93, co93, eo93⟩ := zE HO459.1; subst eo93) | ((with_reducible refine zo (f := 41) rfl ?_); refine zR (some 134) rfl rfl Try.func41 (qK18) rfl #[.slice Ao93 t455.length co93, .int .i64 t456, .int .i64 t457] rfl (qK5) ?_; (with_reducible refine (impl_MoveMarks.calls kj45 _ _ t455 t456 t457 t460 t461 _ ?s1 ?s2 A89.1).mono ?_); (case s1 => exact (qK11 HO459.1)); (case s2 => exact (qK42 HO459.1)); rintro e w94 ⟨v462, rfl, ho0, hb⟩; refine ⟨_, rfl, ?_⟩; have HO463 := za (qK108 ho0 HO459.1); replace HO459 := za (qK86 HO459.1 ho0); replace HB := za qK85; clear hb ho0) | ((with_reducible refine zo (f := 42) rfl ?_); refine zR (some 141) rfl rfl Try.func42 (qK18) rfl #[.slice Ao93 t455.length co93, .int .i64 t456, .int .i64 t457] rfl (qK5) ?_; (with_reducible refine (spec_MoveMarks.calls kj45 _ _ t455 t456 t457 t464 t465 _ ?s1 ?s2 A90.1).mono ?_); (case s1 => exact (qK11 HO459.1)); (case s2 => exact (qK42 HO459.1)); rintro e w95 ⟨v466, rfl, ho0, hb⟩; refine ⟨_, rfl, ?_⟩; have HO467 := za (qK115 ho0 HO459.1 HO463.1); replace HO459 := za (qK86 HO459.1 ho0); replace HO463 := za (qK86 HO463.1 ho0); replace HB := za qK85; clear hb ho0))
            (try simp only [Act.put, yb, yc, yd])
            go_cut [152] (fun v152 wc => ∃ (kq : Nat) (x152_90 : Bool), v152 = .bool x152_90 ∧ Aside0 (laws_FnPlanMarks.j4 kq t455 t456 t457 t460 t461 x152_90 = some r) ∧ Aside0 (kq ≤ kj45) ∧ Aside0 (Kd.R k44 44 wc w.heap.size (fun k_ => some k_ ≠ (v462 : Value).ownBlock) (.slice Ao93 t455.length co93) t455) ∧ Aside0 (Kd.R k44 44 wc w.heap.size (fun k_ => some k_ ≠ ((.slice Ao93 t455.length co93) : Value).ownBlock) v462 t460) ∧ Aside0 (Below w.heap.size w wc))
            case first =>
             have H := HC91.1; clear HC91
             by_cases c96 : (t461 != t465) = true
             ·as_aux_lemma =>
              rw [zX c96] at H; have c96b0 : (t461 != t465) = true := c96
              (try (have c96b1 : decide (t461 = t465) = false := by simpa using c96))
              (try (have c96b2 : (t461 == t465) = false := by simpa using c96))
              (try (have c96b3 : ¬ (t461 = t465) := by simpa using c96)); clear c96
              (first | rw [c96b0] | (simp only [i64_w, i32_w]; rw [c96b0]) | skip)
              have H' := za H; clear H
              go_wp2
              go_meet
              case rel => exact ⟨_, (true), (qK17), H', ⟨by have := HJ6.1; have := HJ15.1; have := HJ35.1; have := HJ45.1; first | omega | exact zn _⟩, ⟨(qK44 HO459.1)⟩, ⟨(qK44 HO463.1)⟩, ⟨(qK2)⟩⟩
             ·as_aux_lemma =>
              rw [zY c96] at H
              have c96b0 : (t461 != t465) = false := by simpa using c96
              (try (have c96b1 : decide (t461 = t465) = true := by simpa using c96))
              (try (have c96b2 : (t461 == t465) = true := by simpa using c96)); clear c96
              (first | rw [c96b0] | (simp only [i64_w, i32_w]; rw [c96b0]) | skip)
              replace H := bindA H; obtain ⟨t468, A97, H⟩ := H; (try dsimp only at H); have H' := za H; clear H; obtain ⟨Ao98, co98, eo98⟩ := zE HO463.1; subst eo98; obtain ⟨Ao99, co99, eo99⟩ := zE HO467.1; subst eo99
              go_wp2_with (first | (go_at_call 35; (with_reducible refine (laws_rMarks.calls kj45 _ _ t460 _ _ t464 t468 _ ?s1 ?s2 ?s3 ?s4 A97.1).mono ?_); (case s1 => exact (qK11 HO463.1)); (case s2 => exact (qK42 HO463.1)); (case s3 => exact (qK11 HO467.1)); (case s4 => exact (qK42 HO467.1)); rintro e w' ⟨rfl, ⟨nd, rfl⟩⟩))
              go_meet
              case rel => exact ⟨_, (!t468), (qK17), H', ⟨by have := HJ6.1; have := HJ15.1; have := HJ35.1; have := HJ45.1; first | omega | exact zn _⟩, ⟨(qK44 HO459.1)⟩, ⟨(qK44 HO463.1)⟩, ⟨(qK2)⟩⟩
            case rest =>
             clear HC91; obtain ⟨kq, x152_90, rfl, HA, HJ90, HO_21, HO_24, HB⟩ := hcut
             cases kq with
             | zero => exact zM HA.1 (by simp [laws_FnPlanMarks.j4])
             | succ kj90 =>
              have H := HA.1; clear HA; simp only [laws_FnPlanMarks.j4] at H
              by_cases c100 : x152_90 = true
              ·as_aux_lemma =>
               subst c100; rw [zX rfl] at H
               exact zM (HT.1.symm.trans (zl H).symm) (by decide)
              ·as_aux_lemma =>
               replace c100 := zm c100; subst c100; rw [zY (show ¬ (false = true) by decide)] at H
               by_cases c101 : t461 = true
               ·as_aux_lemma =>
                subst c101; rw [zX rfl] at H; replace H := bindA H; obtain ⟨⟨t469, t470⟩, A102, H⟩ := H; (try dsimp only at H)
                by_cases c103 : t470 = true
                ·as_aux_lemma =>
                 subst c103; rw [zX rfl] at H; replace H := zB H; obtain ⟨t473, A1040, H⟩ := H; replace H : (some t473) = some r := H; have A104 := za A1040; clear A1040; obtain rfl := zl H; obtain ⟨Ao105, co105, eo105⟩ := zE HO_24.1; subst eo105
                 go_wp2_with (first | ((with_reducible refine zo (f := 41) rfl ?_); refine zR (some 160) rfl rfl Try.func41 (qK18) rfl #[.slice Ao105 t460.length co105, .int .i64 (wrap64 (-t456)), .int .i64 (wrap64 (-t457))] rfl (qK5) ?_; (with_reducible refine (impl_MoveMarks.calls kj90 _ _ t460 (wrap64 (-t456)) (wrap64 (-t457)) t469 true _ ?s1 ?s2 A102.1).mono ?_); (case s1 => exact (qK11 HO_24.1)); (case s2 => exact (qK42 HO_24.1)); rintro e w106 ⟨v471, rfl, ho0, hb⟩; refine ⟨_, rfl, ?_⟩; have HO472 := za (qK115 ho0 HO_21.1 HO_24.1); replace HO_21 := za (qK86 HO_21.1 ho0); replace HO_24 := za (qK86 HO_24.1 ho0); replace HB := za qK85; clear hb ho0; obtain ⟨Ao107, co107, eo107⟩ := zE HO472.1; subst eo107) | (go_at_call 35; (with_reducible refine (laws_rMarks.calls kj90 _ _ t469 _ _ t455 t473 _ ?s1 ?s2 ?s3 ?s4 A104.1).mono ?_); (case s1 => exact (qK11 HO472.1)); (case s2 => exact (qK42 HO472.1)); (case s3 => exact (qK11 HO_21.1)); (case s4 => exact (qK42 HO_21.1)); rintro e w' ⟨rfl, ⟨nd, rfl⟩⟩))
                 go_ret
                 exact ⟨(qK15), (qK2)⟩
                ·as_aux_lemma =>
                 replace c103 := zm c103; subst c103; rw [zY (show ¬ (false = true) by decide)] at H
                 exact zM (HT.1.symm.trans (zl H).symm) (by decide)
               ·as_aux_lemma =>
                replace c101 := zm c101; subst c101; rw [zY (show ¬ (false = true) by decide)] at H; obtain rfl := zl H
                go_wp2
                go_ret
                exact ⟨(qK15), (qK2)⟩

end Go.Proofs.Ytckidmhkhlbkeaa.MK
