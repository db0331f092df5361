-- Written by a program of this session (wip/drv.py, wip/tight2.py). -- tight2
import Derived.Test.YtffdglecmjbolaaMPx0
import Derived.Test.YtffdglecmjbolaaMPx3
namespace Go.Proofs.Ytffdglecmjbolaa.MP
open Go.RowKit Go.Proofs.YtffdglecmjbolaaW.PrintWords Go.Proofs.YtffdglecmjbolaaW.PrintLast Go.Proofs.YtffdglecmjbolaaW.PrintMore
attribute [local go_sem] max2_int min2_int max_two min_two max_three min_three max_four min_four   -- for this text's walks alone
set_option linter.unusedVariables false
set_option linter.unusedSimpArgs false

/-! ### impl_MergePassages: function 11 -/
mutual
def impl_MergePassages.j0 : Nat → List (S60) → List (S60) → Bool → Option ((List (S60)) × Bool)
 | 0, _, _, _ => none
 | k + 1, x0, x1, x19 => if x19 = true then (some (([] : List (S60)), false)) else (impl_MergePassages.l0 k x0 x1 ([] : List (S60)) 0)
def impl_MergePassages.l0 : Nat → List (S60) → List (S60) → List (S60) → Int → Option ((List (S60)) × Bool)
 | 0, _, _, _, _ => none
 | k + 1, x0, x1, x6, x20 => if x20 < 8 then ((impl_passageAt.f x0 x20).bind fun bt346 => ((impl_passageAt.f x1 x20).bind fun bt353 => (if bt346.2.2.2.2.2 = true then (impl_MergePassages.j2 k x0 x1 x6 x20 bt346.2.2.2.2.2 bt353.2.2.2.2.2 x20 bt353.2.2.2.2.2 bt346.1 bt346.2.1 bt346.2.2.1 bt346.2.2.2.1 bt346.2.2.2.2.1 bt353.1 bt353.2.1 bt353.2.2.1 bt353.2.2.2.1 bt353.2.2.2.2.1) else (impl_MergePassages.j2 k x0 x1 x6 x20 bt346.2.2.2.2.2 bt353.2.2.2.2.2 x20 false bt346.1 bt346.2.1 bt346.2.2.1 bt346.2.2.2.1 bt346.2.2.2.2.1 bt353.1 bt353.2.1 bt353.2.2.1 bt353.2.2.2.1 bt353.2.2.2.2.1)))) else (some (x6, true))
def impl_MergePassages.j2 : Nat → List (S60) → List (S60) → List (S60) → Int → Bool → Bool → Int → Bool → Int → Int → Int → Int → Int → Int → Int → Int → Int → Int → Option ((List (S60)) × Bool)
 | 0, _, _, _, _, _, _, _, _, _, _, _, _, _, _, _, _, _, _ => none
 | k + 1, x0, x1, x6, x7, x9, x11, x20, x35, x353000, x353001, x353002, x353003, x353004, x360000, x360001, x360002, x360003, x360004 => if x35 = true then (if x6.length < 3518437208883 then (impl_MergePassages.l0 k x0 x1 (x6 ++ [(⟨x7, mn x353001 x360001, mn x353002 x360002, mn x353003 x360003, mn x353004 x360004⟩ : S60)]) (wrap64 (x20 + 1))) else (none)) else (if x9 = true then (if x6.length < 3518437208883 then (impl_MergePassages.l0 k x0 x1 (x6 ++ [(⟨x353000, x353001, x353002, x353003, x353004⟩ : S60)]) (wrap64 (x20 + 1))) else (none)) else (if x11 = true then (if x6.length < 3518437208883 then (impl_MergePassages.l0 k x0 x1 (x6 ++ [(⟨x360000, x360001, x360002, x360003, x360004⟩ : S60)]) (wrap64 (x20 + 1))) else (none)) else (impl_MergePassages.l0 k x0 x1 x6 (wrap64 (x20 + 1)))))
end
def impl_MergePassages.f (k : Nat) (l0 : List (S60)) (l1 : List (S60)) : Option ((List (S60)) × Bool) := (impl_ArePassages.f k l0).bind fun t344 => (if t344 = true then ((impl_ArePassages.f k l1).bind fun t345 => (impl_MergePassages.j0 k l0 l1 (!t345))) else (impl_MergePassages.j0 k l0 l1 true))
theorem impl_MergePassages.mono_l : ∀ k, (∀ y0 y1 y2, LeO (impl_MergePassages.j0 k y0 y1 y2) (impl_MergePassages.j0 (k + 1) y0 y1 y2)) ∧ (∀ y0 y1 y2 y3, LeO (impl_MergePassages.l0 k y0 y1 y2 y3) (impl_MergePassages.l0 (k + 1) y0 y1 y2 y3)) ∧ (∀ y0 y1 y2 y3 y4 y5 y6 y7 y8 y9 y10 y11 y12 y13 y14 y15 y16 y17, LeO (impl_MergePassages.j2 k y0 y1 y2 y3 y4 y5 y6 y7 y8 y9 y10 y11 y12 y13 y14 y15 y16 y17) (impl_MergePassages.j2 (k + 1) y0 y1 y2 y3 y4 y5 y6 y7 y8 y9 y10 y11 y12 y13 y14 y15 y16 y17))
 | 0 => ⟨fun _ _ _ r h => by simp [impl_MergePassages.j0] at h, fun _ _ _ _ r h => by simp [impl_MergePassages.l0] at h, fun _ _ _ _ _ _ _ _ _ _ _ _ _ _ _ _ _ _ r h => by simp [impl_MergePassages.j2] at h⟩
 | k + 1 => by
  obtain ⟨ih0, ih1, ih2⟩ := impl_MergePassages.mono_l k
  refine ⟨?_, ?_, ?_⟩
  ·intro y0 y1 y2
   unfold impl_MergePassages.j0
   have m0 := @impl_ArePassages.mono
   exact qmono
  ·intro y0 y1 y2 y3
   unfold impl_MergePassages.l0
   have m0 := @impl_ArePassages.mono
   exact qmono
  ·intro y0 y1 y2 y3 y4 y5 y6 y7 y8 y9 y10 y11 y12 y13 y14 y15 y16 y17
   unfold impl_MergePassages.j2
   have m0 := @impl_ArePassages.mono
   exact qmono
theorem impl_MergePassages.mono : ∀ a0 a1 k, LeO (impl_MergePassages.f k a0 a1) (impl_MergePassages.f (k + 1) a0 a1) := by
 intro a0 a1 k; obtain ⟨ih0, ih1, ih2⟩ := impl_MergePassages.mono_l k
 unfold impl_MergePassages.f
 have m0 := @impl_ArePassages.mono
 exact qmono
set_option maxHeartbeats 8000000 in
set_option maxRecDepth 100000 in
theorem impl_MergePassages.calls (k : Nat) (A0 : Option Addr) (c0 : Nat) (l0 : List (S60)) (A1 : Option Addr) (c1 : Nat) (l1 : List (S60)) (r1 : List (S60)) (r2 : Bool) (w : World) (hr0 : Kd.C k60 w A0 l0.length l0) (hc0 : l0.length ≤ c0) (hr1 : Kd.C k60 w A1 l1.length l1) (hc1 : l1.length ≤ c1) (h : impl_MergePassages.f k l0 l1 = some (r1, r2)) :
  Calls Try.prog 11 #[.slice A0 l0.length c0, .slice A1 l1.length c1] w fun e w' => ∃ v0_ : Value, e = .returned (.tuple #[v0_, .bool r2]) ∧ Kd.R k60 60 w' w.heap.size (fun _ => True) v0_ r1 ∧ Below w.heap.size w w' := by
 have hu60 := Try.underlying60; have HR0 := Aside0.mk hr0; have HC0 := Aside0.mk hc0; clear hr0 hc0; have HR1 := Aside0.mk hr1; have HC1 := Aside0.mk hc1; clear hr1 hc1; have HB := Aside0.mk (Below.refl w.heap.size w); have H : ((impl_ArePassages.f k l0).bind fun t344 => (if t344 = true then ((impl_ArePassages.f k l1).bind fun t345 => (impl_MergePassages.j0 k l0 l1 (!t345))) else (impl_MergePassages.j0 k l0 l1 true))) = some (r1, r2) := h; clear h; have HC3 := Aside0.mk H; clear H
 go_enter Try.func11, Try.ntmps11
 go_upto_region 1 with (fail)
 go_cut [19] (fun v19 wc => ∃ (kq : Nat) (x19_2 : Bool), v19 = .bool x19_2 ∧ Aside0 (impl_MergePassages.j0 kq l0 l1 x19_2 = some (r1, r2)) ∧ Aside0 (kq ≤ k) ∧ Aside0 (Below w.heap.size w wc))
 case first =>
  have H := HC3.out; clear HC3; replace H := bindA H; obtain ⟨t344, A4, H⟩ := H; (try dsimp only at H)
  by_cases c5 : t344 = true
  ·subst c5; rw [if_pos rfl] at H; replace H := Option.bind_eq_some_iff.mp H; obtain ⟨t345, A60, H⟩ := H; replace H : (impl_MergePassages.j0 k l0 l1 (!t345)) = some (r1, r2) := H; have A6 := Aside0.mk A60; clear A60; have H' := Aside0.mk H; clear H
   go_wp2_with (first | ((with_reducible refine gate_callee (f := 8) rfl ?_); refine goesL_ (some 13) rfl rfl Try.func8 (by kernel_rfl) rfl #[.slice A0 l0.length c0] rfl (qP2) ?_; (with_reducible refine (impl_ArePassages.calls k _ _ l0 true _ ?s1 ?s2 A4.out).mono ?_); (case s1 => exact (qP13 HR0.out)); (case s2 => exact HC0.out); rintro e w7 ⟨rfl, hb⟩; refine ⟨_, rfl, ?_⟩; replace HB := Aside0.mk (qP57); clear hb) | (go_at_call 8; (with_reducible refine (impl_ArePassages.calls k _ _ l1 t345 _ ?s1 ?s2 A6.out).mono ?_); (case s1 => exact (qP13 HR1.out)); (case s2 => exact HC1.out); rintro e w8 ⟨rfl, hb⟩; replace HB := Aside0.mk (qP57); clear hb))
   go_meet
   case rel => exact ⟨_, (!t345), (qP14), H', ⟨by first | omega | exact Nat.le_refl _⟩, ⟨(qP0)⟩⟩
  ·replace c5 := Bool.eq_false_iff.mpr c5; subst c5; rw [if_neg (show ¬ (false = true) by decide)] at H; have H' := Aside0.mk H; clear H
   go_wp2_with (first | ((with_reducible refine gate_callee (f := 8) rfl ?_); refine goesL_ (some 13) rfl rfl Try.func8 (by kernel_rfl) rfl #[.slice A0 l0.length c0] rfl (qP2) ?_; (with_reducible refine (impl_ArePassages.calls k _ _ l0 false _ ?s1 ?s2 A4.out).mono ?_); (case s1 => exact (qP13 HR0.out)); (case s2 => exact HC0.out); rintro e w9 ⟨rfl, hb⟩; refine ⟨_, rfl, ?_⟩; replace HB := Aside0.mk (qP57); clear hb))
   go_meet
   case rel => exact ⟨_, (true), (qP14), H', ⟨by first | omega | exact Nat.le_refl _⟩, ⟨(qP0)⟩⟩
 case rest =>
  clear HC3; (try clear c1); (try clear p2); (try clear c5); (try clear c8); obtain ⟨kq, x19_2, rfl, HA, HJ2, HB⟩ := hcut
  cases kq with
  | zero => exact absurd HA.out (by simp [impl_MergePassages.j0])
  | succ kj2 =>
   have H := HA.out; clear HA; simp only [impl_MergePassages.j0] at H
   by_cases c10 : x19_2 = true
   ·subst c10; rw [if_pos rfl] at H; simp only [Option.some.injEq, Prod.mk.injEq] at H; obtain ⟨rfl, rfl⟩ := H
    go_wp2
    go_ret2
    exact ⟨_, (qP8), by first | exact Kd.R_nil _ _ _ _ _ | exact Kd.N_nil _ _ _ _ _ | exact Kd.V_nil _ _ _ _ _ | exact Kd.Q_nil _ _ _ _ _ | exact Kd.S_nil _ _ _ _ _, (qP0)⟩
   ·replace c10 := Bool.eq_false_iff.mpr c10; subst c10; rw [if_neg (show ¬ (false = true) by decide)] at H; have H' := Aside0.mk H; clear H
    go_wp2
    go_loopg [6, 20] kj2 (fun kq v6 v20 w' => ∃ (x6_2 : List (S60)) (x20_2 : Int), v20 = .int .i64 x20_2 ∧ Aside0 (impl_MergePassages.l0 kq l0 l1 x6_2 x20_2 = some (r1, r2)) ∧ Aside0 (kq ≤ kj2) ∧ Aside0 (Kd.R k60 60 w' w.heap.size (fun _ => True) v6 x6_2) ∧ Aside0 (Below w.heap.size w w'))
    case atStart => exact ⟨(([] : List (S60))), (0), (qP14), H', ⟨Nat.le_refl _⟩, ⟨by first | exact Kd.R_nil _ _ _ _ _ | exact Kd.N_nil _ _ _ _ _ | exact Kd.V_nil _ _ _ _ _ | exact Kd.Q_nil _ _ _ _ _ | exact Kd.S_nil _ _ _ _ _⟩, ⟨(qP0)⟩⟩
    case round =>
     clear H'; (try clear c1); (try clear p2); (try clear c5); (try clear c8); (try clear c10); (try clear p2); obtain ⟨x6_2, x20_2, rfl, HA, HK2, HO_6, HB⟩ := hrel
     cases gk with
     | zero => exact absurd HA.out (by simp [impl_MergePassages.l0])
     | succ k2 =>
      have H := HA.out; clear HA; simp only [impl_MergePassages.l0] at H
      by_cases c11 : x20_2 < 8
      ·rw [if_pos c11] at H; have c11b0 : decide (x20_2 < 8) = true := decide_eq_true c11; clear c11; replace H := bindA H; obtain ⟨⟨t346, t347, t348, t349, t350, t351⟩, A12, H⟩ := H; (try dsimp only at H); replace H := bindA H; obtain ⟨⟨t353, t354, t355, t356, t357, t358⟩, A13, H⟩ := H; (try dsimp only at H); have HC14 := Aside0.mk H; clear H
       go_upto_region 9 with (first | ((with_reducible refine gate_callee (f := 34) rfl ?_); refine goesL_ (some 26) rfl rfl Try.func34 (by kernel_rfl) rfl #[.slice A0 l0.length c0, .int .i64 x20_2] rfl (qP2) ?_; (with_reducible refine (impl_passageAt.calls _ _ l0 x20_2 t346 t347 t348 t349 t350 t351 _ ?s1 ?s2 A12.out).mono ?_); (case s1 => exact (qP13 HR0.out)); (case s2 => exact HC0.out); rintro e w15 ⟨rfl, hb⟩; refine ⟨_, rfl, ?_⟩; replace HO_6 := Aside0.mk (qP59 HO_6.out); replace HB := Aside0.mk (qP57); clear hb) | ((with_reducible refine gate_dst (N := 8) rfl ?_); refine box_event ?hg (N := 8) ?hd (cs := #[.int .i64 0, .int .i64 0, .int .i64 0, .int .i64 0, .int .i64 0]) (t := 60) ?hr ?_; (case hd => rfl); (case hg => rfl); (case hr => exact (qP23)); intro gb352 hg w16 hbox hb; replace HO_6 := Aside0.mk (by exact Kd.R_below (Kd.R_elderB (qP1 HO_6.out) gb352 (Nat.le_of_eq hg.symm)) hb); have BK352 := Aside0.mk (hbox); have GW352 := Aside0.mk (by exact (by rw [hg]; exact (below_size (qP0)) : w.heap.size ≤ gb352)); have GE352 := Aside0.mk (by exact (by rw [hg]; exact (below_size (qP0)) : w.heap.size ≤ gb352)); replace HB := Aside0.mk (qP57); clear hb hbox hg; have hcz17_0 : w16.cell? ⟨gb352, 0, none⟩ = some (.int .i64 0) := (blk_cell BK352.out 0).trans rfl; have hcz17_1 : w16.cell? ⟨gb352, 1, none⟩ = some (.int .i64 0) := (blk_cell BK352.out 1).trans rfl; have hcz17_2 : w16.cell? ⟨gb352, 2, none⟩ = some (.int .i64 0) := (blk_cell BK352.out 2).trans rfl; have hcz17_3 : w16.cell? ⟨gb352, 3, none⟩ = some (.int .i64 0) := (blk_cell BK352.out 3).trans rfl; have hcz17_4 : w16.cell? ⟨gb352, 4, none⟩ = some (.int .i64 0) := (blk_cell BK352.out 4).trans rfl; have hfz17_0 := blk_frozen BK352.out 0; have hfz17_1 := blk_frozen BK352.out 1; have hfz17_2 := blk_frozen BK352.out 2; have hfz17_3 := blk_frozen BK352.out 3; have hfz17_4 := blk_frozen BK352.out 4) | ((with_reducible refine gate_callee (f := 34) rfl ?_); refine goesL_ (some 32) rfl rfl Try.func34 (by kernel_rfl) rfl #[.slice A1 l1.length c1, .int .i64 x20_2] rfl (qP2) ?_; (with_reducible refine (impl_passageAt.calls _ _ l1 x20_2 t353 t354 t355 t356 t357 t358 _ ?s1 ?s2 A13.out).mono ?_); (case s1 => exact (by exact Kd.C_below HR1.out (qP5 GE352.out))); (case s2 => exact HC1.out); rintro e w18 ⟨rfl, hb⟩; refine ⟨_, rfl, ?_⟩; replace HO_6 := Aside0.mk (by exact Kd.R_below (by (with_reducible repeat (first | apply Kd.R_alloc | apply Kd.R_drewN | apply Kd.R_drew)); exact (Kd.R_mono (Kd.R_far (p := ⟨gb352, 4, none⟩) (Kd.R_far (p := ⟨gb352, 3, none⟩) (Kd.R_far (p := ⟨gb352, 2, none⟩) (Kd.R_far (p := ⟨gb352, 1, none⟩) (Kd.R_far (p := ⟨gb352, 0, none⟩) (Kd.R_mono HO_6.out (fun k_ hk => (⟨hk, hk.2⟩ : _ ∧ k_ ≠ gb352))) (fun _ hk => hk.2) (.int .i64 t346)) (fun _ hk => hk.2) (.int .i64 t347)) (fun _ hk => hk.2) (.int .i64 t348)) (fun _ hk => hk.2) (.int .i64 t349)) (fun _ hk => hk.2) (.int .i64 t350)) (fun _ h_ => h_.1))) hb); replace BK352 := Aside0.mk (blk_below (g := gb352) (o := .cells #[.int .i64 t346, .int .i64 t347, .int .i64 t348, .int .i64 t349, .int .i64 t350] 60 (0, 0)) (by (with_reducible repeat (first | refine blk_drewN ?_ _ | refine blk_drew ?_ | refine blk_alloc ?_ _)); refine blk_put (cs := #[.int .i64 t346, .int .i64 t347, .int .i64 t348, .int .i64 t349, .int .i64 0]) ?_ 4 _ rfl; (with_reducible repeat (first | refine blk_drewN ?_ _ | refine blk_drew ?_ | refine blk_alloc ?_ _)); refine blk_put (cs := #[.int .i64 t346, .int .i64 t347, .int .i64 t348, .int .i64 0, .int .i64 0]) ?_ 3 _ rfl; (with_reducible repeat (first | refine blk_drewN ?_ _ | refine blk_drew ?_ | refine blk_alloc ?_ _)); refine blk_put (cs := #[.int .i64 t346, .int .i64 t347, .int .i64 0, .int .i64 0, .int .i64 0]) ?_ 2 _ rfl; (with_reducible repeat (first | refine blk_drewN ?_ _ | refine blk_drew ?_ | refine blk_alloc ?_ _)); refine blk_put (cs := #[.int .i64 t346, .int .i64 0, .int .i64 0, .int .i64 0, .int .i64 0]) ?_ 1 _ rfl; (with_reducible repeat (first | refine blk_drewN ?_ _ | refine blk_drew ?_ | refine blk_alloc ?_ _)); refine blk_put (cs := #[.int .i64 0, .int .i64 0, .int .i64 0, .int .i64 0, .int .i64 0]) ?_ 0 _ rfl; (with_reducible repeat (first | refine blk_drewN ?_ _ | refine blk_drew ?_ | refine blk_alloc ?_ _)); exact BK352.out) hb); replace HB := Aside0.mk (below_step (qP5 GE352.out) hb); clear hb) | ((with_reducible refine gate_dst (N := 10) rfl ?_); refine box_event ?hg (N := 10) ?hd (cs := #[.int .i64 0, .int .i64 0, .int .i64 0, .int .i64 0, .int .i64 0]) (t := 60) ?hr ?_; (case hd => rfl); (case hg => rfl); (case hr => exact (qP23)); intro gb359 hg w19 hbox hb; replace HO_6 := Aside0.mk (by exact Kd.R_below (Kd.R_elderB (qP1 HO_6.out) gb359 (Nat.le_of_eq hg.symm)) hb); have BK359 := Aside0.mk (hbox); have GW359 := Aside0.mk ((by rw [hg]; exact (below_size (qP5 GE352.out)) : w.heap.size ≤ gb359)); have GE359 := Aside0.mk ((by rw [hg]; exact (below_size (qP5 GE352.out)) : w.heap.size ≤ gb359)); replace HB := Aside0.mk (below_step (qP5 GE352.out) hb); have NB352_359 := Aside0.mk ((by rw [hg]; exact Nat.ne_of_lt (blk_lt (g := gb352) (o := .cells #[.int .i64 t346, .int .i64 t347, .int .i64 t348, .int .i64 t349, .int .i64 t350] 60 (0, 0)) (qP9 BK352.out)) : gb352 ≠ gb359)); have NB359_352 := Aside0.mk ((by rw [hg]; exact Nat.ne_of_gt (blk_lt (g := gb352) (o := .cells #[.int .i64 t346, .int .i64 t347, .int .i64 t348, .int .i64 t349, .int .i64 t350] 60 (0, 0)) (qP9 BK352.out)) : gb359 ≠ gb352)); replace BK352 := Aside0.mk (blk_below (g := gb352) (o := .cells #[.int .i64 t346, .int .i64 t347, .int .i64 t348, .int .i64 t349, .int .i64 t350] 60 (0, 0)) (qP9 BK352.out) hb); clear hb hbox hg; have hnb20 := NB359_352.out; have hnc20 := NB352_359.out; have hcz21_0 : w19.cell? ⟨gb359, 0, none⟩ = some (.int .i64 0) := (blk_cell BK359.out 0).trans rfl; have hcz21_1 : w19.cell? ⟨gb359, 1, none⟩ = some (.int .i64 0) := (blk_cell BK359.out 1).trans rfl; have hcz21_2 : w19.cell? ⟨gb359, 2, none⟩ = some (.int .i64 0) := (blk_cell BK359.out 2).trans rfl; have hcz21_3 : w19.cell? ⟨gb359, 3, none⟩ = some (.int .i64 0) := (blk_cell BK359.out 3).trans rfl; have hcz21_4 : w19.cell? ⟨gb359, 4, none⟩ = some (.int .i64 0) := (blk_cell BK359.out 4).trans rfl; have hfz21_0 := blk_frozen BK359.out 0; have hfz21_1 := blk_frozen BK359.out 1; have hfz21_2 := blk_frozen BK359.out 2; have hfz21_3 := blk_frozen BK359.out 3; have hfz21_4 := blk_frozen BK359.out 4))
       (try simp only [Act.put, List.setIfInBounds_toArray, List.set_cons_zero, List.set_cons_succ])
       go_cut [35] (fun v35 wc => ∃ (kq : Nat) (x35_13 : Bool), v35 = .bool x35_13 ∧ Aside0 (impl_MergePassages.j2 kq l0 l1 x6_2 x20_2 t351 t358 x20_2 x35_13 t346 t347 t348 t349 t350 t353 t354 t355 t356 t357 = some (r1, r2)) ∧ Aside0 (kq ≤ k2) ∧ Aside0 (Kd.R k60 60 wc w.heap.size (fun k_ => k_ ≠ gb352 ∧ k_ ≠ gb359) u6 x6_2) ∧ Aside0 (wc.heap[gb352]? = some (.cells #[.int .i64 t346, .int .i64 t347, .int .i64 t348, .int .i64 t349, .int .i64 t350] 60 (0, 0))) ∧ Aside0 (wc.heap[gb359]? = some (.cells #[.int .i64 t353, .int .i64 t354, .int .i64 t355, .int .i64 t356, .int .i64 t357] 60 (0, 0))) ∧ Aside0 (Below w.heap.size w wc))
       case first =>
        have H := HC14.out; clear HC14
        by_cases c22 : t351 = true
        ·subst c22; rw [if_pos rfl] at H; have H' := Aside0.mk H; clear H
         go_wp2
         go_meet
         case rel => exact ⟨_, (t358), (qP14), H', ⟨by have := HJ2.out; have := HK2.out; first | omega | exact Nat.le_refl _⟩, ⟨(qP40)⟩, ⟨(qP22 NB352_359.out BK352.out)⟩, ⟨(qP34)⟩, ⟨(qP18 GE352.out GE359.out)⟩⟩
        ·replace c22 := Bool.eq_false_iff.mpr c22; subst c22; rw [if_neg (show ¬ (false = true) by decide)] at H; have H' := Aside0.mk H; clear H
         go_wp2
         go_meet
         case rel => exact ⟨_, (false), (qP14), H', ⟨by have := HJ2.out; have := HK2.out; first | omega | exact Nat.le_refl _⟩, ⟨(qP40)⟩, ⟨(qP22 NB352_359.out BK352.out)⟩, ⟨(qP34)⟩, ⟨(qP18 GE352.out GE359.out)⟩⟩
       case rest =>
        clear HC14; (try clear c1); (try clear c2); (try clear p2); (try clear c3); (try clear c5); (try clear c8); (try clear c10); (try clear c11); (try clear c11b0); (try clear c20); (try clear c22); (try clear hcz17_0); (try clear hcz17_1); (try clear hcz17_2); (try clear hcz17_3); (try clear hcz17_4); (try clear hcz21_0); (try clear hcz21_1); (try clear hcz21_2); (try clear hcz21_3); (try clear hcz21_4); (try clear hfz17_0); (try clear hfz17_1); (try clear hfz17_2); (try clear hfz17_3); (try clear hfz17_4); (try clear hfz21_0); (try clear hfz21_1); (try clear hfz21_2); (try clear hfz21_3); (try clear hfz21_4); (try clear p2); obtain ⟨kq, x35_13, rfl, HA, HJ13, HO_6, BK352, BK359, HB⟩ := hcut
        cases kq with
        | zero => exact absurd HA.out (by simp [impl_MergePassages.j2])
        | succ kj13 =>
         have H := HA.out; clear HA; simp only [impl_MergePassages.j2] at H
         by_cases c23 : x35_13 = true
         ·subst c23; rw [if_pos rfl] at H; obtain ⟨ji24, hji24⟩ : ∃ j_ : Int, (mn t347 t354) = j_ := ⟨_, rfl⟩
          replace H : (if x6_2.length < 3518437208883 then (impl_MergePassages.l0 kj13 l0 l1 (x6_2 ++ [(⟨x20_2, ji24, mn t348 t355, mn t349 t356, mn t350 t357⟩ : S60)]) (wrap64 (x20_2 + 1))) else (none)) = some (r1, r2) := by first | (rw [hji24] at H; exact H) | (simp only [hji24] at H ⊢; exact H)
          have hji24_ : (if t354 < t347 then t354 else t347) = ji24 := hji24; obtain ⟨ji25, hji25⟩ : ∃ j_ : Int, (mn t348 t355) = j_ := ⟨_, rfl⟩
          replace H : (if x6_2.length < 3518437208883 then (impl_MergePassages.l0 kj13 l0 l1 (x6_2 ++ [(⟨x20_2, ji24, ji25, mn t349 t356, mn t350 t357⟩ : S60)]) (wrap64 (x20_2 + 1))) else (none)) = some (r1, r2) := by first | (rw [hji25] at H; exact H) | (simp only [hji25] at H ⊢; exact H)
          have hji25_ : (if t355 < t348 then t355 else t348) = ji25 := hji25; obtain ⟨ji26, hji26⟩ : ∃ j_ : Int, (mn t349 t356) = j_ := ⟨_, rfl⟩
          replace H : (if x6_2.length < 3518437208883 then (impl_MergePassages.l0 kj13 l0 l1 (x6_2 ++ [(⟨x20_2, ji24, ji25, ji26, mn t350 t357⟩ : S60)]) (wrap64 (x20_2 + 1))) else (none)) = some (r1, r2) := by first | (rw [hji26] at H; exact H) | (simp only [hji26] at H ⊢; exact H)
          have hji26_ : (if t356 < t349 then t356 else t349) = ji26 := hji26; obtain ⟨ji27, hji27⟩ : ∃ j_ : Int, (mn t350 t357) = j_ := ⟨_, rfl⟩
          replace H : (if x6_2.length < 3518437208883 then (impl_MergePassages.l0 kj13 l0 l1 (x6_2 ++ [(⟨x20_2, ji24, ji25, ji26, ji27⟩ : S60)]) (wrap64 (x20_2 + 1))) else (none)) = some (r1, r2) := by first | (rw [hji27] at H; exact H) | (simp only [hji27] at H ⊢; exact H)
          have hji27_ : (if t357 < t350 then t357 else t350) = ji27 := hji27
          by_cases c28 : x6_2.length < 3518437208883
          ·rw [if_pos c28] at H; have LMc28 := Aside0.mk c28; clear c28; obtain ⟨y360, hy360⟩ : ∃ y_ : List (S60), y_ = (x6_2 ++ [(⟨x20_2, ji24, ji25, ji26, ji27⟩ : S60)]) := ⟨_, rfl⟩; replace H : (impl_MergePassages.l0 kj13 l0 l1 y360 (wrap64 (x20_2 + 1))) = some (r1, r2) := (qP10 hy360); have Ny360 := Aside0.mk hy360; clear hy360; have H' := Aside0.mk H; clear H; have hnb29 := NB352_359.out; have hnc29 := NB359_352.out; have hcz30_0 : wc.cell? ⟨gb352, 0, none⟩ = some (.int .i64 t346) := (blk_cell BK352.out 0).trans rfl; have hcz30_1 : wc.cell? ⟨gb352, 1, none⟩ = some (.int .i64 t347) := (blk_cell BK352.out 1).trans rfl; have hcz30_2 : wc.cell? ⟨gb352, 2, none⟩ = some (.int .i64 t348) := (blk_cell BK352.out 2).trans rfl; have hcz30_3 : wc.cell? ⟨gb352, 3, none⟩ = some (.int .i64 t349) := (blk_cell BK352.out 3).trans rfl; have hcz30_4 : wc.cell? ⟨gb352, 4, none⟩ = some (.int .i64 t350) := (blk_cell BK352.out 4).trans rfl; have hfz30_0 := blk_frozen BK352.out 0; have hfz30_1 := blk_frozen BK352.out 1; have hfz30_2 := blk_frozen BK352.out 2; have hfz30_3 := blk_frozen BK352.out 3; have hfz30_4 := blk_frozen BK352.out 4; have hcz31_0 : wc.cell? ⟨gb359, 0, none⟩ = some (.int .i64 t353) := (blk_cell BK359.out 0).trans rfl; have hcz31_1 : wc.cell? ⟨gb359, 1, none⟩ = some (.int .i64 t354) := (blk_cell BK359.out 1).trans rfl; have hcz31_2 : wc.cell? ⟨gb359, 2, none⟩ = some (.int .i64 t355) := (blk_cell BK359.out 2).trans rfl; have hcz31_3 : wc.cell? ⟨gb359, 3, none⟩ = some (.int .i64 t356) := (blk_cell BK359.out 3).trans rfl
           have hcz31_4 : wc.cell? ⟨gb359, 4, none⟩ = some (.int .i64 t357) := (blk_cell BK359.out 4).trans rfl; have hfz31_0 := blk_frozen BK359.out 0; have hfz31_1 := blk_frozen BK359.out 1; have hfz31_2 := blk_frozen BK359.out 2; have hfz31_3 := blk_frozen BK359.out 3; have hfz31_4 := blk_frozen BK359.out 4
           go_wp2_with (first | ((with_reducible refine gate_builtin (b := .append) (xs := #[.tmp 40, .tmp 63]) rfl ?_); at_builtin; refine Kd.R_append k60 (w0 := w) w.heap.size rfl (.tmp 40) (.tmp 63) 24 60 (.agg #[(.int .i64 0), (.int .i64 0), (.int .i64 0), (.int .i64 0), (.int .i64 0)]) 40 rfl Try.underlying24 info60 rfl (by decide) (by omega) u6 x6_2 (⟨x20_2, ji24, ji25, ji26, ji27⟩ : S60) [.int .i64 x20_2, .int .i64 ji24, .int .i64 ji25, .int .i64 ji26, .int .i64 ji27] (fun k_ => k_ ≠ gb352 ∧ k_ ≠ gb359) (fun _ => False) rfl rfl ?aP (fun _ hk => hk.elim) ?aF ?aO ?aB ?aS ?aL ?_; (case aP => exact (by exact k60_mkM _ _ _ (⟨x20_2, ji24, ji25, ji26, ji27⟩ : S60))); (case aB => exact (qP18 GE352.out GE359.out)); (case aF => exact (qP65)); (case aO => exact (qP1 HO_6.out)); (case aS => exact (qP87)); (case aL => have := LMc28.out; omega); intro v361 w32 ho hb hg hat; rw [← Ny360.out] at ho; replace BK352 := Aside0.mk (blk_grown (g := gb352) (o := .cells #[.int .i64 t346, .int .i64 t347, .int .i64 t348, .int .i64 t349, .int .i64 t350] 60 (0, 0)) (qP9 BK352.out) hg (Kd.R_away HO_6.out (fun _ hk => hk.1))); replace BK359 := Aside0.mk (blk_grown (g := gb359) (o := .cells #[.int .i64 t353, .int .i64 t354, .int .i64 t355, .int .i64 t356, .int .i64 t357] 60 (0, 0)) (qP9 BK359.out) hg (Kd.R_away HO_6.out (fun _ hk => hk.2))); replace HB := Aside0.mk (hb); have HO362 := Aside0.mk (ho); clear HO_6; clear ho hb hg hat))
           go_roundg kj13
           case measure => have := HJ2.out; have := HK2.out; have := HJ13.out; omega
           case rel => exact ⟨(y360), (wrap64 (x20_2 + 1)), (qP14), H', ⟨by have := HJ2.out; have := HK2.out; have := HJ13.out; omega⟩, ⟨(qP36 HO362.out)⟩, ⟨(qP18 GE352.out GE359.out)⟩⟩
          ·rw [if_neg c28] at H
           exact absurd H (by simp)
         ·replace c23 := Bool.eq_false_iff.mpr c23; subst c23; rw [if_neg (show ¬ (false = true) by decide)] at H
          by_cases c33 : t351 = true
          ·subst c33; rw [if_pos rfl] at H
           by_cases c34 : x6_2.length < 3518437208883
           ·rw [if_pos c34] at H; have LMc34 := Aside0.mk c34; clear c34; obtain ⟨y363, hy363⟩ : ∃ y_ : List (S60), y_ = (x6_2 ++ [(⟨t346, t347, t348, t349, t350⟩ : S60)]) := ⟨_, rfl⟩; replace H : (impl_MergePassages.l0 kj13 l0 l1 y363 (wrap64 (x20_2 + 1))) = some (r1, r2) := (qP10 hy363); have Ny363 := Aside0.mk hy363; clear hy363; have H' := Aside0.mk H; clear H; have hnb35 := NB352_359.out; have hnc35 := NB359_352.out; have hcz36_0 : wc.cell? ⟨gb352, 0, none⟩ = some (.int .i64 t346) := (blk_cell BK352.out 0).trans rfl; have hcz36_1 : wc.cell? ⟨gb352, 1, none⟩ = some (.int .i64 t347) := (blk_cell BK352.out 1).trans rfl; have hcz36_2 : wc.cell? ⟨gb352, 2, none⟩ = some (.int .i64 t348) := (blk_cell BK352.out 2).trans rfl; have hcz36_3 : wc.cell? ⟨gb352, 3, none⟩ = some (.int .i64 t349) := (blk_cell BK352.out 3).trans rfl; have hcz36_4 : wc.cell? ⟨gb352, 4, none⟩ = some (.int .i64 t350) := (blk_cell BK352.out 4).trans rfl; have hfz36_0 := blk_frozen BK352.out 0; have hfz36_1 := blk_frozen BK352.out 1; have hfz36_2 := blk_frozen BK352.out 2; have hfz36_3 := blk_frozen BK352.out 3; have hfz36_4 := blk_frozen BK352.out 4
            go_wp2_with (first | ((with_reducible refine gate_builtin (b := .append) (xs := #[.tmp 67, .tmp 69]) rfl ?_); at_builtin; refine Kd.R_append k60 (w0 := w) w.heap.size rfl (.tmp 67) (.tmp 69) 24 60 (.agg #[(.int .i64 0), (.int .i64 0), (.int .i64 0), (.int .i64 0), (.int .i64 0)]) 40 rfl Try.underlying24 info60 rfl (by decide) (by omega) u6 x6_2 (⟨t346, t347, t348, t349, t350⟩ : S60) [.int .i64 t346, .int .i64 t347, .int .i64 t348, .int .i64 t349, .int .i64 t350] (fun k_ => k_ ≠ gb352 ∧ k_ ≠ gb359) (fun _ => False) rfl rfl ?aP (fun _ hk => hk.elim) ?aF ?aO ?aB ?aS ?aL ?_; (case aP => exact (by exact k60_mkM _ _ _ (⟨t346, t347, t348, t349, t350⟩ : S60))); (case aB => exact (qP18 GE352.out GE359.out)); (case aF => exact (qP65)); (case aO => exact (qP1 HO_6.out)); (case aS => exact (qP87)); (case aL => have := LMc34.out; omega); intro v364 w37 ho hb hg hat; rw [← Ny363.out] at ho; replace BK352 := Aside0.mk (blk_grown (g := gb352) (o := .cells #[.int .i64 t346, .int .i64 t347, .int .i64 t348, .int .i64 t349, .int .i64 t350] 60 (0, 0)) (qP9 BK352.out) hg (Kd.R_away HO_6.out (fun _ hk => hk.1))); replace BK359 := Aside0.mk (blk_grown (g := gb359) (o := .cells #[.int .i64 t353, .int .i64 t354, .int .i64 t355, .int .i64 t356, .int .i64 t357] 60 (0, 0)) (qP9 BK359.out) hg (Kd.R_away HO_6.out (fun _ hk => hk.2))); replace HB := Aside0.mk (hb); have HO365 := Aside0.mk (ho); clear HO_6; clear ho hb hg hat))
            go_roundg kj13
            case measure => have := HJ2.out; have := HK2.out; have := HJ13.out; omega
            case rel => exact ⟨(y363), (wrap64 (x20_2 + 1)), (qP14), H', ⟨by have := HJ2.out; have := HK2.out; have := HJ13.out; omega⟩, ⟨(qP36 HO365.out)⟩, ⟨(qP18 GE352.out GE359.out)⟩⟩
           ·rw [if_neg c34] at H
            exact absurd H (by simp)
          ·replace c33 := Bool.eq_false_iff.mpr c33; subst c33; rw [if_neg (show ¬ (false = true) by decide)] at H
           by_cases c38 : t358 = true
           ·subst c38; rw [if_pos rfl] at H
            by_cases c39 : x6_2.length < 3518437208883
            ·rw [if_pos c39] at H; have LMc39 := Aside0.mk c39; clear c39; obtain ⟨y366, hy366⟩ : ∃ y_ : List (S60), y_ = (x6_2 ++ [(⟨t353, t354, t355, t356, t357⟩ : S60)]) := ⟨_, rfl⟩; replace H : (impl_MergePassages.l0 kj13 l0 l1 y366 (wrap64 (x20_2 + 1))) = some (r1, r2) := (qP10 hy366); have Ny366 := Aside0.mk hy366; clear hy366; have H' := Aside0.mk H; clear H; have hnb40 := NB359_352.out; have hnc40 := NB352_359.out; have hcz41_0 : wc.cell? ⟨gb359, 0, none⟩ = some (.int .i64 t353) := (blk_cell BK359.out 0).trans rfl; have hcz41_1 : wc.cell? ⟨gb359, 1, none⟩ = some (.int .i64 t354) := (blk_cell BK359.out 1).trans rfl; have hcz41_2 : wc.cell? ⟨gb359, 2, none⟩ = some (.int .i64 t355) := (blk_cell BK359.out 2).trans rfl; have hcz41_3 : wc.cell? ⟨gb359, 3, none⟩ = some (.int .i64 t356) := (blk_cell BK359.out 3).trans rfl; have hcz41_4 : wc.cell? ⟨gb359, 4, none⟩ = some (.int .i64 t357) := (blk_cell BK359.out 4).trans rfl; have hfz41_0 := blk_frozen BK359.out 0; have hfz41_1 := blk_frozen BK359.out 1; have hfz41_2 := blk_frozen BK359.out 2; have hfz41_3 := blk_frozen BK359.out 3; have hfz41_4 := blk_frozen BK359.out 4
             go_wp2_with (first | ((with_reducible refine gate_builtin (b := .append) (xs := #[.tmp 73, .tmp 75]) rfl ?_); at_builtin; refine Kd.R_append k60 (w0 := w) w.heap.size rfl (.tmp 73) (.tmp 75) 24 60 (.agg #[(.int .i64 0), (.int .i64 0), (.int .i64 0), (.int .i64 0), (.int .i64 0)]) 40 rfl Try.underlying24 info60 rfl (by decide) (by omega) u6 x6_2 (⟨t353, t354, t355, t356, t357⟩ : S60) [.int .i64 t353, .int .i64 t354, .int .i64 t355, .int .i64 t356, .int .i64 t357] (fun k_ => k_ ≠ gb352 ∧ k_ ≠ gb359) (fun _ => False) rfl rfl ?aP (fun _ hk => hk.elim) ?aF ?aO ?aB ?aS ?aL ?_; (case aP => exact (by exact k60_mkM _ _ _ (⟨t353, t354, t355, t356, t357⟩ : S60))); (case aB => exact (qP18 GE352.out GE359.out)); (case aF => exact (qP65)); (case aO => exact (qP1 HO_6.out)); (case aS => exact (qP87)); (case aL => have := LMc39.out; omega); intro v367 w42 ho hb hg hat; rw [← Ny366.out] at ho; replace BK352 := Aside0.mk (blk_grown (g := gb352) (o := .cells #[.int .i64 t346, .int .i64 t347, .int .i64 t348, .int .i64 t349, .int .i64 t350] 60 (0, 0)) (qP9 BK352.out) hg (Kd.R_away HO_6.out (fun _ hk => hk.1))); replace BK359 := Aside0.mk (blk_grown (g := gb359) (o := .cells #[.int .i64 t353, .int .i64 t354, .int .i64 t355, .int .i64 t356, .int .i64 t357] 60 (0, 0)) (qP9 BK359.out) hg (Kd.R_away HO_6.out (fun _ hk => hk.2))); replace HB := Aside0.mk (hb); have HO368 := Aside0.mk (ho); clear HO_6; clear ho hb hg hat))
             go_roundg kj13
             case measure => have := HJ2.out; have := HK2.out; have := HJ13.out; omega
             case rel => exact ⟨(y366), (wrap64 (x20_2 + 1)), (qP14), H', ⟨by have := HJ2.out; have := HK2.out; have := HJ13.out; omega⟩, ⟨(qP36 HO368.out)⟩, ⟨(qP18 GE352.out GE359.out)⟩⟩
            ·rw [if_neg c39] at H
             exact absurd H (by simp)
           ·replace c38 := Bool.eq_false_iff.mpr c38; subst c38; rw [if_neg (show ¬ (false = true) by decide)] at H; have H' := Aside0.mk H; clear H
            go_wp2
            go_roundg kj13
            case measure => have := HJ2.out; have := HK2.out; have := HJ13.out; omega
            case rel => exact ⟨(x6_2), (wrap64 (x20_2 + 1)), (qP14), H', ⟨by have := HJ2.out; have := HK2.out; have := HJ13.out; omega⟩, ⟨(qP36 HO_6.out)⟩, ⟨(qP18 GE352.out GE359.out)⟩⟩
      ·rw [if_neg c11] at H; have c11b0 : decide (x20_2 < 8) = false := decide_eq_false c11; clear c11; simp only [Option.some.injEq, Prod.mk.injEq] at H; obtain ⟨rfl, rfl⟩ := H
       go_wp2
       go_ret2
       exact ⟨_, (qP8), (qP1 HO_6.out), (qP0)⟩

/-! ### spec_l1Least: function 36 -/
def spec_l1Least.f (a0 : Int) (a1 : Int) : Option (Int) := if a0 < a1 then (some a0) else (some a1)
set_option maxHeartbeats 8000000 in
set_option maxRecDepth 100000 in
theorem spec_l1Least.calls (a0 : Int) (a1 : Int) (r : Int) (w : World) (h : spec_l1Least.f a0 a1 = some r) :
  Calls Try.prog 36 #[.int .i64 a0, .int .i64 a1] w fun e w' => e = .returned (.int .i64 r) ∧ Drawn0 w w' := by
 have H : (if a0 < a1 then (some a0) else (some a1)) = some r := h; clear h
 by_cases c3 : a0 < a1
 ·rw [if_pos c3] at H; have c3b0 : decide (a0 < a1) = true := decide_eq_true c3; clear c3; obtain rfl := Option.some.inj H
  go_enter Try.func36, Try.ntmps36
  go_wp2
  go_ret
  exact ⟨(qP14), (qP26)⟩
 ·rw [if_neg c3] at H; have c3b0 : decide (a0 < a1) = false := decide_eq_false c3; clear c3; obtain rfl := Option.some.inj H
  go_enter Try.func36, Try.ntmps36
  go_wp2
  go_ret
  exact ⟨(qP14), (qP26)⟩

end Go.Proofs.Ytffdglecmjbolaa.MP
