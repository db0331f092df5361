-- Written by a program of this session (wip/drv.py) out of Lean's own print of the loaded program; hand-proved parts from wip/inj.
import Derived.Test.YtcajkofblleanaaMZx0
import Derived.Test.YtcajkofblleanaaMZx1
import Derived.Test.YtcajkofblleanaaMZx4
import Derived.Test.YtcajkofblleanaaMZx5
namespace Go.Proofs.Ytcajkofblleanaa.MZ
open Go.RowKit Go.Proofs.YtcajkofblleanaaW.PrintWords Go.Proofs.YtcajkofblleanaaW.PrintLast Go.Proofs.YtcajkofblleanaaW.PrintMore
attribute [local go_sem] max2_int min2_int max_two min_two max_three min_three max_four min_four   -- for this text's walks alone
set_option linter.unusedVariables false
set_option linter.unusedSimpArgs false

/-! ### impl_PlanSize: function 28 (by hand: wip/inj) -/
def impl_PlanSize.of : Option ((List (S53)) × Int × Int × Int × Int × Int) → Option (Int × Int × Bool)
  | none => some (0, 0, false)
  | some p => if (decide (p.2.2.2.2.1 ≤ 20) && decide (p.2.2.2.2.2 ≤ 20)) = true then some (p.2.2.2.2.1, p.2.2.2.2.2, true) else some (0, 0, false)
def impl_PlanSize.f (k : Nat) (l0 : List (S53)) (a1 : Int) : Option (Int × Int × Bool) := (impl_planOf.f k l0 a1).bind fun q => impl_PlanSize.of q
theorem impl_PlanSize.mono : ∀ a0 a1 k, LeO (impl_PlanSize.f k a0 a1) (impl_PlanSize.f (k + 1) a0 a1) := by
  intro a0 a1 k
  unfold impl_PlanSize.f
  exact LeO.bind (impl_planOf.mono _ _ _) (fun _ => LeO.refl _)
set_option maxHeartbeats 8000000 in
set_option maxRecDepth 100000 in
theorem impl_PlanSize.calls (k : Nat) (A0 : Option Addr) (c0 : Nat) (l0 : List (S53)) (a1 : Int) (r1 : Int) (r2 : Int) (r3 : Bool) (w : World) (hr0 : Kd.C k53 w A0 l0.length l0) (hc0 : l0.length ≤ c0) (h : impl_PlanSize.f k l0 a1 = some (r1, r2, r3)) :
    Calls Try.prog 28 #[.slice A0 l0.length c0, .int .i64 a1] w fun e w' => e = .returned (.tuple #[.int .i64 r1, .int .i64 r2, .bool r3]) ∧ Below w.heap.size w w' := by
  have HR0 := Aside0.mk hr0
  have HC0 := Aside0.mk hc0
  clear hr0 hc0
  have HB := Aside0.mk (Below.refl w.heap.size w)
  unfold impl_PlanSize.f at h
  obtain ⟨q, A1, h⟩ := Option.bind_eq_some_iff.mp h
  have H1 := Aside0.mk A1
  clear A1
  cases q with
  | none =>
    simp only [impl_PlanSize.of, Option.some.injEq, Prod.mk.injEq] at h
    obtain ⟨rfl, rfl, rfl⟩ := h
    go_enter Try.func28, Try.ntmps28
    go_wp2_with (go_at_call 60; refine (impl_planOf.no k _ _ l0 a1 _ (Kd.C_below HR0.out HB.out) HC0.out H1.out).mono ?_; rintro e w8 ⟨rfl, hb⟩; have n0_ := Aside0.mk (below_step HB.out hb); clear HB; have HB := n0_; clear n0_ hb)
    go_ret3
    exact ⟨rfl, by repeat (first | (with_reducible first | exact HB.out | apply below_alloc | apply pw_below_drewN | apply below_drew1) | exact HB.out)⟩
  | some p =>
    obtain ⟨p1, p2, p3, p4, p5, p6⟩ := p
    simp only [impl_PlanSize.of] at h
    cases h5 : decide (p5 ≤ 20) with
    | true =>
      cases h6 : decide (p6 ≤ 20) with
      | true =>
        rw [h5, h6] at h
        simp only [Bool.and_self, if_true, Option.some.injEq, Prod.mk.injEq] at h
        obtain ⟨rfl, rfl, rfl⟩ := h
        go_enter Try.func28, Try.ntmps28
        go_wp2_with (go_at_call 60; refine (impl_planOf.yes k _ _ l0 a1 p1 p2 p3 p4 p5 p6 true true w HR0.out HC0.out H1.out h5 h6).mono ?_; rintro e w20 ⟨g299, rfl, hi, hb⟩; have n0_ := Aside0.mk hb; have HI := Aside0.mk hi; clear HB; have HB := n0_; clear n0_ hb hi; obtain ⟨ASz, cSz, HGz, hgz, HSz⟩ := HI.out; have hcz0 := cellS74_0 HGz; have hcz1 := cellS74_1 HGz; have hcz2 := cellS74_2 HGz; have hcz3 := cellS74_3 HGz; have hcz4 := cellS74_4 HGz; have hcz5 := cellS74_5 HGz; have hfz0 := blk_frozen HGz 0; have hfz1 := blk_frozen HGz 1; have hfz2 := blk_frozen HGz 2; have hfz3 := blk_frozen HGz 3; have hfz4 := blk_frozen HGz 4; have hfz5 := blk_frozen HGz 5; clear HGz hgz)
        go_quiet (fail)
        go_wp2
        go_ret3
        exact ⟨rfl, by repeat (first | (with_reducible first | exact HB.out | apply below_alloc | apply pw_below_drewN | apply below_drew1) | exact HB.out)⟩
      | false =>
        rw [h5, h6] at h
        simp only [Bool.and_false, Bool.false_eq_true, if_false, Option.some.injEq, Prod.mk.injEq] at h
        obtain ⟨rfl, rfl, rfl⟩ := h
        go_enter Try.func28, Try.ntmps28
        go_wp2_with (go_at_call 60; refine (impl_planOf.yes k _ _ l0 a1 p1 p2 p3 p4 p5 p6 true false w HR0.out HC0.out H1.out h5 h6).mono ?_; rintro e w20 ⟨g299, rfl, hi, hb⟩; have n0_ := Aside0.mk hb; have HI := Aside0.mk hi; clear HB; have HB := n0_; clear n0_ hb hi; obtain ⟨ASz, cSz, HGz, hgz, HSz⟩ := HI.out; have hcz0 := cellS74_0 HGz; have hcz1 := cellS74_1 HGz; have hcz2 := cellS74_2 HGz; have hcz3 := cellS74_3 HGz; have hcz4 := cellS74_4 HGz; have hcz5 := cellS74_5 HGz; have hfz0 := blk_frozen HGz 0; have hfz1 := blk_frozen HGz 1; have hfz2 := blk_frozen HGz 2; have hfz3 := blk_frozen HGz 3; have hfz4 := blk_frozen HGz 4; have hfz5 := blk_frozen HGz 5; clear HGz hgz)
        go_ret3
        exact ⟨rfl, by repeat (first | (with_reducible first | exact HB.out | apply below_alloc | apply pw_below_drewN | apply below_drew1) | exact HB.out)⟩
    | false =>
      cases h6 : decide (p6 ≤ 20) with
      | true =>
        rw [h5, h6] at h
        simp only [Bool.false_and, Bool.false_eq_true, if_false, Option.some.injEq, Prod.mk.injEq] at h
        obtain ⟨rfl, rfl, rfl⟩ := h
        go_enter Try.func28, Try.ntmps28
        go_wp2_with (go_at_call 60; refine (impl_planOf.yes k _ _ l0 a1 p1 p2 p3 p4 p5 p6 false true w HR0.out HC0.out H1.out h5 h6).mono ?_; rintro e w20 ⟨g299, rfl, hi, hb⟩; have n0_ := Aside0.mk hb; have HI := Aside0.mk hi; clear HB; have HB := n0_; clear n0_ hb hi; obtain ⟨ASz, cSz, HGz, hgz, HSz⟩ := HI.out; have hcz0 := cellS74_0 HGz; have hcz1 := cellS74_1 HGz; have hcz2 := cellS74_2 HGz; have hcz3 := cellS74_3 HGz; have hcz4 := cellS74_4 HGz; have hcz5 := cellS74_5 HGz; have hfz0 := blk_frozen HGz 0; have hfz1 := blk_frozen HGz 1; have hfz2 := blk_frozen HGz 2; have hfz3 := blk_frozen HGz 3; have hfz4 := blk_frozen HGz 4; have hfz5 := blk_frozen HGz 5; clear HGz hgz)
        go_ret3
        exact ⟨rfl, by repeat (first | (with_reducible first | exact HB.out | apply below_alloc | apply pw_below_drewN | apply below_drew1) | exact HB.out)⟩
      | false =>
        rw [h5, h6] at h
        simp only [Bool.false_and, Bool.false_eq_true, if_false, Option.some.injEq, Prod.mk.injEq] at h
        obtain ⟨rfl, rfl, rfl⟩ := h
        go_enter Try.func28, Try.ntmps28
        go_wp2_with (go_at_call 60; refine (impl_planOf.yes k _ _ l0 a1 p1 p2 p3 p4 p5 p6 false false w HR0.out HC0.out H1.out h5 h6).mono ?_; rintro e w20 ⟨g299, rfl, hi, hb⟩; have n0_ := Aside0.mk hb; have HI := Aside0.mk hi; clear HB; have HB := n0_; clear n0_ hb hi; obtain ⟨ASz, cSz, HGz, hgz, HSz⟩ := HI.out; have hcz0 := cellS74_0 HGz; have hcz1 := cellS74_1 HGz; have hcz2 := cellS74_2 HGz; have hcz3 := cellS74_3 HGz; have hcz4 := cellS74_4 HGz; have hcz5 := cellS74_5 HGz; have hfz0 := blk_frozen HGz 0; have hfz1 := blk_frozen HGz 1; have hfz2 := blk_frozen HGz 2; have hfz3 := blk_frozen HGz 3; have hfz4 := blk_frozen HGz 4; have hfz5 := blk_frozen HGz 5; clear HGz hgz)
        go_ret3
        exact ⟨rfl, by repeat (first | (with_reducible first | exact HB.out | apply below_alloc | apply pw_below_drewN | apply below_drew1) | exact HB.out)⟩


/-! ### laws_FnExactPlanSize: function 7 -/
def laws_FnExactPlanSize.j0 : Nat → List (S64) → List (S53) → Bool → Option (Bool)
  | 0, _, _, _ => none
  | k + 1, x0, x9, x47 => if x47 = true then (some false) else ((laws_toPlanMarkS.f k x0).bind fun t173 => ((laws_eqPlanMarkS.f k x9 t173).bind fun t176 => (if t176 = true then (some true) else (some false))))
def laws_FnExactPlanSize.f (k : Nat) (l0 : List (S64)) (a1 : Int) : Option (Bool) := (laws_szPlanMarkS.f k l0 1048576).bind fun t160 => (if t160 < 0 then (some true) else ((laws_toPlanMarkS.f k l0).bind fun t161 => ((spec_PlanSize.f k t161 a1).bind fun bt164 => ((laws_toPlanMarkS.f k l0).bind fun t167 => ((impl_PlanSize.f k t167 a1).bind fun bt170 => (if bt170.1 = bt164.1 then (if bt170.2.1 = bt164.2.1 then (laws_FnExactPlanSize.j0 k l0 t167 (bt170.2.2 != bt164.2.2)) else (laws_FnExactPlanSize.j0 k l0 t167 true)) else (laws_FnExactPlanSize.j0 k l0 t167 true)))))))
theorem laws_FnExactPlanSize.mono_l : ∀ k, (∀ y0 y1 y2, LeO (laws_FnExactPlanSize.j0 k y0 y1 y2) (laws_FnExactPlanSize.j0 (k + 1) y0 y1 y2))
  | 0 => fun _ _ _ r h => by simp [laws_FnExactPlanSize.j0] at h
  | k + 1 => by
    have ih0 := laws_FnExactPlanSize.mono_l k
    · intro y0 y1 y2
      unfold laws_FnExactPlanSize.j0
      repeat' first
      | (with_reducible exact ih0 _ _ _)
      | (with_reducible exact impl_PlanSize.mono _ _ _)
      | (with_reducible exact laws_eqPlanMarkS.mono _ _ _)
      | (with_reducible exact laws_szPlanMarkS.mono _ _ _)
      | (with_reducible exact laws_toPlanMarkS.mono _ _)
      | (with_reducible exact spec_PlanSize.mono _ _ _)
      | (with_reducible exact LeO.refl _)
      | (with_reducible exact LeO.none _)
      | (with_reducible refine LeO.ite ?_ ?_)
      | (with_reducible refine LeO.bind ?_ (fun _ => ?_))
      | exact ih0 _ _ _
      | exact impl_PlanSize.mono _ _ _
      | exact laws_eqPlanMarkS.mono _ _ _
      | exact laws_szPlanMarkS.mono _ _ _
      | exact laws_toPlanMarkS.mono _ _
      | exact spec_PlanSize.mono _ _ _
      | exact LeO.none _
      | refine LeO.ite ?_ ?_
      | refine LeO.bind ?_ (fun _ => ?_)
theorem laws_FnExactPlanSize.mono : ∀ a0 a1 k, LeO (laws_FnExactPlanSize.f k a0 a1) (laws_FnExactPlanSize.f (k + 1) a0 a1) := by
  intro a0 a1 k
  have ih0 := laws_FnExactPlanSize.mono_l k
  unfold laws_FnExactPlanSize.f
  repeat' first
      | (with_reducible exact ih0 _ _ _)
      | (with_reducible exact impl_PlanSize.mono _ _ _)
      | (with_reducible exact laws_eqPlanMarkS.mono _ _ _)
      | (with_reducible exact laws_szPlanMarkS.mono _ _ _)
      | (with_reducible exact laws_toPlanMarkS.mono _ _)
      | (with_reducible exact spec_PlanSize.mono _ _ _)
      | (with_reducible exact LeO.refl _)
      | (with_reducible exact LeO.none _)
      | (with_reducible refine LeO.ite ?_ ?_)
      | (with_reducible refine LeO.bind ?_ (fun _ => ?_))
      | exact ih0 _ _ _
      | exact impl_PlanSize.mono _ _ _
      | exact laws_eqPlanMarkS.mono _ _ _
      | exact laws_szPlanMarkS.mono _ _ _
      | exact laws_toPlanMarkS.mono _ _
      | exact spec_PlanSize.mono _ _ _
      | exact LeO.none _
      | refine LeO.ite ?_ ?_
      | refine LeO.bind ?_ (fun _ => ?_)
set_option maxHeartbeats 8000000 in
set_option maxRecDepth 100000 in
theorem laws_FnExactPlanSize.calls (k : Nat) (A0 : Option Addr) (c0 : Nat) (l0 : List (S64)) (a1 : Int) (r : Bool) (w : World) (hr0 : Kd.C k64 w A0 l0.length l0) (hc0 : l0.length ≤ c0) (h : laws_FnExactPlanSize.f k l0 a1 = some r) :
    Calls Try.prog 7 #[.slice A0 l0.length c0, .int .i64 a1] w fun e w' => e = .returned (.bool r) ∧ Below w.heap.size w w' := by
  have HR0 := Aside0.mk hr0
  have HC0 := Aside0.mk hc0
  clear hr0 hc0
  have HB := Aside0.mk (Below.refl w.heap.size w)
  have H : ((laws_szPlanMarkS.f k l0 1048576).bind fun t160 => (if t160 < 0 then (some true) else ((laws_toPlanMarkS.f k l0).bind fun t161 => ((spec_PlanSize.f k t161 a1).bind fun bt164 => ((laws_toPlanMarkS.f k l0).bind fun t167 => ((impl_PlanSize.f k t167 a1).bind fun bt170 => (if bt170.1 = bt164.1 then (if bt170.2.1 = bt164.2.1 then (laws_FnExactPlanSize.j0 k l0 t167 (bt170.2.2 != bt164.2.2)) else (laws_FnExactPlanSize.j0 k l0 t167 true)) else (laws_FnExactPlanSize.j0 k l0 t167 true)))))))) = some r := h
  clear h
  replace H := Option.bind_eq_some_iff.mp H
  obtain ⟨t160, A30, H⟩ := H
  replace H : (if t160 < 0 then (some true) else ((laws_toPlanMarkS.f k l0).bind fun t161 => ((spec_PlanSize.f k t161 a1).bind fun bt164 => ((laws_toPlanMarkS.f k l0).bind fun t167 => ((impl_PlanSize.f k t167 a1).bind fun bt170 => (if bt170.1 = bt164.1 then (if bt170.2.1 = bt164.2.1 then (laws_FnExactPlanSize.j0 k l0 t167 (bt170.2.2 != bt164.2.2)) else (laws_FnExactPlanSize.j0 k l0 t167 true)) else (laws_FnExactPlanSize.j0 k l0 t167 true))))))) = some r := H
  have A3 := Aside0.mk A30
  clear A30
  by_cases c4 : t160 < 0
  · rw [if_pos c4] at H
    have c4b0 : decide (t160 < 0) = true := decide_eq_true c4
    clear c4
    obtain rfl := Option.some.inj H
    go_enter Try.func7, Try.ntmps7
    go_wp2_with (first | ((with_reducible refine gate_callee (f := 14) rfl ?_); refine goesL_ (some 15) rfl rfl Try.func14 (by kernel_rfl) rfl #[.slice A0 l0.length c0, .int .i64 1048576] rfl (by (try simp only [List.map_toArray, List.map_cons, List.map_nil]); first | done | rfl | (simp only [List.length_drop, List.length_take]; rfl)) ?_; (with_reducible refine (laws_szPlanMarkS.calls k _ _ l0 1048576 t160 _ ?side1 ?side2 A3.out).mono ?_); (case side1 => repeat (first | exact HR0.out | (with_reducible refine Kd.C_alloc ?_ _) | (with_reducible refine Kd.C_drewN ?_ _) | (with_reducible refine Kd.C_drew ?_))); (case side2 => exact HC0.out); rintro e w5 ⟨rfl, hb⟩; refine ⟨_, rfl, ?_⟩; have n0_ := Aside0.mk (below_step (by repeat (first | (with_reducible first | exact HB.out | apply below_alloc | apply pw_below_drewN | apply below_drew1) | exact HB.out)) hb); clear HB; have HB := n0_; clear n0_; (try clear hb); (try clear hb2); (try clear hk); (try clear hi)))
    go_ret
    exact ⟨by first | rfl | (simp [errW_none, errW_some] <;> rfl) | (simp [*, errW_none, errW_some] <;> rfl), by repeat (first | (with_reducible first | exact HB.out | apply below_alloc | apply pw_below_drewN | apply below_drew1) | exact HB.out)⟩
  · rw [if_neg c4] at H
    have c4b0 : decide (t160 < 0) = false := decide_eq_false c4
    clear c4
    replace H := Option.bind_eq_some_iff.mp H
    obtain ⟨t161, A60, H⟩ := H
    replace H : ((spec_PlanSize.f k t161 a1).bind fun bt164 => ((laws_toPlanMarkS.f k l0).bind fun t167 => ((impl_PlanSize.f k t167 a1).bind fun bt170 => (if bt170.1 = bt164.1 then (if bt170.2.1 = bt164.2.1 then (laws_FnExactPlanSize.j0 k l0 t167 (bt170.2.2 != bt164.2.2)) else (laws_FnExactPlanSize.j0 k l0 t167 true)) else (laws_FnExactPlanSize.j0 k l0 t167 true))))) = some r := H
    have A6 := Aside0.mk A60
    clear A60
    replace H := Option.bind_eq_some_iff.mp H
    obtain ⟨⟨t164, t165, t166⟩, A70, H⟩ := H
    replace H : ((laws_toPlanMarkS.f k l0).bind fun t167 => ((impl_PlanSize.f k t167 a1).bind fun bt170 => (if bt170.1 = t164 then (if bt170.2.1 = t165 then (laws_FnExactPlanSize.j0 k l0 t167 (bt170.2.2 != t166)) else (laws_FnExactPlanSize.j0 k l0 t167 true)) else (laws_FnExactPlanSize.j0 k l0 t167 true)))) = some r := H
    have A7 := Aside0.mk A70
    clear A70
    replace H := Option.bind_eq_some_iff.mp H
    obtain ⟨t167, A80, H⟩ := H
    replace H : ((impl_PlanSize.f k t167 a1).bind fun bt170 => (if bt170.1 = t164 then (if bt170.2.1 = t165 then (laws_FnExactPlanSize.j0 k l0 t167 (bt170.2.2 != t166)) else (laws_FnExactPlanSize.j0 k l0 t167 true)) else (laws_FnExactPlanSize.j0 k l0 t167 true))) = some r := H
    have A8 := Aside0.mk A80
    clear A80
    replace H := Option.bind_eq_some_iff.mp H
    obtain ⟨⟨t170, t171, t172⟩, A90, H⟩ := H
    replace H : (if t170 = t164 then (if t171 = t165 then (laws_FnExactPlanSize.j0 k l0 t167 (t172 != t166)) else (laws_FnExactPlanSize.j0 k l0 t167 true)) else (laws_FnExactPlanSize.j0 k l0 t167 true)) = some r := H
    have A9 := Aside0.mk A90
    clear A90
    have HC10 := Aside0.mk H
    clear H
    go_enter Try.func7, Try.ntmps7
    go_upto_region 8 with (first | ((with_reducible refine gate_callee (f := 14) rfl ?_); refine goesL_ (some 15) rfl rfl Try.func14 (by kernel_rfl) rfl #[.slice A0 l0.length c0, .int .i64 1048576] rfl (by (try simp only [List.map_toArray, List.map_cons, List.map_nil]); first | done | rfl | (simp only [List.length_drop, List.length_take]; rfl)) ?_; (with_reducible refine (laws_szPlanMarkS.calls k _ _ l0 1048576 t160 _ ?side1 ?side2 A3.out).mono ?_); (case side1 => repeat (first | exact HR0.out | (with_reducible refine Kd.C_alloc ?_ _) | (with_reducible refine Kd.C_drewN ?_ _) | (with_reducible refine Kd.C_drew ?_))); (case side2 => exact HC0.out); rintro e w11 ⟨rfl, hb⟩; refine ⟨_, rfl, ?_⟩; have n0_ := Aside0.mk (below_step (by repeat (first | (with_reducible first | exact HB.out | apply below_alloc | apply pw_below_drewN | apply below_drew1) | exact HB.out)) hb); clear HB; have HB := n0_; clear n0_; (try clear hb); (try clear hb2); (try clear hk); (try clear hi)) | ((with_reducible refine gate_callee (f := 16) rfl ?_); refine goesL_ (some 20) rfl rfl Try.func16 (by kernel_rfl) rfl #[.slice A0 l0.length c0] rfl (by (try simp only [List.map_toArray, List.map_cons, List.map_nil]); first | done | rfl | (simp only [List.length_drop, List.length_take]; rfl)) ?_; (with_reducible refine (laws_toPlanMarkS.calls k _ _ l0 t161 _ ?side1 ?side2 A6.out).mono ?_); (case side1 => repeat (first | exact (Kd.C_below HR0.out HB.out) | (with_reducible refine Kd.C_alloc ?_ _) | (with_reducible refine Kd.C_drewN ?_ _) | (with_reducible refine Kd.C_drew ?_))); (case side2 => exact HC0.out); rintro e w12 ⟨v162, rfl, ho0, hb⟩; refine ⟨_, rfl, ?_⟩; have n0_ := Aside0.mk (Kd.R_lower ho0 (below_size (by repeat (first | (with_reducible first | exact HB.out | apply below_alloc | apply pw_below_drewN | apply below_drew1) | exact HB.out)))); have n1_ := Aside0.mk (below_step (by repeat (first | (with_reducible first | exact HB.out | apply below_alloc | apply pw_below_drewN | apply below_drew1) | exact HB.out)) hb); clear HB; have HO163 := n0_; have HB := n1_; clear n0_ n1_; (try clear hb); (try clear hb2); (try clear hk); (try clear hi); (try clear ho0); obtain ⟨Ao13, co13, eo13⟩ := Kd.R_slice HO163.out; subst eo13) | ((with_reducible refine gate_callee (f := 27) rfl ?_); refine goesL_ (some 22) rfl rfl Try.func27 (by kernel_rfl) rfl #[.slice Ao13 t161.length co13, .int .i64 a1] rfl (by (try simp only [List.map_toArray, List.map_cons, List.map_nil]); first | done | rfl | (simp only [List.length_drop, List.length_take]; rfl)) ?_; (with_reducible refine (spec_PlanSize.calls k _ _ t161 a1 t164 t165 t166 _ ?side1 ?side2 A7.out).mono ?_); (case side1 => repeat (first | exact (Kd.R_reads' HO163.out).2.2 | (with_reducible refine Kd.C_alloc ?_ _) | (with_reducible refine Kd.C_drewN ?_ _) | (with_reducible refine Kd.C_drew ?_))); (case side2 => exact (Kd.R_reads' HO163.out).2.1); rintro e w14 ⟨rfl, hb⟩; refine ⟨_, rfl, ?_⟩; have n0_ := Aside0.mk (Kd.R_below (by (with_reducible repeat (first | apply Kd.R_alloc | apply Kd.R_drewN | apply Kd.R_drew)); exact HO163.out) hb); have n1_ := Aside0.mk (below_step (by repeat (first | (with_reducible first | exact HB.out | apply below_alloc | apply pw_below_drewN | apply below_drew1) | exact HB.out)) hb); clear HO163; clear HB; have HO163 := n0_; have HB := n1_; clear n0_ n1_; (try clear hb); (try clear hb2); (try clear hk); (try clear hi)) | ((with_reducible refine gate_callee (f := 16) rfl ?_); refine goesL_ (some 27) rfl rfl Try.func16 (by kernel_rfl) rfl #[.slice A0 l0.length c0] rfl (by (try simp only [List.map_toArray, List.map_cons, List.map_nil]); first | done | rfl | (simp only [List.length_drop, List.length_take]; rfl)) ?_; (with_reducible refine (laws_toPlanMarkS.calls k _ _ l0 t167 _ ?side1 ?side2 A8.out).mono ?_); (case side1 => repeat (first | exact (Kd.C_below HR0.out HB.out) | (with_reducible refine Kd.C_alloc ?_ _) | (with_reducible refine Kd.C_drewN ?_ _) | (with_reducible refine Kd.C_drew ?_))); (case side2 => exact HC0.out); rintro e w15 ⟨v168, rfl, ho0, hb⟩; refine ⟨_, rfl, ?_⟩; have n0_ := Aside0.mk (Kd.R_elder' (by (with_reducible repeat (first | apply Kd.R_alloc | apply Kd.R_drewN | apply Kd.R_drew)); exact HO163.out) (Kd.R_base ho0) hb); have n1_ := Aside0.mk (Kd.R_lower (Kd.R_new' ho0 (Kd.R_lt (by (with_reducible repeat (first | apply Kd.R_alloc | apply Kd.R_drewN | apply Kd.R_drew)); exact HO163.out))) (below_size (by repeat (first | (with_reducible first | exact HB.out | apply below_alloc | apply pw_below_drewN | apply below_drew1) | exact HB.out)))); have n2_ := Aside0.mk (below_step (by repeat (first | (with_reducible first | exact HB.out | apply below_alloc | apply pw_below_drewN | apply below_drew1) | exact HB.out)) hb); clear HO163; clear HB; have HO163 := n0_; have HO169 := n1_; have HB := n2_; clear n0_ n1_ n2_; (try clear hb); (try clear hb2); (try clear hk); (try clear hi); (try clear ho0); obtain ⟨Ao16, co16, eo16⟩ := Kd.R_slice HO169.out; subst eo16) | ((with_reducible refine gate_callee (f := 28) rfl ?_); refine goesL_ (some 31) rfl rfl Try.func28 (by kernel_rfl) rfl #[.slice Ao16 t167.length co16, .int .i64 a1] rfl (by (try simp only [List.map_toArray, List.map_cons, List.map_nil]); first | done | rfl | (simp only [List.length_drop, List.length_take]; rfl)) ?_; (with_reducible refine (impl_PlanSize.calls k _ _ t167 a1 t170 t171 t172 _ ?side1 ?side2 A9.out).mono ?_); (case side1 => repeat (first | exact (Kd.R_reads' HO169.out).2.2 | (with_reducible refine Kd.C_alloc ?_ _) | (with_reducible refine Kd.C_drewN ?_ _) | (with_reducible refine Kd.C_drew ?_))); (case side2 => exact (Kd.R_reads' HO169.out).2.1); rintro e w17 ⟨rfl, hb⟩; refine ⟨_, rfl, ?_⟩; have n0_ := Aside0.mk (Kd.R_below (by (with_reducible repeat (first | apply Kd.R_alloc | apply Kd.R_drewN | apply Kd.R_drew)); exact HO163.out) hb); have n1_ := Aside0.mk (Kd.R_below (by (with_reducible repeat (first | apply Kd.R_alloc | apply Kd.R_drewN | apply Kd.R_drew)); exact HO169.out) hb); have n2_ := Aside0.mk (below_step (by repeat (first | (with_reducible first | exact HB.out | apply below_alloc | apply pw_below_drewN | apply below_drew1) | exact HB.out)) hb); clear HO163; clear HO169; clear HB; have HO163 := n0_; have HO169 := n1_; have HB := n2_; clear n0_ n1_ n2_; (try clear hb); (try clear hb2); (try clear hk); (try clear hi)))
    (try simp only [Act.put, List.setIfInBounds_toArray, List.set_cons_zero, List.set_cons_succ])
    go_cut [47] (fun v47 wc => ∃ (kq : Nat) (x47_9 : Bool), v47 = .bool x47_9 ∧ Aside0 (laws_FnExactPlanSize.j0 kq l0 t167 x47_9 = some r) ∧ Aside0 (kq ≤ k) ∧ Aside0 (Kd.R k53 53 wc w.heap.size (fun _ => True) (.slice Ao16 t167.length co16) t167) ∧ Aside0 (Below w.heap.size w wc))
    case first =>
      have H := HC10.out
      clear HC10
      by_cases c18 : t170 = t164
      · rw [if_pos c18] at H
        have c18b0 : (t170 == t164) = true := beq_iff_eq.mpr c18
        have c18b1 : (t170 != t164) = false := bne_eq_false_iff_eq.mpr c18
        clear c18
        (first | rw [c18b0] | (simp only [i64_w, i32_w]; rw [c18b0]) | skip)
        by_cases c19 : t171 = t165
        · rw [if_pos c19] at H
          have c19b0 : (t171 == t165) = true := beq_iff_eq.mpr c19
          have c19b1 : (t171 != t165) = false := bne_eq_false_iff_eq.mpr c19
          clear c19
          have H' := Aside0.mk H
          clear H
          go_wp2
          go_meet
          case rel => exact ⟨_, ((t172 != t166)), (by first | rfl | (simp; done) | (simp [*]; done)), H', ⟨by first | omega | exact Nat.le_refl _⟩, ⟨by (with_reducible repeat (first | apply Kd.R_alloc | apply Kd.R_drewN | apply Kd.R_drew)); exact Kd.R_mono HO169.out (fun _ hk => trivial)⟩, ⟨by repeat (first | (with_reducible first | exact HB.out | apply below_alloc | apply pw_below_drewN | apply below_drew1) | exact HB.out)⟩⟩
        · rw [if_neg c19] at H
          have c19b0 : (t171 == t165) = false := beq_eq_false_iff_ne.mpr c19
          have c19b1 : (t171 != t165) = true := bne_iff_ne.mpr c19
          have H' := Aside0.mk H
          clear H
          go_wp2
          go_meet
          case rel => exact ⟨_, (true), (by first | rfl | (simp; done) | (simp [*]; done)), H', ⟨by first | omega | exact Nat.le_refl _⟩, ⟨by (with_reducible repeat (first | apply Kd.R_alloc | apply Kd.R_drewN | apply Kd.R_drew)); exact Kd.R_mono HO169.out (fun _ hk => trivial)⟩, ⟨by repeat (first | (with_reducible first | exact HB.out | apply below_alloc | apply pw_below_drewN | apply below_drew1) | exact HB.out)⟩⟩
      · rw [if_neg c18] at H
        have c18b0 : (t170 == t164) = false := beq_eq_false_iff_ne.mpr c18
        have c18b1 : (t170 != t164) = true := bne_iff_ne.mpr c18
        (first | rw [c18b0] | (simp only [i64_w, i32_w]; rw [c18b0]) | skip)
        have H' := Aside0.mk H
        clear H
        go_wp2
        go_meet
        case rel => exact ⟨_, (true), (by first | rfl | (simp; done) | (simp [*]; done)), H', ⟨by first | omega | exact Nat.le_refl _⟩, ⟨by (with_reducible repeat (first | apply Kd.R_alloc | apply Kd.R_drewN | apply Kd.R_drew)); exact Kd.R_mono HO169.out (fun _ hk => trivial)⟩, ⟨by repeat (first | (with_reducible first | exact HB.out | apply below_alloc | apply pw_below_drewN | apply below_drew1) | exact HB.out)⟩⟩
    case rest =>
      clear HC10
      try clear c1
      try clear c2
      try clear p2
      try clear c4
      try clear c4b0
      try clear c7
      try clear c14
      try clear c16
      try clear c18
      try clear c18b0
      try clear c18b1
      try clear c19
      try clear c19b0
      try clear c19b1
      obtain ⟨kq, x47_9, rfl, HA, HJ9, HO_9, HB⟩ := hcut
      cases kq with
      | zero => exact absurd HA.out (by simp [laws_FnExactPlanSize.j0])
      | succ kj9 =>
        have H := HA.out
        clear HA
        simp only [laws_FnExactPlanSize.j0] at H
        by_cases c20 : x47_9 = true
        · subst c20
          have H1 : (some false) = some r := by rw [if_pos rfl] at H; exact H
          clear H
          have H := H1
          clear H1
          obtain rfl := Option.some.inj H
          go_wp2
          go_ret
          exact ⟨by first | rfl | (simp [errW_none, errW_some] <;> rfl) | (simp [*, errW_none, errW_some] <;> rfl), by repeat (first | (with_reducible first | exact HB.out | apply below_alloc | apply pw_below_drewN | apply below_drew1) | exact HB.out)⟩
        · replace c20 := Bool.eq_false_iff.mpr c20
          subst c20
          have H1 : ((laws_toPlanMarkS.f kj9 l0).bind fun t173 => ((laws_eqPlanMarkS.f kj9 t167 t173).bind fun t176 => (if t176 = true then (some true) else (some false)))) = some r := by rw [if_neg (show ¬ (false = true) by decide)] at H; exact H
          clear H
          have H := H1
          clear H1
          replace H := Option.bind_eq_some_iff.mp H
          obtain ⟨t173, A210, H⟩ := H
          replace H : ((laws_eqPlanMarkS.f kj9 t167 t173).bind fun t176 => (if t176 = true then (some true) else (some false))) = some r := H
          have A21 := Aside0.mk A210
          clear A210
          replace H := Option.bind_eq_some_iff.mp H
          obtain ⟨t176, A220, H⟩ := H
          replace H : (if t176 = true then (some true) else (some false)) = some r := H
          have A22 := Aside0.mk A220
          clear A220
          by_cases c23 : t176 = true
          · subst c23
            have H1 : (some true) = some r := by rw [if_pos rfl] at H; exact H
            clear H
            have H := H1
            clear H1
            obtain rfl := Option.some.inj H
            go_wp2_with (first | ((with_reducible refine gate_callee (f := 16) rfl ?_); refine goesL_ (some 50) rfl rfl Try.func16 (by kernel_rfl) rfl #[.slice A0 l0.length c0] rfl (by (try simp only [List.map_toArray, List.map_cons, List.map_nil]); first | done | rfl | (simp only [List.length_drop, List.length_take]; rfl)) ?_; (with_reducible refine (laws_toPlanMarkS.calls kj9 _ _ l0 t173 _ ?side1 ?side2 A21.out).mono ?_); (case side1 => repeat (first | exact (Kd.C_below HR0.out HB.out) | (with_reducible refine Kd.C_alloc ?_ _) | (with_reducible refine Kd.C_drewN ?_ _) | (with_reducible refine Kd.C_drew ?_))); (case side2 => exact HC0.out); rintro e w24 ⟨v174, rfl, ho0, hb⟩; refine ⟨_, rfl, ?_⟩; have n0_ := Aside0.mk (Kd.R_elder' (by (with_reducible repeat (first | apply Kd.R_alloc | apply Kd.R_drewN | apply Kd.R_drew)); exact HO_9.out) (Kd.R_base ho0) hb); have n1_ := Aside0.mk (Kd.R_lower (Kd.R_new' ho0 (Kd.R_lt (by (with_reducible repeat (first | apply Kd.R_alloc | apply Kd.R_drewN | apply Kd.R_drew)); exact HO_9.out))) (below_size (by repeat (first | (with_reducible first | exact HB.out | apply below_alloc | apply pw_below_drewN | apply below_drew1) | exact HB.out)))); have n2_ := Aside0.mk (below_step (by repeat (first | (with_reducible first | exact HB.out | apply below_alloc | apply pw_below_drewN | apply below_drew1) | exact HB.out)) hb); clear HO_9; clear HB; have HO_9 := n0_; have HO175 := n1_; have HB := n2_; clear n0_ n1_ n2_; (try clear hb); (try clear hb2); (try clear hk); (try clear hi); (try clear ho0); obtain ⟨Ao25, co25, eo25⟩ := Kd.R_slice HO175.out; subst eo25) | ((with_reducible refine gate_callee (f := 18) rfl ?_); refine goesL_ (some 51) rfl rfl Try.func18 (by kernel_rfl) rfl #[.slice Ao16 t167.length co16, .slice Ao25 t173.length co25] rfl (by (try simp only [List.map_toArray, List.map_cons, List.map_nil]); first | done | rfl | (simp only [List.length_drop, List.length_take]; rfl)) ?_; (with_reducible refine (laws_eqPlanMarkS.calls kj9 _ _ t167 _ _ t173 true _ ?side1 ?side2 ?side3 ?side4 A22.out).mono ?_); (case side1 => repeat (first | exact (Kd.R_reads' HO_9.out).2.2 | (with_reducible refine Kd.C_alloc ?_ _) | (with_reducible refine Kd.C_drewN ?_ _) | (with_reducible refine Kd.C_drew ?_))); (case side2 => exact (Kd.R_reads' HO_9.out).2.1); (case side3 => repeat (first | exact (Kd.R_reads' HO175.out).2.2 | (with_reducible refine Kd.C_alloc ?_ _) | (with_reducible refine Kd.C_drewN ?_ _) | (with_reducible refine Kd.C_drew ?_))); (case side4 => exact (Kd.R_reads' HO175.out).2.1); rintro e w26 ⟨rfl, hb⟩; refine ⟨_, rfl, ?_⟩; have n0_ := Aside0.mk (Kd.R_below (by (with_reducible repeat (first | apply Kd.R_alloc | apply Kd.R_drewN | apply Kd.R_drew)); exact HO_9.out) hb); have n1_ := Aside0.mk (Kd.R_below (by (with_reducible repeat (first | apply Kd.R_alloc | apply Kd.R_drewN | apply Kd.R_drew)); exact HO175.out) hb); have n2_ := Aside0.mk (below_step (by repeat (first | (with_reducible first | exact HB.out | apply below_alloc | apply pw_below_drewN | apply below_drew1) | exact HB.out)) hb); clear HO_9; clear HO175; clear HB; have HO_9 := n0_; have HO175 := n1_; have HB := n2_; clear n0_ n1_ n2_; (try clear hb); (try clear hb2); (try clear hk); (try clear hi)))
            go_ret
            exact ⟨by first | rfl | (simp [errW_none, errW_some] <;> rfl) | (simp [*, errW_none, errW_some] <;> rfl), by repeat (first | (with_reducible first | exact HB.out | apply below_alloc | apply pw_below_drewN | apply below_drew1) | exact HB.out)⟩
          · replace c23 := Bool.eq_false_iff.mpr c23
            subst c23
            have H1 : (some false) = some r := by rw [if_neg (show ¬ (false = true) by decide)] at H; exact H
            clear H
            have H := H1
            clear H1
            obtain rfl := Option.some.inj H
            go_wp2_with (first | ((with_reducible refine gate_callee (f := 16) rfl ?_); refine goesL_ (some 50) rfl rfl Try.func16 (by kernel_rfl) rfl #[.slice A0 l0.length c0] rfl (by (try simp only [List.map_toArray, List.map_cons, List.map_nil]); first | done | rfl | (simp only [List.length_drop, List.length_take]; rfl)) ?_; (with_reducible refine (laws_toPlanMarkS.calls kj9 _ _ l0 t173 _ ?side1 ?side2 A21.out).mono ?_); (case side1 => repeat (first | exact (Kd.C_below HR0.out HB.out) | (with_reducible refine Kd.C_alloc ?_ _) | (with_reducible refine Kd.C_drewN ?_ _) | (with_reducible refine Kd.C_drew ?_))); (case side2 => exact HC0.out); rintro e w27 ⟨v174, rfl, ho0, hb⟩; refine ⟨_, rfl, ?_⟩; have n0_ := Aside0.mk (Kd.R_elder' (by (with_reducible repeat (first | apply Kd.R_alloc | apply Kd.R_drewN | apply Kd.R_drew)); exact HO_9.out) (Kd.R_base ho0) hb); have n1_ := Aside0.mk (Kd.R_lower (Kd.R_new' ho0 (Kd.R_lt (by (with_reducible repeat (first | apply Kd.R_alloc | apply Kd.R_drewN | apply Kd.R_drew)); exact HO_9.out))) (below_size (by repeat (first | (with_reducible first | exact HB.out | apply below_alloc | apply pw_below_drewN | apply below_drew1) | exact HB.out)))); have n2_ := Aside0.mk (below_step (by repeat (first | (with_reducible first | exact HB.out | apply below_alloc | apply pw_below_drewN | apply below_drew1) | exact HB.out)) hb); clear HO_9; clear HB; have HO_9 := n0_; have HO175 := n1_; have HB := n2_; clear n0_ n1_ n2_; (try clear hb); (try clear hb2); (try clear hk); (try clear hi); (try clear ho0); obtain ⟨Ao28, co28, eo28⟩ := Kd.R_slice HO175.out; subst eo28) | ((with_reducible refine gate_callee (f := 18) rfl ?_); refine goesL_ (some 51) rfl rfl Try.func18 (by kernel_rfl) rfl #[.slice Ao16 t167.length co16, .slice Ao28 t173.length co28] rfl (by (try simp only [List.map_toArray, List.map_cons, List.map_nil]); first | done | rfl | (simp only [List.length_drop, List.length_take]; rfl)) ?_; (with_reducible refine (laws_eqPlanMarkS.calls kj9 _ _ t167 _ _ t173 false _ ?side1 ?side2 ?side3 ?side4 A22.out).mono ?_); (case side1 => repeat (first | exact (Kd.R_reads' HO_9.out).2.2 | (with_reducible refine Kd.C_alloc ?_ _) | (with_reducible refine Kd.C_drewN ?_ _) | (with_reducible refine Kd.C_drew ?_))); (case side2 => exact (Kd.R_reads' HO_9.out).2.1); (case side3 => repeat (first | exact (Kd.R_reads' HO175.out).2.2 | (with_reducible refine Kd.C_alloc ?_ _) | (with_reducible refine Kd.C_drewN ?_ _) | (with_reducible refine Kd.C_drew ?_))); (case side4 => exact (Kd.R_reads' HO175.out).2.1); rintro e w29 ⟨rfl, hb⟩; refine ⟨_, rfl, ?_⟩; have n0_ := Aside0.mk (Kd.R_below (by (with_reducible repeat (first | apply Kd.R_alloc | apply Kd.R_drewN | apply Kd.R_drew)); exact HO_9.out) hb); have n1_ := Aside0.mk (Kd.R_below (by (with_reducible repeat (first | apply Kd.R_alloc | apply Kd.R_drewN | apply Kd.R_drew)); exact HO175.out) hb); have n2_ := Aside0.mk (below_step (by repeat (first | (with_reducible first | exact HB.out | apply below_alloc | apply pw_below_drewN | apply below_drew1) | exact HB.out)) hb); clear HO_9; clear HO175; clear HB; have HO_9 := n0_; have HO175 := n1_; have HB := n2_; clear n0_ n1_ n2_; (try clear hb); (try clear hb2); (try clear hk); (try clear hi)))
            go_ret
            exact ⟨by first | rfl | (simp [errW_none, errW_some] <;> rfl) | (simp [*, errW_none, errW_some] <;> rfl), by repeat (first | (with_reducible first | exact HB.out | apply below_alloc | apply pw_below_drewN | apply below_drew1) | exact HB.out)⟩

end Go.Proofs.Ytcajkofblleanaa.MZ
