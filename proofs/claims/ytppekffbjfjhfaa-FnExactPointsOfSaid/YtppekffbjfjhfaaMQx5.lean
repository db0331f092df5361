-- Written by a program of this session (wip/drv.py) out of Lean's own print of the loaded program; hand-proved parts from wip/inj.
import Derived.Test.YtppekffbjfjhfaaMQx0
import Derived.Test.YtppekffbjfjhfaaMQx2
import Derived.Test.YtppekffbjfjhfaaMQx3
import Derived.Test.YtppekffbjfjhfaaMQx4
namespace Go.Proofs.Ytppekffbjfjhfaa.MQ
open Go.RowKit Go.Proofs.YtppekffbjfjhfaaW.PrintWords Go.Proofs.YtppekffbjfjhfaaW.PrintLast Go.Proofs.YtppekffbjfjhfaaW.PrintMore
attribute [local go_sem] max2_int min2_int max_two min_two max_three min_three max_four min_four   -- for this text's walks alone
set_option linter.unusedVariables false
set_option linter.unusedSimpArgs false

/-! ### laws_FnExactPointsOf: function 10 (by hand: wip/inj) -/
theorem lss_drawn {w w' : World} (h : Drawn0 w w') : Below w.heap.size w w' := by
  obtain ⟨n, rfl⟩ := h.out
  exact pw_below_drewN (Below.refl _ _) n

def laws_FnExactPointsOf.f (k : Nat) (l0 : List (S59)) : Option Bool := (laws_szRunS.f l0 1048576).bind fun v0 => if v0 < 0 then some true else (laws_toRunS.f k l0).bind fun m0 => (spec_PointsOf.f k m0).bind fun s => (impl_PointsOf.f k m0).bind fun g => (laws_eqIntSS.f k g.1 s.1).bind fun e => (laws_eqRunS.f k m0 m0).bind fun e0 => (laws_markRunS.f k m0 1).bind fun q0 => (laws_markIntSS.f k g.1 1).bind fun mk => (laws_heldIntSS.f k mk.2 1).bind fun hd => if e = true ∧ g.2 = s.2 ∧ e0 = true ∧ 0 ≤ q0.1 ∧ hd = mk.1 ∧ 0 ≤ hd then some true else none
theorem laws_FnExactPointsOf.mono : ∀ a0 k, LeO (laws_FnExactPointsOf.f k a0) (laws_FnExactPointsOf.f (k + 1) a0) := by
  intro a0 k
  unfold laws_FnExactPointsOf.f
  repeat' first
      | (with_reducible exact laws_toRunS.mono _ _)
      | (with_reducible exact spec_PointsOf.mono _ _)
      | (with_reducible exact impl_PointsOf.mono _ _)
      | (with_reducible exact laws_eqIntSS.mono _ _ _)
      | (with_reducible exact laws_eqRunS.mono _ _ _)
      | (with_reducible exact laws_markRunS.mono _ _ _)
      | (with_reducible exact laws_markIntSS.mono _ _ _)
      | (with_reducible exact laws_heldIntSS.mono _ _ _)
      | (with_reducible exact LeO.refl _)
      | (with_reducible exact LeO.none _)
      | (with_reducible refine LeO.ite ?_ ?_)
      | (with_reducible refine LeO.bind ?_ (fun _ => ?_))
      | exact laws_toRunS.mono _ _
      | exact spec_PointsOf.mono _ _
      | exact impl_PointsOf.mono _ _
      | exact laws_eqIntSS.mono _ _ _
      | exact laws_eqRunS.mono _ _ _
      | exact laws_markRunS.mono _ _ _
      | exact laws_markIntSS.mono _ _ _
      | exact laws_heldIntSS.mono _ _ _
      | exact LeO.none _
      | refine LeO.ite ?_ ?_
      | refine LeO.bind ?_ (fun _ => ?_)
set_option maxHeartbeats 16000000 in
set_option maxRecDepth 100000 in
theorem laws_FnExactPointsOf.calls (k : Nat) (A0 : Option Addr) (c0 : Nat) (l0 : List (S59)) (r : Bool) (w : World) (hr0 : Kd.C k59 w A0 l0.length l0) (hc0 : l0.length ≤ c0) (h : laws_FnExactPointsOf.f k l0 = some r) :
    Calls Try.prog 10 #[.slice A0 l0.length c0] w fun e w' => e = .returned (.bool r) ∧ Below w.heap.size w w' := by
  have HR0 := Aside0.mk hr0
  have HC0 := Aside0.mk hc0
  have HM0 := Aside0.mk hr0.2.1
  have HB0 := Aside0.mk (Below.refl w.heap.size w)
  clear hr0 hc0
  unfold laws_FnExactPointsOf.f at h
  have HB_0 := HB0
  obtain ⟨v0, hv0, h⟩ := Option.bind_eq_some_iff.mp h
  have HV0 := Aside0.mk hv0
  clear hv0
  by_cases hz0 : v0 < 0
  · rw [if_pos hz0] at h
    obtain rfl := Option.some.inj h
    have z0 : decide (v0 < 0) = true := decide_eq_true hz0
    clear hz0 h
    go_enter Try.func10, Try.ntmps10
    go_wp2_with (fail)
    go_at_call 13
    refine (laws_szRunS.calls _ _ l0 (1048576) v0 _ (Kd.C_below HR0.out HB_0.out) HC0.out HV0.out).mono ?_
    rintro e_ w1_ ⟨rfl, hb⟩
    replace hb := lss_drawn hb
    have HB_1 := Aside0.mk (HB_0.out.trans (hb.mono HB_0.out.size))
    clear hb
    go_wp2
    go_ret
    exact ⟨rfl, HB_1.out⟩
  rw [if_neg hz0] at h
  have z0 : decide (v0 < 0) = false := decide_eq_false hz0
  have HZ0 := Aside0.mk hz0
  clear hz0
  obtain ⟨m0, hx_m0, h⟩ := Option.bind_eq_some_iff.mp h
  have HX_m0 := Aside0.mk hx_m0
  clear hx_m0
  obtain ⟨⟨s1, s2⟩, hx_s, h⟩ := Option.bind_eq_some_iff.mp h
  have HX_s := Aside0.mk hx_s
  clear hx_s
  obtain ⟨⟨g1, g2⟩, hx_g, h⟩ := Option.bind_eq_some_iff.mp h
  have HX_g := Aside0.mk hx_g
  clear hx_g
  obtain ⟨e, hx_e, h⟩ := Option.bind_eq_some_iff.mp h
  have HX_e := Aside0.mk hx_e
  clear hx_e
  obtain ⟨e0, hx_e0, h⟩ := Option.bind_eq_some_iff.mp h
  have HX_e0 := Aside0.mk hx_e0
  clear hx_e0
  obtain ⟨⟨q01, q02⟩, hx_q0, h⟩ := Option.bind_eq_some_iff.mp h
  have HX_q0 := Aside0.mk hx_q0
  clear hx_q0
  obtain ⟨⟨mk1, mk2⟩, hx_mk, h⟩ := Option.bind_eq_some_iff.mp h
  have HX_mk := Aside0.mk hx_mk
  clear hx_mk
  obtain ⟨hd, hx_hd, h⟩ := Option.bind_eq_some_iff.mp h
  have HX_hd := Aside0.mk hx_hd
  clear hx_hd
  split at h
  case isFalse => cases h
  rename_i hco
  obtain rfl := Option.some.inj h
  clear h
  simp only at hco
  obtain ⟨rfl, rfl, rfl, hq_, rfl, hh_⟩ := hco
  have dq : decide (q01 < 0) = false := decide_eq_false (by omega)
  have dh : decide (hd < 0) = false := decide_eq_false (by omega)
  clear hq_ hh_
  go_enter Try.func10, Try.ntmps10
  go_wp2_with (fail)
  go_at_call 13
  refine (laws_szRunS.calls _ _ l0 (1048576) v0 _ (Kd.C_below HR0.out HB_0.out) HC0.out HV0.out).mono ?_
  rintro e_ w1_ ⟨rfl, hb⟩
  replace hb := lss_drawn hb
  have HB_1 := Aside0.mk (HB_0.out.trans (hb.mono HB_0.out.size))
  clear hb
  go_wp2_with (fail)
  go_at_call 15
  refine (laws_toRunS.calls k _ _ l0 m0 _ (Kd.C_below HR0.out HB_1.out) HC0.out HX_m0.out).mono ?_
  rintro e_ w2_ ⟨v_, rfl, hr_, hb⟩
  obtain ⟨At0, ct0, e_t0⟩ := Kd.R_slice hr_
  subst e_t0
  have HRt0 := Aside0.mk (Kd.R_mono (Kd.R_bound hr_) (fun k_ hk_ => (⟨hk_.2.1, hk_.2.2.1⟩ : w1_.heap.size ≤ k_ ∧ k_ < w2_.heap.size)))
  have HKt0 := Aside0.mk (Kd.R_reads' hr_).2
  clear hr_
  have HB_2 := Aside0.mk (HB_1.out.trans (hb.mono HB_1.out.size))
  clear hb
  go_wp2_with (fail)
  have HBmt0_2 := Aside0.mk (Below.refl w2_.heap.size w2_)
  go_at_call 34
  refine (spec_PointsOf.calls k _ _ m0 s1 g2 _ (Kd.C_below HKt0.out.2 (HBmt0_2.out)) HKt0.out.1 HX_s.out).mono ?_
  rintro e_ w3_ ⟨v_, rfl, hr_, hb⟩
  obtain ⟨As, cs_, es⟩ := Kd.N_slice hr_
  subst es
  have HS := Aside0.mk (Kd.N_reads' hr_).2
  clear hr_
  have HB_3 := Aside0.mk (HB_2.out.trans (hb.mono HB_2.out.size))
  clear hb HBmt0_2
  have HBms_3 := Aside0.mk (Below.refl w3_.heap.size w3_)
  go_wp2_with (fail)
  go_at_call 15
  refine (laws_toRunS.calls k _ _ l0 m0 _ (Kd.C_below HR0.out HB_3.out) HC0.out HX_m0.out).mono ?_
  rintro e_ w4_ ⟨v_, rfl, hr_, hb⟩
  obtain ⟨Ax0, cx0, e_x0⟩ := Kd.R_slice hr_
  subst e_x0
  have HRx0 := Aside0.mk (Kd.R_mono (Kd.R_bound hr_) (fun k_ hk_ => (⟨hk_.2.1, hk_.2.2.1⟩ : w3_.heap.size ≤ k_ ∧ k_ < w4_.heap.size)))
  have HKx0 := Aside0.mk (Kd.R_reads' hr_).2
  clear hr_
  have HB_4 := Aside0.mk (HB_3.out.trans (hb.mono HB_3.out.size))
  have HBms_4 := Aside0.mk (HBms_3.out.trans (hb.mono HBms_3.out.size))
  clear hb
  go_wp2_with (fail)
  have HBmx0_4 := Aside0.mk (Below.refl w4_.heap.size w4_)
  go_at_call 35
  refine (impl_PointsOf.calls k _ _ m0 g1 g2 _ (Kd.C_below HKx0.out.2 (HBmx0_4.out)) HKx0.out.1 HX_g.out).mono ?_
  rintro e_ w5_ ⟨v_, rfl, hr_, hb⟩
  obtain ⟨Ag, cg, eg⟩ := Kd.S_slice hr_
  subst eg
  have HG := Aside0.mk (Kd.S_mono (Kd.S_bound hr_) (fun k_ hk_ => (⟨hk_.2.1, hk_.2.2.1⟩ : w4_.heap.size ≤ k_ ∧ k_ < w5_.heap.size)))
  clear hr_
  have HB_5 := Aside0.mk (HB_4.out.trans (hb.mono HB_4.out.size))
  have HBms_5 := Aside0.mk (HBms_4.out.trans (hb.mono HBms_4.out.size))
  have HBmx0_5 := Aside0.mk (HBmx0_4.out.trans (hb.mono HBmx0_4.out.size))
  clear hb
  have HBmg_5 := Aside0.mk (Below.refl w5_.heap.size w5_)
  go_wp2_with (fail)
  go_at_call 36
  refine (laws_eqIntSS.calls k _ _ g1 _ _ s1 true _ (Kd.S_reads' HG.out).2.2 (Kd.S_reads' HG.out).2.1 (Kd.C_below HS.out.2 HBms_5.out) HS.out.1 HX_e.out).mono ?_
  rintro e_ w6_ ⟨rfl, hb⟩
  replace hb := lss_drawn hb
  have HB_6 := Aside0.mk (HB_5.out.trans (hb.mono HB_5.out.size))
  have HBms_6 := Aside0.mk (HBms_5.out.trans (hb.mono HBms_5.out.size))
  have HBmx0_6 := Aside0.mk (HBmx0_5.out.trans (hb.mono HBmx0_5.out.size))
  have HBmg_6 := Aside0.mk (HBmg_5.out.trans (hb.mono HBmg_5.out.size))
  clear hb
  go_wp2_with (fail)
  go_at_call 15
  refine (laws_toRunS.calls k _ _ l0 m0 _ (Kd.C_below HR0.out HB_6.out) HC0.out HX_m0.out).mono ?_
  rintro e_ w7_ ⟨v_, rfl, hr_, hb⟩
  obtain ⟨Ay0, cy0, e_y0⟩ := Kd.R_slice hr_
  subst e_y0
  have HRy0 := Aside0.mk (Kd.R_mono (Kd.R_bound hr_) (fun k_ hk_ => (⟨hk_.2.1, hk_.2.2.1⟩ : w6_.heap.size ≤ k_ ∧ k_ < w7_.heap.size)))
  have HKy0 := Aside0.mk (Kd.R_reads' hr_).2
  clear hr_
  have HB_7 := Aside0.mk (HB_6.out.trans (hb.mono HB_6.out.size))
  have HBms_7 := Aside0.mk (HBms_6.out.trans (hb.mono HBms_6.out.size))
  have HBmx0_7 := Aside0.mk (HBmx0_6.out.trans (hb.mono HBmx0_6.out.size))
  have HBmg_7 := Aside0.mk (HBmg_6.out.trans (hb.mono HBmg_6.out.size))
  clear hb
  go_wp2_with (fail)
  go_at_call 17
  refine (laws_eqRunS.calls k _ _ m0 _ _ m0 true _ (Kd.C_below HKx0.out.2 HBmx0_7.out) HKx0.out.1 HKy0.out.2 HKy0.out.1 HX_e0.out).mono ?_
  rintro e_ w8_ ⟨rfl, hb⟩
  have HB_8 := Aside0.mk (HB_7.out.trans (hb.mono HB_7.out.size))
  have HBms_8 := Aside0.mk (HBms_7.out.trans (hb.mono HBms_7.out.size))
  have HBmx0_8 := Aside0.mk (HBmx0_7.out.trans (hb.mono HBmx0_7.out.size))
  have HBmg_8 := Aside0.mk (HBmg_7.out.trans (hb.mono HBmg_7.out.size))
  clear hb HRy0 HKy0
  go_wp2_with (fail)
  have HSG : Aside0 (w4_.heap.size ≤ w4_.heap.size) := ⟨Nat.le_refl _⟩
  have HG_ := Aside0.mk (Kd.S_below HG.out HBmg_8.out)
  clear HG
  have HG := HG_
  clear HG_
  have HRz0 := Aside0.mk (Kd.R_below HRx0.out HBmx0_8.out)
  go_at_call 26
  refine (laws_markRunS.calls k (fun k_ => w3_.heap.size ≤ k_ ∧ k_ < w4_.heap.size) _ m0 (1) q01 q02 w3_ _ HBms_8.out (Kd.R_lower HRz0.out (Nat.le_refl _)) HX_q0.out).mono ?_
  rintro e_ w9_ ⟨rfl, hr_, hb, hk_⟩
  clear hr_
  have HBms_9 := Aside0.mk hb
  have HB_9 := Aside0.mk (HB_3.out.trans (hb.mono HB_3.out.size))
  have HG_ := Aside0.mk (Kd.S_kept HG.out hk_ (fun k_ h_ h2_ => by have := h_.1; have := h2_.2; have := HSG.out; omega))
  clear HG
  have HG := HG_
  clear HG_ hb hk_
  go_wp2_with (fail)
  go_at_call 36
  refine (laws_eqIntSS.calls k _ _ g1 _ _ s1 true _ (Kd.S_reads' HG.out).2.2 (Kd.S_reads' HG.out).2.1 (Kd.C_below HS.out.2 HBms_9.out) HS.out.1 HX_e.out).mono ?_
  rintro e_ w10_ ⟨rfl, hb⟩
  replace hb := lss_drawn hb
  have HB_10 := Aside0.mk (HB_9.out.trans (hb.mono HB_9.out.size))
  have HBms_10 := Aside0.mk (HBms_9.out.trans (hb.mono HBms_9.out.size))
  have HG_ := Aside0.mk (Kd.S_below HG.out hb)
  clear HG
  have HG := HG_
  clear HG_ hb
  go_wp2_with (fail)
  go_at_call 37
  refine (laws_markIntSS.calls k (fun k_ => w4_.heap.size ≤ k_ ∧ k_ < w5_.heap.size) _ g1 1 hd mk2 w3_ _ HBms_10.out (Kd.S_lower HG.out HBms_4.out.size) HX_mk.out).mono ?_
  rintro e_ w11_ ⟨rfl, hr_, hb, hk_⟩
  have HG_ := Aside0.mk hr_
  clear HG hr_ hk_
  have HG := HG_
  clear HG_
  have HBms_11 := Aside0.mk hb
  have HB_11 := Aside0.mk (HB_3.out.trans (hb.mono HB_3.out.size))
  clear hb
  have HNL : mk2.length = g1.length := (Kd.S_reads' HG.out).1.symm
  rw [← HNL] at HG
  have HL := Aside0.mk HNL.symm
  clear HNL
  go_wp2_with (fail)
  go_at_call 38
  try rw [HL.out]
  refine (laws_heldIntSS.calls k _ _ mk2 1 hd _ (Kd.S_reads' HG.out).2.2 (Kd.S_reads' HG.out).2.1 HX_hd.out).mono ?_
  rintro e_ w12_ ⟨rfl, hb⟩
  replace hb := lss_drawn hb
  have HB_12 := Aside0.mk (HB_11.out.trans (hb.mono HB_11.out.size))
  have HBms_12 := Aside0.mk (HBms_11.out.trans (hb.mono HBms_11.out.size))
  have HG_ := Aside0.mk (Kd.S_below HG.out hb)
  clear HG
  have HG := HG_
  clear HG_ hb
  go_wp2_with (fail)
  have HBmh0_12 := Aside0.mk (Below.refl w12_.heap.size w12_)
  go_at_call 15
  refine (laws_toRunS.calls k _ _ l0 m0 _ (Kd.C_below HR0.out HB_12.out) HC0.out HX_m0.out).mono ?_
  rintro e_ w13_ ⟨v_, rfl, hr_, hb⟩
  obtain ⟨Az0, cz0, e_z0⟩ := Kd.R_slice hr_
  subst e_z0
  have HRz0 := Aside0.mk (Kd.R_mono (Kd.R_bound hr_) (fun k_ hk_ => (⟨hk_.2.1, hk_.2.2.1⟩ : w12_.heap.size ≤ k_ ∧ k_ < w13_.heap.size)))
  have HKz0 := Aside0.mk (Kd.R_reads' hr_).2
  clear hr_
  have HB_13 := Aside0.mk (HB_12.out.trans (hb.mono HB_12.out.size))
  have HBms_13 := Aside0.mk (HBms_12.out.trans (hb.mono HBms_12.out.size))
  have HBmh0_13 := Aside0.mk (HBmh0_12.out.trans (hb.mono HBmh0_12.out.size))
  clear hb
  go_wp2_with (fail)
  have HBmz0_13 := Aside0.mk (Below.refl w13_.heap.size w13_)
  go_at_call 35
  refine (impl_PointsOf.calls k _ _ m0 g1 g2 _ (Kd.C_below HKz0.out.2 (HBmz0_13.out)) HKz0.out.1 HX_g.out).mono ?_
  rintro e_ w14_ ⟨v_, rfl, hr_, hb⟩
  obtain ⟨Ah, ch, eh⟩ := Kd.S_slice hr_
  subst eh
  have HH := Aside0.mk hr_
  clear hr_
  have HB_14 := Aside0.mk (HB_13.out.trans (hb.mono HB_13.out.size))
  have HBms_14 := Aside0.mk (HBms_13.out.trans (hb.mono HBms_13.out.size))
  have HBmh0_14 := Aside0.mk (HBmh0_13.out.trans (hb.mono HBmh0_13.out.size))
  have HG_ := Aside0.mk (Kd.S_below HG.out HBmh0_14.out)
  clear HG
  have HG := HG_
  clear HG_ hb
  go_wp2_with (fail)
  go_at_call 36
  refine (laws_eqIntSS.calls k _ _ g1 _ _ s1 true _ (Kd.S_reads' HH.out).2.2 (Kd.S_reads' HH.out).2.1 (Kd.C_below HS.out.2 HBms_14.out) HS.out.1 HX_e.out).mono ?_
  rintro e_ w15_ ⟨rfl, hb⟩
  replace hb := lss_drawn hb
  have HB_15 := Aside0.mk (HB_14.out.trans (hb.mono HB_14.out.size))
  have HBms_15 := Aside0.mk (HBms_14.out.trans (hb.mono HBms_14.out.size))
  have HG_ := Aside0.mk (Kd.S_below HG.out hb)
  clear HG
  have HG := HG_
  clear HG_ hb
  go_wp2_with (fail)
  go_at_call 38
  try rw [HL.out]
  refine (laws_heldIntSS.calls k _ _ mk2 1 hd _ (Kd.S_reads' HG.out).2.2 (Kd.S_reads' HG.out).2.1 HX_hd.out).mono ?_
  rintro e_ w16_ ⟨rfl, hb⟩
  replace hb := lss_drawn hb
  have HB_16 := Aside0.mk (HB_15.out.trans (hb.mono HB_15.out.size))
  have HBms_16 := Aside0.mk (HBms_15.out.trans (hb.mono HBms_15.out.size))
  have HG_ := Aside0.mk (Kd.S_below HG.out hb)
  clear HG
  have HG := HG_
  clear HG_ hb
  go_wp2
  go_ret
  exact ⟨rfl, HB_16.out⟩


end Go.Proofs.Ytppekffbjfjhfaa.MQ
