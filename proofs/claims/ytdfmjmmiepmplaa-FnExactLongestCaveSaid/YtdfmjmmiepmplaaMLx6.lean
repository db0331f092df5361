-- Written by a program of this session (wip/drv.py) out of Lean's own print of the loaded program; hand-proved parts from wip/inj.
import Derived.Test.YtdfmjmmiepmplaaMLx0
import Derived.Test.YtdfmjmmiepmplaaMLx5
namespace Go.Proofs.Ytdfmjmmiepmplaa.ML
open Go.RowKit Go.Proofs.YtdfmjmmiepmplaaW.PrintWords Go.Proofs.YtdfmjmmiepmplaaW.PrintLast Go.Proofs.YtdfmjmmiepmplaaW.PrintMore
attribute [local go_sem] max2_int min2_int max_two min_two max_three min_three max_four min_four   -- for this text's walks alone
set_option linter.unusedVariables false
set_option linter.unusedSimpArgs false

/-! ### impl_caveLength: function 56 (by hand: wip/inj) -/
def lengthFrom (l0 : List S69) (B : List Bool) : Nat → Nat → Int → Int
  | 0, _, s => s
  | d + 1, i, s => lengthFrom l0 B d (i + 1) (if B.getD (l0.getD i z69).f0.toNat false = true then wrap64 (s + (l0.getD i z69).f2) else s)
def impl_caveLength.f (l0 : List S69) (a1 : Int) : Option Int := if hangOk l0 a1 = true then some (lengthFrom l0 (hangOf l0 a1) l0.length 0 0) else none
set_option maxHeartbeats 8000000 in
set_option maxRecDepth 100000 in
theorem impl_caveLength.calls (A0 : Option Addr) (c0 : Nat) (l0 : List S69) (a1 : Int) (r : Int) (w : World) (hr0 : Kd.C k69 w A0 l0.length l0) (hc0 : l0.length ≤ c0) (h : impl_caveLength.f l0 a1 = some r) :
    Calls Try.prog 56 #[.slice A0 l0.length c0, .int .i64 a1] w fun e w' => e = .returned (.int .i64 r) ∧ Below w.heap.size w w' := by
  have huL := Try.underlying69
  have huA := Try.underlying91
  have hu4 := Try.underlying4
  unfold impl_caveLength.f at h
  by_cases hok : hangOk l0 a1 = true
  case neg => rw [if_neg hok] at h; cases h
  rw [if_pos hok] at h
  have hr := Option.some.inj h
  clear h
  simp only [hangOk, Bool.and_eq_true, decide_eq_true_eq] at hok
  have HOK := Aside0.mk hok
  have HR0 := Aside0.mk hr0
  have HC0 := Aside0.mk hc0
  have HM0 := Aside0.mk hr0.2.1
  have H12 : Aside0 (0 ≤ (l0.length : Int) ∧ (l0.length : Int).toNat * 8 ≤ 281474976710656) := ⟨by have := hok.2; omega⟩
  have HALL : Aside0 (∀ i, i < l0.length → 0 ≤ (l0.getD i z69).f0 ∧ (l0.getD i z69).f0 ≤ 7) := ⟨fun i hi => by
    have h1 := hok.1
    simp only [reachOk, Bool.and_eq_true, decide_eq_true_eq, List.all_eq_true] at h1
    have := (h1.2.2 _ (List.getElem_mem hi)).1
    simpa [List.getD_eq_getElem?_getD, List.getElem?_eq_getElem hi] using this⟩
  have HRES := Aside0.mk hr
  clear hr hr0 hc0 hok
  have HCALL : Aside0 (∀ (A1 : Option Addr) (c1 : Nat) (W : World), Below w.heap.size w W → Kd.C (Kd.int .i64) W A1 l0.length (List.replicate l0.length 0) → l0.length ≤ c1 → Calls Try.prog 80 #[.slice A0 l0.length c0, .slice A1 l0.length c1, .int .i64 a1, .int .i64 0] W fun e w' => e = .returned (.agg (arrOf (hangOf l0 a1))) ∧ Below W.heap.size W w') := ⟨fun A1 c1 W hb hC hc => by
    have := impl_reach.calls A0 c0 l0 A1 c1 (List.replicate l0.length 0) a1 0 (hangOf l0 a1) W (Kd.C_below HR0.out hb) HC0.out (by rw [List.length_replicate]; exact hC) (by rw [List.length_replicate]; exact hc) (by unfold impl_reach.f; rw [if_pos HOK.out.1]; rfl)
    rwa [List.length_replicate] at this⟩
  obtain ⟨B, hB⟩ : ∃ B, B = hangOf l0 a1 := ⟨_, rfl⟩
  have h8 : B.length = 8 := by rw [hB]; exact reachOf_length _ _ _ _
  rw [← hB] at HCALL HRES
  clear hB
  obtain ⟨b0, b1, b2, b3, b4, b5, b6, b7, hb8⟩ : ∃ b0 b1 b2 b3 b4 b5 b6 b7, B = [b0, b1, b2, b3, b4, b5, b6, b7] := by
    match B, h8 with
    | [b0, b1, b2, b3, b4, b5, b6, b7], _ => exact ⟨_, _, _, _, _, _, _, _, rfl⟩
  have H8 := Aside0.mk h8
  have HBB : Aside0 (arrOf B = #[.bool b0, .bool b1, .bool b2, .bool b3, .bool b4, .bool b5, .bool b6, .bool b7]) := ⟨by rw [hb8]; rfl⟩
  clear h8 hb8
  rw [HBB.out] at HCALL
  go_enter Try.func56, Try.ntmps56
  go_wp2_with (first | ((with_reducible refine gate_dst (N := 12) rfl ?_); refine Kd.R_make (Kd.int .i64) _ 3 rfl (N := 12) rfl 35 _ _ rfl (l0.length : Int) rfl rfl Try.underlying35 (.int .i64 0) 8 info3 rfl (by decide) (by omega) 0 (ok := fun _ => True) (okp := fun _ => True) rfl (fun _ hk => hk) trivial H12.out.1 H12.out.2 (Below.refl _ _) (Nat.le_refl _) ?_; intro v430 w12 ho13 hb hg_ hnew_; clear hg_ hnew_; obtain ⟨A1, c1, hv, hc1, hC⟩ := Kd.R_reads ho13; rw [hv]; clear hv ho13; rw [Int.toNat_natCast, List.length_replicate] at hC hc1; rw [Int.toNat_natCast, List.length_replicate]; have HB := Aside0.mk hb; have HC1 := Aside0.mk hC; have HCC1 := Aside0.mk hc1; clear hb hC hc1) | (go_at_call 80; refine (HCALL.out _ _ _ HB.out HC1.out HCC1.out).mono ?_; rintro e w1 ⟨rfl, hb⟩))
  obtain ⟨g, hg⟩ : ∃ g, g = w1.heap.size := ⟨_, rfl⟩
  rw [← hg]
  have HW1 : Aside0 (Below w.heap.size w w1) := ⟨HB.out.trans (hb.mono HB.out.size)⟩
  have HG : Aside0 (w.heap.size ≤ g) := ⟨by rw [hg]; exact HW1.out.size⟩
  have HGS : Aside0 ((w1.alloc (.cells #[.bool b0, .bool b1, .bool b2, .bool b3, .bool b4, .bool b5, .bool b6, .bool b7] 91 (0, 0))).heap[g]? = some (.cells (arrOf B) 91 (0, 0))) := ⟨by rw [hg, HBB.out]; exact blk_new _ _⟩
  clear hb hg HCALL
  go_loopg [6, 17] l0.length (fun kq v6 v17 w' => ∃ (s x : Int), v6 = .int .i64 s ∧ v17 = .int .i64 x ∧ Aside0 (0 ≤ x ∧ kq + x.toNat = l0.length ∧ lengthFrom l0 B kq x.toNat s = r) ∧ Aside0 (w'.heap[g]? = some (.cells (arrOf B) 91 (0, 0))) ∧ Aside0 (Below w.heap.size w w'))
  case atStart => exact ⟨0, 0, rfl, rfl, ⟨by omega, by simp, HRES.out⟩, HGS, ⟨below_alloc HW1.out _⟩⟩
  case round =>
    obtain ⟨s, x, rfl, rfl, HA, HK, HBR⟩ := hrel
    by_cases hlt : x < (l0.length : Int)
    · have d0 : decide (x < (l0.length : Int)) = true := decide_eq_true hlt
      have HLT := Aside0.mk hlt
      obtain ⟨ad, e, hx0, hx1, hx2, hx3, hx4⟩ := at_T69 (Kd.C_below HR0.out HBR.out) x HA.out.1 hlt
      cases e
      have px := eq_true HA.out.1
      have qx := eq_true hlt
      clear hlt
      obtain ⟨k1, rfl⟩ : ∃ k1, gk = k1 + 1 := ⟨gk - 1, by have := HA.out; have := HLT.out; omega⟩
      have HXB := Aside0.mk (HALL.out x.toNat (by have := HA.out; have := HLT.out; omega))
      obtain ⟨a, ha⟩ : ∃ a : Int, a = (rd_T69 l0 x).f0 := ⟨_, rfl⟩
      rw [← ha] at hx0
      have HAB : Aside0 (0 ≤ a ∧ a ≤ 7) := ⟨by rw [ha]; exact HXB.out⟩
      have NA := Aside0.mk ha
      clear ha
      have pa := eq_true HAB.out.1
      have qa : (a < 8) = True := eq_true (by have := HAB.out; omega)
      have hgl : g < wr.heap.size := blk_lt HK.out
      have hxw : (wrap64 (x + 1)).toNat = x.toNat + 1 := by have := HA.out; have := HLT.out; have := HM0.out; unfold wrap64; omega
      have HXW := Aside0.mk hxw
      clear hxw
      cases hv : B.getD a.toNat false with
      | true =>
        have ha7 : wr.cell? ⟨g, a.toNat, none⟩ = some (.bool true) := (blk_cell HK.out _).trans ((arrOf_get (by have := HAB.out; have := H8.out; omega)).trans (by rw [hv]))
        have HV := Aside0.mk hv
        clear hv
        have AL : ∀ (o : Obj) (p : Addr) (v : Value), wr.cell? p = some v → (wr.alloc o).cell? p = some v := fun o p v h => ((below_alloc (Below.refl wr.heap.size wr) o).cell (World.block_lt_of_cell? wr _ h)).trans h
        have ha8 := AL (.cells #[.int .i64 a, .int .i64 (rd_T69 l0 x).f1, .int .i64 (rd_T69 l0 x).f2, .int .i64 (rd_T69 l0 x).f3, .int .i64 (rd_T69 l0 x).f4] 69 (0, 0)) _ _ ha7
        clear AL
        go_wp2
        go_roundg k1
        case measure => omega
        case rel => exact ⟨wrap64 (s + (rd_T69 l0 x).f2), wrap64 (x + 1), rfl, rfl, ⟨by have := HA.out; have := HXW.out; have := HLT.out; have := HM0.out; unfold wrap64; omega, by have := HA.out; have := HXW.out; omega, by
          rw [← HA.out.2.2, HXW.out]
          show _ = lengthFrom l0 B k1 (x.toNat + 1) (if B.getD (rd_T69 l0 x).f0.toNat false = true then wrap64 (s + (rd_T69 l0 x).f2) else s)
          rw [← NA.out, if_pos HV.out]⟩, ⟨blk_alloc HK.out _⟩, ⟨below_alloc HBR.out _⟩⟩
      | false =>
        have ha7 : wr.cell? ⟨g, a.toNat, none⟩ = some (.bool false) := (blk_cell HK.out _).trans ((arrOf_get (by have := HAB.out; have := H8.out; omega)).trans (by rw [hv]))
        have HV := Aside0.mk hv
        clear hv
        have AL : ∀ (o : Obj) (p : Addr) (v : Value), wr.cell? p = some v → (wr.alloc o).cell? p = some v := fun o p v h => ((below_alloc (Below.refl wr.heap.size wr) o).cell (World.block_lt_of_cell? wr _ h)).trans h
        have ha8 := AL (.cells #[.int .i64 a, .int .i64 (rd_T69 l0 x).f1, .int .i64 (rd_T69 l0 x).f2, .int .i64 (rd_T69 l0 x).f3, .int .i64 (rd_T69 l0 x).f4] 69 (0, 0)) _ _ ha7
        clear AL
        go_wp2
        go_roundg k1
        case measure => omega
        case rel => exact ⟨s, wrap64 (x + 1), rfl, rfl, ⟨by have := HA.out; have := HXW.out; have := HLT.out; have := HM0.out; unfold wrap64; omega, by have := HA.out; have := HXW.out; omega, by
          rw [← HA.out.2.2, HXW.out]
          show _ = lengthFrom l0 B k1 (x.toNat + 1) (if B.getD (rd_T69 l0 x).f0.toNat false = true then wrap64 (s + (rd_T69 l0 x).f2) else s)
          rw [← NA.out, if_neg (by rw [HV.out]; decide)]⟩, ⟨blk_alloc HK.out _⟩, ⟨below_alloc HBR.out _⟩⟩
    · have d0 : decide (x < (l0.length : Int)) = false := decide_eq_false hlt
      have HLT := Aside0.mk hlt
      clear hlt
      obtain rfl : gk = 0 := by have := HA.out; have := HLT.out; omega
      go_wp2
      go_ret
      exact ⟨by rw [← HA.out.2.2]; rfl, HBR.out⟩


/-! ### impl_legsAt: function 83 -/
def impl_legsAt.l0 : Nat → Int → List Int → List (S69) → Int → Int → Option (List Int)
  | 0, _, _, _, _, _ => none
  | k + 1, x1, x5, x8, x9, x10 => if x10 < x9 then (if 0 ≤ x10 then (if x10 < (x8.length : Int) then (if ((rd_T69 x8 x10).f0) = x1 then (if x5.length < 17592186044416 then (impl_legsAt.l0 k x1 (x5 ++ [x10]) x8 x9 (wrap64 (x10 + 1))) else (none)) else (if ((rd_T69 x8 x10).f1) = x1 then (if x5.length < 17592186044416 then (impl_legsAt.l0 k x1 (x5 ++ [x10]) x8 x9 (wrap64 (x10 + 1))) else (none)) else (impl_legsAt.l0 k x1 x5 x8 x9 (wrap64 (x10 + 1))))) else (none)) else (none)) else (some x5)
def impl_legsAt.f (k : Nat) (l0 : List (S69)) (a1 : Int) : Option (List Int) := impl_legsAt.l0 k a1 ([] : List Int) l0 (l0.length : Int) 0
theorem impl_legsAt.mono_l : ∀ k, (∀ y0 y1 y2 y3 y4, LeO (impl_legsAt.l0 k y0 y1 y2 y3 y4) (impl_legsAt.l0 (k + 1) y0 y1 y2 y3 y4))
  | 0 => fun _ _ _ _ _ r h => by simp [impl_legsAt.l0] at h
  | k + 1 => by
    have ih0 := impl_legsAt.mono_l k
    · intro y0 y1 y2 y3 y4
      unfold impl_legsAt.l0
      repeat' first
      | (with_reducible exact ih0 _ _ _ _ _)
      | (with_reducible exact LeO.refl _)
      | (with_reducible exact LeO.none _)
      | (with_reducible refine LeO.ite ?_ ?_)
      | (with_reducible refine LeO.bind ?_ (fun _ => ?_))
      | exact ih0 _ _ _ _ _
      | exact LeO.none _
      | refine LeO.ite ?_ ?_
      | refine LeO.bind ?_ (fun _ => ?_)
theorem impl_legsAt.mono : ∀ a0 a1 k, LeO (impl_legsAt.f k a0 a1) (impl_legsAt.f (k + 1) a0 a1) := by
  intro a0 a1 k
  have ih0 := impl_legsAt.mono_l k
  unfold impl_legsAt.f
  repeat' first
      | (with_reducible exact ih0 _ _ _ _ _)
      | (with_reducible exact LeO.refl _)
      | (with_reducible exact LeO.none _)
      | (with_reducible refine LeO.ite ?_ ?_)
      | (with_reducible refine LeO.bind ?_ (fun _ => ?_))
      | exact ih0 _ _ _ _ _
      | exact LeO.none _
      | refine LeO.ite ?_ ?_
      | refine LeO.bind ?_ (fun _ => ?_)
set_option maxHeartbeats 8000000 in
set_option maxRecDepth 100000 in
theorem impl_legsAt.calls (k : Nat) (A0 : Option Addr) (c0 : Nat) (l0 : List (S69)) (a1 : Int) (r : List Int) (w : World) (hr0 : Kd.C k69 w A0 l0.length l0) (hc0 : l0.length ≤ c0) (h : impl_legsAt.f k l0 a1 = some r) :
    Calls Try.prog 83 #[.slice A0 l0.length c0, .int .i64 a1] w fun e w' => ∃ v0_ : Value, e = .returned (v0_) ∧ Kd.R (Kd.int .i64) 3 w' w.heap.size (fun _ => True) v0_ r ∧ Below w.heap.size w w' := by
  have hu69 := Try.underlying69
  have HR0 := Aside0.mk hr0
  have HC0 := Aside0.mk hc0
  clear hr0 hc0
  have HB := Aside0.mk (Below.refl w.heap.size w)
  have H : (impl_legsAt.l0 k a1 ([] : List Int) l0 (l0.length : Int) 0) = some r := h
  clear h
  have H' := Aside0.mk H
  clear H
  go_enter Try.func83, Try.ntmps83
  go_wp2
  go_loopg [5, 10] k (fun kq v5 v10 w' => ∃ (x5_1 : List Int) (x10_1 : Int), v10 = .int .i64 x10_1 ∧ Aside0 (impl_legsAt.l0 kq a1 x5_1 l0 (l0.length : Int) x10_1 = some r) ∧ Aside0 (kq ≤ k) ∧ Aside0 (Kd.R (Kd.int .i64) 3 w' w.heap.size (fun _ => True) v5 x5_1) ∧ Aside0 (Below w.heap.size w w'))
  case atStart => exact ⟨(([] : List Int)), (0), (by first | rfl | (simp; done) | (simp [*]; done)), H', ⟨Nat.le_refl _⟩, ⟨by first | exact Kd.R_nil _ _ _ _ _ | exact Kd.N_nil _ _ _ _ _ | exact Kd.V_nil _ _ _ _ _ | exact Kd.Q_nil _ _ _ _ _ | exact Kd.S_nil _ _ _ _ _⟩, ⟨by repeat (first | (with_reducible first | exact HB.out | apply below_alloc | apply pw_below_drewN | apply below_drew1) | exact HB.out)⟩⟩
  case round =>
    clear H'
    try clear p2
    obtain ⟨x5_1, x10_1, rfl, HA, HK1, HO_5, HB⟩ := hrel
    cases gk with
    | zero => exact absurd HA.out (by simp [impl_legsAt.l0])
    | succ k1 =>
      have H := HA.out
      clear HA
      simp only [impl_legsAt.l0] at H
      by_cases c3 : x10_1 < (l0.length : Int)
      · rw [if_pos c3] at H
        have c3b0 : decide (x10_1 < (l0.length : Int)) = true := decide_eq_true c3
        clear c3
        by_cases c4 : 0 ≤ x10_1
        · rw [if_pos c4] at H
          have c4b0 : decide (0 ≤ x10_1) = true := decide_eq_true c4
          clear c4
          by_cases c5 : x10_1 < (l0.length : Int)
          · rw [if_pos c5] at H
            have c5b0 : decide (x10_1 < (l0.length : Int)) = true := decide_eq_true c5
            clear c5
            by_cases c6 : ((rd_T69 l0 x10_1).f0) = a1
            · rw [if_pos c6] at H
              have c6b0 : (((rd_T69 l0 x10_1).f0) == a1) = true := beq_iff_eq.mpr c6
              have c6b1 : (((rd_T69 l0 x10_1).f0) != a1) = false := bne_eq_false_iff_eq.mpr c6
              clear c6
              by_cases c7 : x5_1.length < 17592186044416
              · rw [if_pos c7] at H
                have LMc7 := Aside0.mk c7
                clear c7
                obtain ⟨y220, hy220⟩ : ∃ y_ : List Int, y_ = (x5_1 ++ [x10_1]) := ⟨_, rfl⟩
                replace H : (impl_legsAt.l0 k1 a1 y220 l0 (l0.length : Int) (wrap64 (x10_1 + 1))) = some r := by first | (rw [hy220]; with_reducible exact H) | (have H2_ := (Option.bind_some _ _).symm.trans H; rw [hy220]; with_reducible exact H2_) | (have H2_ := (Option.bind_some _ _).symm.trans H; with_reducible exact H2_) | with_reducible exact H | (rw [hy220]; exact H) | exact H
                have Ny220 := Aside0.mk hy220
                clear hy220
                have H' := Aside0.mk H
                clear H
                have p218 : 0 ≤ (x10_1 : Int) := of_decide_eq_true (by first | (with_reducible assumption) | assumption)
                have q218 : x10_1 < (l0.length : Int) := of_decide_eq_true (by first | (with_reducible assumption) | assumption)
                obtain ⟨ad218, e218, hx218_0, hx218_1, hx218_2, hx218_3, hx218_4⟩ := at_T69 HR0.out x10_1 p218 q218
                cases e218
                replace hx218_0 := (HB.out.cell (World.block_lt_of_cell? w _ hx218_0)).trans hx218_0
                replace hx218_1 := (HB.out.cell (World.block_lt_of_cell? w _ hx218_1)).trans hx218_1
                replace hx218_2 := (HB.out.cell (World.block_lt_of_cell? w _ hx218_2)).trans hx218_2
                replace hx218_3 := (HB.out.cell (World.block_lt_of_cell? w _ hx218_3)).trans hx218_3
                replace hx218_4 := (HB.out.cell (World.block_lt_of_cell? w _ hx218_4)).trans hx218_4
                replace p218 := eq_true p218
                replace q218 := eq_true q218
                go_wp2_with (first | ((with_reducible refine gate_dst (N := 7) rfl ?_); refine box_event ?hg (N := 7) ?hd (cs := #[.int .i64 0, .int .i64 0, .int .i64 0, .int .i64 0, .int .i64 0]) (t := 69) ?hr ?_; (case hd => rfl); (case hg => rfl); (case hr => first | (go_simp; done) | (go_simp; rfl)); intro gb219 hg w8 hbox hb; have n0_ := Aside0.mk (Kd.R_below (by (with_reducible repeat (first | apply Kd.R_alloc | apply Kd.R_drewN | apply Kd.R_drew)); exact HO_5.out) hb); have n1_ := Aside0.mk (below_step (by repeat (first | (with_reducible first | exact HB.out | apply below_alloc | apply pw_below_drewN | apply below_drew1) | exact HB.out)) hb); have n2_ := Aside0.mk (hbox); have n3_ := Aside0.mk ((by rw [hg]; exact (below_size (by repeat (first | (with_reducible first | exact HB.out | apply below_alloc | apply pw_below_drewN | apply below_drew1) | exact HB.out))) : w.heap.size ≤ gb219)); have n4_ := Aside0.mk ((by rw [hg]; exact (below_size (by repeat (first | (with_reducible first | exact HB.out | apply below_alloc | apply pw_below_drewN | apply below_drew1) | exact HB.out))) : w.heap.size ≤ gb219)); clear HO_5; clear HB; have HO_5 := n0_; have HB := n1_; have BK219 := n2_; have GW219 := n3_; have GE219 := n4_; clear n0_ n1_ n2_ n3_ n4_; clear hb hbox hg; have hcz9_0 : w8.cell? ⟨gb219, 0, none⟩ = some (.int .i64 0) := (blk_cell BK219.out 0).trans rfl; have hcz9_1 : w8.cell? ⟨gb219, 1, none⟩ = some (.int .i64 0) := (blk_cell BK219.out 1).trans rfl; have hcz9_2 : w8.cell? ⟨gb219, 2, none⟩ = some (.int .i64 0) := (blk_cell BK219.out 2).trans rfl; have hcz9_3 : w8.cell? ⟨gb219, 3, none⟩ = some (.int .i64 0) := (blk_cell BK219.out 3).trans rfl; have hcz9_4 : w8.cell? ⟨gb219, 4, none⟩ = some (.int .i64 0) := (blk_cell BK219.out 4).trans rfl; have hfz9_0 := blk_frozen BK219.out 0; have hfz9_1 := blk_frozen BK219.out 1; have hfz9_2 := blk_frozen BK219.out 2; have hfz9_3 := blk_frozen BK219.out 3; have hfz9_4 := blk_frozen BK219.out 4) | ((with_reducible refine gate_builtin (b := .append) (xs := #[.tmp 25, .tmp 27]) rfl ?_); at_builtin; refine Kd.R_append (Kd.int .i64) (w0 := w) w.heap.size rfl (.tmp 25) (.tmp 27) 35 3 (.int .i64 0) 8 rfl Try.underlying35 info3 rfl (by decide) (by omega) u5 x5_1 x10_1 [.int .i64 x10_1] (fun _ => True) (fun _ => False) rfl (by first | (go_simp; done) | (go_simp; rfl)) ?aP (fun _ hk => hk.elim) ?aF ?aO ?aB ?aS ?aL ?_; (case aP => exact rfl); (case aB => exact (by repeat (first | (with_reducible first | exact HB.out | apply below_alloc | apply pw_below_drewN | apply below_drew1 | refine below_set ?_ GE219.out) | exact HB.out))); (case aF => exact (fun _ _ => trivial)); (case aO => exact (by (with_reducible repeat (first | apply Kd.R_alloc | apply Kd.R_drewN | apply Kd.R_drew)); exact Kd.R_mono (Kd.R_far (p := ⟨gb219, 4, none⟩) (Kd.R_far (p := ⟨gb219, 3, none⟩) (Kd.R_far (p := ⟨gb219, 2, none⟩) (Kd.R_far (p := ⟨gb219, 1, none⟩) (Kd.R_far (p := ⟨gb219, 0, none⟩) (Kd.R_types HO_5.out BK219.out (by decide)) (fun _ hk => hk.2) (.int .i64 ((rd_T69 l0 x10_1).f0))) (fun _ hk => hk.2) (.int .i64 ((rd_T69 l0 x10_1).f1))) (fun _ hk => hk.2) (.int .i64 ((rd_T69 l0 x10_1).f2))) (fun _ hk => hk.2) (.int .i64 ((rd_T69 l0 x10_1).f3))) (fun _ hk => hk.2) (.int .i64 ((rd_T69 l0 x10_1).f4))) (fun _ hk => trivial))); (case aS => exact (below_size (by repeat (first | (with_reducible first | exact HB.out | apply below_alloc | apply pw_below_drewN | apply below_drew1 | refine below_set ?_ GE219.out) | exact HB.out)))); (case aL => have := LMc7.out; omega); intro v221 w10 ho hb hg hat; rw [← Ny220.out] at ho; have n0_ := Aside0.mk (blk_grown (g := gb219) (o := .cells #[.int .i64 ((rd_T69 l0 x10_1).f0), .int .i64 ((rd_T69 l0 x10_1).f1), .int .i64 ((rd_T69 l0 x10_1).f2), .int .i64 ((rd_T69 l0 x10_1).f3), .int .i64 ((rd_T69 l0 x10_1).f4)] 69 (0, 0)) (by (with_reducible repeat (first | refine blk_drewN ?_ _ | refine blk_drew ?_ | refine blk_alloc ?_ _)); refine blk_put (cs := #[.int .i64 ((rd_T69 l0 x10_1).f0), .int .i64 ((rd_T69 l0 x10_1).f1), .int .i64 ((rd_T69 l0 x10_1).f2), .int .i64 ((rd_T69 l0 x10_1).f3), .int .i64 0]) ?_ 4 _ rfl; (with_reducible repeat (first | refine blk_drewN ?_ _ | refine blk_drew ?_ | refine blk_alloc ?_ _)); refine blk_put (cs := #[.int .i64 ((rd_T69 l0 x10_1).f0), .int .i64 ((rd_T69 l0 x10_1).f1), .int .i64 ((rd_T69 l0 x10_1).f2), .int .i64 0, .int .i64 0]) ?_ 3 _ rfl; (with_reducible repeat (first | refine blk_drewN ?_ _ | refine blk_drew ?_ | refine blk_alloc ?_ _)); refine blk_put (cs := #[.int .i64 ((rd_T69 l0 x10_1).f0), .int .i64 ((rd_T69 l0 x10_1).f1), .int .i64 0, .int .i64 0, .int .i64 0]) ?_ 2 _ rfl; (with_reducible repeat (first | refine blk_drewN ?_ _ | refine blk_drew ?_ | refine blk_alloc ?_ _)); refine blk_put (cs := #[.int .i64 ((rd_T69 l0 x10_1).f0), .int .i64 0, .int .i64 0, .int .i64 0, .int .i64 0]) ?_ 1 _ rfl; (with_reducible repeat (first | refine blk_drewN ?_ _ | refine blk_drew ?_ | refine blk_alloc ?_ _)); refine blk_put (cs := #[.int .i64 0, .int .i64 0, .int .i64 0, .int .i64 0, .int .i64 0]) ?_ 0 _ rfl; (with_reducible repeat (first | refine blk_drewN ?_ _ | refine blk_drew ?_ | refine blk_alloc ?_ _)); exact BK219.out) hg (Kd.R_ne HO_5.out BK219.out (by decide))); have n1_ := Aside0.mk (hb); have n2_ := Aside0.mk (ho); clear BK219; clear HB; clear HO_5; have BK219 := n0_; have HB := n1_; have HO222 := n2_; clear n0_ n1_ n2_; clear ho hb hg hat))
                go_roundg k1
                case measure => have := HK1.out; omega
                case rel => exact ⟨(y220), (wrap64 (x10_1 + 1)), (by first | rfl | (simp; done) | (simp [*]; done)), H', ⟨by have := HK1.out; omega⟩, ⟨by (with_reducible repeat (first | apply Kd.R_alloc | apply Kd.R_drewN | apply Kd.R_drew)); exact HO222.out⟩, ⟨by repeat (first | (with_reducible first | exact HB.out | apply below_alloc | apply pw_below_drewN | apply below_drew1 | refine below_set ?_ GE219.out) | exact HB.out)⟩⟩
              · rw [if_neg c7] at H
                exact absurd H (by simp)
            · rw [if_neg c6] at H
              have c6b0 : (((rd_T69 l0 x10_1).f0) == a1) = false := beq_eq_false_iff_ne.mpr c6
              have c6b1 : (((rd_T69 l0 x10_1).f0) != a1) = true := bne_iff_ne.mpr c6
              by_cases c11 : ((rd_T69 l0 x10_1).f1) = a1
              · rw [if_pos c11] at H
                have c11b0 : (((rd_T69 l0 x10_1).f1) == a1) = true := beq_iff_eq.mpr c11
                have c11b1 : (((rd_T69 l0 x10_1).f1) != a1) = false := bne_eq_false_iff_eq.mpr c11
                clear c11
                by_cases c12 : x5_1.length < 17592186044416
                · rw [if_pos c12] at H
                  have LMc12 := Aside0.mk c12
                  clear c12
                  obtain ⟨y223, hy223⟩ : ∃ y_ : List Int, y_ = (x5_1 ++ [x10_1]) := ⟨_, rfl⟩
                  replace H : (impl_legsAt.l0 k1 a1 y223 l0 (l0.length : Int) (wrap64 (x10_1 + 1))) = some r := by first | (rw [hy223]; with_reducible exact H) | (have H2_ := (Option.bind_some _ _).symm.trans H; rw [hy223]; with_reducible exact H2_) | (have H2_ := (Option.bind_some _ _).symm.trans H; with_reducible exact H2_) | with_reducible exact H | (rw [hy223]; exact H) | exact H
                  have Ny223 := Aside0.mk hy223
                  clear hy223
                  have H' := Aside0.mk H
                  clear H
                  have p218 : 0 ≤ (x10_1 : Int) := of_decide_eq_true (by first | (with_reducible assumption) | assumption)
                  have q218 : x10_1 < (l0.length : Int) := of_decide_eq_true (by first | (with_reducible assumption) | assumption)
                  obtain ⟨ad218, e218, hx218_0, hx218_1, hx218_2, hx218_3, hx218_4⟩ := at_T69 HR0.out x10_1 p218 q218
                  cases e218
                  replace hx218_0 := (HB.out.cell (World.block_lt_of_cell? w _ hx218_0)).trans hx218_0
                  replace hx218_1 := (HB.out.cell (World.block_lt_of_cell? w _ hx218_1)).trans hx218_1
                  replace hx218_2 := (HB.out.cell (World.block_lt_of_cell? w _ hx218_2)).trans hx218_2
                  replace hx218_3 := (HB.out.cell (World.block_lt_of_cell? w _ hx218_3)).trans hx218_3
                  replace hx218_4 := (HB.out.cell (World.block_lt_of_cell? w _ hx218_4)).trans hx218_4
                  replace p218 := eq_true p218
                  replace q218 := eq_true q218
                  go_wp2_with (first | ((with_reducible refine gate_dst (N := 7) rfl ?_); refine box_event ?hg (N := 7) ?hd (cs := #[.int .i64 0, .int .i64 0, .int .i64 0, .int .i64 0, .int .i64 0]) (t := 69) ?hr ?_; (case hd => rfl); (case hg => rfl); (case hr => first | (go_simp; done) | (go_simp; rfl)); intro gb219 hg w13 hbox hb; have n0_ := Aside0.mk (Kd.R_below (by (with_reducible repeat (first | apply Kd.R_alloc | apply Kd.R_drewN | apply Kd.R_drew)); exact HO_5.out) hb); have n1_ := Aside0.mk (below_step (by repeat (first | (with_reducible first | exact HB.out | apply below_alloc | apply pw_below_drewN | apply below_drew1) | exact HB.out)) hb); have n2_ := Aside0.mk (hbox); have n3_ := Aside0.mk ((by rw [hg]; exact (below_size (by repeat (first | (with_reducible first | exact HB.out | apply below_alloc | apply pw_below_drewN | apply below_drew1) | exact HB.out))) : w.heap.size ≤ gb219)); have n4_ := Aside0.mk ((by rw [hg]; exact (below_size (by repeat (first | (with_reducible first | exact HB.out | apply below_alloc | apply pw_below_drewN | apply below_drew1) | exact HB.out))) : w.heap.size ≤ gb219)); clear HO_5; clear HB; have HO_5 := n0_; have HB := n1_; have BK219 := n2_; have GW219 := n3_; have GE219 := n4_; clear n0_ n1_ n2_ n3_ n4_; clear hb hbox hg; have hcz14_0 : w13.cell? ⟨gb219, 0, none⟩ = some (.int .i64 0) := (blk_cell BK219.out 0).trans rfl; have hcz14_1 : w13.cell? ⟨gb219, 1, none⟩ = some (.int .i64 0) := (blk_cell BK219.out 1).trans rfl; have hcz14_2 : w13.cell? ⟨gb219, 2, none⟩ = some (.int .i64 0) := (blk_cell BK219.out 2).trans rfl; have hcz14_3 : w13.cell? ⟨gb219, 3, none⟩ = some (.int .i64 0) := (blk_cell BK219.out 3).trans rfl; have hcz14_4 : w13.cell? ⟨gb219, 4, none⟩ = some (.int .i64 0) := (blk_cell BK219.out 4).trans rfl; have hfz14_0 := blk_frozen BK219.out 0; have hfz14_1 := blk_frozen BK219.out 1; have hfz14_2 := blk_frozen BK219.out 2; have hfz14_3 := blk_frozen BK219.out 3; have hfz14_4 := blk_frozen BK219.out 4) | ((with_reducible refine gate_builtin (b := .append) (xs := #[.tmp 25, .tmp 27]) rfl ?_); at_builtin; refine Kd.R_append (Kd.int .i64) (w0 := w) w.heap.size rfl (.tmp 25) (.tmp 27) 35 3 (.int .i64 0) 8 rfl Try.underlying35 info3 rfl (by decide) (by omega) u5 x5_1 x10_1 [.int .i64 x10_1] (fun _ => True) (fun _ => False) rfl (by first | (go_simp; done) | (go_simp; rfl)) ?aP (fun _ hk => hk.elim) ?aF ?aO ?aB ?aS ?aL ?_; (case aP => exact rfl); (case aB => exact (by repeat (first | (with_reducible first | exact HB.out | apply below_alloc | apply pw_below_drewN | apply below_drew1 | refine below_set ?_ GE219.out) | exact HB.out))); (case aF => exact (fun _ _ => trivial)); (case aO => exact (by (with_reducible repeat (first | apply Kd.R_alloc | apply Kd.R_drewN | apply Kd.R_drew)); exact Kd.R_mono (Kd.R_far (p := ⟨gb219, 4, none⟩) (Kd.R_far (p := ⟨gb219, 3, none⟩) (Kd.R_far (p := ⟨gb219, 2, none⟩) (Kd.R_far (p := ⟨gb219, 1, none⟩) (Kd.R_far (p := ⟨gb219, 0, none⟩) (Kd.R_types HO_5.out BK219.out (by decide)) (fun _ hk => hk.2) (.int .i64 ((rd_T69 l0 x10_1).f0))) (fun _ hk => hk.2) (.int .i64 ((rd_T69 l0 x10_1).f1))) (fun _ hk => hk.2) (.int .i64 ((rd_T69 l0 x10_1).f2))) (fun _ hk => hk.2) (.int .i64 ((rd_T69 l0 x10_1).f3))) (fun _ hk => hk.2) (.int .i64 ((rd_T69 l0 x10_1).f4))) (fun _ hk => trivial))); (case aS => exact (below_size (by repeat (first | (with_reducible first | exact HB.out | apply below_alloc | apply pw_below_drewN | apply below_drew1 | refine below_set ?_ GE219.out) | exact HB.out)))); (case aL => have := LMc12.out; omega); intro v224 w15 ho hb hg hat; rw [← Ny223.out] at ho; have n0_ := Aside0.mk (blk_grown (g := gb219) (o := .cells #[.int .i64 ((rd_T69 l0 x10_1).f0), .int .i64 ((rd_T69 l0 x10_1).f1), .int .i64 ((rd_T69 l0 x10_1).f2), .int .i64 ((rd_T69 l0 x10_1).f3), .int .i64 ((rd_T69 l0 x10_1).f4)] 69 (0, 0)) (by (with_reducible repeat (first | refine blk_drewN ?_ _ | refine blk_drew ?_ | refine blk_alloc ?_ _)); refine blk_put (cs := #[.int .i64 ((rd_T69 l0 x10_1).f0), .int .i64 ((rd_T69 l0 x10_1).f1), .int .i64 ((rd_T69 l0 x10_1).f2), .int .i64 ((rd_T69 l0 x10_1).f3), .int .i64 0]) ?_ 4 _ rfl; (with_reducible repeat (first | refine blk_drewN ?_ _ | refine blk_drew ?_ | refine blk_alloc ?_ _)); refine blk_put (cs := #[.int .i64 ((rd_T69 l0 x10_1).f0), .int .i64 ((rd_T69 l0 x10_1).f1), .int .i64 ((rd_T69 l0 x10_1).f2), .int .i64 0, .int .i64 0]) ?_ 3 _ rfl; (with_reducible repeat (first | refine blk_drewN ?_ _ | refine blk_drew ?_ | refine blk_alloc ?_ _)); refine blk_put (cs := #[.int .i64 ((rd_T69 l0 x10_1).f0), .int .i64 ((rd_T69 l0 x10_1).f1), .int .i64 0, .int .i64 0, .int .i64 0]) ?_ 2 _ rfl; (with_reducible repeat (first | refine blk_drewN ?_ _ | refine blk_drew ?_ | refine blk_alloc ?_ _)); refine blk_put (cs := #[.int .i64 ((rd_T69 l0 x10_1).f0), .int .i64 0, .int .i64 0, .int .i64 0, .int .i64 0]) ?_ 1 _ rfl; (with_reducible repeat (first | refine blk_drewN ?_ _ | refine blk_drew ?_ | refine blk_alloc ?_ _)); refine blk_put (cs := #[.int .i64 0, .int .i64 0, .int .i64 0, .int .i64 0, .int .i64 0]) ?_ 0 _ rfl; (with_reducible repeat (first | refine blk_drewN ?_ _ | refine blk_drew ?_ | refine blk_alloc ?_ _)); exact BK219.out) hg (Kd.R_ne HO_5.out BK219.out (by decide))); have n1_ := Aside0.mk (hb); have n2_ := Aside0.mk (ho); clear BK219; clear HB; clear HO_5; have BK219 := n0_; have HB := n1_; have HO225 := n2_; clear n0_ n1_ n2_; clear ho hb hg hat))
                  go_roundg k1
                  case measure => have := HK1.out; omega
                  case rel => exact ⟨(y223), (wrap64 (x10_1 + 1)), (by first | rfl | (simp; done) | (simp [*]; done)), H', ⟨by have := HK1.out; omega⟩, ⟨by (with_reducible repeat (first | apply Kd.R_alloc | apply Kd.R_drewN | apply Kd.R_drew)); exact HO225.out⟩, ⟨by repeat (first | (with_reducible first | exact HB.out | apply below_alloc | apply pw_below_drewN | apply below_drew1 | refine below_set ?_ GE219.out) | exact HB.out)⟩⟩
                · rw [if_neg c12] at H
                  exact absurd H (by simp)
              · rw [if_neg c11] at H
                have c11b0 : (((rd_T69 l0 x10_1).f1) == a1) = false := beq_eq_false_iff_ne.mpr c11
                have c11b1 : (((rd_T69 l0 x10_1).f1) != a1) = true := bne_iff_ne.mpr c11
                have H' := Aside0.mk H
                clear H
                have p218 : 0 ≤ (x10_1 : Int) := of_decide_eq_true (by first | (with_reducible assumption) | assumption)
                have q218 : x10_1 < (l0.length : Int) := of_decide_eq_true (by first | (with_reducible assumption) | assumption)
                obtain ⟨ad218, e218, hx218_0, hx218_1, hx218_2, hx218_3, hx218_4⟩ := at_T69 HR0.out x10_1 p218 q218
                cases e218
                replace hx218_0 := (HB.out.cell (World.block_lt_of_cell? w _ hx218_0)).trans hx218_0
                replace hx218_1 := (HB.out.cell (World.block_lt_of_cell? w _ hx218_1)).trans hx218_1
                replace hx218_2 := (HB.out.cell (World.block_lt_of_cell? w _ hx218_2)).trans hx218_2
                replace hx218_3 := (HB.out.cell (World.block_lt_of_cell? w _ hx218_3)).trans hx218_3
                replace hx218_4 := (HB.out.cell (World.block_lt_of_cell? w _ hx218_4)).trans hx218_4
                replace p218 := eq_true p218
                replace q218 := eq_true q218
                go_wp2_with (first | ((with_reducible refine gate_dst (N := 7) rfl ?_); refine box_event ?hg (N := 7) ?hd (cs := #[.int .i64 0, .int .i64 0, .int .i64 0, .int .i64 0, .int .i64 0]) (t := 69) ?hr ?_; (case hd => rfl); (case hg => rfl); (case hr => first | (go_simp; done) | (go_simp; rfl)); intro gb219 hg w16 hbox hb; have n0_ := Aside0.mk (Kd.R_below (by (with_reducible repeat (first | apply Kd.R_alloc | apply Kd.R_drewN | apply Kd.R_drew)); exact HO_5.out) hb); have n1_ := Aside0.mk (below_step (by repeat (first | (with_reducible first | exact HB.out | apply below_alloc | apply pw_below_drewN | apply below_drew1) | exact HB.out)) hb); have n2_ := Aside0.mk (hbox); have n3_ := Aside0.mk ((by rw [hg]; exact (below_size (by repeat (first | (with_reducible first | exact HB.out | apply below_alloc | apply pw_below_drewN | apply below_drew1) | exact HB.out))) : w.heap.size ≤ gb219)); have n4_ := Aside0.mk ((by rw [hg]; exact (below_size (by repeat (first | (with_reducible first | exact HB.out | apply below_alloc | apply pw_below_drewN | apply below_drew1) | exact HB.out))) : w.heap.size ≤ gb219)); clear HO_5; clear HB; have HO_5 := n0_; have HB := n1_; have BK219 := n2_; have GW219 := n3_; have GE219 := n4_; clear n0_ n1_ n2_ n3_ n4_; clear hb hbox hg; have hcz17_0 : w16.cell? ⟨gb219, 0, none⟩ = some (.int .i64 0) := (blk_cell BK219.out 0).trans rfl; have hcz17_1 : w16.cell? ⟨gb219, 1, none⟩ = some (.int .i64 0) := (blk_cell BK219.out 1).trans rfl; have hcz17_2 : w16.cell? ⟨gb219, 2, none⟩ = some (.int .i64 0) := (blk_cell BK219.out 2).trans rfl; have hcz17_3 : w16.cell? ⟨gb219, 3, none⟩ = some (.int .i64 0) := (blk_cell BK219.out 3).trans rfl; have hcz17_4 : w16.cell? ⟨gb219, 4, none⟩ = some (.int .i64 0) := (blk_cell BK219.out 4).trans rfl; have hfz17_0 := blk_frozen BK219.out 0; have hfz17_1 := blk_frozen BK219.out 1; have hfz17_2 := blk_frozen BK219.out 2; have hfz17_3 := blk_frozen BK219.out 3; have hfz17_4 := blk_frozen BK219.out 4))
                go_roundg k1
                case measure => have := HK1.out; omega
                case rel => exact ⟨(x5_1), (wrap64 (x10_1 + 1)), (by first | rfl | (simp; done) | (simp [*]; done)), H', ⟨by have := HK1.out; omega⟩, ⟨by (with_reducible repeat (first | apply Kd.R_alloc | apply Kd.R_drewN | apply Kd.R_drew)); exact Kd.R_mono (Kd.R_far (p := ⟨gb219, 4, none⟩) (Kd.R_far (p := ⟨gb219, 3, none⟩) (Kd.R_far (p := ⟨gb219, 2, none⟩) (Kd.R_far (p := ⟨gb219, 1, none⟩) (Kd.R_far (p := ⟨gb219, 0, none⟩) (Kd.R_types HO_5.out BK219.out (by decide)) (fun _ hk => hk.2) (.int .i64 ((rd_T69 l0 x10_1).f0))) (fun _ hk => hk.2) (.int .i64 ((rd_T69 l0 x10_1).f1))) (fun _ hk => hk.2) (.int .i64 ((rd_T69 l0 x10_1).f2))) (fun _ hk => hk.2) (.int .i64 ((rd_T69 l0 x10_1).f3))) (fun _ hk => hk.2) (.int .i64 ((rd_T69 l0 x10_1).f4))) (fun _ hk => trivial)⟩, ⟨by repeat (first | (with_reducible first | exact HB.out | apply below_alloc | apply pw_below_drewN | apply below_drew1 | refine below_set ?_ GE219.out) | exact HB.out)⟩⟩
          · rw [if_neg c5] at H
            exact absurd H (by simp)
        · rw [if_neg c4] at H
          exact absurd H (by simp)
      · rw [if_neg c3] at H
        have c3b0 : decide (x10_1 < (l0.length : Int)) = false := decide_eq_false c3
        clear c3
        obtain rfl := Option.some.inj H
        go_wp2
        go_ret
        exact ⟨_, by first | rfl | (simp [errW_none, errW_some] <;> rfl) | (simp [*, errW_none, errW_some] <;> rfl), by (with_reducible repeat (first | apply Kd.R_alloc | apply Kd.R_drewN | apply Kd.R_drew)); exact HO_5.out, by repeat (first | (with_reducible first | exact HB.out | apply below_alloc | apply pw_below_drewN | apply below_drew1) | exact HB.out)⟩

-- NOT PRINTED: function 98 (slices_IndexFunc_int_int)

-- NOT PRINTED: function 84 (slices_ContainsFunc_int_int)

/-! ### slices_Index_int_int: function 100 -/
def slices_Index_int_int.l0 : Nat → List Int → Int → Int → Int → Option (Int)
  | 0, _, _, _, _ => none
  | k + 1, x0, x1, x7, x8 => if x8 < x7 then (if 0 ≤ x8 then (if x8 < (x0.length : Int) then (if x1 = (rd x0 x8) then (some x8) else (slices_Index_int_int.l0 k x0 x1 x7 (wrap64 (x8 + 1)))) else (none)) else (none)) else (some (-1))
def slices_Index_int_int.f (k : Nat) (l0 : List Int) (a1 : Int) : Option (Int) := slices_Index_int_int.l0 k l0 a1 (l0.length : Int) 0
theorem slices_Index_int_int.mono_l : ∀ k, (∀ y0 y1 y2 y3, LeO (slices_Index_int_int.l0 k y0 y1 y2 y3) (slices_Index_int_int.l0 (k + 1) y0 y1 y2 y3))
  | 0 => fun _ _ _ _ r h => by simp [slices_Index_int_int.l0] at h
  | k + 1 => by
    have ih0 := slices_Index_int_int.mono_l k
    · intro y0 y1 y2 y3
      unfold slices_Index_int_int.l0
      repeat' first
      | (with_reducible exact ih0 _ _ _ _)
      | (with_reducible exact LeO.refl _)
      | (with_reducible exact LeO.none _)
      | (with_reducible refine LeO.ite ?_ ?_)
      | (with_reducible refine LeO.bind ?_ (fun _ => ?_))
      | exact ih0 _ _ _ _
      | exact LeO.none _
      | refine LeO.ite ?_ ?_
      | refine LeO.bind ?_ (fun _ => ?_)
theorem slices_Index_int_int.mono : ∀ a0 a1 k, LeO (slices_Index_int_int.f k a0 a1) (slices_Index_int_int.f (k + 1) a0 a1) := by
  intro a0 a1 k
  have ih0 := slices_Index_int_int.mono_l k
  unfold slices_Index_int_int.f
  repeat' first
      | (with_reducible exact ih0 _ _ _ _)
      | (with_reducible exact LeO.refl _)
      | (with_reducible exact LeO.none _)
      | (with_reducible refine LeO.ite ?_ ?_)
      | (with_reducible refine LeO.bind ?_ (fun _ => ?_))
      | exact ih0 _ _ _ _
      | exact LeO.none _
      | refine LeO.ite ?_ ?_
      | refine LeO.bind ?_ (fun _ => ?_)
set_option maxHeartbeats 8000000 in
set_option maxRecDepth 100000 in
theorem slices_Index_int_int.calls (k : Nat) (A0 : Option Addr) (c0 : Nat) (l0 : List Int) (a1 : Int) (r : Int) (w : World) (hr0 : Kd.C (Kd.int .i64) w A0 l0.length l0) (hc0 : l0.length ≤ c0) (h : slices_Index_int_int.f k l0 a1 = some r) :
    Calls Try.prog 100 #[.slice A0 l0.length c0, .int .i64 a1] w fun e w' => e = .returned (.int .i64 r) ∧ Drawn0 w w' := by
  have HR0 := Aside0.mk hr0
  have HC0 := Aside0.mk hc0
  clear hr0 hc0
  have H : (slices_Index_int_int.l0 k l0 a1 (l0.length : Int) 0) = some r := h
  clear h
  have H' := Aside0.mk H
  clear H
  go_enter Try.func100, Try.ntmps100
  go_wp2
  go_loopg [8] k (fun kq v8 w' => ∃ (x8_1 : Int), v8 = .int .i64 x8_1 ∧ Aside0 (slices_Index_int_int.l0 kq l0 a1 (l0.length : Int) x8_1 = some r) ∧ Aside0 (kq ≤ k) ∧ Drawn0 w w')
  case atStart => exact ⟨(0), (by first | rfl | (simp; done) | (simp [*]; done)), H', ⟨Nat.le_refl _⟩, by repeat (first | exact Drawn0.refl _ | apply Drawn0.step)⟩
  case round =>
    clear H'
    try clear c1
    try clear p2
    obtain ⟨x8_1, rfl, HA, HK1, ⟨m1, rfl⟩⟩ := hrel
    cases gk with
    | zero => exact absurd HA.out (by simp [slices_Index_int_int.l0])
    | succ k1 =>
      have H := HA.out
      clear HA
      simp only [slices_Index_int_int.l0] at H
      by_cases c3 : x8_1 < (l0.length : Int)
      · rw [if_pos c3] at H
        have c3b0 : decide (x8_1 < (l0.length : Int)) = true := decide_eq_true c3
        clear c3
        by_cases c4 : 0 ≤ x8_1
        · rw [if_pos c4] at H
          have c4b0 : decide (0 ≤ x8_1) = true := decide_eq_true c4
          clear c4
          by_cases c5 : x8_1 < (l0.length : Int)
          · rw [if_pos c5] at H
            have c5b0 : decide (x8_1 < (l0.length : Int)) = true := decide_eq_true c5
            clear c5
            by_cases c6 : a1 = (rd l0 x8_1)
            · rw [if_pos c6] at H
              have c6b0 : (a1 == (rd l0 x8_1)) = true := beq_iff_eq.mpr c6
              have c6b1 : (a1 != (rd l0 x8_1)) = false := bne_eq_false_iff_eq.mpr c6
              clear c6
              obtain rfl := Option.some.inj H
              have p226 : 0 ≤ (x8_1 : Int) := of_decide_eq_true (by first | (with_reducible assumption) | assumption)
              have q226 : x8_1 < (l0.length : Int) := of_decide_eq_true (by first | (with_reducible assumption) | assumption)
              obtain ⟨ad226, e226, hx226_0⟩ := Kd.at_int HR0.out x8_1 p226 q226
              cases e226
              replace p226 := eq_true p226
              replace q226 := eq_true q226
              go_wp2
              go_ret
              exact ⟨by first | rfl | (simp; done) | (simp [*]; done), by repeat (first | exact Drawn0.refl _ | apply Drawn0.step)⟩
            · rw [if_neg c6] at H
              have c6b0 : (a1 == (rd l0 x8_1)) = false := beq_eq_false_iff_ne.mpr c6
              have c6b1 : (a1 != (rd l0 x8_1)) = true := bne_iff_ne.mpr c6
              have H' := Aside0.mk H
              clear H
              have p226 : 0 ≤ (x8_1 : Int) := of_decide_eq_true (by first | (with_reducible assumption) | assumption)
              have q226 : x8_1 < (l0.length : Int) := of_decide_eq_true (by first | (with_reducible assumption) | assumption)
              obtain ⟨ad226, e226, hx226_0⟩ := Kd.at_int HR0.out x8_1 p226 q226
              cases e226
              replace p226 := eq_true p226
              replace q226 := eq_true q226
              go_wp2
              go_roundg k1
              case measure => have := HK1.out; omega
              case rel => exact ⟨(wrap64 (x8_1 + 1)), (by first | rfl | (simp; done) | (simp [*]; done)), H', ⟨by have := HK1.out; omega⟩, by repeat (first | exact Drawn0.refl _ | apply Drawn0.step)⟩
          · rw [if_neg c5] at H
            exact absurd H (by simp)
        · rw [if_neg c4] at H
          exact absurd H (by simp)
      · rw [if_neg c3] at H
        have c3b0 : decide (x8_1 < (l0.length : Int)) = false := decide_eq_false c3
        clear c3
        obtain rfl := Option.some.inj H
        go_wp2
        go_ret
        exact ⟨by first | rfl | (simp; done) | (simp [*]; done), by repeat (first | exact Drawn0.refl _ | apply Drawn0.step)⟩

/-! ### slices_Contains_int_int: function 91 -/
def slices_Contains_int_int.f (k : Nat) (l0 : List Int) (a1 : Int) : Option (Bool) := (slices_Index_int_int.f k l0 a1).bind fun t227 => (some (decide (t227 ≥ 0)))
theorem slices_Contains_int_int.mono : ∀ a0 a1 k, LeO (slices_Contains_int_int.f k a0 a1) (slices_Contains_int_int.f (k + 1) a0 a1) := by
  intro a0 a1 k
  unfold slices_Contains_int_int.f
  repeat' first
      | (with_reducible exact slices_Index_int_int.mono _ _ _)
      | (with_reducible exact LeO.refl _)
      | (with_reducible exact LeO.none _)
      | (with_reducible refine LeO.ite ?_ ?_)
      | (with_reducible refine LeO.bind ?_ (fun _ => ?_))
      | exact slices_Index_int_int.mono _ _ _
      | exact LeO.none _
      | refine LeO.ite ?_ ?_
      | refine LeO.bind ?_ (fun _ => ?_)
set_option maxHeartbeats 8000000 in
set_option maxRecDepth 100000 in
theorem slices_Contains_int_int.calls (k : Nat) (A0 : Option Addr) (c0 : Nat) (l0 : List Int) (a1 : Int) (r : Bool) (w : World) (hr0 : Kd.C (Kd.int .i64) w A0 l0.length l0) (hc0 : l0.length ≤ c0) (h : slices_Contains_int_int.f k l0 a1 = some r) :
    Calls Try.prog 91 #[.slice A0 l0.length c0, .int .i64 a1] w fun e w' => e = .returned (.bool r) ∧ Drawn0 w w' := by
  have HR0 := Aside0.mk hr0
  have HC0 := Aside0.mk hc0
  clear hr0 hc0
  have H : ((slices_Index_int_int.f k l0 a1).bind fun t227 => (some (decide (t227 ≥ 0)))) = some r := h
  clear h
  replace H := Option.bind_eq_some_iff.mp H
  obtain ⟨t227, A30, H⟩ := H
  replace H : (some (decide (t227 ≥ 0))) = some r := H
  have A3 := Aside0.mk A30
  clear A30
  obtain rfl := Option.some.inj H
  go_enter Try.func91, Try.ntmps91
  go_wp2_with (first | ((with_reducible refine gate_callee (f := 100) rfl ?_); refine goesL_ (some 7) rfl rfl Try.func100 (by kernel_rfl) rfl #[.slice A0 l0.length c0, .int .i64 a1] rfl (by (try simp only [List.map_toArray, List.map_cons, List.map_nil]); first | done | rfl | (simp only [List.length_drop, List.length_take]; rfl)) ?_; (with_reducible refine (slices_Index_int_int.calls k _ _ l0 a1 t227 _ ?side1 ?side2 A3.out).mono ?_); (case side1 => repeat (first | exact HR0.out | (with_reducible refine Kd.C_alloc ?_ _) | (with_reducible refine Kd.C_drewN ?_ _) | (with_reducible refine Kd.C_drew ?_))); (case side2 => exact HC0.out); rintro e w' ⟨rfl, ⟨nd, rfl⟩⟩; refine ⟨_, rfl, ?_⟩))
  go_ret
  exact ⟨by first | rfl | (simp; done) | (simp [*]; done), by repeat (first | exact Drawn0.refl _ | apply Drawn0.step)⟩

/-! ### impl_has: function 70 -/
def impl_has.f (k : Nat) (l0 : List Int) (a1 : Int) : Option (Bool) := (slices_Contains_int_int.f k l0 a1).bind fun t228 => (some t228)
theorem impl_has.mono : ∀ a0 a1 k, LeO (impl_has.f k a0 a1) (impl_has.f (k + 1) a0 a1) := by
  intro a0 a1 k
  unfold impl_has.f
  repeat' first
      | (with_reducible exact slices_Contains_int_int.mono _ _ _)
      | (with_reducible exact LeO.refl _)
      | (with_reducible exact LeO.none _)
      | (with_reducible refine LeO.ite ?_ ?_)
      | (with_reducible refine LeO.bind ?_ (fun _ => ?_))
      | exact slices_Contains_int_int.mono _ _ _
      | exact LeO.none _
      | refine LeO.ite ?_ ?_
      | refine LeO.bind ?_ (fun _ => ?_)
set_option maxHeartbeats 8000000 in
set_option maxRecDepth 100000 in
theorem impl_has.calls (k : Nat) (A0 : Option Addr) (c0 : Nat) (l0 : List Int) (a1 : Int) (r : Bool) (w : World) (hr0 : Kd.C (Kd.int .i64) w A0 l0.length l0) (hc0 : l0.length ≤ c0) (h : impl_has.f k l0 a1 = some r) :
    Calls Try.prog 70 #[.slice A0 l0.length c0, .int .i64 a1] w fun e w' => e = .returned (.bool r) ∧ Drawn0 w w' := by
  have HR0 := Aside0.mk hr0
  have HC0 := Aside0.mk hc0
  clear hr0 hc0
  have H : ((slices_Contains_int_int.f k l0 a1).bind fun t228 => (some t228)) = some r := h
  clear h
  replace H := Option.bind_eq_some_iff.mp H
  obtain ⟨t228, A30, H⟩ := H
  replace H : (some t228) = some r := H
  have A3 := Aside0.mk A30
  clear A30
  obtain rfl := Option.some.inj H
  go_enter Try.func70, Try.ntmps70
  go_wp2_with (first | ((with_reducible refine gate_callee (f := 91) rfl ?_); refine goesL_ (some 7) rfl rfl Try.func91 (by kernel_rfl) rfl #[.slice A0 l0.length c0, .int .i64 a1] rfl (by (try simp only [List.map_toArray, List.map_cons, List.map_nil]); first | done | rfl | (simp only [List.length_drop, List.length_take]; rfl)) ?_; (with_reducible refine (slices_Contains_int_int.calls k _ _ l0 a1 t228 _ ?side1 ?side2 A3.out).mono ?_); (case side1 => repeat (first | exact HR0.out | (with_reducible refine Kd.C_alloc ?_ _) | (with_reducible refine Kd.C_drewN ?_ _) | (with_reducible refine Kd.C_drew ?_))); (case side2 => exact HC0.out); rintro e w' ⟨rfl, ⟨nd, rfl⟩⟩; refine ⟨_, rfl, ?_⟩))
  go_ret
  exact ⟨by first | rfl | (simp; done) | (simp [*]; done), by repeat (first | exact Drawn0.refl _ | apply Drawn0.step)⟩

-- NOT PRINTED: function 85 (impl_caves_1)

/-! ### impl_caves: function 62 (by hand: wip/inj) -/
def idxF {α : Type} (p : α → Bool) : List α → Int → Int
  | [], _ => -1
  | x :: l, i => if p x then i else idxF p l (i + 1)
theorem idxF_step {α : Type} (p : α → Bool) (l : List α) (d : α) (x : Int) (h0 : 0 ≤ x) (h1 : x < l.length) (hm : l.length ≤ 9223372036854775807) :
    idxF p (l.drop x.toNat) x = if p (l.getD x.toNat d) then x else idxF p (l.drop (wrap64 (x + 1)).toNat) (wrap64 (x + 1)) := by
  have hw : wrap64 (x + 1) = x + 1 := by unfold wrap64; omega
  have hl : x.toNat < l.length := by omega
  rw [hw, List.drop_eq_getElem_cons hl, show (x + 1).toNat = x.toNat + 1 by omega]
  simp only [idxF, List.getD_eq_getElem?_getD, List.getElem?_eq_getElem hl, Option.getD_some]
theorem idxF_end {α : Type} (p : α → Bool) (l : List α) (x : Int) (h1 : ¬ x < l.length) : idxF p (l.drop x.toNat) x = -1 := by
  rw [List.drop_eq_nil_of_le (by omega)]
  rfl
theorem idxF_ge {α : Type} (p : α → Bool) : ∀ (l : List α) (i : Int), 0 ≤ i → decide (0 ≤ idxF p l i) = l.any p
  | [], _, _ => by simp [idxF]
  | x :: l, i, hi => by
    by_cases h : p x = true
    · simp [idxF, h, hi]
    · simp only [Bool.not_eq_true] at h
      simp [idxF, h, idxF_ge p l (i + 1) (by omega)]
theorem idxF_range {α : Type} (p : α → Bool) : ∀ (l : List α) (i : Int), idxF p l i = -1 ∨ (i ≤ idxF p l i ∧ idxF p l i < i + l.length)
  | [], _ => .inl rfl
  | x :: l, i => by
    by_cases h : p x = true
    · right
      simp [idxF, h]
      omega
    · simp only [Bool.not_eq_true] at h
      simp only [idxF, h]
      rcases idxF_range p l (i + 1) with h | h
      · left
        simpa using h
      · right
        simp only [List.length_cons]
        simp
        omega
set_option maxHeartbeats 8000000 in
set_option maxRecDepth 100000 in
theorem impl_caves_idx.calls (caps : Array Value) (p : List Int → Bool) (A0 : Option Addr) (c0 : Nat) (l0 : List (List Int)) (w : World) (hr0 : Kd.C (Kd.slice 3 (Kd.int .i64)) w A0 l0.length l0) (hc0 : l0.length ≤ c0)
    (hp : ∀ (x : List Int) W Ax cx, Below w.heap.size w W → Kd.C (Kd.int .i64) W Ax x.length x → x.length ≤ cx → Calls Try.prog 85 (#[.slice Ax x.length cx] ++ caps) W fun e W' => e = .returned (.bool (p x)) ∧ Below W.heap.size W W') :
    Calls Try.prog 98 #[.slice A0 l0.length c0, .func (.func 85) #[] caps] w fun e w' => e = .returned (.int .i64 (idxF p l0 0)) ∧ Below w.heap.size w w' := by
  have HR0 := Aside0.mk hr0
  have HC0 := Aside0.mk hc0
  have HP := Aside0.mk hp
  have HM := Aside0.mk hr0.2.1
  clear hr0 hc0 hp
  go_enter Try.func98, Try.ntmps98
  go_wp2
  go_loopg [8] l0.length (fun kq v8 w' => ∃ x : Int, v8 = .int .i64 x ∧ Aside0 (0 ≤ x ∧ kq + x.toNat = l0.length ∧ idxF p l0 0 = idxF p (l0.drop x.toNat) x) ∧ Aside0 (Below w.heap.size w w'))
  case atStart => exact ⟨0, rfl, ⟨by simp⟩, ⟨Below.refl _ _⟩⟩
  case round =>
    obtain ⟨x, rfl, HA, HB⟩ := hrel
    by_cases hlt : x < (l0.length : Int)
    · have c0 : decide (x < (l0.length : Int)) = true := decide_eq_true hlt
      have c1 : decide (0 ≤ x) = true := decide_eq_true HA.out.1
      obtain ⟨ad, Ax, cx, e, hx, hxl, hxC⟩ := at_L3 (Kd.C_below HR0.out HB.out) x HA.out.1 hlt
      cases e
      have HLT := Aside0.mk hlt
      have p1 := eq_true HA.out.1
      have q1 := eq_true hlt
      clear hlt
      obtain ⟨k1, rfl⟩ : ∃ k1, gk = k1 + 1 := ⟨gk - 1, by have := HA.out; have := HLT.out; omega⟩
      have HS := Aside0.mk (HA.out.2.2.trans (idxF_step p l0 [] x HA.out.1 HLT.out HM.out))
      cases hq : p (rd_L3 l0 x) with
      | true =>
        have HQ := Aside0.mk hq
        go_wp2_with (go_at_call 85; refine (HP.out _ _ _ _ HB.out hxC hxl).mono ?_; rintro e w1 ⟨rfl, hb⟩)
        go_ret
        exact ⟨by rw [HS.out, show p (l0.getD x.toNat []) = true from HQ.out]; rfl, Below.trans HB.out (hb.mono HB.out.size)⟩
      | false =>
        have HQ := Aside0.mk hq
        go_wp2_with (go_at_call 85; refine (HP.out _ _ _ _ HB.out hxC hxl).mono ?_; rintro e w1 ⟨rfl, hb⟩)
        go_roundg k1
        case measure => omega
        case rel => exact ⟨wrap64 (x + 1), rfl, ⟨by have := HA.out; have := HLT.out; have := HM.out; unfold wrap64; omega, by have := HA.out; have := HLT.out; have := HM.out; unfold wrap64; omega, by rw [HS.out, show p (l0.getD x.toNat []) = false from HQ.out]; rfl⟩, ⟨Below.trans HB.out (hb.mono HB.out.size)⟩⟩
    · have c0 : decide (x < (l0.length : Int)) = false := decide_eq_false hlt
      have HS := Aside0.mk (HA.out.2.2.trans (idxF_end p l0 x hlt))
      clear hlt
      go_wp2
      go_ret
      exact ⟨by rw [HS.out]; rfl, HB.out⟩
set_option maxHeartbeats 8000000 in
set_option maxRecDepth 100000 in
theorem impl_caves_cont.calls (caps : Array Value) (p : List Int → Bool) (A0 : Option Addr) (c0 : Nat) (l0 : List (List Int)) (w : World) (hr0 : Kd.C (Kd.slice 3 (Kd.int .i64)) w A0 l0.length l0) (hc0 : l0.length ≤ c0)
    (hp : ∀ (x : List Int) W Ax cx, Below w.heap.size w W → Kd.C (Kd.int .i64) W Ax x.length x → x.length ≤ cx → Calls Try.prog 85 (#[.slice Ax x.length cx] ++ caps) W fun e W' => e = .returned (.bool (p x)) ∧ Below W.heap.size W W') :
    Calls Try.prog 84 #[.slice A0 l0.length c0, .func (.func 85) #[] caps] w fun e w' => e = .returned (.bool (l0.any p)) ∧ Below w.heap.size w w' := by
  have HI := Aside0.mk (impl_caves_idx.calls caps p A0 c0 l0 w hr0 hc0 hp)
  clear hr0 hc0 hp
  go_enter Try.func84, Try.ntmps84
  go_wp2_with (go_at_call 98; refine HI.out.mono ?_; rintro e w1 ⟨rfl, hb⟩)
  go_ret
  exact ⟨by rw [← idxF_ge p l0 0 (by omega)]; rfl, hb⟩
theorem caves_any {l : List Int} {x : Int} : x ∈ l ↔ ∃ i, i < l.length ∧ l.getD i 0 = x := by
  constructor
  · intro h
    obtain ⟨i, hi, e⟩ := List.getElem_of_mem h
    exact ⟨i, hi, by simp [List.getD_eq_getElem?_getD, List.getElem?_eq_getElem hi, e]⟩
  · rintro ⟨i, hi, e⟩
    rw [List.getD_eq_getElem?_getD, List.getElem?_eq_getElem hi] at e
    simp only [Option.getD_some] at e
    exact e ▸ List.getElem_mem hi
theorem has_total (l : List Int) (x : Int) (hm : l.length ≤ 9223372036854775807) : ∀ k, l.length < k → impl_has.f k l x = some (decide (x ∈ l)) := by
  have key : ∀ d i k, i + d = l.length → d < k → (∀ j, j < i → l.getD j 0 ≠ x) → ∃ r, slices_Index_int_int.l0 k l x (l.length : Int) (i : Int) = some r ∧ (0 ≤ r ↔ x ∈ l) := by
    intro d
    induction d with
    | zero =>
      intro i k hi hk hno
      obtain ⟨k, rfl⟩ : ∃ m, k = m + 1 := ⟨k - 1, by omega⟩
      refine ⟨-1, by simp only [slices_Index_int_int.l0]; rw [if_neg (by omega)], by omega, fun h => ?_⟩
      obtain ⟨j, hj, he⟩ := caves_any.1 h
      exact absurd he (hno j (by omega))
    | succ d ih =>
      intro i k hi hk hno
      obtain ⟨k, rfl⟩ : ∃ m, k = m + 1 := ⟨k - 1, by omega⟩
      have hil : i < l.length := by omega
      have hr : rd l (i : Int) = l.getD i 0 := by simp [rd]
      have hw : wrap64 ((i : Int) + 1) = ((i + 1 : Nat) : Int) := by unfold wrap64; omega
      simp only [slices_Index_int_int.l0, hr]
      rw [if_pos (by omega), if_pos (by omega), if_pos (by omega), hw]
      by_cases he : x = l.getD i 0
      · exact ⟨i, by rw [if_pos he], fun _ => caves_any.2 ⟨i, hil, he.symm⟩, fun _ => by omega⟩
      · rw [if_neg he]
        refine ih (i + 1) k (by omega) (by omega) (fun j hj => ?_)
        by_cases hji : j = i
        · rw [hji]; exact fun h => he h.symm
        · exact hno j (by omega)
  intro k hk
  obtain ⟨r, h1, h2⟩ := key l.length 0 k (by omega) hk (fun j hj => by omega)
  have h1' : slices_Index_int_int.l0 k l x (l.length : Int) 0 = some r := h1
  simp only [impl_has.f, slices_Contains_int_int.f, slices_Index_int_int.f, h1', Option.bind_some]
  congr 1
  rw [decide_eq_decide]
  exact h2
set_option maxHeartbeats 8000000 in
set_option maxRecDepth 100000 in
theorem impl_caves_1.calls (x : List Int) (g : Nat) (s : Int) (W : World) (Ax : Option Addr) (cx : Nat) (hx : Kd.C (Kd.int .i64) W Ax x.length x) (hc : x.length ≤ cx) (hg : W.heap[g]? = some (.cells #[.int .i64 s] 3 (0, 0))) :
    Calls Try.prog 85 #[.slice Ax x.length cx, .pointer (some ⟨g, 0, none⟩)] W fun e W' => e = .returned (.bool (decide (s ∈ x))) ∧ Below W.heap.size W W' := by
  have HX := Aside0.mk hx
  have HC := Aside0.mk hc
  have HH := Aside0.mk (has_total x s hx.2.1 (x.length + 1) (Nat.lt_succ_self _))
  have hcell : W.cell? ⟨g, 0, none⟩ = some (.int .i64 s) := (blk_cell hg 0).trans rfl
  clear hx hc hg
  go_enter Try.func85, Try.ntmps85
  go_wp2_with (go_at_call 70; refine (impl_has.calls (x.length + 1) _ _ x s _ _ HX.out HC.out HH.out).mono ?_; rintro e w1 ⟨rfl, ⟨nd, rfl⟩⟩)
  go_ret
  exact ⟨rfl, pw_below_drewN (Below.refl _ _) _⟩
theorem made_reads (m : Nat) (hm : m ≤ 9223372036854775807) (W : World) : Kd.C (Kd.int .i64) (W.alloc (.cells (madeCells (Value.int .i64 0).cells (m * 1)) 3)) (some ⟨W.heap.size, 0, none⟩) m (List.replicate m 0) := by
  refine ⟨List.length_replicate, hm, fun _ => ⟨_, rfl, fun j p hj => ?_⟩⟩
  have hjm : j < m := by
    have := (List.getElem?_eq_some_iff.1 hj).1
    rwa [List.length_replicate] at this
  have hp : p = 0 := by
    have := (List.getElem?_eq_some_iff.1 hj).2
    simpa using this.symm
  subst hp
  refine ⟨[.int .i64 0], rfl, rfl, fun i u hu => ?_⟩
  match i, hu with
  | 0, hu =>
    obtain rfl : Value.int .i64 0 = u := by simpa using hu
    have e : ((⟨W.heap.size, 0, none⟩ : Addr).add (j * (Kd.int .i64).sz + 0)) = ⟨W.heap.size, j, none⟩ := by
      simp [Addr.add, Kd.int, Kd.scalar]
      try (intro h; exact h.symm)
    rw [e]
    exact (blk_cell (heap_alloc_new W _) j).trans (by simp [madeCells, Value.cells, hjm, Nat.mod_one])
  | i + 1, hu => simp at hu
theorem made_reads2 (m : Nat) (hm : m ≤ 9223372036854775807) (W : World) : Kd.C (Kd.int .i64) (W.alloc (.cells (madeCells #[Value.int .i64 0] m) 3)).drew (some ⟨W.heap.size, 0, none⟩) m (List.replicate m 0) := by
  have h := made_reads m hm W
  rw [Nat.mul_one] at h
  exact Kd.C_drew h
structure CavesS (w : World) (gb : Nat) (x : Int) (v : Value) (all : List (List Int)) (W : World) : Prop where
  b : Below w.heap.size w W
  r : Kd.S (Kd.slice 3 (Kd.int .i64)) 35 W w.heap.size (fun _ => True) v all
  h : W.heap[gb]? = some (.cells #[.int .i64 x] 3 (0, 0))
theorem CavesS.below {w : World} {gb : Nat} {x : Int} {v : Value} {all : List (List Int)} {W W' : World} (h : CavesS w gb x v all W) (hb : Below W.heap.size W W') : CavesS w gb x v all W' := ⟨below_step h.b hb, Kd.S_below h.r hb, blk_below h.h hb⟩
theorem CavesS.drew {w : World} {gb : Nat} {x : Int} {v : Value} {all : List (List Int)} {W : World} (h : CavesS w gb x v all W) : CavesS w gb x v all W.drew := h.below (below_drew1 (Below.refl _ _))
theorem CavesS.cell {w : World} {gb : Nat} {x : Int} {v : Value} {all : List (List Int)} {W : World} (h : CavesS w gb x v all W) : W.cell? ⟨gb, 0, none⟩ = some (.int .i64 x) := (blk_cell h.h 0).trans rfl
def impl_caves.go (k : Nat) (l0 : List S69) : Nat → Int → List (List Int) → Option (List (List Int))
  | 0, _, all => some all
  | d + 1, x, all => (impl_legsAt.f k l0 x).bind fun ls => if (ls.length : Int) = 0 then impl_caves.go k l0 d (x + 1) all else if all.any (fun c => decide (x ∈ c)) = true then impl_caves.go k l0 d (x + 1) all else if hangOk l0 x = true ∧ all.length ≤ 100 then impl_caves.go k l0 d (x + 1) (all ++ [memFrom (hangOf l0 x) 8 0 []]) else none
def impl_caves.f (k : Nat) (l0 : List S69) : Option (List (List Int)) := impl_caves.go k l0 8 0 []
theorem impl_caves.mono_go (l0 : List S69) (k : Nat) : ∀ d x all, LeO (impl_caves.go k l0 d x all) (impl_caves.go (k + 1) l0 d x all)
  | 0, _, _ => LeO.refl _
  | d + 1, x, all => by
    simp only [impl_caves.go]
    refine LeO.bind (impl_legsAt.mono _ _ _) (fun ls => ?_)
    refine LeO.ite (impl_caves.mono_go l0 k d _ _) (LeO.ite (impl_caves.mono_go l0 k d _ _) (LeO.ite (impl_caves.mono_go l0 k d _ _) (LeO.refl _)))
theorem impl_caves.mono : ∀ a0 k, LeO (impl_caves.f k a0) (impl_caves.f (k + 1) a0) := fun a0 k => impl_caves.mono_go a0 k 8 0 []
set_option maxHeartbeats 8000000 in
set_option maxRecDepth 100000 in
theorem impl_caves.calls (k : Nat) (A0 : Option Addr) (c0 : Nat) (l0 : List S69) (r : List (List Int)) (w : World) (hr0 : Kd.C k69 w A0 l0.length l0) (hc0 : l0.length ≤ c0) (h : impl_caves.f k l0 = some r) :
    Calls Try.prog 62 #[.slice A0 l0.length c0] w fun e w' => ∃ v0_ : Value, e = .returned v0_ ∧ Kd.S (Kd.slice 3 (Kd.int .i64)) 35 w' w.heap.size (fun _ => True) v0_ r ∧ Below w.heap.size w w' := by
  have HR0 := Aside0.mk hr0
  have HC0 := Aside0.mk hc0
  have HM0 := Aside0.mk hr0.2.1
  have HF := Aside0.mk h
  clear hr0 hc0 h
  go_enter Try.func62, Try.ntmps62
  go_wp2
  go_loopg [3, 8] 8 (fun kq v3 v8 w' => ∃ (x : Int) (all : List (List Int)), v8 = .int .i64 x ∧ Aside0 (0 ≤ x ∧ kq + x.toNat = 8 ∧ impl_caves.go k l0 kq x all = some r) ∧ Aside0 (Kd.S (Kd.slice 3 (Kd.int .i64)) 35 w' w.heap.size (fun _ => True) v3 all) ∧ Aside0 (Below w.heap.size w w'))
  case atStart => exact ⟨0, [], rfl, ⟨by omega, by simp, HF.out⟩, ⟨Kd.S_nil _ _ _ _ _⟩, ⟨by repeat (first | apply pw_below_drewN | apply below_drew1 | exact Below.refl _ _)⟩⟩
  case round =>
    clear HF
    obtain ⟨x, all, rfl, HA, HO, HB⟩ := hrel
    by_cases hlt : x < 8
    · have d0 : decide (x < 8) = true := decide_eq_true hlt
      have HLT := Aside0.mk hlt
      clear hlt
      obtain ⟨k1, rfl⟩ : ∃ k1, gk = k1 + 1 := ⟨gk - 1, by have := HA.out; have := HLT.out; omega⟩
      have h := HA.out.2.2
      simp only [impl_caves.go] at h
      obtain ⟨ls, A1, h⟩ := Option.bind_eq_some_iff.mp h
      have H1 := Aside0.mk A1
      have HREST := Aside0.mk h
      clear A1 h
      have HX1 : Aside0 (0 ≤ wrap64 (x + 1) ∧ k1 + (wrap64 (x + 1)).toNat = 8 ∧ wrap64 (x + 1) = x + 1) := ⟨by have := HA.out; have := HLT.out; unfold wrap64; omega, by have := HA.out; have := HLT.out; unfold wrap64; omega, by have := HA.out; have := HLT.out; unfold wrap64; omega⟩
      obtain ⟨A3, c3, e3, hl3, hC3⟩ := Kd.S_reads HO.out
      subst e3
      have HL3 := Aside0.mk hl3
      clear hl3 hC3
      by_cases hz : (ls.length : Int) = 0
      · have z0 : ((ls.length : Int) == 0) = true := beq_iff_eq.mpr hz
        have hg := HREST.out
        rw [if_pos hz] at hg
        have HG := Aside0.mk hg
        clear hz hg
        go_wp2_with (first | ((with_reducible refine gate_dst (N := 4) rfl ?_); refine box_event ?hg (N := 4) ?hd (cs := #[.int .i64 0]) (t := 3) ?hr ?_; (case hd => rfl); (case hg => rfl); (case hr => first | (go_simp; done) | (go_simp; rfl)); intro gb hg w15 hbox hb; have HBX := Aside0.mk hbox; have HWB := Aside0.mk hb; have HGE : Aside0 (wr.heap.size ≤ gb) := ⟨by rw [hg]; exact Nat.le_refl _⟩; clear hbox hb hg; have hcz : w15.cell? ⟨gb, 0, none⟩ = some (.int .i64 0) := (blk_cell HBX.out 0).trans rfl; have hfz := blk_frozen HBX.out 0) | (go_at_call 83; refine (impl_legsAt.calls k _ _ l0 x ls _ (Kd.C_below HR0.out (below_step HB.out (below_set HWB.out HGE.out))) HC0.out H1.out).mono ?_; rintro e w1 ⟨v13, rfl, ho13, hb⟩; obtain ⟨A13, c13, e13⟩ := Kd.R_slice ho13; subst e13; clear ho13; have n0_ := Aside0.mk (below_step (below_step HB.out (below_set HWB.out HGE.out)) hb); have n1_ := Aside0.mk (Kd.S_below (Kd.S_below HO.out (below_set HWB.out HGE.out)) hb); have n2_ := Aside0.mk (blk_below (blk_put (cs := #[.int .i64 0]) HBX.out 0 (.int .i64 x) rfl) hb); clear HB HO HBX HWB; have HB := n0_; have HO := n1_; have HK := n2_; clear n0_ n1_ n2_ hb; have hb0 := (blk_cell HK.out 0).trans rfl))
        go_roundg k1
        case measure => omega
        case rel => exact ⟨wrap64 (x + 1), all, rfl, ⟨HX1.out.1, HX1.out.2.1, by rw [HX1.out.2.2]; exact HG.out⟩, HO, HB⟩
      · have z0 : ((ls.length : Int) == 0) = false := beq_eq_false_iff_ne.mpr hz
        have hg := HREST.out
        rw [if_neg hz] at hg
        clear hz
        cases hany : all.any (fun c => decide (x ∈ c)) with
        | true =>
          rw [if_pos hany] at hg
          have HG := Aside0.mk hg
          have HANY := Aside0.mk hany
          clear hg hany
          go_wp2_with (first | ((with_reducible refine gate_dst (N := 4) rfl ?_); refine box_event ?hg (N := 4) ?hd (cs := #[.int .i64 0]) (t := 3) ?hr ?_; (case hd => rfl); (case hg => rfl); (case hr => first | (go_simp; done) | (go_simp; rfl)); intro gb hg w15 hbox hb; have HBX := Aside0.mk hbox; have HWB := Aside0.mk hb; have HGE : Aside0 (wr.heap.size ≤ gb) := ⟨by rw [hg]; exact Nat.le_refl _⟩; clear hbox hb hg; have hcz : w15.cell? ⟨gb, 0, none⟩ = some (.int .i64 0) := (blk_cell HBX.out 0).trans rfl; have hfz := blk_frozen HBX.out 0) | (go_at_call 83; refine (impl_legsAt.calls k _ _ l0 x ls _ (Kd.C_below HR0.out (below_step HB.out (below_set HWB.out HGE.out))) HC0.out H1.out).mono ?_; rintro e w1 ⟨v13, rfl, ho13, hb⟩; obtain ⟨A13, c13, e13⟩ := Kd.R_slice ho13; subst e13; clear ho13; have n0_ := Aside0.mk (below_step (below_step HB.out (below_set HWB.out HGE.out)) hb); have n1_ := Aside0.mk (Kd.S_below (Kd.S_below HO.out (below_set HWB.out HGE.out)) hb); have n2_ := Aside0.mk (blk_below (blk_put (cs := #[.int .i64 0]) HBX.out 0 (.int .i64 x) rfl) hb); clear HB HO HBX HWB; have HB := n0_; have HO := n1_; have HK := n2_; clear n0_ n1_ n2_ hb; have hb0 := (blk_cell HK.out 0).trans rfl) | (go_at_call 84; refine (impl_caves_cont.calls #[.pointer (some ⟨gb, 0, none⟩)] (fun c => decide (x ∈ c)) A3 c3 all _ (Kd.S_reads' HO.out).2.2 HL3.out (fun c W' Ax cx hb' hC hc' => impl_caves_1.calls c gb x W' Ax cx hC hc' (blk_below HK.out hb'))).mono ?_; rintro e w1 ⟨he, hb⟩; rw [HANY.out] at he; subst he; have n0_ := Aside0.mk (below_step HB.out hb); have n1_ := Aside0.mk (Kd.S_below HO.out hb); have n2_ := Aside0.mk (blk_below HK.out hb); clear HB HO HK; have HB := n0_; have HO := n1_; have HK := n2_; clear n0_ n1_ n2_ hb; have hb0 := (blk_cell HK.out 0).trans rfl))
          go_roundg k1
          case measure => omega
          case rel => exact ⟨wrap64 (x + 1), all, rfl, ⟨HX1.out.1, HX1.out.2.1, by rw [HX1.out.2.2]; exact HG.out⟩, HO, HB⟩
        | false =>
          rw [if_neg (by rw [hany]; decide)] at hg
          by_cases hok : hangOk l0 x = true ∧ all.length ≤ 100
          case neg => rw [if_neg hok] at hg; cases hg
          rw [if_pos hok] at hg
          have HG := Aside0.mk hg
          have HANY := Aside0.mk hany
          have hok2 := hok
          simp only [hangOk, Bool.and_eq_true, decide_eq_true_eq] at hok2
          have HOK := Aside0.mk hok2.1
          have HA100 := Aside0.mk hok.2
          have H12 : Aside0 (0 ≤ (l0.length : Int) ∧ (l0.length : Int).toNat * 8 ≤ 281474976710656) := ⟨by have := hok2.1.2; omega⟩
          clear hg hany hok hok2
          have HCALL : Aside0 (∀ (A1 : Option Addr) (c1 : Nat) (W : World), Below w.heap.size w W → Kd.C (Kd.int .i64) W A1 l0.length (List.replicate l0.length 0) → l0.length ≤ c1 → Calls Try.prog 80 #[.slice A0 l0.length c0, .slice A1 l0.length c1, .int .i64 x, .int .i64 0] W fun e w' => e = .returned (.agg (arrOf (hangOf l0 x))) ∧ Below W.heap.size W w') := ⟨fun A1 c1 W hb hC hc => by
            have := impl_reach.calls A0 c0 l0 A1 c1 (List.replicate l0.length 0) x 0 (hangOf l0 x) W (Kd.C_below HR0.out hb) HC0.out (by rw [List.length_replicate]; exact hC) (by rw [List.length_replicate]; exact hc) (by unfold impl_reach.f; rw [if_pos HOK.out.1]; rfl)
            rwa [List.length_replicate] at this⟩
          have HB8 := Aside0.mk (show (hangOf l0 x).length = 8 from reachOf_length _ _ _ _)
          obtain ⟨B, hB⟩ : ∃ B, B = hangOf l0 x := ⟨_, rfl⟩
          rw [← hB] at HCALL HG HB8
          clear hB
          go_wp2_with (first | ((with_reducible refine gate_dst (N := 4) rfl ?_); refine box_event ?hg (N := 4) ?hd (cs := #[.int .i64 0]) (t := 3) ?hr ?_; (case hd => rfl); (case hg => rfl); (case hr => first | (go_simp; done) | (go_simp; rfl)); intro gb hg w15 hbox hb; have HBX := Aside0.mk hbox; have HWB := Aside0.mk hb; have HGE : Aside0 (wr.heap.size ≤ gb) := ⟨by rw [hg]; exact Nat.le_refl _⟩; clear hbox hb hg; have hcz : w15.cell? ⟨gb, 0, none⟩ = some (.int .i64 0) := (blk_cell HBX.out 0).trans rfl; have hfz := blk_frozen HBX.out 0) | (go_at_call 83; refine (impl_legsAt.calls k _ _ l0 x ls _ (Kd.C_below HR0.out (below_step HB.out (below_set HWB.out HGE.out))) HC0.out H1.out).mono ?_; rintro e w1 ⟨v13, rfl, ho13, hb⟩; obtain ⟨A13, c13, e13⟩ := Kd.R_slice ho13; subst e13; clear ho13; have n0_ := Aside0.mk (below_step (below_step HB.out (below_set HWB.out HGE.out)) hb); have n1_ := Aside0.mk (Kd.S_below (Kd.S_below HO.out (below_set HWB.out HGE.out)) hb); have n2_ := Aside0.mk (blk_below (blk_put (cs := #[.int .i64 0]) HBX.out 0 (.int .i64 x) rfl) hb); clear HB HO HBX HWB; have HB := n0_; have HO := n1_; have HK := n2_; clear n0_ n1_ n2_ hb; have hb0 := (blk_cell HK.out 0).trans rfl) | (go_at_call 84; refine (impl_caves_cont.calls #[.pointer (some ⟨gb, 0, none⟩)] (fun c => decide (x ∈ c)) A3 c3 all _ (Kd.S_reads' HO.out).2.2 HL3.out (fun c W' Ax cx hb' hC hc' => impl_caves_1.calls c gb x W' Ax cx hC hc' (blk_below HK.out hb'))).mono ?_; rintro e w1 ⟨he, hb⟩; rw [HANY.out] at he; subst he; have n0_ := Aside0.mk (below_step HB.out hb); have n1_ := Aside0.mk (Kd.S_below HO.out hb); have n2_ := Aside0.mk (blk_below HK.out hb); clear HB HO HK; have HB := n0_; have HO := n1_; have HK := n2_; clear n0_ n1_ n2_ hb; have hb0 := (blk_cell HK.out 0).trans rfl))
          have HS : CavesS w gb x (.slice A3 all.length c3) all _ := ⟨HB.out, HO.out, HK.out⟩
          have HSd := Aside0.mk HS.drew
          have HC2 : Aside0 (∀ (A1 : Option Addr) (c1 : Nat) (W : World), CavesS w gb x (.slice A3 all.length c3) all W → Kd.C (Kd.int .i64) W A1 l0.length (List.replicate l0.length 0) → l0.length ≤ c1 → Calls Try.prog 80 #[.slice A0 l0.length c0, .slice A1 l0.length c1, .int .i64 x, .int .i64 0] W fun e w' => e = .returned (.agg (arrOf B)) ∧ CavesS w gb x (.slice A3 all.length c3) all w') := ⟨fun A1 c1 W hs hC1 hc1 => by
            refine (HCALL.out _ _ _ hs.b hC1 hc1).mono ?_
            rintro e w' ⟨he, hb⟩
            exact ⟨he, hs.below hb⟩⟩
          have hmk : ∀ W : World, (Instr.makeSlice 35 (.int .i64 (l0.length : Int)) (.int .i64 (l0.length : Int))).run Try.prog W = .ok (.slice (some ⟨W.heap.size, 0, none⟩) l0.length l0.length) (W.alloc (.cells (madeCells (Value.int .i64 0).cells (l0.length * 1)) 3)) := by
            intro W
            obtain ⟨i0, hi, hzz⟩ := Option.map_eq_some_iff.1 info3
            simp only [Prod.mk.injEq] at hzz
            obtain ⟨hz0, hz1, hz2⟩ := hzz
            have h12 := H12.out.2
            rw [Int.toNat_natCast] at h12
            have hr := run_make (P := Try.prog) W 35 3 i0 (.int .i64 0) Try.underlying35 hi hz0 .i64 .i64 (l0.length : Int) (l0.length : Int) (by omega) (by omega) (by rw [hz2]; omega) (by omega)
            simp only [Int.toNat_natCast] at hr
            rw [hz1] at hr
            exact hr
          clear HB HO HK
          have hbd := CavesS.cell HS.drew
          have wl : IntKind.i64.wrap (l0.length : Int) = (l0.length : Int) := by
            have hM := HM0.out
            rw [i64_w]
            unfold wrap64
            omega
          have wl2 : wrap64 (l0.length : Int) = (l0.length : Int) := (i64_w _).symm.trans wl
          have n1 : ¬ ((l0.length : Int) < 0) := Int.not_lt.2 (Int.natCast_nonneg _)
          have n2 : ¬ ((281474976710656 : Int) < 8 * (l0.length : Int)) := by
            have h12 := H12.out.2
            rw [Int.toNat_natCast] at h12
            omega
          go_region_held3 (fun W' => CavesS w gb x (.slice A3 all.length c3) all W' ∧ W'.cell? ⟨gb, 0, none⟩ = some (.int .i64 x)) ((first | exact ⟨HSd.out, CavesS.cell HSd.out⟩ | exact ⟨CavesS.below HSd.out (below_alloc (Below.refl _ _) _), CavesS.cell (CavesS.below HSd.out (below_alloc (Below.refl _ _) _))⟩ | exact ⟨by assumption, CavesS.cell (by assumption)⟩)) ((go_at_call 80; refine (HC2.out _ _ _ ?h1 ?h2 ?h3).mono ?_; (case h1 => exact CavesS.below HSd.out (below_alloc (Below.refl _ _) _)); (case h2 => exact made_reads2 l0.length HM0.out _); (case h3 => exact Nat.le_refl _); rintro e w2 ⟨rfl, hs⟩))
          clear hbd n1 n2 wl wl2 HC2 HCALL HSd hmk
          have HS := Aside0.mk hs
          clear hs
          obtain ⟨rw, hrw⟩ : ∃ rw, rw = memFrom B 8 0 [] := ⟨_, rfl⟩
          have HRW := Aside0.mk hrw.symm
          rw [← hrw] at HG
          clear hrw
          go_wp2
          go_loopg [5, 27] 8 (fun kq v5 v27 w' => ∃ (y : Int) (acc : List Int), v27 = .int .i64 y ∧ Aside0 (0 ≤ y ∧ kq + y.toNat = 8 ∧ acc.length ≤ y.toNat ∧ memFrom B kq y.toNat acc = rw) ∧ Aside0 (Kd.R (Kd.int .i64) 3 w' w2.heap.size (fun _ => True) v5 acc) ∧ Aside0 (Below w2.heap.size w2 w'))
          case atStart => exact ⟨0, [], rfl, ⟨by omega, by simp, by simp, HRW.out⟩, ⟨Kd.R_nil _ _ _ _ _⟩, ⟨Below.refl _ _⟩⟩
          case round =>
            clear HRW
            obtain ⟨y, acc, rfl, HAy, HOy, HBy⟩ := hrel
            by_cases hly : y < 8
            · have dy0 : decide (y < 8) = true := decide_eq_true hly
              have HLY := Aside0.mk hly
              clear hly
              obtain ⟨ky, rfl⟩ : ∃ k1, gk = k1 + 1 := ⟨gk - 1, by have := HAy.out; have := HLY.out; omega⟩
              have hidx := fun w => run_indexA B HB8.out y HAy.out.1 (by have := HLY.out; omega) w
              cases ht : B.getD y.toNat false with
              | true =>
                rw [ht] at hidx
                have HT := Aside0.mk ht
                clear ht
                go_wp2_with ((with_reducible refine gate_builtin (b := .append) (xs := #[.tmp 32, .tmp 34]) rfl ?_); at_builtin; refine Kd.R_append (Kd.int .i64) (w0 := w2) w2.heap.size rfl (.tmp 32) (.tmp 34) 35 3 (.int .i64 0) 8 rfl Try.underlying35 info3 rfl (by decide) (by omega) u5 acc y [.int .i64 y] (fun _ => True) (fun _ => False) rfl rfl ?aP (fun _ hk => hk.elim) ?aF ?aO ?aB ?aS ?aL ?_; (case aP => exact rfl); (case aB => exact HBy.out); (case aF => exact (fun _ _ => trivial)); (case aO => exact HOy.out); (case aS => exact HBy.out.size); (case aL => have := HAy.out; have := HLY.out; omega); intro v212 w22 ho hb hg hat; have HO2 := Aside0.mk ho; have HB3 := Aside0.mk hb; clear ho hb hg hat)
                go_roundg ky
                case measure => omega
                case rel => exact ⟨wrap64 (y + 1), acc ++ [y], rfl, ⟨by have := HAy.out; have := HLY.out; unfold wrap64; omega, by have := HAy.out; have := HLY.out; unfold wrap64; omega, by have := HAy.out; have := HLY.out; rw [List.length_append, List.length_singleton]; unfold wrap64; omega, by rw [← HAy.out.2.2.2, show (wrap64 (y + 1)).toNat = y.toNat + 1 by have := HAy.out; have := HLY.out; unfold wrap64; omega]; simp only [memFrom, HT.out, if_true, Int.toNat_of_nonneg HAy.out.1]⟩, HO2, HB3⟩
              | false =>
                rw [ht] at hidx
                have HT := Aside0.mk ht
                clear ht
                go_wp2
                go_roundg ky
                case measure => omega
                case rel => exact ⟨wrap64 (y + 1), acc, rfl, ⟨by have := HAy.out; have := HLY.out; unfold wrap64; omega, by have := HAy.out; have := HLY.out; unfold wrap64; omega, by have := HAy.out; have := HLY.out; unfold wrap64; omega, by rw [← HAy.out.2.2.2, show (wrap64 (y + 1)).toNat = y.toNat + 1 by have := HAy.out; have := HLY.out; unfold wrap64; omega]; simp only [memFrom, HT.out, Bool.false_eq_true, if_false]⟩, HOy, HBy⟩
            · have dy0 : decide (y < 8) = false := decide_eq_false hly
              have HLY := Aside0.mk hly
              clear hly
              obtain rfl : gk = 0 := by have := HAy.out; have := HLY.out; omega
              have HRE := Aside0.mk (show acc = rw from HAy.out.2.2.2)
              have HSy := Aside0.mk (CavesS.below HS.out HBy.out)
              have HSo := Aside0.mk (Kd.S_below (Kd.S_mono (Kd.S_bound HS.out.r) (fun _ hk => hk.2.2.1)) HBy.out)
              have HRo := Aside0.mk (Kd.R_mono (Kd.R_bound HOy.out) (fun _ hk => hk.2.1))
              obtain ⟨A5, c5, e5⟩ := Kd.R_slice HRo.out
              subst e5
              clear HOy
              go_wp2_with ((with_reducible refine gate_builtin (b := .append) (xs := #[.tmp 37, .tmp 39]) rfl ?_); at_builtin; refine Kd.S_append (Kd.slice 3 (Kd.int .i64)) (w0 := w) w.heap.size rfl (.tmp 37) (.tmp 39) 47 35 (.slice none 0 0) 24 rfl Try.underlying47 info35 rfl (by decide) (by omega) (.slice A3 all.length c3) all rw [.slice A5 acc.length c5] (fun _ => True) (fun k => w2.heap.size ≤ k) rfl rfl ?aP ?aK ?aF ?aO ?aB ?aS ?aL ?_; (case aP => exact ⟨_, rfl, by rw [← HRE.out]; exact Kd.R_lower HRo.out HS.out.b.size⟩); (case aK => exact fun k hk => ⟨trivial, fun e => Nat.lt_irrefl _ (Nat.lt_of_lt_of_le (Kd.S_lt HS.out.r k e.symm) hk)⟩); (case aF => exact (fun _ _ => trivial)); (case aO => exact Kd.S_mono HSo.out (fun k hk => ⟨trivial, Nat.not_le.2 hk⟩)); (case aB => exact HSy.out.b); (case aS => exact HSy.out.b.size); (case aL => have := HA100.out; omega); intro v213 w23 ho hb hg hat; have HO2 := Aside0.mk ho; have HB3 := Aside0.mk hb; clear ho hb hg hat)
              go_roundg k1
              case measure => omega
              case rel => exact ⟨wrap64 (x + 1), all ++ [rw], rfl, ⟨HX1.out.1, HX1.out.2.1, by rw [HX1.out.2.2]; exact HG.out⟩, HO2, HB3⟩
    · have d0 : decide (x < 8) = false := decide_eq_false hlt
      have HLT := Aside0.mk hlt
      clear hlt
      obtain rfl : gk = 0 := by have := HA.out; have := HLT.out; omega
      have hr := HA.out.2.2
      simp only [impl_caves.go] at hr
      obtain rfl := Option.some.inj hr
      clear hr
      go_wp2
      go_ret
      exact ⟨_, rfl, HO.out, HB.out⟩


end Go.Proofs.Ytdfmjmmiepmplaa.ML
