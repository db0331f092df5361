-- tight2 (a walk)
import Derived.Test.YtoljdjgndogegaaMSx0
import Derived.Test.YtoljdjgndogegaaMSx2
import Derived.Test.YtoljdjgndogegaaMSx7
import Derived.Test.YtoljdjgndogegaaMSx8
namespace Go.Proofs.Ytoljdjgndogegaa.MS
open Go.RowKit Go.Proofs.YtoljdjgndogegaaW.PrintWords Go.Proofs.YtoljdjgndogegaaW.PrintLast
attribute [local go_sem] max2_int min2_int max_two min_two
set_option linter.unusedVariables false
set_option linter.unusedSimpArgs false

def impl_StationsFor.f (k : Nat) (l0 : List S58) (l1 : List Int) (a2 a3 : Int) : Option (List Int × Bool) := (impl_areEnds.f k l0 l1 a2 a2).bind fun t => if t = true ∧ 0 ≤ a3 ∧ a3 ≤ 200 then (if reachOk l0 l1 a2 = true then some (memFrom (reachOf l0 l1 a2 a3) 8 0 [], true) else none) else some ([], false)
set_option maxHeartbeats 8000000 in
set_option maxRecDepth 100000 in
theorem impl_StationsFor.calls (k : Nat) (A0 : Option Addr) (c0 : Nat) (l0 : List S58) (A1 : Option Addr) (c1 : Nat) (l1 : List Int) (a2 a3 : Int) (r1 : List Int) (r2 : Bool) (w : World) (hr0 : Kd.C k58 w A0 l0.length l0) (hc0 : l0.length ≤ c0) (hr1 : Kd.C (Kd.int .i64) w A1 l1.length l1) (hc1 : l1.length ≤ c1) (h : impl_StationsFor.f k l0 l1 a2 a3 = some (r1, r2)) :
  Calls Try.prog 27 #[.slice A0 l0.length c0, .slice A1 l1.length c1, .int .i64 a2, .int .i64 a3] w fun e w' => ∃ v0_ : Value, e = .returned (.tuple #[v0_, .bool r2]) ∧ Kd.R (Kd.int .i64) 3 w' w.heap.size (fun _ => True) v0_ r1 ∧ Below w.heap.size w w' := by
 obtain ⟨t, ht, h⟩ := zC h; have HE := za (by exact impl_areEnds.calls k A0 c0 l0 A1 c1 l1 a2 a2 t w hr0 hc0 hr1 hc1 ht); have HR0 := za hr0; have HR1 := za hr1; have HC0 := za hc0; have HC1 := za hc1; have HM0 := za hr0.2.1; have HM1 := za hr1.2.1; clear hr0 hr1 hc0 hc1 ht
 have HWI : Aside0 (∀ (W : World), Calls Try.prog 34 #[.int .i64 a3, .int .i64 0, .int .i64 200] W fun e w' => e = .returned (.bool (decide (0 ≤ a3 ∧ a3 ≤ 200))) ∧ Drawn0 W w') := ⟨fun W => impl_within.calls a3 0 200 _ W (by
  unfold impl_within.f
  by_cases h : a3 ≥ 0
  ·rw [yb h]; simp [show 0 ≤ a3 from h]
  ·rw [yc h]; simp [show ¬ 0 ≤ a3 from h])⟩
 cases t with
 | false =>
  simp only [Bool.false_eq_true, false_and, if_false, yd, ye] at h; obtain ⟨rfl, rfl⟩ := h
  go_enter Try.func27, Try.ntmps27
  go_wp2_with (go_at_call 33; refine HE.1.mono ?_; rintro e w1 ⟨rfl, hb⟩)
  go_ret2
  exact ⟨_, rfl, Kd.R_nil _ _ _ _ _, hb⟩
 | true =>
  by_cases hw : 0 ≤ a3 ∧ a3 ≤ 200
  ·have hd : decide (0 ≤ a3 ∧ a3 ≤ 200) = true := zc hw; rw [hd] at HWI; rw [yb ⟨rfl, hw⟩] at h
   by_cases hok : reachOk l0 l1 a2 = true
   case neg => rw [yc hok] at h; cases h
   rw [yb hok] at h; simp only [yd, ye] at h; obtain ⟨hr1, rfl⟩ := h; have HCALL : Aside0 (∀ (W : World), Below w.heap.size w W → Calls Try.prog 62 #[.slice A0 l0.length c0, .slice A1 l1.length c1, .int .i64 a2, .int .i64 a3] W fun e w' => e = .returned (.agg (arrOf (reachOf l0 l1 a2 a3))) ∧ Below W.heap.size W w') := ⟨fun W hb => impl_reach.calls A0 c0 l0 A1 c1 l1 a2 a3 _ W (zG HR0.1 hb) HC0.1 (zG HR1.1 hb) HC1.1 (by unfold impl_reach.f; rw [yb hok]; rfl)⟩; have HRES := za hr1; have HB8 := za (reachOf_length l0 l1 a2 a3); obtain ⟨B, hB⟩ : ∃ B, B = reachOf l0 l1 a2 a3 := ⟨_, rfl⟩; rw [← hB] at HCALL HRES HB8; clear hr1 hok hw hd hB
   go_enter Try.func27, Try.ntmps27
   go_wp2_with (first | (go_at_call 33; refine HE.1.mono ?_; rintro e w1 ⟨rfl, hb⟩; have HB := za hb; clear hb) | (go_at_call 34; refine (HWI.1 _).mono ?_; rintro e w2 ⟨rfl, ⟨nd, rfl⟩⟩) | (go_at_call 62; refine (HCALL.1 _ (pw_below_drewN HB.1 _)).mono ?_; rintro e w3 ⟨rfl, hb⟩; have HB2 := za (by exact Below.trans (pw_below_drewN HB.1 _) (hb.mono HB.1.size)); clear hb))
   go_loopg [10, 29] 8 (fun kq v10 v29 w' => ∃ (x : Int) (acc : List Int), v29 = .int .i64 x ∧ Aside0 (0 ≤ x ∧ kq + x.toNat = 8 ∧ acc.length ≤ x.toNat ∧ memFrom B kq x.toNat acc = r1) ∧ Aside0 (Kd.R (Kd.int .i64) 3 w' w.heap.size (fun _ => True) v10 acc) ∧ Aside0 (Below w.heap.size w w'))
   case atStart => exact ⟨0, [], rfl, ⟨by omega, by simp, by simp, HRES.1⟩, ⟨Kd.R_nil _ _ _ _ _⟩, HB2⟩
   case round =>
    obtain ⟨x, acc, rfl, HA, HO, HBR⟩ := hrel
    by_cases hlt : x < 8
    ·have d0 : decide (x < 8) = true := zc hlt; have HLT := za hlt; clear hlt; obtain ⟨k1, rfl⟩ : ∃ k1, gk = k1 + 1 := ⟨gk - 1, by have := HA.1; have := HLT.1; omega⟩; have hidx := fun w => run_indexA B HB8.1 x HA.1.1 (by have := HLT.1; omega) w
     cases ht : B.getD x.toNat false with
     | true =>
      rw [ht] at hidx; have HT := za ht; clear ht
      go_wp2_with ((with_reducible refine zr (b := .append) (xs := #[.tmp 34, .tmp 36]) rfl ?_); at_builtin; refine Kd.R_append (Kd.int .i64) (w0 := w) w.heap.size rfl (.tmp 34) (.tmp 36) 25 3 (.int .i64 0) 8 rfl Try.underlying25 info3 rfl (by decide) (by omega) u10 acc x [.int .i64 x] (fun _ => True) (fun _ => False) rfl rfl ?aP (fun _ hk => hk.elim) ?aF ?aO ?aB ?aS ?aL ?_; (case aP => exact rfl); (case aB => exact HBR.1); (case aF => exact (fun _ _ => trivial)); (case aO => exact HO.1); (case aS => exact HBR.1.size); (case aL => exact (by have := HA.1; have := HLT.1; omega)); intro v212 w22 ho hb hg hat; have HO2 := za ho; have HB3 := za hb; clear ho hb hg hat)
      go_roundg k1
      case measure => omega
      case rel => exact ⟨wrap64 (x + 1), acc ++ [x], rfl, ⟨by have := HA.1; have := HLT.1; unfold wrap64; omega, by have := HA.1; have := HLT.1; unfold wrap64; omega, by have := HA.1; have := HLT.1; rw [List.length_append, List.length_singleton]; unfold wrap64; omega, by rw [← HA.1.2.2.2, show (wrap64 (x + 1)).toNat = x.toNat + 1 by have := HA.1; have := HLT.1; unfold wrap64; omega]; simp only [memFrom, HT.1, if_true, Int.toNat_of_nonneg HA.1.1]⟩, HO2, HB3⟩
     | false =>
      rw [ht] at hidx; have HT := za ht; clear ht
      go_wp2
      go_roundg k1
      case measure => omega
      case rel => exact ⟨wrap64 (x + 1), acc, rfl, ⟨by have := HA.1; have := HLT.1; unfold wrap64; omega, by have := HA.1; have := HLT.1; unfold wrap64; omega, by have := HA.1; have := HLT.1; unfold wrap64; omega, by rw [← HA.1.2.2.2, show (wrap64 (x + 1)).toNat = x.toNat + 1 by have := HA.1; have := HLT.1; unfold wrap64; omega]; simp only [memFrom, HT.1, Bool.false_eq_true, if_false]⟩, HO, HBR⟩
    ·have d0 : decide (x < 8) = false := zv hlt; have HLT := za hlt; clear hlt
     obtain rfl : gk = 0 := by have := HA.1; have := HLT.1; omega
     go_wp2
     go_ret2
     exact ⟨_, rfl, by rw [← HA.1.2.2.2]; exact HO.1, HBR.1⟩
  ·have hd : decide (0 ≤ a3 ∧ a3 ≤ 200) = false := zv hw; rw [hd] at HWI; rw [yc (fun hh => hw hh.2)] at h; simp only [yd, ye] at h; obtain ⟨rfl, rfl⟩ := h; clear hw hd
   go_enter Try.func27, Try.ntmps27
   go_wp2_with (first | (go_at_call 33; refine HE.1.mono ?_; rintro e w1 ⟨rfl, hb⟩) | (go_at_call 34; refine (HWI.1 _).mono ?_; rintro e w2 ⟨rfl, ⟨nd, rfl⟩⟩))
   go_ret2
   exact ⟨_, rfl, Kd.R_nil _ _ _ _ _, pw_below_drewN hb _⟩


def spec_StationsFor.f (k : Nat) (l0 : List (S58)) (l1 : List Int) (a2 : Int) (a3 : Int) : Option (List Int × Bool) := (spec_l15Asked.f k l0 l1 a2 0).bind fun t688 => (if t688 = true then ((spec_l12Far.f a3).bind fun t689 => (if t689 = true then ((spec_l15Reach.f k l0 l1 a2 a3).bind fun t690 => (some (t690, true))) else (some ((([] : List Int)), false)))) else (some ((([] : List Int)), false)))
set_option maxHeartbeats 8000000 in
set_option maxRecDepth 100000 in
theorem spec_StationsFor.calls (k : Nat) (A0 : Option Addr) (c0 : Nat) (l0 : List (S58)) (A1 : Option Addr) (c1 : Nat) (l1 : List Int) (a2 : Int) (a3 : Int) (r1 : List Int) (r2 : Bool) (w : World) (hr0 : Kd.C k58 w A0 l0.length l0) (hc0 : l0.length ≤ c0) (hr1 : Kd.C (Kd.int .i64) w A1 l1.length l1) (hc1 : l1.length ≤ c1) (h : spec_StationsFor.f k l0 l1 a2 a3 = some (r1, r2)) :
  Calls Try.prog 28 #[.slice A0 l0.length c0, .slice A1 l1.length c1, .int .i64 a2, .int .i64 a3] w fun e w' => ∃ v0_ : Value, e = .returned (.tuple #[v0_, .bool r2]) ∧ Kd.R (Kd.int .i64) 3 w' w.heap.size (fun _ => True) v0_ r1 ∧ Below w.heap.size w w' := by
 have HR0 := za hr0; have HC0 := za hc0; clear hr0 hc0; have HR1 := za hr1; have HC1 := za hc1; clear hr1 hc1; have HB := za (zs w.heap.size w); have H : ((spec_l15Asked.f k l0 l1 a2 0).bind fun t688 => (if t688 = true then ((spec_l12Far.f a3).bind fun t689 => (if t689 = true then ((spec_l15Reach.f k l0 l1 a2 a3).bind fun t690 => (some (t690, true))) else (some ((([] : List Int)), false)))) else (some ((([] : List Int)), false)))) = some (r1, r2) := h; clear h; replace H := bindA H; obtain ⟨t688, A5, H⟩ := H; (try dsimp only at H)
 by_cases c6 : t688 = true
 ·subst c6; rw [yb rfl] at H; replace H := bindA H; obtain ⟨t689, A7, H⟩ := H; (try dsimp only at H)
  by_cases c8 : t689 = true
  ·subst c8; rw [yb rfl] at H; replace H := zC H; obtain ⟨t690, A90, H⟩ := H; replace H : (some (t690, true)) = some (r1, r2) := H; have A9 := za A90; clear A90; simp only [yd, ye] at H; obtain ⟨rfl, rfl⟩ := H
   go_enter Try.func28, Try.ntmps28
   go_wp2_with (first | ((with_reducible refine zp (f := 39) rfl ?_); refine zV (some 13) rfl rfl Try.func39 (qS27) rfl #[.slice A0 l0.length c0, .slice A1 l1.length c1, .int .i64 a2, .int .i64 0] rfl (qS2) ?_; (with_reducible refine (spec_l15Asked.calls k _ _ l0 _ _ l1 a2 0 true _ ?s1 ?s2 ?s3 ?s4 A5.1).mono ?_); (case s1 => exact (qS21 HR0.1)); (case s2 => exact HC0.1); (case s3 => exact (qS21 HR1.1)); (case s4 => exact HC1.1); rintro e w10 ⟨rfl, hb⟩; refine ⟨_, rfl, ?_⟩; replace HB := za qS64; clear hb) | (go_at_call 40; (with_reducible refine (spec_l12Far.calls a3 true _ A7.1).mono ?_); rintro e w' ⟨rfl, ⟨nd, rfl⟩⟩) | ((with_reducible refine zp (f := 63) rfl ?_); refine zV (some 25) rfl rfl Try.func63 (qS27) rfl #[.slice A0 l0.length c0, .slice A1 l1.length c1, .int .i64 a2, .int .i64 a3] rfl (qS2) ?_; (with_reducible refine (spec_l15Reach.calls k _ _ l0 _ _ l1 a2 a3 t690 _ ?s1 ?s2 ?s3 ?s4 A9.1).mono ?_); (case s1 => exact (qS103 HR0.1)); (case s2 => exact HC0.1); (case s3 => exact (qS103 HR1.1)); (case s4 => exact HC1.1); rintro e w11 ⟨v691, rfl, ho0, hb⟩; refine ⟨_, rfl, ?_⟩; have HO692 := za (qS77 ho0); replace HB := za qS64; clear hb ho0))
   go_ret2
   exact ⟨_, (qS11), (qS1 HO692.1), (qS0)⟩
  ·replace c8 := zn c8; subst c8; rw [yc (show ¬ (false = true) by decide)] at H; obtain ⟨y693, hy693⟩ : ∃ y_ : List Int, y_ = (([] : List Int)) := ⟨_, rfl⟩; replace H : (some (y693, false)) = some (r1, r2) := (qS4 hy693); have Ny693 := za hy693; clear hy693; simp only [yd, ye] at H; obtain ⟨rfl, rfl⟩ := H
   go_enter Try.func28, Try.ntmps28
   go_wp2_with (first | ((with_reducible refine zp (f := 39) rfl ?_); refine zV (some 13) rfl rfl Try.func39 (qS27) rfl #[.slice A0 l0.length c0, .slice A1 l1.length c1, .int .i64 a2, .int .i64 0] rfl (qS2) ?_; (with_reducible refine (spec_l15Asked.calls k _ _ l0 _ _ l1 a2 0 true _ ?s1 ?s2 ?s3 ?s4 A5.1).mono ?_); (case s1 => exact (qS21 HR0.1)); (case s2 => exact HC0.1); (case s3 => exact (qS21 HR1.1)); (case s4 => exact HC1.1); rintro e w12 ⟨rfl, hb⟩; refine ⟨_, rfl, ?_⟩; replace HB := za qS64; clear hb) | (go_at_call 40; (with_reducible refine (spec_l12Far.calls a3 false _ A7.1).mono ?_); rintro e w' ⟨rfl, ⟨nd, rfl⟩⟩) | ((with_reducible refine zq (N := 20) rfl ?_); refine zQ (Kd.int .i64) _ 3 ?hg (N := 20) ?hd (xs := ([] : List Int)) (inner := []) (ok := fun _ => True) (okp := fun _ => True) ?hr ?hp (fun _ hk => hk) trivial (zs _ _) (zo _) (by simp) ?_; (case hd | hg => rfl); (case hr => exact (qS26)); (case hp => exact (zu _ _)); intro v694 w13 ho14 hb hg_ hnew_; clear hg_ hnew_; (first | rw [← Ny693.1] at ho14 | (simp only [Int.reduceToNat] at ho14; rw [← Ny693.1] at ho14)); have HO695 := za (qS77 ho14); replace HB := za qS64; clear hb ho14))
   go_ret2
   exact ⟨_, (qS11), (qS1 HO695.1), (qS0)⟩
 ·replace c6 := zn c6; subst c6; rw [yc (show ¬ (false = true) by decide)] at H; obtain ⟨y696, hy696⟩ : ∃ y_ : List Int, y_ = (([] : List Int)) := ⟨_, rfl⟩; replace H : (some (y696, false)) = some (r1, r2) := (qS4 hy696); have Ny696 := za hy696; clear hy696; simp only [yd, ye] at H; obtain ⟨rfl, rfl⟩ := H
  go_enter Try.func28, Try.ntmps28
  go_wp2_with (first | ((with_reducible refine zp (f := 39) rfl ?_); refine zV (some 13) rfl rfl Try.func39 (qS27) rfl #[.slice A0 l0.length c0, .slice A1 l1.length c1, .int .i64 a2, .int .i64 0] rfl (qS2) ?_; (with_reducible refine (spec_l15Asked.calls k _ _ l0 _ _ l1 a2 0 false _ ?s1 ?s2 ?s3 ?s4 A5.1).mono ?_); (case s1 => exact (qS21 HR0.1)); (case s2 => exact HC0.1); (case s3 => exact (qS21 HR1.1)); (case s4 => exact HC1.1); rintro e w15 ⟨rfl, hb⟩; refine ⟨_, rfl, ?_⟩; replace HB := za qS64; clear hb) | ((with_reducible refine zq (N := 20) rfl ?_); refine zQ (Kd.int .i64) _ 3 ?hg (N := 20) ?hd (xs := ([] : List Int)) (inner := []) (ok := fun _ => True) (okp := fun _ => True) ?hr ?hp (fun _ hk => hk) trivial (zs _ _) (zo _) (by simp) ?_; (case hd | hg => rfl); (case hr => exact (qS26)); (case hp => exact (zu _ _)); intro v697 w16 ho17 hb hg_ hnew_; clear hg_ hnew_; (first | rw [← Ny696.1] at ho17 | (simp only [Int.reduceToNat] at ho17; rw [← Ny696.1] at ho17)); have HO698 := za (qS77 ho17); replace HB := za qS64; clear hb ho17))
  go_ret2
  exact ⟨_, (qS11), (qS1 HO698.1), (qS0)⟩

end Go.Proofs.Ytoljdjgndogegaa.MS
