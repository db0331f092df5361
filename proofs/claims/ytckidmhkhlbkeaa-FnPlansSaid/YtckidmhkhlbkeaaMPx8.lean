-- tight2 (a walk)
import Derived.Test.YtckidmhkhlbkeaaMPx0
import Derived.Test.YtckidmhkhlbkeaaMPx6
import Derived.Test.YtckidmhkhlbkeaaMPx7
import Derived.Test.YtckidmhkhlbkeaaMPx3
import Derived.Test.YtckidmhkhlbkeaaMPx4
import Derived.Test.YtckidmhkhlbkeaaMPx2
namespace Go.Proofs.Ytckidmhkhlbkeaa.MP
open Go.RowKit Go.Proofs.YtckidmhkhlbkeaaW.PrintWords Go.Proofs.YtckidmhkhlbkeaaW.PrintLast
set_option maxHeartbeats 8000000
set_option maxRecDepth 100000
attribute [local go_sem] max2_int min2_int max_two min_two
set_option linter.unusedVariables false
set_option linter.unusedSimpArgs false

def spec_l1Cur_scale13.f (s0_0 : List Int) (s0_1 : Int) (s0_2 : Int) : Option (Int × Int × Int) := (some (([1, 3, 5, 10, 10, 60, 500, 0, 501] : List Int) : List Int)).bind fun y249 => ((spec_l1Cur_pick.f s0_0 s0_1 s0_2 24).bind fun bt252 => (if 0 ≤ (wrap64 (7 + (wrap64 (Int.tdiv bt252.1 11)))) then (if (wrap64 (7 + (wrap64 (Int.tdiv bt252.1 11)))) ≤ (y249.length : Int) then ((spec_l1Cur_among.f s0_0 bt252.2.1 bt252.2.2 (y249.take ((wrap64 (7 + (wrap64 (Int.tdiv bt252.1 11)))) : Int).toNat)).bind fun bt258 => (some (bt258.1, bt258.2.1, bt258.2.2))) else (none)) else (none)))
theorem spec_l1Cur_scale13.calls (g : Nat) (s0_0 : List Int) (s0_1 : Int) (s0_2 : Int) (r1 : Int) (r2 : Int) (r3 : Int) (w0 w : World) (hI : IsS85 w0 w g s0_0 s0_1 s0_2) (hB : Below w0.heap.size w0 w) (h : spec_l1Cur_scale13.f s0_0 s0_1 s0_2 = some (r1, r2, r3)) :
  Calls Try.prog 65 #[.pointer (some ⟨g, 0, none⟩)] w fun e w' => e = .returned (.int .i64 r1) ∧ IsS85 w0 w' g s0_0 r2 r3 ∧ Below w0.heap.size w0 w' ∧ KeepBut w w' g none := by
 have HI0 := za hI; have HK := za (KeepBut.refl w g none); have HL := za hB.size; clear hI; have HW0 := za hB.size; have HB := za hB; clear hB; have H : ((some (([1, 3, 5, 10, 10, 60, 500, 0, 501] : List Int) : List Int)).bind fun y249 => ((spec_l1Cur_pick.f s0_0 s0_1 s0_2 24).bind fun bt252 => (if 0 ≤ (wrap64 (7 + (wrap64 (Int.tdiv bt252.1 11)))) then (if (wrap64 (7 + (wrap64 (Int.tdiv bt252.1 11)))) ≤ (y249.length : Int) then ((spec_l1Cur_among.f s0_0 bt252.2.1 bt252.2.2 (y249.take ((wrap64 (7 + (wrap64 (Int.tdiv bt252.1 11)))) : Int).toNat)).bind fun bt258 => (some (bt258.1, bt258.2.1, bt258.2.2))) else (none)) else (none)))) = some (r1, r2, r3) := h; clear h; obtain ⟨y249, hy249⟩ : ∃ y_ : List Int, y_ = (([1, 3, 5, 10, 10, 60, 500, 0, 501] : List Int)) := ⟨_, rfl⟩; replace H : ((spec_l1Cur_pick.f s0_0 s0_1 s0_2 24).bind fun bt252 => (if 0 ≤ (wrap64 (7 + (wrap64 (Int.tdiv bt252.1 11)))) then (if (wrap64 (7 + (wrap64 (Int.tdiv bt252.1 11)))) ≤ (y249.length : Int) then ((spec_l1Cur_among.f s0_0 bt252.2.1 bt252.2.2 (y249.take ((wrap64 (7 + (wrap64 (Int.tdiv bt252.1 11)))) : Int).toNat)).bind fun bt258 => (some (bt258.1, bt258.2.1, bt258.2.2))) else (none)) else (none))) = some (r1, r2, r3) := (qP13 hy249); have Ny249 := za hy249; clear hy249; replace H := bindA H; obtain ⟨⟨t252, t253, t254⟩, A2, H⟩ := H; (try dsimp only at H); obtain ⟨ji3, hji3⟩ : ∃ j_ : Int, (wrap64 (7 + (wrap64 (Int.tdiv t252 11)))) = j_ := ⟨_, rfl⟩
 replace H : (if 0 ≤ (ji3) then (if (ji3) ≤ (y249.length : Int) then ((spec_l1Cur_among.f s0_0 t253 t254 (y249.take ((ji3) : Int).toNat)).bind fun bt258 => (some (bt258.1, bt258.2.1, bt258.2.2))) else (none)) else (none)) = some (r1, r2, r3) := by first | (rw [hji3] at H; exact H) | (simp only [hji3] at H ⊢; exact H)
 (try rw [hji3] at A2); have hji3w : (IntKind.i64.wrap (7 + (wrap64 (Int.tdiv t252 11)))) = ji3 := (i64_w _).trans hji3
 by_cases c4 : 0 ≤ (ji3)
 ·rw [zU c4] at H; have c4b0 := zt c4; have c4b1 : decide (0 ≤ (ji3)) = true := zc c4; clear c4
  by_cases c5 : (ji3) ≤ (y249.length : Int)
  ·rw [zU c5] at H; have c5b0 := zt c5; have c5b1 : decide ((ji3) ≤ (y249.length : Int)) = true := zc c5; clear c5; obtain ⟨y255, hy255⟩ : ∃ y_ : List Int, y_ = (y249.take ((ji3) : Int).toNat) := ⟨_, rfl⟩; replace H : ((spec_l1Cur_among.f s0_0 t253 t254 y255).bind fun bt258 => (some (bt258.1, bt258.2.1, bt258.2.2))) = some (r1, r2, r3) := (qP13 hy255); have Ny255 := za hy255; clear hy255; replace H := zz H; obtain ⟨⟨t258, t259, t260⟩, A60, H⟩ := H; replace H : (some (t258, t259, t260)) = some (r1, r2, r3) := H; have A6 := za A60; clear A60; simp only [zW, zX] at H; obtain ⟨rfl, rfl, rfl⟩ := H
   go_enter Try.func65, Try.ntmps65
   go_wp2_with (first | ((with_reducible refine zo (N := 4) rfl ?_); refine zI (Kd.int .i64) _ 3 ?hg (N := 4) ?hd (xs := ([1, 3, 5, 10, 10, 60, 500, 0, 501] : List Int)) (inner := [.int .i64 1, .int .i64 3, .int .i64 5, .int .i64 10, .int .i64 10, .int .i64 60, .int .i64 500, .int .i64 0, .int .i64 501]) (ok := fun _ => True) (okp := fun _ => True) ?hr ?hp (fun _ hk => hk) trivial (zp _ _) (zm _) (by simp) ?_; (case hd | hg => rfl); (case hr => exact (qP24)); (case hp => exact (by exact (zq (show Kd.M (Kd.int .i64) _ _ _ 1 [.int .i64 1] from rfl) (zq (show Kd.M (Kd.int .i64) _ _ _ 3 [.int .i64 3] from rfl) (zq (show Kd.M (Kd.int .i64) _ _ _ 5 [.int .i64 5] from rfl) (zq (show Kd.M (Kd.int .i64) _ _ _ 10 [.int .i64 10] from rfl) (zq (show Kd.M (Kd.int .i64) _ _ _ 10 [.int .i64 10] from rfl) (zq (show Kd.M (Kd.int .i64) _ _ _ 60 [.int .i64 60] from rfl) (zq (show Kd.M (Kd.int .i64) _ _ _ 500 [.int .i64 500] from rfl) (zq (show Kd.M (Kd.int .i64) _ _ _ 0 [.int .i64 0] from rfl) (zq (show Kd.M (Kd.int .i64) _ _ _ 501 [.int .i64 501] from rfl) (zr _ _)))))))))))); intro v250 w7 ho8 hb hg_ hnew_; clear hg_ hnew_; (first | rw [← Ny249.1] at ho8 | (simp only [Int.reduceToNat] at ho8; rw [← Ny249.1] at ho8)); have HO251 := za (qP66 ho8); replace HK := za qP65; replace HB := za (zP (qP4) hb); replace HI0 := za qP71; clear hb ho8) | ((with_reducible refine zn (f := 60) rfl ?_); refine zO (some 6) rfl rfl Try.func60 (qP22) rfl #[.pointer (some ⟨g, 0, none⟩), .int .i64 24] rfl (qP5) ?_; (with_reducible refine (spec_l1Cur_pick.calls g s0_0 s0_1 s0_2 24 t252 t253 t254 w0 _ ?s1 ?s2 A2.1).mono ?_); (case s1 => exact (qP2)); (case s2 => exact (qP4)); rintro e w9 ⟨rfl, hi, hb, hk⟩; refine ⟨_, rfl, ?_⟩; replace HO251 := za (qP62 HO251.1); replace HK := za qP67; replace HB := za hb; replace HI0 := za hi; clear hb hk hi; obtain ⟨Ao10, co10, eo10⟩ := zC HO251.1; subst eo10; have q11 : ((ji3) : Int) ≤ ((y249.length : Int) : Int) := zb (qP9); obtain ⟨i011, hi011, _, hsz11, _⟩ := info_parts info3; have hcut11 := cut_to (P := Try.prog) 88 3 .i64 Try.underlying88 hi011 Ao10 y249.length co10 (ji3) (zb (qP9)) q11 (zB HO251.1).2.1; have hr11 := Kd.R_take (m := ((ji3) : Int).toNat) HO251.1 (by omega); have hy11 : y255.length = ((ji3) : Int).toNat := (by rw [Ny255.1, List.length_take]; omega); rw [← Ny255.1] at hr11; rw [← hy11] at hr11 hcut11; clear hy11 hi011 hsz11 HO251; have HO257 := za hr11; clear hr11; replace q11 := zt q11) | ((with_reducible refine zn (f := 59) rfl ?_); refine zO (some 10) rfl rfl Try.func59 (qP22) rfl #[.pointer (some ⟨g, 0, none⟩), .slice Ao10 y255.length co10] rfl (qP5) ?_; (with_reducible refine (spec_l1Cur_among.calls g s0_0 t253 t254 _ _ y255 t258 t259 t260 w0 _ ?s1 ?s2 ?s3 ?s4 ?s5 A6.1).mono ?_); (case s1 => exact (qP2)); (case s2 => exact (qP4)); (case s3 => exact (qP6 HO257.1)); (case s4 => exact (qP32 HO257.1)); (case s5 => exact (qP42 HO257.1)); rintro e w12 ⟨rfl, hi, hb, hk⟩; refine ⟨_, rfl, ?_⟩; replace HO257 := za (qP62 HO257.1); replace HK := za qP67; replace HB := za hb; replace HI0 := za hi; clear hb hk hi))
   go_ret
   exact ⟨(by first | rfl | (simp [errW_none, errW_some] <;> rfl) | (simp only [← hji3]; first | rfl | (simp [errW_none, errW_some] <;> rfl)) | (simp [*, errW_none, errW_some] <;> rfl)), (qP2), (qP4), (qP3)⟩
  ·rw [zV c5] at H
   exact zJ H (by simp)
 ·rw [zV c4] at H
  exact zJ H (by simp)

def spec_DrawPlanSize.f (k : Nat) (l0 : List Int) : Option ((List (S44)) × Int) := (spec_l1Cur_marks13.f k l0 0 0).bind fun bt262 => ((spec_l1Cur_scale13.f l0 bt262.2.1 bt262.2.2).bind fun bt267 => (some (bt262.1, bt267.1)))
theorem spec_DrawPlanSize.calls (k : Nat) (A0 : Option Addr) (c0 : Nat) (l0 : List Int) (r1 : List (S44)) (r2 : Int) (w : World) (hr0 : Kd.C (Kd.int .u8) w A0 l0.length l0) (hc0 : l0.length ≤ c0) (h : spec_DrawPlanSize.f k l0 = some (r1, r2)) :
  Calls Try.prog 55 #[.slice A0 l0.length c0] w fun e w' => ∃ v0_ : Value, e = .returned (.tuple #[v0_, .int .i64 r2]) ∧ Kd.R k44 44 w' w.heap.size (fun _ => True) v0_ r1 ∧ Below w.heap.size w w' := by
 have hu85 := Try.underlying85; have HR0 := za hr0; have HC0 := za hc0; clear hr0 hc0; have HB := za (zp w.heap.size w); have H : ((spec_l1Cur_marks13.f k l0 0 0).bind fun bt262 => ((spec_l1Cur_scale13.f l0 bt262.2.1 bt262.2.2).bind fun bt267 => (some (bt262.1, bt267.1)))) = some (r1, r2) := h; clear h; replace H := bindA H; obtain ⟨⟨t262, t265, t266⟩, A2, H⟩ := H; (try dsimp only at H); replace H := zz H; obtain ⟨⟨t267, t268, t269⟩, A30, H⟩ := H; replace H : (some (t262, t267)) = some (r1, r2) := H; have A3 := za A30; clear A30; simp only [zW, zX] at H; obtain ⟨rfl, rfl⟩ := H
 go_enter Try.func55, Try.ntmps55
 go_wp2_with (first | ((with_reducible refine zo (N := 8) rfl ?_); refine zy ?hg (N := 8) ?hd (cs := #[.slice A0 l0.length c0, .int .i64 0, .int .u64 0]) (t := 85) ?hr ?_; (case hd | hg => rfl); (case hr => exact (qP24)); intro gb261 hg w4 hbox hb; have GW261 := za (by exact (by rw [hg]; exact (zQ (qP1)) : w.heap.size ≤ gb261)); have GE261 := za (by exact (by rw [hg]; exact (zQ (qP1)) : w.heap.size ≤ gb261)); have HI261 := za (by exact (show IsS85 w w4 gb261 l0 0 0 from ⟨_, _, hbox, (by rw [hg]; exact (zQ (qP1))), HR0.1⟩)); replace HB := za qP64; clear hb hbox hg) | ((with_reducible refine zn (f := 58) rfl ?_); refine zO (some 10) rfl rfl Try.func58 (qP22) rfl #[.pointer (some ⟨gb261, 0, none⟩)] rfl (qP5) ?_; (with_reducible refine (spec_l1Cur_marks13.calls k gb261 l0 0 0 t262 t265 t266 w _ ?s1 ?s2 A2.1).mono ?_); (case s1 => exact (qP47)); (case s2 => exact (qP44)); rintro e w5 ⟨v263, rfl, ho0, hi, hb, hk⟩; refine ⟨_, rfl, ?_⟩; have HO264 := za (zH ho0 (zQ (qP44))); replace HB := za hb; replace HI261 := za hi; clear hb hk hi ho0) | ((with_reducible refine zn (f := 65) rfl ?_); refine zO (some 13) rfl rfl Try.func65 (qP22) rfl #[.pointer (some ⟨gb261, 0, none⟩)] rfl (qP5) ?_; (with_reducible refine (spec_l1Cur_scale13.calls gb261 l0 t265 t266 t267 t268 t269 w _ ?s1 ?s2 A3.1).mono ?_); (case s1 => exact (qP47)); (case s2 => exact (qP44)); rintro e w6 ⟨rfl, hi, hb, hk⟩; refine ⟨_, rfl, ?_⟩; replace HO264 := za (by exact zD (zF (IsS85.apart (show IsS85 w _ gb261 l0 t265 t266 from (qP47)) (qP0 HO264.1) (by decide)) hk (fun _ h => h.2)) (fun _ h => h.1)); replace HB := za hb; replace HI261 := za hi; clear hb hk hi))
 go_ret2
 exact ⟨_, (qP19), (qP0 HO264.1), (qP44)⟩

def spec_DrawPlanText.f (k : Nat) (l0 : List Int) : Option ((List (S44)) × Int) := (spec_DrawPlanSize.f k l0).bind fun bt270 => (some (bt270.1, bt270.2))
theorem spec_DrawPlanText.calls (k : Nat) (A0 : Option Addr) (c0 : Nat) (l0 : List Int) (r1 : List (S44)) (r2 : Int) (w : World) (hr0 : Kd.C (Kd.int .u8) w A0 l0.length l0) (hc0 : l0.length ≤ c0) (h : spec_DrawPlanText.f k l0 = some (r1, r2)) :
  Calls Try.prog 20 #[.slice A0 l0.length c0] w fun e w' => ∃ v0_ : Value, e = .returned (.tuple #[v0_, .int .i64 r2]) ∧ Kd.R k44 44 w' w.heap.size (fun _ => True) v0_ r1 ∧ Below w.heap.size w w' := by
 have HR0 := za hr0; have HC0 := za hc0; clear hr0 hc0; have HB := za (zp w.heap.size w); have H : ((spec_DrawPlanSize.f k l0).bind fun bt270 => (some (bt270.1, bt270.2))) = some (r1, r2) := h; clear h; replace H := zz H; obtain ⟨⟨t270, t271⟩, A20, H⟩ := H; replace H : (some (t270, t271)) = some (r1, r2) := H; have A2 := za A20; clear A20; simp only [zW, zX] at H; obtain ⟨rfl, rfl⟩ := H
 go_enter Try.func20, Try.ntmps20
 go_wp2_with (first | ((with_reducible refine zn (f := 55) rfl ?_); refine zO (some 5) rfl rfl Try.func55 (qP22) rfl #[.slice A0 l0.length c0] rfl (qP5) ?_; (with_reducible refine (spec_DrawPlanSize.calls k _ _ l0 t270 t271 _ ?s1 ?s2 A2.1).mono ?_); (case s1 => exact (qP20)); (case s2 => exact HC0.1); rintro e w3 ⟨v272, rfl, ho0, hb⟩; refine ⟨_, rfl, ?_⟩; have HO273 := za (qP75 ho0); replace HB := za qP64; clear hb ho0))
 go_ret2
 exact ⟨_, (qP19), (qP0 HO273.1), (qP1)⟩

def impl_PlanSize.of : Option ((List (S44)) × Int × Int × Int × Int × Int) → Option (Int × Int × Bool)
 | none => some (0, 0, false)
 | some p => if (decide (p.2.2.2.2.1 ≤ 20) && decide (p.2.2.2.2.2 ≤ 20)) = true then some (p.2.2.2.2.1, p.2.2.2.2.2, true) else some (0, 0, false)
def impl_PlanSize.f (k : Nat) (l0 : List (S44)) (a1 : Int) : Option (Int × Int × Bool) := (impl_planOf.f k l0 a1).bind fun q => impl_PlanSize.of q
theorem impl_PlanSize.calls (k : Nat) (A0 : Option Addr) (c0 : Nat) (l0 : List (S44)) (a1 : Int) (r1 : Int) (r2 : Int) (r3 : Bool) (w : World) (hr0 : Kd.C k44 w A0 l0.length l0) (hc0 : l0.length ≤ c0) (h : impl_PlanSize.f k l0 a1 = some (r1, r2, r3)) :
  Calls Try.prog 21 #[.slice A0 l0.length c0, .int .i64 a1] w fun e w' => e = .returned (.tuple #[.int .i64 r1, .int .i64 r2, .bool r3]) ∧ Below w.heap.size w w' := by
 have HR0 := za hr0; have HC0 := za hc0; clear hr0 hc0; have HB := za (zp w.heap.size w)
 unfold impl_PlanSize.f at h
 obtain ⟨q, A1, h⟩ := zz h; have H1 := za A1; clear A1
 cases q with
 | none =>
  simp only [impl_PlanSize.of, zW, zX] at h; obtain ⟨rfl, rfl, rfl⟩ := h
  go_enter Try.func21, Try.ntmps21
  go_wp2_with (go_at_call 48; refine (impl_planOf.no k _ _ l0 a1 _ (zA HR0.1 HB.1) HC0.1 H1.1).mono ?_; rintro e w8 ⟨rfl, hb⟩; have n0_ := za (zP HB.1 hb); clear HB; have HB := n0_; clear n0_ hb)
  go_ret3
  exact ⟨rfl, (qP1)⟩
 | some p =>
  obtain ⟨p1, p2, p3, p4, p5, p6⟩ := p; simp only [impl_PlanSize.of] at h
  cases h5 : decide (p5 ≤ 20) with
  | true =>
   cases h6 : decide (p6 ≤ 20) with
   | true =>
    rw [h5, h6] at h; simp only [Bool.and_self, if_true, zW, zX] at h; obtain ⟨rfl, rfl, rfl⟩ := h
    go_enter Try.func21, Try.ntmps21
    go_wp2_with (go_at_call 48; refine (impl_planOf.yes k _ _ l0 a1 p1 p2 p3 p4 p5 p6 true true w HR0.1 HC0.1 H1.1 h5 h6).mono ?_; rintro e w20 ⟨g299, rfl, hi, hb⟩; have n0_ := za hb; have HI := za hi; clear HB; have HB := n0_; clear n0_ hb hi; obtain ⟨ASz, cSz, HGz, hgz, HSz⟩ := HI.1; have hcz0 := cellS79_0 HGz; have hcz1 := cellS79_1 HGz; have hcz2 := cellS79_2 HGz; have hcz3 := cellS79_3 HGz; have hcz4 := cellS79_4 HGz; have hcz5 := cellS79_5 HGz; have hfz0 := ze HGz 0; have hfz1 := ze HGz 1; have hfz2 := ze HGz 2; have hfz3 := ze HGz 3; have hfz4 := ze HGz 4; have hfz5 := ze HGz 5; clear HGz hgz)
    go_quiet (fail)
    go_wp2
    go_ret3
    exact ⟨rfl, (qP1)⟩
   | false =>
    rw [h5, h6] at h; simp only [Bool.and_false, Bool.false_eq_true, if_false, zW, zX] at h; obtain ⟨rfl, rfl, rfl⟩ := h
    go_enter Try.func21, Try.ntmps21
    go_wp2_with (go_at_call 48; refine (impl_planOf.yes k _ _ l0 a1 p1 p2 p3 p4 p5 p6 true false w HR0.1 HC0.1 H1.1 h5 h6).mono ?_; rintro e w20 ⟨g299, rfl, hi, hb⟩; have n0_ := za hb; have HI := za hi; clear HB; have HB := n0_; clear n0_ hb hi; obtain ⟨ASz, cSz, HGz, hgz, HSz⟩ := HI.1; have hcz0 := cellS79_0 HGz; have hcz1 := cellS79_1 HGz; have hcz2 := cellS79_2 HGz; have hcz3 := cellS79_3 HGz; have hcz4 := cellS79_4 HGz; have hcz5 := cellS79_5 HGz; have hfz0 := ze HGz 0; have hfz1 := ze HGz 1; have hfz2 := ze HGz 2; have hfz3 := ze HGz 3; have hfz4 := ze HGz 4; have hfz5 := ze HGz 5; clear HGz hgz)
    go_ret3
    exact ⟨rfl, (qP1)⟩
  | false =>
   cases h6 : decide (p6 ≤ 20) with
   | true =>
    rw [h5, h6] at h; simp only [Bool.false_and, Bool.false_eq_true, if_false, zW, zX] at h; obtain ⟨rfl, rfl, rfl⟩ := h
    go_enter Try.func21, Try.ntmps21
    go_wp2_with (go_at_call 48; refine (impl_planOf.yes k _ _ l0 a1 p1 p2 p3 p4 p5 p6 false true w HR0.1 HC0.1 H1.1 h5 h6).mono ?_; rintro e w20 ⟨g299, rfl, hi, hb⟩; have n0_ := za hb; have HI := za hi; clear HB; have HB := n0_; clear n0_ hb hi; obtain ⟨ASz, cSz, HGz, hgz, HSz⟩ := HI.1; have hcz0 := cellS79_0 HGz; have hcz1 := cellS79_1 HGz; have hcz2 := cellS79_2 HGz; have hcz3 := cellS79_3 HGz; have hcz4 := cellS79_4 HGz; have hcz5 := cellS79_5 HGz; have hfz0 := ze HGz 0; have hfz1 := ze HGz 1; have hfz2 := ze HGz 2; have hfz3 := ze HGz 3; have hfz4 := ze HGz 4; have hfz5 := ze HGz 5; clear HGz hgz)
    go_ret3
    exact ⟨rfl, (qP1)⟩
   | false =>
    rw [h5, h6] at h; simp only [Bool.false_and, Bool.false_eq_true, if_false, zW, zX] at h; obtain ⟨rfl, rfl, rfl⟩ := h
    go_enter Try.func21, Try.ntmps21
    go_wp2_with (go_at_call 48; refine (impl_planOf.yes k _ _ l0 a1 p1 p2 p3 p4 p5 p6 false false w HR0.1 HC0.1 H1.1 h5 h6).mono ?_; rintro e w20 ⟨g299, rfl, hi, hb⟩; have n0_ := za hb; have HI := za hi; clear HB; have HB := n0_; clear n0_ hb hi; obtain ⟨ASz, cSz, HGz, hgz, HSz⟩ := HI.1; have hcz0 := cellS79_0 HGz; have hcz1 := cellS79_1 HGz; have hcz2 := cellS79_2 HGz; have hcz3 := cellS79_3 HGz; have hcz4 := cellS79_4 HGz; have hcz5 := cellS79_5 HGz; have hfz0 := ze HGz 0; have hfz1 := ze HGz 1; have hfz2 := ze HGz 2; have hfz3 := ze HGz 3; have hfz4 := ze HGz 4; have hfz5 := ze HGz 5; clear HGz hgz)
    go_ret3
    exact ⟨rfl, (qP1)⟩


def spec_PlanSize.f (k : Nat) (l0 : List (S44)) (a1 : Int) : Option (Int × Int × Bool) := (spec_l13Fits.f k l0 a1).bind fun t274 => (if t274 = true then ((spec_l13Bounds.f k l0 a1).bind fun bt275 => (some (wrap64 ((wrap64 (bt275.2.1 - bt275.1)) + 1), wrap64 ((wrap64 (bt275.2.2.2 - bt275.2.2.1)) + 1), true))) else (some (0, 0, false)))
theorem spec_PlanSize.calls (k : Nat) (A0 : Option Addr) (c0 : Nat) (l0 : List (S44)) (a1 : Int) (r1 : Int) (r2 : Int) (r3 : Bool) (w : World) (hr0 : Kd.C k44 w A0 l0.length l0) (hc0 : l0.length ≤ c0) (h : spec_PlanSize.f k l0 a1 = some (r1, r2, r3)) :
  Calls Try.prog 22 #[.slice A0 l0.length c0, .int .i64 a1] w fun e w' => e = .returned (.tuple #[.int .i64 r1, .int .i64 r2, .bool r3]) ∧ Below w.heap.size w w' := by
 have HR0 := za hr0; have HC0 := za hc0; clear hr0 hc0; have HB := za (zp w.heap.size w); have H : ((spec_l13Fits.f k l0 a1).bind fun t274 => (if t274 = true then ((spec_l13Bounds.f k l0 a1).bind fun bt275 => (some (wrap64 ((wrap64 (bt275.2.1 - bt275.1)) + 1), wrap64 ((wrap64 (bt275.2.2.2 - bt275.2.2.1)) + 1), true))) else (some (0, 0, false)))) = some (r1, r2, r3) := h; clear h; replace H := bindA H; obtain ⟨t274, A3, H⟩ := H; (try dsimp only at H)
 by_cases c4 : t274 = true
 ·subst c4; rw [zU rfl] at H; replace H := bindA H; obtain ⟨⟨t275, t276, t277, t278⟩, A5, H⟩ := H; (try dsimp only at H); simp only [zW, zX] at H; obtain ⟨rfl, rfl, rfl⟩ := H
  go_enter Try.func22, Try.ntmps22
  go_wp2_with (first | ((with_reducible refine zn (f := 44) rfl ?_); refine zO (some 13) rfl rfl Try.func44 (qP22) rfl #[.slice A0 l0.length c0, .int .i64 a1] rfl (qP5) ?_; (with_reducible refine (spec_l13Fits.calls k _ _ l0 a1 true _ ?s1 ?s2 A3.1).mono ?_); (case s1 => exact (qP20)); (case s2 => exact HC0.1); rintro e w6 ⟨rfl, hb⟩; refine ⟨_, rfl, ?_⟩; replace HB := za qP64; clear hb) | ((with_reducible refine zn (f := 45) rfl ?_); refine zO (some 18) rfl rfl Try.func45 (qP22) rfl #[.slice A0 l0.length c0, .int .i64 a1] rfl (qP5) ?_; (with_reducible refine (spec_l13Bounds.calls k _ _ l0 a1 t275 t276 t277 t278 _ ?s1 ?s2 A5.1).mono ?_); (case s1 => exact (qP11)); (case s2 => exact HC0.1); rintro e w' ⟨rfl, ⟨nd, rfl⟩⟩; refine ⟨_, rfl, ?_⟩))
  go_ret3
  exact ⟨(qP19), (qP1)⟩
 ·replace c4 := zl c4; subst c4; rw [zV (show ¬ (false = true) by decide)] at H; simp only [zW, zX] at H; obtain ⟨rfl, rfl, rfl⟩ := H
  go_enter Try.func22, Try.ntmps22
  go_wp2_with (first | ((with_reducible refine zn (f := 44) rfl ?_); refine zO (some 13) rfl rfl Try.func44 (qP22) rfl #[.slice A0 l0.length c0, .int .i64 a1] rfl (qP5) ?_; (with_reducible refine (spec_l13Fits.calls k _ _ l0 a1 false _ ?s1 ?s2 A3.1).mono ?_); (case s1 => exact (qP20)); (case s2 => exact HC0.1); rintro e w7 ⟨rfl, hb⟩; refine ⟨_, rfl, ?_⟩; replace HB := za qP64; clear hb))
  go_ret3
  exact ⟨(qP19), (qP1)⟩

def laws_rTexts.l0 : Nat → List ByteArray → List ByteArray → Int → Option (Bool)
 | 0, _, _, _ => none
 | k + 1, x0, x1, x5 => if x5 < (x0.length : Int) then (if 0 ≤ x5 then (if x5 < (x1.length : Int) then (if (rdOf ByteArray.empty x0 x5).toList = (rdOf ByteArray.empty x1 x5).toList then (laws_rTexts.l0 k x0 x1 (wrap64 (x5 + 1))) else (some false)) else (none)) else (none)) else (some true)
def laws_rTexts.f (k : Nat) (l0 : List ByteArray) (l1 : List ByteArray) : Option (Bool) := if (l0.length : Int) = (l1.length : Int) then (laws_rTexts.l0 k l0 l1 0) else (some false)
theorem laws_rTexts.calls (k : Nat) (A0 : Option Addr) (c0 : Nat) (l0 : List ByteArray) (A1 : Option Addr) (c1 : Nat) (l1 : List ByteArray) (r : Bool) (w : World) (hr0 : Kd.C Kd.string w A0 l0.length l0) (hc0 : l0.length ≤ c0) (hr1 : Kd.C Kd.string w A1 l1.length l1) (hc1 : l1.length ≤ c1) (h : laws_rTexts.f k l0 l1 = some r) :
  Calls Try.prog 23 #[.slice A0 l0.length c0, .slice A1 l1.length c1] w fun e w' => e = .returned (.bool r) ∧ Drawn0 w w' := by
 have HR0 := za hr0; have HC0 := za hc0; clear hr0 hc0; have HR1 := za hr1; have HC1 := za hc1; clear hr1 hc1; have H : (if (l0.length : Int) = (l1.length : Int) then (laws_rTexts.l0 k l0 l1 0) else (some false)) = some r := h; clear h
 by_cases c3 : (l0.length : Int) = (l1.length : Int)
 ·rw [zU c3] at H; have c3b0 : ((l0.length : Int) == (l1.length : Int)) = true := zM c3; have c3b1 : ((l0.length : Int) != (l1.length : Int)) = false := zv c3
  have c3b2 : (l0.length == l1.length) = true := by first | simpa using c3 | (simp at c3 ⊢; omega)
  clear c3; have H' := za H; clear H
  go_enter Try.func23, Try.ntmps23
  go_wp2
  repeat (go_quiet (fail); try go_wp2)
  go_loopg [5] k (fun kq v5 w' => ∃ (x5_1 : Int), v5 = .int .i64 x5_1 ∧ Aside0 (laws_rTexts.l0 kq l0 l1 x5_1 = some r) ∧ Aside0 (kq ≤ k) ∧ Drawn0 w w')
  case atStart => exact ⟨(0), (qP17), H', ⟨zm _⟩, (qP31)⟩
  case round =>
   clear H'; (try clear c3b0); (try clear c3b1); (try clear c3b2); obtain ⟨x5_1, rfl, HA, HK1, ⟨m1, rfl⟩⟩ := hrel
   cases gk with
   | zero => exact zJ HA.1 (by simp [laws_rTexts.l0])
   | succ k1 =>
    have H := HA.1; clear HA; simp only [laws_rTexts.l0] at H
    by_cases c4 : x5_1 < (l0.length : Int)
    ·rw [zU c4] at H; have c4b0 : decide (x5_1 < (l0.length : Int)) = true := zc c4; clear c4
     by_cases c5 : 0 ≤ x5_1
     ·rw [zU c5] at H; have c5b0 : decide (0 ≤ x5_1) = true := zc c5; clear c5
      by_cases c6 : x5_1 < (l1.length : Int)
      ·rw [zU c6] at H; have c6b0 : decide (x5_1 < (l1.length : Int)) = true := zc c6; clear c6
       by_cases c7 : (rdOf ByteArray.empty l0 x5_1).toList = (rdOf ByteArray.empty l1 x5_1).toList
       ·rw [zU c7] at H; have c7b0 : ((rdOf ByteArray.empty l0 x5_1).toList == (rdOf ByteArray.empty l1 x5_1).toList) = true := zM c7; have c7b1 : ((rdOf ByteArray.empty l0 x5_1).toList != (rdOf ByteArray.empty l1 x5_1).toList) = false := zv c7; clear c7; have H' := za H; clear H; have p279 : 0 ≤ (x5_1 : Int) := zb (qP9); have q279 : x5_1 < (l0.length : Int) := zb (qP9); obtain ⟨ad279, e279, hx279_0⟩ := Kd.at_string HR0.1 x5_1 p279 q279; cases e279; replace p279 := zt p279; replace q279 := zt q279; have p280 : 0 ≤ (x5_1 : Int) := zb (qP9); have q280 : x5_1 < (l1.length : Int) := zb (qP9); obtain ⟨ad280, e280, hx280_0⟩ := Kd.at_string HR1.1 x5_1 p280 q280; cases e280; replace p280 := zt p280; replace q280 := zt q280
        go_wp2
        repeat (go_quiet (fail); try go_wp2)
        go_roundg k1
        case measure => have := HK1.1; omega
        case rel => exact ⟨(wrap64 (x5_1 + 1)), (qP17), H', ⟨by have := HK1.1; omega⟩, (qP31)⟩
       ·rw [zV c7] at H; have c7b0 : ((rdOf ByteArray.empty l0 x5_1).toList == (rdOf ByteArray.empty l1 x5_1).toList) = false := zu c7; have c7b1 : ((rdOf ByteArray.empty l0 x5_1).toList != (rdOf ByteArray.empty l1 x5_1).toList) = true := zN c7; obtain rfl := zk H; have p279 : 0 ≤ (x5_1 : Int) := zb (qP9); have q279 : x5_1 < (l0.length : Int) := zb (qP9); obtain ⟨ad279, e279, hx279_0⟩ := Kd.at_string HR0.1 x5_1 p279 q279; cases e279; replace p279 := zt p279; replace q279 := zt q279; have p280 : 0 ≤ (x5_1 : Int) := zb (qP9); have q280 : x5_1 < (l1.length : Int) := zb (qP9); obtain ⟨ad280, e280, hx280_0⟩ := Kd.at_string HR1.1 x5_1 p280 q280; cases e280; replace p280 := zt p280; replace q280 := zt q280
        go_wp2
        repeat (go_quiet (fail); try go_wp2)
        go_ret
        exact ⟨(qP17), (qP31)⟩
      ·rw [zV c6] at H
       exact zJ H (by simp)
     ·rw [zV c5] at H
      exact zJ H (by simp)
    ·rw [zV c4] at H; have c4b0 : decide (x5_1 < (l0.length : Int)) = false := zs c4; clear c4; obtain rfl := zk H
     go_wp2
     repeat (go_quiet (fail); try go_wp2)
     go_ret
     exact ⟨(qP17), (qP31)⟩
 ·rw [zV c3] at H; have c3b0 : ((l0.length : Int) == (l1.length : Int)) = false := zu c3; have c3b1 : ((l0.length : Int) != (l1.length : Int)) = true := zN c3
  have c3b2 : (l0.length == l1.length) = false := by first | simpa using c3 | (simp at c3 ⊢; omega)
  obtain rfl := zk H
  go_enter Try.func23, Try.ntmps23
  go_wp2
  repeat (go_quiet (fail); try go_wp2)
  go_ret
  exact ⟨(qP17), (qP31)⟩

-- NOT PRINTED: function 56 (impl_PlanMark_56)

-- NOT PRINTED: function 57 (impl_SquareOf_1)

def idxF {α : Type} (p : α → Bool) : List α → Int → Int
 | [], _ => -1
 | x :: l, i => if p x then i else idxF p l (i + 1)
theorem idxF_step {α : Type} (p : α → Bool) (l : List α) (d : α) (x : Int) (h0 : 0 ≤ x) (h1 : x < l.length) (hm : l.length ≤ 9223372036854775807) :
  idxF p (l.drop x.toNat) x = if p (l.getD x.toNat d) then x else idxF p (l.drop (wrap64 (x + 1)).toNat) (wrap64 (x + 1)) := by
 have hw : wrap64 (x + 1) = x + 1 := by unfold wrap64; omega
 have hl : x.toNat < l.length := by omega
 rw [hw, List.drop_eq_getElem_cons hl, show (x + 1).toNat = x.toNat + 1 by omega]; simp only [idxF, List.getD_eq_getElem?_getD, List.getElem?_eq_getElem hl, Option.getD_some]
theorem idxF_end {α : Type} (p : α → Bool) (l : List α) (x : Int) (h1 : ¬ x < l.length) : idxF p (l.drop x.toNat) x = -1 := by
 rw [List.drop_eq_nil_of_le (by omega)]
 rfl
theorem idxF_range {α : Type} (p : α → Bool) : ∀ (l : List α) (i : Int), idxF p l i = -1 ∨ (i ≤ idxF p l i ∧ idxF p l i < i + l.length)
 | [], _ => .inl rfl
 | x :: l, i => by
  by_cases h : p x = true
  ·right
   simp [idxF, h]
   omega
  ·simp only [Bool.not_eq_true] at h; simp only [idxF, h]
   rcases idxF_range p l (i + 1) with h | h
   ·left
    simpa using h
   ·right
    simp only [List.length_cons]
    simp
    omega
theorem impl_SquareOf_idx.calls (caps : Array Value) (p : S44 → Bool) (A0 : Option Addr) (c0 : Nat) (l0 : List (S44)) (w : World) (hr0 : Kd.C k44 w A0 l0.length l0) (hc0 : l0.length ≤ c0)
  (hp : ∀ x W, Below w.heap.size w W → Calls Try.prog 57 (#[.agg #[.string (x).f0, .int .i64 (x).f1, .int .i64 (x).f2]] ++ caps) W fun e W' => e = .returned (.bool (p x)) ∧ Below W.heap.size W W') :
  Calls Try.prog 56 #[.slice A0 l0.length c0, .func (.func 57) #[] caps] w fun e w' => e = .returned (.int .i64 (idxF p l0 0)) ∧ Below w.heap.size w w' := by
 have HR0 := za hr0; have HC0 := za hc0; have HP := za hp; have HM := za hr0.2.1; clear hr0 hc0 hp
 go_enter Try.func56, Try.ntmps56
 go_wp2
 go_loopg [8] l0.length (fun kq v8 w' => ∃ x : Int, v8 = .int .i64 x ∧ Aside0 (0 ≤ x ∧ kq + x.toNat = l0.length ∧ idxF p l0 0 = idxF p (l0.drop x.toNat) x) ∧ Aside0 (Below w.heap.size w w'))
 case atStart => exact ⟨0, rfl, ⟨by simp⟩, ⟨zp _ _⟩⟩
 case round =>
  obtain ⟨x, rfl, HA, HB⟩ := hrel
  by_cases hlt : x < (l0.length : Int)
  ·have c0 : decide (x < (l0.length : Int)) = true := zc hlt; have c1 : decide (0 ≤ x) = true := zc HA.1.1; obtain ⟨ad, e, hx0, hx1, hx2⟩ := at_T44 (zA HR0.1 HB.1) x HA.1.1 hlt; cases e; have HLT := za hlt; have p1 := zt HA.1.1; have q1 := zt hlt; clear hlt; obtain ⟨k1, rfl⟩ : ∃ k1, gk = k1 + 1 := ⟨gk - 1, by have := HA.1; have := HLT.1; omega⟩; have HS := za (by exact HA.1.2.2.trans (idxF_step p l0 z44 x HA.1.1 HLT.1 HM.1))
   cases hq : p (rd_T44 l0 x) with
   | true =>
    have HQ := za hq
    go_wp2_with (go_at_call 57; refine (HP.1 _ _ HB.1).mono ?_; rintro e w1 ⟨rfl, hb⟩)
    go_ret
    exact ⟨by rw [HS.1, show p (l0.getD x.toNat z44) = true from HQ.1]; rfl, Below.trans HB.1 (hb.mono HB.1.size)⟩
   | false =>
    have HQ := za hq
    go_wp2_with (go_at_call 57; refine (HP.1 _ _ HB.1).mono ?_; rintro e w1 ⟨rfl, hb⟩)
    go_roundg k1
    case measure => omega
    case rel => exact ⟨wrap64 (x + 1), rfl, ⟨by have := HA.1; have := HLT.1; have := HM.1; unfold wrap64; omega, by have := HA.1; have := HLT.1; have := HM.1; unfold wrap64; omega, by rw [HS.1, show p (l0.getD x.toNat z44) = false from HQ.1]; rfl⟩, ⟨Below.trans HB.1 (hb.mono HB.1.size)⟩⟩
  ·have c0 : decide (x < (l0.length : Int)) = false := zs hlt; have HS := za (by exact HA.1.2.2.trans (idxF_end p l0 x hlt)); clear hlt
   go_wp2
   go_ret
   exact ⟨by rw [HS.1]; rfl, HB.1⟩
theorem impl_SquareOf_1.calls (x : S44) (g : Nat) (a2 : ByteArray) (W : World) (hc : W.heap[g]? = some (.cells #[.string a2] 9 (0, 0))) :
  Calls Try.prog 57 #[.agg #[.string x.f0, .int .i64 x.f1, .int .i64 x.f2], .pointer (some ⟨g, 0, none⟩)] W fun e W' => e = .returned (.bool (x.f0.toList == a2.toList)) ∧ Below W.heap.size W W' := by
 have huP := Try.underlying44; have hc0 : (W.alloc (.cells #[.string x.f0, .int .i64 x.f1, .int .i64 x.f2] 44 (0, 0))).cell? ⟨g, 0, none⟩ = some (.string a2) := (blk_cell (zf hc _) 0).trans rfl
 go_enter Try.func57, Try.ntmps57
 go_wp2
 go_ret
 exact ⟨rfl, zS (zp _ _) _⟩
def impl_SquareOf.at (l0 : List S44) (a2 : ByteArray) : Int := idxF (fun x : S44 => x.f0.toList == a2.toList) l0 0
def impl_SquareOf.of (l0 : List S44) (i : Int) : Option ((List (S44)) × Int × Int × Int × Int × Int) → Option (Int × Int × Bool)
 | none => some (0, 0, false)
 | some p => if (decide (p.2.2.2.2.1 ≤ 20) && decide (p.2.2.2.2.2 ≤ 20)) = true then (if i < 0 then some (0, 0, false) else (impl_plan_square.f p.1 p.2.1 p.2.2.1 p.2.2.2.1 p.2.2.2.2.1 p.2.2.2.2.2 (rd_T44 l0 i).f0 (rd_T44 l0 i).f1 (rd_T44 l0 i).f2).bind fun q => some (q.1, q.2.1, true)) else some (0, 0, false)
def impl_SquareOf.f (k : Nat) (l0 : List (S44)) (a1 : Int) (a2 : ByteArray) : Option (Int × Int × Bool) := (impl_planOf.f k l0 a1).bind fun q => impl_SquareOf.of l0 (impl_SquareOf.at l0 a2) q
theorem impl_planOf.yes2 (k : Nat) (A0 : Option Addr) (c0 : Nat) (l0 : List (S44)) (a1 : Int) (r1 : List (S44)) (r2 r3 r4 r5 r6 : Int) (b : Bool) (w : World) (hr0 : Kd.C k44 w A0 l0.length l0) (hc0 : l0.length ≤ c0) (h : impl_planOf.f k l0 a1 = some (some (r1, r2, r3, r4, r5, r6))) (hb : (decide (r5 ≤ 20) && decide (r6 ≤ 20)) = b) :
  Calls Try.prog 48 #[.slice A0 l0.length c0, .int .i64 a1] w fun e w' => ∃ g_ : Nat, e = .returned (.tuple #[.pointer (some ⟨g_, 0, none⟩), .bool b]) ∧ IsS79 w w' g_ r1 r2 r3 r4 r5 r6 ∧ Below w.heap.size w w' := by
 have := impl_planOf.yes k A0 c0 l0 a1 r1 r2 r3 r4 r5 r6 _ _ w hr0 hc0 h rfl rfl; rw [hb] at this
 exact this
theorem impl_SquareOf.calls (k : Nat) (A0 : Option Addr) (c0 : Nat) (l0 : List (S44)) (a1 : Int) (a2 : ByteArray) (r1 : Int) (r2 : Int) (r3 : Bool) (w : World) (hr0 : Kd.C k44 w A0 l0.length l0) (hc0 : l0.length ≤ c0) (h : impl_SquareOf.f k l0 a1 a2 = some (r1, r2, r3)) :
  Calls Try.prog 24 #[.slice A0 l0.length c0, .int .i64 a1, .string a2] w fun e w' => e = .returned (.tuple #[.int .i64 r1, .int .i64 r2, .bool r3]) ∧ Below w.heap.size w w' := by
 have HR0 := za hr0; have HC0 := za hc0; have HM0 := za hr0.2.1; clear hr0 hc0
 unfold impl_SquareOf.f at h
 obtain ⟨i, hi⟩ : ∃ i, i = impl_SquareOf.at l0 a2 := ⟨_, rfl⟩; rw [← hi] at h; have HRG : Aside0 (i = -1 ∨ (0 ≤ i ∧ i < 0 + (l0.length : Int))) := ⟨by rw [hi]; exact idxF_range _ _ _⟩
 have HCALL : Aside0 (∀ (g : Nat) (W : World), W.heap[g]? = some (.cells #[.string a2] 9 (0, 0)) → Below w.heap.size w W → Calls Try.prog 56 #[.slice A0 l0.length c0, .func (.func 57) #[] #[.pointer (some ⟨g, 0, none⟩)]] W fun e w' => e = .returned (.int .i64 i) ∧ Below W.heap.size W w') := ⟨fun g W hg hb => by
  have := impl_SquareOf_idx.calls #[.pointer (some ⟨g, 0, none⟩)] (fun x : S44 => x.f0.toList == a2.toList) A0 c0 l0 W (zA HR0.1 hb) HC0.1 (fun x W' hb' => impl_SquareOf_1.calls x g a2 W' (zj hg hb')); rw [hi]
  exact this⟩
 clear hi; obtain ⟨q, A1, h⟩ := zz h; have H1 := za A1; clear A1
 cases q with
 | none =>
  simp only [impl_SquareOf.of, zW, zX] at h; obtain ⟨rfl, rfl, rfl⟩ := h
  go_enter Try.func24, Try.ntmps24
  go_wp2_with (first | (go_at_call 48; refine (impl_planOf.no k _ _ l0 a1 _ (zA HR0.1 (zS (zp _ _) _)) HC0.1 H1.1).mono ?_; rintro e w8 ⟨rfl, hb⟩; have HB := za qP50; have HK := za qP53; clear hb) | (go_at_call 56; refine (HCALL.1 _ _ HK.1 HB.1).mono ?_; rintro e w9 ⟨rfl, hb⟩; have n0_ := za (zP HB.1 hb); clear HB; have HB := n0_; clear n0_ hb))
  go_ret3
  exact ⟨rfl, HB.1⟩
 | some p =>
  obtain ⟨p1, p2, p3, p4, p5, p6⟩ := p; simp only [impl_SquareOf.of] at h
  cases hb56 : (decide (p5 ≤ 20) && decide (p6 ≤ 20)) with
  | false =>
   rw [hb56] at h; simp only [Bool.false_eq_true, if_false, zW, zX] at h; obtain ⟨rfl, rfl, rfl⟩ := h; have HH := za hb56; clear hb56
   go_enter Try.func24, Try.ntmps24
   go_wp2_with (first | (go_at_call 48; refine (impl_planOf.yes2 k _ _ l0 a1 p1 p2 p3 p4 p5 p6 false _ (zA HR0.1 (zS (zp _ _) _)) HC0.1 H1.1 HH.1).mono ?_; rintro e w20 ⟨g299, rfl, hi, hb⟩; have HI := za hi; have HB2 := za hb; have HB := za qP50; have HK := za qP53; clear hi hb) | (go_at_call 56; refine (HCALL.1 _ _ HK.1 HB.1).mono ?_; rintro e w9 ⟨rfl, hb⟩; have n0_ := za (zP HB.1 hb); have n1_ := za (IsS79.below HI.1 hb); have n2_ := za (zP HB2.1 hb); clear HB HI HB2; have HB := n0_; have HI := n1_; have HB2 := n2_; clear n0_ n1_ n2_ hb))
   go_ret3
   exact ⟨rfl, HB.1⟩
  | true =>
   rw [hb56] at h; simp only [if_true] at h; have HH := za hb56; clear hb56
   by_cases hneg : i < 0
   ·have d0 : decide (i < 0) = true := zc hneg; rw [zU hneg] at h; simp only [zW, zX] at h; obtain ⟨rfl, rfl, rfl⟩ := h; clear hneg
    go_enter Try.func24, Try.ntmps24
    go_wp2_with (first | (go_at_call 48; refine (impl_planOf.yes2 k _ _ l0 a1 p1 p2 p3 p4 p5 p6 true _ (zA HR0.1 (zS (zp _ _) _)) HC0.1 H1.1 HH.1).mono ?_; rintro e w20 ⟨g299, rfl, hi, hb⟩; have HI := za hi; have HB2 := za hb; have HB := za qP50; have HK := za qP53; clear hi hb) | (go_at_call 56; refine (HCALL.1 _ _ HK.1 HB.1).mono ?_; rintro e w9 ⟨rfl, hb⟩; have n0_ := za (zP HB.1 hb); have n1_ := za (IsS79.below HI.1 hb); have n2_ := za (zP HB2.1 hb); clear HB HI HB2; have HB := n0_; have HI := n1_; have HB2 := n2_; clear n0_ n1_ n2_ hb))
    go_ret3
    exact ⟨rfl, HB.1⟩
   ·have d0 : decide (i < 0) = false := zs hneg; rw [zV hneg] at h; obtain ⟨⟨q1, q2, q3, q4, q5, q6, q7⟩, A4, h⟩ := zz h; simp only [zW, zX] at h; obtain ⟨rfl, rfl, rfl⟩ := h; have H4 := za A4; clear A4
    have hlt : i < (l0.length : Int) := by have := HRG.1; omega
    have hge : 0 ≤ i := by omega
    obtain ⟨ad, e, hx0, hx1, hx2⟩ := at_T44 HR0.1 i hge hlt; cases e; have pi := zt hge; have qi := zt hlt; clear hneg hge hlt
    go_enter Try.func24, Try.ntmps24
    go_wp2_with (first | (go_at_call 48; refine (impl_planOf.yes2 k _ _ l0 a1 p1 p2 p3 p4 p5 p6 true _ (zA HR0.1 (zS (zp _ _) _)) HC0.1 H1.1 HH.1).mono ?_; rintro e w20 ⟨g299, rfl, hi, hb⟩; have HI := za hi; have HB2 := za hb; have HB := za qP50; have HK := za qP53; clear hi hb) | (go_at_call 56; refine (HCALL.1 _ _ HK.1 HB.1).mono ?_; rintro e w9 ⟨rfl, hb⟩; have n0_ := za (zP HB.1 hb); have n1_ := za (IsS79.below HI.1 hb); have n2_ := za (zP HB2.1 hb); clear HB HI HB2; have HB := n0_; have HI := n1_; have HB2 := n2_; clear n0_ n1_ n2_ hb; have hy0 := (HB.1.cell (zd w _ hx0)).trans hx0; have hy1 := (HB.1.cell (zd w _ hx1)).trans hx1; have hy2 := (HB.1.cell (zd w _ hx2)).trans hx2) | (go_at_call 53; refine (impl_plan_square.calls _ p1 p2 p3 p4 p5 p6 (rd_T44 l0 i).f0 (rd_T44 l0 i).f1 (rd_T44 l0 i).f2 q1 q2 q3 q4 q5 q6 q7 _ _ HI.1 HB2.1 H4.1).mono ?_; rintro e w10 ⟨rfl, hi, hb, hk⟩; clear hi hk; have HB3 := za hb; clear hb))
    go_ret3
    exact ⟨rfl, zP (zS (zp w.heap.size w) _) HB3.1⟩


def laws_rHasText.l0 : Nat → List ByteArray → ByteArray → Int → Option (Bool)
 | 0, _, _, _ => none
 | k + 1, x0, x1, x5 => if x5 < (x0.length : Int) then (if 0 ≤ x5 then (if (rdOf ByteArray.empty x0 x5).toList = x1.toList then (some true) else (laws_rHasText.l0 k x0 x1 (wrap64 (x5 + 1)))) else (none)) else (some false)
def laws_rHasText.f (k : Nat) (l0 : List ByteArray) (a1 : ByteArray) : Option (Bool) := laws_rHasText.l0 k l0 a1 0
theorem laws_rHasText.calls (k : Nat) (A0 : Option Addr) (c0 : Nat) (l0 : List ByteArray) (a1 : ByteArray) (r : Bool) (w : World) (hr0 : Kd.C Kd.string w A0 l0.length l0) (hc0 : l0.length ≤ c0) (h : laws_rHasText.f k l0 a1 = some r) :
  Calls Try.prog 25 #[.slice A0 l0.length c0, .string a1] w fun e w' => e = .returned (.bool r) ∧ Drawn0 w w' := by
 have HR0 := za hr0; have HC0 := za hc0; clear hr0 hc0; have H : (laws_rHasText.l0 k l0 a1 0) = some r := h; clear h; have H' := za H; clear H
 go_enter Try.func25, Try.ntmps25
 go_wp2
 go_loopg [5] k (fun kq v5 w' => ∃ (x5_1 : Int), v5 = .int .i64 x5_1 ∧ Aside0 (laws_rHasText.l0 kq l0 a1 x5_1 = some r) ∧ Aside0 (kq ≤ k) ∧ Drawn0 w w')
 case atStart => exact ⟨(0), (qP17), H', ⟨zm _⟩, (qP31)⟩
 case round =>
  clear H'; obtain ⟨x5_1, rfl, HA, HK1, ⟨m1, rfl⟩⟩ := hrel
  cases gk with
  | zero => exact zJ HA.1 (by simp [laws_rHasText.l0])
  | succ k1 =>
   have H := HA.1; clear HA; simp only [laws_rHasText.l0] at H
   by_cases c3 : x5_1 < (l0.length : Int)
   ·rw [zU c3] at H; have c3b0 : decide (x5_1 < (l0.length : Int)) = true := zc c3; clear c3
    by_cases c4 : 0 ≤ x5_1
    ·rw [zU c4] at H; have c4b0 : decide (0 ≤ x5_1) = true := zc c4; clear c4
     by_cases c5 : (rdOf ByteArray.empty l0 x5_1).toList = a1.toList
     ·rw [zU c5] at H; have c5b0 : ((rdOf ByteArray.empty l0 x5_1).toList == a1.toList) = true := zM c5; have c5b1 : ((rdOf ByteArray.empty l0 x5_1).toList != a1.toList) = false := zv c5; clear c5; obtain rfl := zk H; have p282 : 0 ≤ (x5_1 : Int) := zb (qP9); have q282 : x5_1 < (l0.length : Int) := zb (qP9); obtain ⟨ad282, e282, hx282_0⟩ := Kd.at_string HR0.1 x5_1 p282 q282; cases e282; replace p282 := zt p282; replace q282 := zt q282
      go_wp2
      go_ret
      exact ⟨(qP17), (qP31)⟩
     ·rw [zV c5] at H; have c5b0 : ((rdOf ByteArray.empty l0 x5_1).toList == a1.toList) = false := zu c5; have c5b1 : ((rdOf ByteArray.empty l0 x5_1).toList != a1.toList) = true := zN c5; have H' := za H; clear H; have p282 : 0 ≤ (x5_1 : Int) := zb (qP9); have q282 : x5_1 < (l0.length : Int) := zb (qP9); obtain ⟨ad282, e282, hx282_0⟩ := Kd.at_string HR0.1 x5_1 p282 q282; cases e282; replace p282 := zt p282; replace q282 := zt q282
      go_wp2
      go_roundg k1
      case measure => have := HK1.1; omega
      case rel => exact ⟨(wrap64 (x5_1 + 1)), (qP17), H', ⟨by have := HK1.1; omega⟩, (qP31)⟩
    ·rw [zV c4] at H
     exact zJ H (by simp)
   ·rw [zV c3] at H; have c3b0 : decide (x5_1 < (l0.length : Int)) = false := zs c3; clear c3; obtain rfl := zk H
    go_wp2
    go_ret
    exact ⟨(qP17), (qP31)⟩

def spec_DrawSmallestScale.f (k : Nat) (l0 : List Int) : Option ((List (S44)) × Int × Int) := (spec_l1Cur_marks13.f k l0 0 0).bind fun bt284 => ((some (([1, 3, 10, 20, 0, 21] : List Int) : List Int)).bind fun y289 => ((spec_l1Cur_pick.f l0 bt284.2.1 bt284.2.2 24).bind fun bt292 => (if 0 ≤ (wrap64 (4 + (wrap64 (Int.tdiv bt292.1 11)))) then (if (wrap64 (4 + (wrap64 (Int.tdiv bt292.1 11)))) ≤ (y289.length : Int) then ((spec_l1Cur_among.f l0 bt292.2.1 bt292.2.2 (y289.take ((wrap64 (4 + (wrap64 (Int.tdiv bt292.1 11)))) : Int).toNat)).bind fun bt298 => ((some (([1, 3, 10, 20, 0, 21] : List Int) : List Int)).bind fun y301 => ((spec_l1Cur_pick.f l0 bt298.2.1 bt298.2.2 24).bind fun bt304 => (if 0 ≤ (wrap64 (4 + (wrap64 (Int.tdiv bt304.1 11)))) then (if (wrap64 (4 + (wrap64 (Int.tdiv bt304.1 11)))) ≤ (y301.length : Int) then ((spec_l1Cur_among.f l0 bt304.2.1 bt304.2.2 (y301.take ((wrap64 (4 + (wrap64 (Int.tdiv bt304.1 11)))) : Int).toNat)).bind fun bt310 => (some (bt284.1, bt298.1, bt310.1))) else (none)) else (none))))) else (none)) else (none))))
set_option maxHeartbeats 8000000 in
set_option maxRecDepth 100000 in
theorem spec_DrawSmallestScale.calls (k : Nat) (A0 : Option Addr) (c0 : Nat) (l0 : List Int) (r1 : List (S44)) (r2 : Int) (r3 : Int) (w : World) (hr0 : Kd.C (Kd.int .u8) w A0 l0.length l0) (hc0 : l0.length ≤ c0) (h : spec_DrawSmallestScale.f k l0 = some (r1, r2, r3)) :
  Calls Try.prog 26 #[.slice A0 l0.length c0] w fun e w' => ∃ v0_ : Value, e = .returned (.tuple #[v0_, .int .i64 r2, .int .i64 r3]) ∧ Kd.R k44 44 w' w.heap.size (fun _ => True) v0_ r1 ∧ Below w.heap.size w w' := by
 have hu85 := Try.underlying85; have HR0 := za hr0; have HC0 := za hc0; clear hr0 hc0; have HB := za (zp w.heap.size w); have H : ((spec_l1Cur_marks13.f k l0 0 0).bind fun bt284 => ((some (([1, 3, 10, 20, 0, 21] : List Int) : List Int)).bind fun y289 => ((spec_l1Cur_pick.f l0 bt284.2.1 bt284.2.2 24).bind fun bt292 => (if 0 ≤ (wrap64 (4 + (wrap64 (Int.tdiv bt292.1 11)))) then (if (wrap64 (4 + (wrap64 (Int.tdiv bt292.1 11)))) ≤ (y289.length : Int) then ((spec_l1Cur_among.f l0 bt292.2.1 bt292.2.2 (y289.take ((wrap64 (4 + (wrap64 (Int.tdiv bt292.1 11)))) : Int).toNat)).bind fun bt298 => ((some (([1, 3, 10, 20, 0, 21] : List Int) : List Int)).bind fun y301 => ((spec_l1Cur_pick.f l0 bt298.2.1 bt298.2.2 24).bind fun bt304 => (if 0 ≤ (wrap64 (4 + (wrap64 (Int.tdiv bt304.1 11)))) then (if (wrap64 (4 + (wrap64 (Int.tdiv bt304.1 11)))) ≤ (y301.length : Int) then ((spec_l1Cur_among.f l0 bt304.2.1 bt304.2.2 (y301.take ((wrap64 (4 + (wrap64 (Int.tdiv bt304.1 11)))) : Int).toNat)).bind fun bt310 => (some (bt284.1, bt298.1, bt310.1))) else (none)) else (none))))) else (none)) else (none))))) = some (r1, r2, r3) := h; clear h; replace H := bindA H; obtain ⟨⟨t284, t287, t288⟩, A2, H⟩ := H; (try dsimp only at H); obtain ⟨y289, hy289⟩ : ∃ y_ : List Int, y_ = (([1, 3, 10, 20, 0, 21] : List Int)) := ⟨_, rfl⟩; replace H : ((spec_l1Cur_pick.f l0 t287 t288 24).bind fun bt292 => (if 0 ≤ (wrap64 (4 + (wrap64 (Int.tdiv bt292.1 11)))) then (if (wrap64 (4 + (wrap64 (Int.tdiv bt292.1 11)))) ≤ (y289.length : Int) then ((spec_l1Cur_among.f l0 bt292.2.1 bt292.2.2 (y289.take ((wrap64 (4 + (wrap64 (Int.tdiv bt292.1 11)))) : Int).toNat)).bind fun bt298 => ((some (([1, 3, 10, 20, 0, 21] : List Int) : List Int)).bind fun y301 => ((spec_l1Cur_pick.f l0 bt298.2.1 bt298.2.2 24).bind fun bt304 => (if 0 ≤ (wrap64 (4 + (wrap64 (Int.tdiv bt304.1 11)))) then (if (wrap64 (4 + (wrap64 (Int.tdiv bt304.1 11)))) ≤ (y301.length : Int) then ((spec_l1Cur_among.f l0 bt304.2.1 bt304.2.2 (y301.take ((wrap64 (4 + (wrap64 (Int.tdiv bt304.1 11)))) : Int).toNat)).bind fun bt310 => (some (t284, bt298.1, bt310.1))) else (none)) else (none))))) else (none)) else (none))) = some (r1, r2, r3) := (qP13 hy289)
 have Ny289 := za hy289; clear hy289; replace H := bindA H; obtain ⟨⟨t292, t293, t294⟩, A3, H⟩ := H; (try dsimp only at H); obtain ⟨ji4, hji4⟩ : ∃ j_ : Int, (wrap64 (4 + (wrap64 (Int.tdiv t292 11)))) = j_ := ⟨_, rfl⟩
 replace H : (if 0 ≤ (ji4) then (if (ji4) ≤ (y289.length : Int) then ((spec_l1Cur_among.f l0 t293 t294 (y289.take ((ji4) : Int).toNat)).bind fun bt298 => ((some (([1, 3, 10, 20, 0, 21] : List Int) : List Int)).bind fun y301 => ((spec_l1Cur_pick.f l0 bt298.2.1 bt298.2.2 24).bind fun bt304 => (if 0 ≤ (wrap64 (4 + (wrap64 (Int.tdiv bt304.1 11)))) then (if (wrap64 (4 + (wrap64 (Int.tdiv bt304.1 11)))) ≤ (y301.length : Int) then ((spec_l1Cur_among.f l0 bt304.2.1 bt304.2.2 (y301.take ((wrap64 (4 + (wrap64 (Int.tdiv bt304.1 11)))) : Int).toNat)).bind fun bt310 => (some (t284, bt298.1, bt310.1))) else (none)) else (none))))) else (none)) else (none)) = some (r1, r2, r3) := by first | (rw [hji4] at H; exact H) | (simp only [hji4] at H ⊢; exact H)
 (try rw [hji4] at A2)
 (try rw [hji4] at A3); have hji4w : (IntKind.i64.wrap (4 + (wrap64 (Int.tdiv t292 11)))) = ji4 := (i64_w _).trans hji4
 by_cases c5 : 0 ≤ (ji4)
 ·rw [zU c5] at H; have c5b0 := zt c5; have c5b1 : decide (0 ≤ (ji4)) = true := zc c5; clear c5
  by_cases c6 : (ji4) ≤ (y289.length : Int)
  ·rw [zU c6] at H; have c6b0 := zt c6; have c6b1 : decide ((ji4) ≤ (y289.length : Int)) = true := zc c6; clear c6; obtain ⟨y295, hy295⟩ : ∃ y_ : List Int, y_ = (y289.take ((ji4) : Int).toNat) := ⟨_, rfl⟩; replace H : ((spec_l1Cur_among.f l0 t293 t294 y295).bind fun bt298 => ((some (([1, 3, 10, 20, 0, 21] : List Int) : List Int)).bind fun y301 => ((spec_l1Cur_pick.f l0 bt298.2.1 bt298.2.2 24).bind fun bt304 => (if 0 ≤ (wrap64 (4 + (wrap64 (Int.tdiv bt304.1 11)))) then (if (wrap64 (4 + (wrap64 (Int.tdiv bt304.1 11)))) ≤ (y301.length : Int) then ((spec_l1Cur_among.f l0 bt304.2.1 bt304.2.2 (y301.take ((wrap64 (4 + (wrap64 (Int.tdiv bt304.1 11)))) : Int).toNat)).bind fun bt310 => (some (t284, bt298.1, bt310.1))) else (none)) else (none))))) = some (r1, r2, r3) := (qP13 hy295); have Ny295 := za hy295; clear hy295; replace H := bindA H; obtain ⟨⟨t298, t299, t300⟩, A7, H⟩ := H; (try dsimp only at H); obtain ⟨y301, hy301⟩ : ∃ y_ : List Int, y_ = (([1, 3, 10, 20, 0, 21] : List Int)) := ⟨_, rfl⟩; replace H : ((spec_l1Cur_pick.f l0 t299 t300 24).bind fun bt304 => (if 0 ≤ (wrap64 (4 + (wrap64 (Int.tdiv bt304.1 11)))) then (if (wrap64 (4 + (wrap64 (Int.tdiv bt304.1 11)))) ≤ (y301.length : Int) then ((spec_l1Cur_among.f l0 bt304.2.1 bt304.2.2 (y301.take ((wrap64 (4 + (wrap64 (Int.tdiv bt304.1 11)))) : Int).toNat)).bind fun bt310 => (some (t284, t298, bt310.1))) else (none)) else (none))) = some (r1, r2, r3) := (qP13 hy301); have Ny301 := za hy301; clear hy301
   replace H := bindA H; obtain ⟨⟨t304, t305, t306⟩, A8, H⟩ := H; (try dsimp only at H); obtain ⟨ji9, hji9⟩ : ∃ j_ : Int, (wrap64 (4 + (wrap64 (Int.tdiv t304 11)))) = j_ := ⟨_, rfl⟩
   replace H : (if 0 ≤ (ji9) then (if (ji9) ≤ (y301.length : Int) then ((spec_l1Cur_among.f l0 t305 t306 (y301.take ((ji9) : Int).toNat)).bind fun bt310 => (some (t284, t298, bt310.1))) else (none)) else (none)) = some (r1, r2, r3) := by first | (rw [hji9] at H; exact H) | (simp only [hji9] at H ⊢; exact H)
   (try rw [hji9] at A2)
   (try rw [hji9] at A3)
   (try rw [hji9] at A7)
   (try rw [hji9] at A8); have hji9w : (IntKind.i64.wrap (4 + (wrap64 (Int.tdiv t304 11)))) = ji9 := (i64_w _).trans hji9
   by_cases c10 : 0 ≤ (ji9)
   ·rw [zU c10] at H; have c10b0 := zt c10; have c10b1 : decide (0 ≤ (ji9)) = true := zc c10; clear c10
    by_cases c11 : (ji9) ≤ (y301.length : Int)
    ·rw [zU c11] at H; have c11b0 := zt c11; have c11b1 : decide ((ji9) ≤ (y301.length : Int)) = true := zc c11; clear c11; obtain ⟨y307, hy307⟩ : ∃ y_ : List Int, y_ = (y301.take ((ji9) : Int).toNat) := ⟨_, rfl⟩; replace H : ((spec_l1Cur_among.f l0 t305 t306 y307).bind fun bt310 => (some (t284, t298, bt310.1))) = some (r1, r2, r3) := (qP13 hy307); have Ny307 := za hy307; clear hy307; replace H := zz H; obtain ⟨⟨t310, t311, t312⟩, A120, H⟩ := H; replace H : (some (t284, t298, t310)) = some (r1, r2, r3) := H; have A12 := za A120; clear A120; simp only [zW, zX] at H; obtain ⟨rfl, rfl, rfl⟩ := H
     go_enter Try.func26, Try.ntmps26
     go_wp2_with (first | ((with_reducible refine zo (N := 9) rfl ?_); refine zy ?hg (N := 9) ?hd (cs := #[.slice A0 l0.length c0, .int .i64 0, .int .u64 0]) (t := 85) ?hr ?_; (case hd | hg => rfl); (case hr => exact (qP24)); intro gb283 hg w13 hbox hb; have GW283 := za (by exact (by rw [hg]; exact (zQ (qP1)) : w.heap.size ≤ gb283)); have GE283 := za (by exact (by rw [hg]; exact (zQ (qP1)) : w.heap.size ≤ gb283)); have HI283 := za (by exact (show IsS85 w w13 gb283 l0 0 0 from ⟨_, _, hbox, (by rw [hg]; exact (zQ (qP1))), HR0.1⟩)); replace HB := za qP64; clear hb hbox hg) | ((with_reducible refine zn (f := 58) rfl ?_); refine zO (some 11) rfl rfl Try.func58 (qP22) rfl #[.pointer (some ⟨gb283, 0, none⟩)] rfl (qP5) ?_; (with_reducible refine (spec_l1Cur_marks13.calls k gb283 l0 0 0 t284 t287 t288 w _ ?s1 ?s2 A2.1).mono ?_); (case s1 => exact (qP26)); (case s2 => exact (qP30)); rintro e w14 ⟨v285, rfl, ho0, hi, hb, hk⟩; refine ⟨_, rfl, ?_⟩; have HO286 := za (zH ho0 (zQ (qP30))); replace HB := za hb; replace HI283 := za hi; clear hb hk hi ho0) | ((with_reducible refine zo (N := 14) rfl ?_); refine zI (Kd.int .i64) _ 3 ?hg (N := 14) ?hd (xs := ([1, 3, 10, 20, 0, 21] : List Int)) (inner := [.int .i64 1, .int .i64 3, .int .i64 10, .int .i64 20, .int .i64 0, .int .i64 21]) (ok := fun _ => True) (okp := fun _ => True) ?hr ?hp (fun _ hk => hk) trivial (zp _ _) (zm _) (by simp) ?_; (case hd | hg => rfl); (case hr => exact (qP24)); (case hp => exact (qP45)); intro v290 w15 ho16 hb hg_ hnew_; clear hg_ hnew_; (first | rw [← Ny289.1] at ho16 | (simp only [Int.reduceToNat] at ho16; rw [← Ny289.1] at ho16)); replace HO286 := za (qP63 HO286.1); have HO291 := za (zH ho16 (zQ (qP30))); replace HB := za (zP (qP30) hb); replace HI283 := za (by exact IsS85.below (qP26) hb); clear hb ho16) | ((with_reducible refine zn (f := 60) rfl ?_); refine zO (some 16) rfl rfl Try.func60 (qP22) rfl #[.pointer (some ⟨gb283, 0, none⟩), .int .i64 24] rfl (qP5) ?_; (with_reducible refine (spec_l1Cur_pick.calls gb283 l0 t287 t288 24 t292 t293 t294 w _ ?s1 ?s2 A3.1).mono ?_); (case s1 => exact (qP26)); (case s2 => exact (qP30)); rintro e w17 ⟨rfl, hi, hb, hk⟩; refine ⟨_, rfl, ?_⟩; replace HO286 := za (qP93 HO286.1); replace HO291 := za (qP93 HO291.1); replace HB := za hb; replace HI283 := za hi; clear hb hk hi; obtain ⟨Ao18, co18, eo18⟩ := zC HO291.1; subst eo18; have q19 : ((ji4) : Int) ≤ ((y289.length : Int) : Int) := zb (qP9); obtain ⟨i019, hi019, _, hsz19, _⟩ := info_parts info3; have hcut19 := cut_to (P := Try.prog) 88 3 .i64 Try.underlying88 hi019 Ao18 y289.length co18 (ji4) (zb (qP9)) q19 (zB HO291.1).2.1; have hr19 := Kd.R_take (m := ((ji4) : Int).toNat) HO291.1 (by omega); have hy19 : y295.length = ((ji4) : Int).toNat := (by rw [Ny295.1, List.length_take]; omega); rw [← Ny295.1] at hr19; rw [← hy19] at hr19 hcut19; clear hy19 hi019 hsz19 HO291; have HO297 := za hr19; clear hr19; replace q19 := zt q19) | ((with_reducible refine zn (f := 59) rfl ?_); refine zO (some 20) rfl rfl Try.func59 (qP22) rfl #[.pointer (some ⟨gb283, 0, none⟩), .slice Ao18 y295.length co18] rfl (qP5) ?_; (with_reducible refine (spec_l1Cur_among.calls gb283 l0 t293 t294 _ _ y295 t298 t299 t300 w _ ?s1 ?s2 ?s3 ?s4 ?s5 A7.1).mono ?_); (case s1 => exact (qP26)); (case s2 => exact (qP30)); (case s3 => exact (qP6 HO297.1)); (case s4 => exact (qP32 HO297.1)); (case s5 => exact (by exact far_slice (IsS85.own_ne HI283.1 HO297.1 (by decide)))); rintro e w20 ⟨rfl, hi, hb, hk⟩; refine ⟨_, rfl, ?_⟩; replace HO286 := za (qP92 HO286.1); replace HO297 := za (qP92 HO297.1); replace HB := za hb; replace HI283 := za hi; clear hb hk hi) | ((with_reducible refine zo (N := 22) rfl ?_); refine zI (Kd.int .i64) _ 3 ?hg (N := 22) ?hd (xs := ([1, 3, 10, 20, 0, 21] : List Int)) (inner := [.int .i64 1, .int .i64 3, .int .i64 10, .int .i64 20, .int .i64 0, .int .i64 21]) (ok := fun _ => True) (okp := fun _ => True) ?hr ?hp (fun _ hk => hk) trivial (zp _ _) (zm _) (by simp) ?_; (case hd | hg => rfl); (case hr => exact (qP24)); (case hp => exact (qP45)); intro v302 w21 ho22 hb hg_ hnew_; clear hg_ hnew_; (first | rw [← Ny301.1] at ho22 | (simp only [Int.reduceToNat] at ho22; rw [← Ny301.1] at ho22)); replace HO286 := za (qP63 HO286.1); have HO303 := za (zH (Kd.R_new' ho22 (Kd.R_lt (qP0 HO297.1))) (zQ (qP30))); replace HO297 := za (qP73 HO297.1 ho22); replace HB := za (zP (qP30) hb); replace HI283 := za (by exact IsS85.below (qP26) hb); clear hb ho22) | ((with_reducible refine zn (f := 60) rfl ?_); refine zO (some 24) rfl rfl Try.func60 (qP22) rfl #[.pointer (some ⟨gb283, 0, none⟩), .int .i64 24] rfl (qP5) ?_; (with_reducible refine (spec_l1Cur_pick.calls gb283 l0 t299 t300 24 t304 t305 t306 w _ ?s1 ?s2 A8.1).mono ?_); (case s1 => exact (qP26)); (case s2 => exact (qP30)); rintro e w23 ⟨rfl, hi, hb, hk⟩; refine ⟨_, rfl, ?_⟩; replace HO286 := za (qP84 HO286.1); replace HO297 := za (qP84 HO297.1); replace HO303 := za (qP84 HO303.1); replace HB := za hb; replace HI283 := za hi; clear hb hk hi; obtain ⟨Ao24, co24, eo24⟩ := zC HO303.1; subst eo24; have q25 : ((ji9) : Int) ≤ ((y301.length : Int) : Int) := zb (qP9); obtain ⟨i025, hi025, _, hsz25, _⟩ := info_parts info3; have hcut25 := cut_to (P := Try.prog) 88 3 .i64 Try.underlying88 hi025 Ao24 y301.length co24 (ji9) (zb (qP9)) q25 (zB HO303.1).2.1; have hr25 := Kd.R_take (m := ((ji9) : Int).toNat) HO303.1 (by omega); have hy25 : y307.length = ((ji9) : Int).toNat := (by rw [Ny307.1, List.length_take]; omega); rw [← Ny307.1] at hr25; rw [← hy25] at hr25 hcut25; clear hy25 hi025 hsz25 HO303; have HO309 := za hr25; clear hr25; replace q25 := zt q25) | ((with_reducible refine zn (f := 59) rfl ?_); refine zO (some 28) rfl rfl Try.func59 (qP22) rfl #[.pointer (some ⟨gb283, 0, none⟩), .slice Ao24 y307.length co24] rfl (qP5) ?_; (with_reducible refine (spec_l1Cur_among.calls gb283 l0 t305 t306 _ _ y307 t310 t311 t312 w _ ?s1 ?s2 ?s3 ?s4 ?s5 A12.1).mono ?_); (case s1 => exact (qP26)); (case s2 => exact (qP30)); (case s3 => exact (qP6 HO309.1)); (case s4 => exact (qP32 HO309.1)); (case s5 => exact (by exact far_slice (IsS85.own_ne HI283.1 HO309.1 (by decide)))); rintro e w26 ⟨rfl, hi, hb, hk⟩; refine ⟨_, rfl, ?_⟩; replace HO286 := za (qP83 HO286.1); replace HO297 := za (qP83 HO297.1); replace HO309 := za (qP83 HO309.1); replace HB := za hb; replace HI283 := za hi; clear hb hk hi))
     go_ret3
     exact ⟨_, (by first | rfl | (simp [errW_none, errW_some] <;> rfl) | (simp only [← hji4, ← hji9]; first | rfl | (simp [errW_none, errW_some] <;> rfl)) | (simp [*, errW_none, errW_some] <;> rfl)), (qP0 HO286.1), (qP30)⟩
    ·rw [zV c11] at H
     exact zJ H (by simp)
   ·rw [zV c10] at H
    exact zJ H (by simp)
  ·rw [zV c6] at H
   exact zJ H (by simp)
 ·rw [zV c5] at H
  exact zJ H (by simp)

mutual
def impl_SmallestScale.j0 : Nat → List (S44) → Int → Int → Bool → Option (Int × Bool)
 | 0, _, _, _, _ => none
 | k + 1, x0, x1, x2, x27 => if x27 = true then (some (0, false)) else (impl_SmallestScale.l0 k x0 x1 x2 1)
def impl_SmallestScale.l0 : Nat → List (S44) → Int → Int → Int → Option (Int × Bool)
 | 0, _, _, _, _ => none
 | k + 1, x0, x1, x2, x8 => if x8 ≤ 500 then ((impl_newPlan.f k x0 x8).bind fun bt316 => (if bt316.2.2.2.2.1 ≤ x1 then (if bt316.2.2.2.2.2 ≤ x2 then (some (x8, true)) else (impl_SmallestScale.l0 k x0 x1 x2 (wrap64 (x8 + 1)))) else (impl_SmallestScale.l0 k x0 x1 x2 (wrap64 (x8 + 1))))) else (some (0, false))
end
def impl_SmallestScale.f (k : Nat) (l0 : List (S44)) (a1 : Int) (a2 : Int) : Option (Int × Bool) := (impl_AreMarks.f k l0).bind fun t313 => (if t313 = true then (if (l0.length : Int) = 0 then (impl_SmallestScale.j0 k l0 a1 a2 true) else ((impl_within.f a1 1 20).bind fun t314 => (if t314 = true then ((impl_within.f a2 1 20).bind fun t315 => (impl_SmallestScale.j0 k l0 a1 a2 (!t315))) else (impl_SmallestScale.j0 k l0 a1 a2 true)))) else (impl_SmallestScale.j0 k l0 a1 a2 true))
set_option maxHeartbeats 8000000 in
set_option maxRecDepth 100000 in
theorem impl_SmallestScale.calls (k : Nat) (A0 : Option Addr) (c0 : Nat) (l0 : List (S44)) (a1 : Int) (a2 : Int) (r1 : Int) (r2 : Bool) (w : World) (hr0 : Kd.C k44 w A0 l0.length l0) (hc0 : l0.length ≤ c0) (h : impl_SmallestScale.f k l0 a1 a2 = some (r1, r2)) :
  Calls Try.prog 27 #[.slice A0 l0.length c0, .int .i64 a1, .int .i64 a2] w fun e w' => e = .returned (.tuple #[.int .i64 r1, .bool r2]) ∧ Below w.heap.size w w' := by
 have HR0 := za hr0; have HC0 := za hc0; clear hr0 hc0; have HB := za (zp w.heap.size w); have H : ((impl_AreMarks.f k l0).bind fun t313 => (if t313 = true then (if (l0.length : Int) = 0 then (impl_SmallestScale.j0 k l0 a1 a2 true) else ((impl_within.f a1 1 20).bind fun t314 => (if t314 = true then ((impl_within.f a2 1 20).bind fun t315 => (impl_SmallestScale.j0 k l0 a1 a2 (!t315))) else (impl_SmallestScale.j0 k l0 a1 a2 true)))) else (impl_SmallestScale.j0 k l0 a1 a2 true))) = some (r1, r2) := h; clear h; have HC4 := za H; clear H
 go_enter Try.func27, Try.ntmps27
 go_upto_region 1 with (fail)
 go_cut [27] (fun v27 wc => ∃ (kq : Nat) (x27_3 : Bool), v27 = .bool x27_3 ∧ Aside0 (impl_SmallestScale.j0 kq l0 a1 a2 x27_3 = some (r1, r2)) ∧ Aside0 (kq ≤ k) ∧ Aside0 (Below w.heap.size w wc))
 case first =>
  have H := HC4.1; clear HC4; replace H := bindA H; obtain ⟨t313, A5, H⟩ := H; (try dsimp only at H)
  by_cases c6 : t313 = true
  ·subst c6; rw [zU rfl] at H
   by_cases c7 : (l0.length : Int) = 0
   ·rw [zU c7] at H; have c7b0 : ((l0.length : Int) == 0) = true := zM c7; have c7b1 : ((l0.length : Int) != 0) = false := zv c7; clear c7
    (first | rw [c7b0] | (simp only [i64_w, i32_w]; rw [c7b0]) | skip)
    have H' := za H; clear H
    go_wp2_with (first | ((with_reducible refine zn (f := 36) rfl ?_); refine zO (some 11) rfl rfl Try.func36 (qP22) rfl #[.slice A0 l0.length c0] rfl (qP5) ?_; (with_reducible refine (impl_AreMarks.calls k _ _ l0 true _ ?s1 ?s2 A5.1).mono ?_); (case s1 => exact (qP11)); (case s2 => exact HC0.1); rintro e w8 ⟨rfl, hb⟩; refine ⟨_, rfl, ?_⟩; replace HB := za qP64; clear hb))
    go_meet
    case rel => exact ⟨_, (true), (qP17), H', ⟨by first | omega | exact zm _⟩, ⟨(qP1)⟩⟩
   ·rw [zV c7] at H; have c7b0 : ((l0.length : Int) == 0) = false := zu c7; have c7b1 : ((l0.length : Int) != 0) = true := zN c7; have c7b2 : ¬ (l0 = []) := fun h_ => c7 (by rw [h_]; rfl)
    (first | rw [c7b0] | (simp only [i64_w, i32_w]; rw [c7b0]) | skip)
    replace H := bindA H; obtain ⟨t314, A9, H⟩ := H; (try dsimp only at H)
    by_cases c10 : t314 = true
    ·subst c10; rw [zU rfl] at H; replace H := zz H; obtain ⟨t315, A110, H⟩ := H; replace H : (impl_SmallestScale.j0 k l0 a1 a2 (!t315)) = some (r1, r2) := H; have A11 := za A110; clear A110; have H' := za H; clear H
     go_wp2_with (first | ((with_reducible refine zn (f := 36) rfl ?_); refine zO (some 11) rfl rfl Try.func36 (qP22) rfl #[.slice A0 l0.length c0] rfl (qP5) ?_; (with_reducible refine (impl_AreMarks.calls k _ _ l0 true _ ?s1 ?s2 A5.1).mono ?_); (case s1 => exact (qP11)); (case s2 => exact HC0.1); rintro e w12 ⟨rfl, hb⟩; refine ⟨_, rfl, ?_⟩; replace HB := za qP64; clear hb) | (go_at_call 61; (with_reducible refine (impl_within.calls a1 1 20 true _ A9.1).mono ?_); rintro e w' ⟨rfl, ⟨nd, rfl⟩⟩) | (go_at_call 61; (with_reducible refine (impl_within.calls a2 1 20 t315 _ A11.1).mono ?_); rintro e w' ⟨rfl, ⟨nd, rfl⟩⟩))
     go_meet
     case rel => exact ⟨_, (!t315), (qP17), H', ⟨by first | omega | exact zm _⟩, ⟨(qP1)⟩⟩
    ·replace c10 := zl c10; subst c10; rw [zV (show ¬ (false = true) by decide)] at H; have H' := za H; clear H
     go_wp2_with (first | ((with_reducible refine zn (f := 36) rfl ?_); refine zO (some 11) rfl rfl Try.func36 (qP22) rfl #[.slice A0 l0.length c0] rfl (qP5) ?_; (with_reducible refine (impl_AreMarks.calls k _ _ l0 true _ ?s1 ?s2 A5.1).mono ?_); (case s1 => exact (qP11)); (case s2 => exact HC0.1); rintro e w13 ⟨rfl, hb⟩; refine ⟨_, rfl, ?_⟩; replace HB := za qP64; clear hb) | (go_at_call 61; (with_reducible refine (impl_within.calls a1 1 20 false _ A9.1).mono ?_); rintro e w' ⟨rfl, ⟨nd, rfl⟩⟩))
     go_meet
     case rel => exact ⟨_, (true), (qP17), H', ⟨by first | omega | exact zm _⟩, ⟨(qP1)⟩⟩
  ·replace c6 := zl c6; subst c6; rw [zV (show ¬ (false = true) by decide)] at H; have H' := za H; clear H
   go_wp2_with (first | ((with_reducible refine zn (f := 36) rfl ?_); refine zO (some 11) rfl rfl Try.func36 (qP22) rfl #[.slice A0 l0.length c0] rfl (qP5) ?_; (with_reducible refine (impl_AreMarks.calls k _ _ l0 false _ ?s1 ?s2 A5.1).mono ?_); (case s1 => exact (qP11)); (case s2 => exact HC0.1); rintro e w14 ⟨rfl, hb⟩; refine ⟨_, rfl, ?_⟩; replace HB := za qP64; clear hb))
   go_meet
   case rel => exact ⟨_, (true), (qP17), H', ⟨by first | omega | exact zm _⟩, ⟨(qP1)⟩⟩
 case rest =>
  clear HC4; obtain ⟨kq, x27_3, rfl, HA, HJ3, HB⟩ := hcut
  cases kq with
  | zero => exact zJ HA.1 (by simp [impl_SmallestScale.j0])
  | succ kj3 =>
   have H := HA.1; clear HA; simp only [impl_SmallestScale.j0] at H
   by_cases c15 : x27_3 = true
   ·subst c15; rw [zU rfl] at H; simp only [zW, zX] at H; obtain ⟨rfl, rfl⟩ := H
    go_wp2
    go_ret2
    exact ⟨(qP19), (qP1)⟩
   ·replace c15 := zl c15; subst c15; rw [zV (show ¬ (false = true) by decide)] at H; have H' := za H; clear H
    go_wp2
    go_loopg [8] kj3 (fun kq v8 w' => ∃ (x8_2 : Int), v8 = .int .i64 x8_2 ∧ Aside0 (impl_SmallestScale.l0 kq l0 a1 a2 x8_2 = some (r1, r2)) ∧ Aside0 (kq ≤ kj3) ∧ Aside0 (Below w.heap.size w w'))
    case atStart => exact ⟨(1), (qP17), H', ⟨zm _⟩, ⟨(qP1)⟩⟩
    case round =>
     clear H'; (try clear c15); obtain ⟨x8_2, rfl, HA, HK2, HB⟩ := hrel
     cases gk with
     | zero => exact zJ HA.1 (by simp [impl_SmallestScale.l0])
     | succ k2 =>
      have H := HA.1; clear HA; simp only [impl_SmallestScale.l0] at H
      by_cases c16 : x8_2 ≤ 500
      ·rw [zU c16] at H; have c16b0 : decide (x8_2 ≤ 500) = true := zc c16; clear c16; replace H := bindA H; obtain ⟨⟨t316, t317, t318, t319, t320, t321⟩, A17, H⟩ := H; (try dsimp only at H)
       by_cases c18 : t320 ≤ a1
       ·rw [zU c18] at H; have c18b0 : decide (t320 ≤ a1) = true := zc c18; clear c18
        by_cases c19 : t321 ≤ a2
        ·rw [zU c19] at H; have c19b0 : decide (t321 ≤ a2) = true := zc c19; clear c19; simp only [zW, zX] at H; obtain ⟨rfl, rfl⟩ := H
         go_wp2_with (first | ((with_reducible refine zn (f := 62) rfl ?_); refine zO (some 34) rfl rfl Try.func62 (qP22) rfl #[.slice A0 l0.length c0, .int .i64 x8_2] rfl (qP5) ?_; (with_reducible refine (impl_newPlan.calls k2 _ _ l0 x8_2 t316 t317 t318 t319 t320 t321 w _ ?s1 ?s2 ?s3 A17.1).mono ?_); (case s1 => exact (qP1)); (case s2 => exact HR0.1); (case s3 => exact HC0.1); rintro e w20 ⟨g322, rfl, hi, hb, hb2⟩; refine ⟨_, rfl, ?_⟩; replace HB := za hb; have HI322 := za hi; clear hb hb2 hi; obtain ⟨ASz21_0, cSz21_0, HGz21, hgz21, HSz21_0⟩ := HI322.1; have hcz21_0 := cellS79_0 HGz21; have hcz21_1 := cellS79_1 HGz21; have hcz21_2 := cellS79_2 HGz21; have hcz21_3 := cellS79_3 HGz21; have hcz21_4 := cellS79_4 HGz21; have hcz21_5 := cellS79_5 HGz21; have hfz21_1 := ze HGz21 1; have hfz21_2 := ze HGz21 2; have hfz21_3 := ze HGz21 3; have hfz21_4 := ze HGz21 4; have hfz21_5 := ze HGz21 5; clear HGz21 hgz21))
         go_ret2
         exact ⟨(qP19), (qP46)⟩
        ·rw [zV c19] at H; have c19b0 : decide (t321 ≤ a2) = false := zs c19; clear c19; have H' := za H; clear H
         go_wp2_with (first | ((with_reducible refine zn (f := 62) rfl ?_); refine zO (some 34) rfl rfl Try.func62 (qP22) rfl #[.slice A0 l0.length c0, .int .i64 x8_2] rfl (qP5) ?_; (with_reducible refine (impl_newPlan.calls k2 _ _ l0 x8_2 t316 t317 t318 t319 t320 t321 w _ ?s1 ?s2 ?s3 A17.1).mono ?_); (case s1 => exact (qP1)); (case s2 => exact HR0.1); (case s3 => exact HC0.1); rintro e w22 ⟨g322, rfl, hi, hb, hb2⟩; refine ⟨_, rfl, ?_⟩; replace HB := za hb; have HI322 := za hi; clear hb hb2 hi; obtain ⟨ASz23_0, cSz23_0, HGz23, hgz23, HSz23_0⟩ := HI322.1; have hcz23_0 := cellS79_0 HGz23; have hcz23_1 := cellS79_1 HGz23; have hcz23_2 := cellS79_2 HGz23; have hcz23_3 := cellS79_3 HGz23; have hcz23_4 := cellS79_4 HGz23; have hcz23_5 := cellS79_5 HGz23; have hfz23_1 := ze HGz23 1; have hfz23_2 := ze HGz23 2; have hfz23_3 := ze HGz23 3; have hfz23_4 := ze HGz23 4; have hfz23_5 := ze HGz23 5; clear HGz23 hgz23))
         go_roundg k2
         case measure => have := HJ3.1; have := HK2.1; omega
         case rel => exact ⟨(wrap64 (x8_2 + 1)), (qP17), H', ⟨by have := HJ3.1; have := HK2.1; omega⟩, ⟨(qP46)⟩⟩
       ·rw [zV c18] at H; have c18b0 : decide (t320 ≤ a1) = false := zs c18; clear c18; have H' := za H; clear H
        go_wp2_with (first | ((with_reducible refine zn (f := 62) rfl ?_); refine zO (some 34) rfl rfl Try.func62 (qP22) rfl #[.slice A0 l0.length c0, .int .i64 x8_2] rfl (qP5) ?_; (with_reducible refine (impl_newPlan.calls k2 _ _ l0 x8_2 t316 t317 t318 t319 t320 t321 w _ ?s1 ?s2 ?s3 A17.1).mono ?_); (case s1 => exact (qP1)); (case s2 => exact HR0.1); (case s3 => exact HC0.1); rintro e w24 ⟨g322, rfl, hi, hb, hb2⟩; refine ⟨_, rfl, ?_⟩; replace HB := za hb; have HI322 := za hi; clear hb hb2 hi; obtain ⟨ASz25_0, cSz25_0, HGz25, hgz25, HSz25_0⟩ := HI322.1; have hcz25_0 := cellS79_0 HGz25; have hcz25_1 := cellS79_1 HGz25; have hcz25_2 := cellS79_2 HGz25; have hcz25_3 := cellS79_3 HGz25; have hcz25_4 := cellS79_4 HGz25; have hcz25_5 := cellS79_5 HGz25; have hfz25_1 := ze HGz25 1; have hfz25_2 := ze HGz25 2; have hfz25_3 := ze HGz25 3; have hfz25_4 := ze HGz25 4; have hfz25_5 := ze HGz25 5; clear HGz25 hgz25))
        go_roundg k2
        case measure => have := HJ3.1; have := HK2.1; omega
        case rel => exact ⟨(wrap64 (x8_2 + 1)), (qP17), H', ⟨by have := HJ3.1; have := HK2.1; omega⟩, ⟨(qP46)⟩⟩
      ·rw [zV c16] at H; have c16b0 : decide (x8_2 ≤ 500) = false := zs c16; clear c16; simp only [zW, zX] at H; obtain ⟨rfl, rfl⟩ := H
       go_wp2
       go_ret2
       exact ⟨(qP19), (qP1)⟩

mutual
def spec_SmallestScale.j0 : Nat → List (S44) → Int → Int → Bool → Option (Int × Bool)
 | 0, _, _, _, _ => none
 | k + 1, x0, x1, x2, x30 => if x30 = true then (some (0, false)) else (spec_SmallestScale.l0 k x0 x1 x2 1)
def spec_SmallestScale.l0 : Nat → List (S44) → Int → Int → Int → Option (Int × Bool)
 | 0, _, _, _, _ => none
 | k + 1, x0, x1, x2, x8 => if x8 ≤ 500 then ((spec_l13Bounds.f k x0 x8).bind fun bt326 => (if (wrap64 (bt326.2.1 - bt326.1)) < x1 then (if (wrap64 (bt326.2.2.2 - bt326.2.2.1)) < x2 then (some (x8, true)) else (spec_SmallestScale.l0 k x0 x1 x2 (wrap64 (x8 + 1)))) else (spec_SmallestScale.l0 k x0 x1 x2 (wrap64 (x8 + 1))))) else (some (0, false))
end
def spec_SmallestScale.f (k : Nat) (l0 : List (S44)) (a1 : Int) (a2 : Int) : Option (Int × Bool) := (spec_l13Good.f k l0).bind fun t323 => (if t323 = true then (if (l0.length : Int) = 0 then (spec_SmallestScale.j0 k l0 a1 a2 true) else ((spec_l1In.f a1 1 20).bind fun t324 => (if t324 = true then ((spec_l1In.f a2 1 20).bind fun t325 => (spec_SmallestScale.j0 k l0 a1 a2 (!t325))) else (spec_SmallestScale.j0 k l0 a1 a2 true)))) else (spec_SmallestScale.j0 k l0 a1 a2 true))
set_option maxHeartbeats 8000000 in
set_option maxRecDepth 100000 in
theorem spec_SmallestScale.calls (k : Nat) (A0 : Option Addr) (c0 : Nat) (l0 : List (S44)) (a1 : Int) (a2 : Int) (r1 : Int) (r2 : Bool) (w : World) (hr0 : Kd.C k44 w A0 l0.length l0) (hc0 : l0.length ≤ c0) (h : spec_SmallestScale.f k l0 a1 a2 = some (r1, r2)) :
  Calls Try.prog 28 #[.slice A0 l0.length c0, .int .i64 a1, .int .i64 a2] w fun e w' => e = .returned (.tuple #[.int .i64 r1, .bool r2]) ∧ Below w.heap.size w w' := by
 have HR0 := za hr0; have HC0 := za hc0; clear hr0 hc0; have HB := za (zp w.heap.size w); have H : ((spec_l13Good.f k l0).bind fun t323 => (if t323 = true then (if (l0.length : Int) = 0 then (spec_SmallestScale.j0 k l0 a1 a2 true) else ((spec_l1In.f a1 1 20).bind fun t324 => (if t324 = true then ((spec_l1In.f a2 1 20).bind fun t325 => (spec_SmallestScale.j0 k l0 a1 a2 (!t325))) else (spec_SmallestScale.j0 k l0 a1 a2 true)))) else (spec_SmallestScale.j0 k l0 a1 a2 true))) = some (r1, r2) := h; clear h; have HC4 := za H; clear H
 go_enter Try.func28, Try.ntmps28
 go_upto_region 1 with (fail)
 go_cut [30] (fun v30 wc => ∃ (kq : Nat) (x30_3 : Bool), v30 = .bool x30_3 ∧ Aside0 (spec_SmallestScale.j0 kq l0 a1 a2 x30_3 = some (r1, r2)) ∧ Aside0 (kq ≤ k) ∧ Aside0 (Below w.heap.size w wc))
 case first =>
  have H := HC4.1; clear HC4; replace H := bindA H; obtain ⟨t323, A5, H⟩ := H; (try dsimp only at H)
  by_cases c6 : t323 = true
  ·subst c6; rw [zU rfl] at H
   by_cases c7 : (l0.length : Int) = 0
   ·rw [zU c7] at H; have c7b0 : ((l0.length : Int) == 0) = true := zM c7; have c7b1 : ((l0.length : Int) != 0) = false := zv c7; clear c7
    (first | rw [c7b0] | (simp only [i64_w, i32_w]; rw [c7b0]) | skip)
    have H' := za H; clear H
    go_wp2_with (first | ((with_reducible refine zn (f := 63) rfl ?_); refine zO (some 14) rfl rfl Try.func63 (qP22) rfl #[.slice A0 l0.length c0] rfl (qP5) ?_; (with_reducible refine (spec_l13Good.calls k _ _ l0 true _ ?s1 ?s2 A5.1).mono ?_); (case s1 => exact (qP11)); (case s2 => exact HC0.1); rintro e w8 ⟨rfl, hb⟩; refine ⟨_, rfl, ?_⟩; replace HB := za qP64; clear hb))
    go_meet
    case rel => exact ⟨_, (true), (qP17), H', ⟨by first | omega | exact zm _⟩, ⟨(qP1)⟩⟩
   ·rw [zV c7] at H; have c7b0 : ((l0.length : Int) == 0) = false := zu c7; have c7b1 : ((l0.length : Int) != 0) = true := zN c7; have c7b2 : ¬ (l0 = []) := fun h_ => c7 (by rw [h_]; rfl)
    (first | rw [c7b0] | (simp only [i64_w, i32_w]; rw [c7b0]) | skip)
    replace H := bindA H; obtain ⟨t324, A9, H⟩ := H; (try dsimp only at H)
    by_cases c10 : t324 = true
    ·subst c10; rw [zU rfl] at H; replace H := zz H; obtain ⟨t325, A110, H⟩ := H; replace H : (spec_SmallestScale.j0 k l0 a1 a2 (!t325)) = some (r1, r2) := H; have A11 := za A110; clear A110; have H' := za H; clear H
     go_wp2_with (first | ((with_reducible refine zn (f := 63) rfl ?_); refine zO (some 14) rfl rfl Try.func63 (qP22) rfl #[.slice A0 l0.length c0] rfl (qP5) ?_; (with_reducible refine (spec_l13Good.calls k _ _ l0 true _ ?s1 ?s2 A5.1).mono ?_); (case s1 => exact (qP11)); (case s2 => exact HC0.1); rintro e w12 ⟨rfl, hb⟩; refine ⟨_, rfl, ?_⟩; replace HB := za qP64; clear hb) | (go_at_call 64; (with_reducible refine (spec_l1In.calls a1 1 20 true _ A9.1).mono ?_); rintro e w' ⟨rfl, ⟨nd, rfl⟩⟩) | (go_at_call 64; (with_reducible refine (spec_l1In.calls a2 1 20 t325 _ A11.1).mono ?_); rintro e w' ⟨rfl, ⟨nd, rfl⟩⟩))
     go_meet
     case rel => exact ⟨_, (!t325), (qP17), H', ⟨by first | omega | exact zm _⟩, ⟨(qP1)⟩⟩
    ·replace c10 := zl c10; subst c10; rw [zV (show ¬ (false = true) by decide)] at H; have H' := za H; clear H
     go_wp2_with (first | ((with_reducible refine zn (f := 63) rfl ?_); refine zO (some 14) rfl rfl Try.func63 (qP22) rfl #[.slice A0 l0.length c0] rfl (qP5) ?_; (with_reducible refine (spec_l13Good.calls k _ _ l0 true _ ?s1 ?s2 A5.1).mono ?_); (case s1 => exact (qP11)); (case s2 => exact HC0.1); rintro e w13 ⟨rfl, hb⟩; refine ⟨_, rfl, ?_⟩; replace HB := za qP64; clear hb) | (go_at_call 64; (with_reducible refine (spec_l1In.calls a1 1 20 false _ A9.1).mono ?_); rintro e w' ⟨rfl, ⟨nd, rfl⟩⟩))
     go_meet
     case rel => exact ⟨_, (true), (qP17), H', ⟨by first | omega | exact zm _⟩, ⟨(qP1)⟩⟩
  ·replace c6 := zl c6; subst c6; rw [zV (show ¬ (false = true) by decide)] at H; have H' := za H; clear H
   go_wp2_with (first | ((with_reducible refine zn (f := 63) rfl ?_); refine zO (some 14) rfl rfl Try.func63 (qP22) rfl #[.slice A0 l0.length c0] rfl (qP5) ?_; (with_reducible refine (spec_l13Good.calls k _ _ l0 false _ ?s1 ?s2 A5.1).mono ?_); (case s1 => exact (qP11)); (case s2 => exact HC0.1); rintro e w14 ⟨rfl, hb⟩; refine ⟨_, rfl, ?_⟩; replace HB := za qP64; clear hb))
   go_meet
   case rel => exact ⟨_, (true), (qP17), H', ⟨by first | omega | exact zm _⟩, ⟨(qP1)⟩⟩
 case rest =>
  clear HC4; obtain ⟨kq, x30_3, rfl, HA, HJ3, HB⟩ := hcut
  cases kq with
  | zero => exact zJ HA.1 (by simp [spec_SmallestScale.j0])
  | succ kj3 =>
   have H := HA.1; clear HA; simp only [spec_SmallestScale.j0] at H
   by_cases c15 : x30_3 = true
   ·subst c15; rw [zU rfl] at H; simp only [zW, zX] at H; obtain ⟨rfl, rfl⟩ := H
    go_wp2
    go_ret2
    exact ⟨(qP19), (qP1)⟩
   ·replace c15 := zl c15; subst c15; rw [zV (show ¬ (false = true) by decide)] at H; have H' := za H; clear H
    go_wp2
    go_loopg [8] kj3 (fun kq v8 w' => ∃ (x8_2 : Int), v8 = .int .i64 x8_2 ∧ Aside0 (spec_SmallestScale.l0 kq l0 a1 a2 x8_2 = some (r1, r2)) ∧ Aside0 (kq ≤ kj3) ∧ Aside0 (Below w.heap.size w w'))
    case atStart => exact ⟨(1), (qP17), H', ⟨zm _⟩, ⟨(qP1)⟩⟩
    case round =>
     clear H'; (try clear c15); obtain ⟨x8_2, rfl, HA, HK2, HB⟩ := hrel
     cases gk with
     | zero => exact zJ HA.1 (by simp [spec_SmallestScale.l0])
     | succ k2 =>
      have H := HA.1; clear HA; simp only [spec_SmallestScale.l0] at H
      by_cases c16 : x8_2 ≤ 500
      ·rw [zU c16] at H; have c16b0 : decide (x8_2 ≤ 500) = true := zc c16; clear c16; replace H := bindA H; obtain ⟨⟨t326, t327, t328, t329⟩, A17, H⟩ := H; (try dsimp only at H)
       by_cases c18 : (wrap64 (t327 - t326)) < a1
       ·rw [zU c18] at H; have c18b0 : decide ((wrap64 (t327 - t326)) < a1) = true := zc c18; clear c18
        by_cases c19 : (wrap64 (t329 - t328)) < a2
        ·rw [zU c19] at H; have c19b0 : decide ((wrap64 (t329 - t328)) < a2) = true := zc c19; clear c19; simp only [zW, zX] at H; obtain ⟨rfl, rfl⟩ := H
         go_wp2_with (first | ((with_reducible refine zn (f := 45) rfl ?_); refine zO (some 38) rfl rfl Try.func45 (qP22) rfl #[.slice A0 l0.length c0, .int .i64 x8_2] rfl (qP5) ?_; (with_reducible refine (spec_l13Bounds.calls k2 _ _ l0 x8_2 t326 t327 t328 t329 _ ?s1 ?s2 A17.1).mono ?_); (case s1 => exact (qP11)); (case s2 => exact HC0.1); rintro e w' ⟨rfl, ⟨nd, rfl⟩⟩; refine ⟨_, rfl, ?_⟩))
         go_ret2
         exact ⟨(qP19), (qP1)⟩
        ·rw [zV c19] at H; have c19b0 : decide ((wrap64 (t329 - t328)) < a2) = false := zs c19; clear c19; have H' := za H; clear H
         go_wp2_with (first | ((with_reducible refine zn (f := 45) rfl ?_); refine zO (some 38) rfl rfl Try.func45 (qP22) rfl #[.slice A0 l0.length c0, .int .i64 x8_2] rfl (qP5) ?_; (with_reducible refine (spec_l13Bounds.calls k2 _ _ l0 x8_2 t326 t327 t328 t329 _ ?s1 ?s2 A17.1).mono ?_); (case s1 => exact (qP11)); (case s2 => exact HC0.1); rintro e w' ⟨rfl, ⟨nd, rfl⟩⟩; refine ⟨_, rfl, ?_⟩))
         go_roundg k2
         case measure => have := HJ3.1; have := HK2.1; omega
         case rel => exact ⟨(wrap64 (x8_2 + 1)), (qP17), H', ⟨by have := HJ3.1; have := HK2.1; omega⟩, ⟨(qP1)⟩⟩
       ·rw [zV c18] at H; have c18b0 : decide ((wrap64 (t327 - t326)) < a1) = false := zs c18; clear c18; have H' := za H; clear H
        go_wp2_with (first | ((with_reducible refine zn (f := 45) rfl ?_); refine zO (some 38) rfl rfl Try.func45 (qP22) rfl #[.slice A0 l0.length c0, .int .i64 x8_2] rfl (qP5) ?_; (with_reducible refine (spec_l13Bounds.calls k2 _ _ l0 x8_2 t326 t327 t328 t329 _ ?s1 ?s2 A17.1).mono ?_); (case s1 => exact (qP11)); (case s2 => exact HC0.1); rintro e w' ⟨rfl, ⟨nd, rfl⟩⟩; refine ⟨_, rfl, ?_⟩))
        go_roundg k2
        case measure => have := HJ3.1; have := HK2.1; omega
        case rel => exact ⟨(wrap64 (x8_2 + 1)), (qP17), H', ⟨by have := HJ3.1; have := HK2.1; omega⟩, ⟨(qP1)⟩⟩
      ·rw [zV c16] at H; have c16b0 : decide (x8_2 ≤ 500) = false := zs c16; clear c16; simp only [zW, zX] at H; obtain ⟨rfl, rfl⟩ := H
       go_wp2
       go_ret2
       exact ⟨(qP19), (qP1)⟩

def spec_DrawSquareOf.f (k : Nat) (l0 : List Int) : Option ((List (S44)) × Int × ByteArray) := (spec_l1Cur_marks13.f k l0 0 0).bind fun bt331 => ((spec_l1Cur_scale13.f l0 bt331.2.1 bt331.2.2).bind fun bt336 => ((spec_l1Cur_of.f l0 bt336.2.1 bt336.2.2 (([(⟨#[65]⟩ : ByteArray), (⟨#[66]⟩ : ByteArray), (⟨#[67]⟩ : ByteArray), (⟨#[68]⟩ : ByteArray), (⟨#[90]⟩ : ByteArray), (⟨#[]⟩ : ByteArray)] : List ByteArray))).bind fun bt342 => (some (bt331.1, bt336.1, bt342.1))))
set_option maxHeartbeats 8000000 in
set_option maxRecDepth 100000 in
theorem spec_DrawSquareOf.calls (k : Nat) (A0 : Option Addr) (c0 : Nat) (l0 : List Int) (r1 : List (S44)) (r2 : Int) (r3 : ByteArray) (w : World) (hr0 : Kd.C (Kd.int .u8) w A0 l0.length l0) (hc0 : l0.length ≤ c0) (h : spec_DrawSquareOf.f k l0 = some (r1, r2, r3)) :
  Calls Try.prog 29 #[.slice A0 l0.length c0] w fun e w' => ∃ v0_ : Value, e = .returned (.tuple #[v0_, .int .i64 r2, .string r3]) ∧ Kd.R k44 44 w' w.heap.size (fun _ => True) v0_ r1 ∧ Below w.heap.size w w' := by
 have hu85 := Try.underlying85; have HR0 := za hr0; have HC0 := za hc0; clear hr0 hc0; have HB := za (zp w.heap.size w); have H : ((spec_l1Cur_marks13.f k l0 0 0).bind fun bt331 => ((spec_l1Cur_scale13.f l0 bt331.2.1 bt331.2.2).bind fun bt336 => ((spec_l1Cur_of.f l0 bt336.2.1 bt336.2.2 (([(⟨#[65]⟩ : ByteArray), (⟨#[66]⟩ : ByteArray), (⟨#[67]⟩ : ByteArray), (⟨#[68]⟩ : ByteArray), (⟨#[90]⟩ : ByteArray), (⟨#[]⟩ : ByteArray)] : List ByteArray))).bind fun bt342 => (some (bt331.1, bt336.1, bt342.1))))) = some (r1, r2, r3) := h; clear h; replace H := bindA H; obtain ⟨⟨t331, t334, t335⟩, A2, H⟩ := H; (try dsimp only at H); replace H := bindA H; obtain ⟨⟨t336, t337, t338⟩, A3, H⟩ := H; (try dsimp only at H); obtain ⟨y339, hy339⟩ : ∃ y_ : List ByteArray, y_ = (([(⟨#[65]⟩ : ByteArray), (⟨#[66]⟩ : ByteArray), (⟨#[67]⟩ : ByteArray), (⟨#[68]⟩ : ByteArray), (⟨#[90]⟩ : ByteArray), (⟨#[]⟩ : ByteArray)] : List ByteArray)) := ⟨_, rfl⟩; replace H : ((spec_l1Cur_of.f l0 t337 t338 y339).bind fun bt342 => (some (t331, t336, bt342.1))) = some (r1, r2, r3) := (qP13 hy339); have Ny339 := za hy339; clear hy339; replace H := zz H; obtain ⟨⟨t342, t343, t344⟩, A40, H⟩ := H; replace H : (some (t331, t336, t342)) = some (r1, r2, r3) := H; have A4 := za A40; clear A40; simp only [zW, zX] at H; obtain ⟨rfl, rfl, rfl⟩ := H
 go_enter Try.func29, Try.ntmps29
 go_wp2_with (first | ((with_reducible refine zo (N := 9) rfl ?_); refine zy ?hg (N := 9) ?hd (cs := #[.slice A0 l0.length c0, .int .i64 0, .int .u64 0]) (t := 85) ?hr ?_; (case hd | hg => rfl); (case hr => exact (qP24)); intro gb330 hg w5 hbox hb; have GW330 := za (by exact (by rw [hg]; exact (zQ (qP1)) : w.heap.size ≤ gb330)); have GE330 := za (by exact (by rw [hg]; exact (zQ (qP1)) : w.heap.size ≤ gb330)); have HI330 := za (by exact (show IsS85 w w5 gb330 l0 0 0 from ⟨_, _, hbox, (by rw [hg]; exact (zQ (qP1))), HR0.1⟩)); replace HB := za qP64; clear hb hbox hg) | ((with_reducible refine zn (f := 58) rfl ?_); refine zO (some 11) rfl rfl Try.func58 (qP22) rfl #[.pointer (some ⟨gb330, 0, none⟩)] rfl (qP5) ?_; (with_reducible refine (spec_l1Cur_marks13.calls k gb330 l0 0 0 t331 t334 t335 w _ ?s1 ?s2 A2.1).mono ?_); (case s1 => exact (qP35)); (case s2 => exact (qP34)); rintro e w6 ⟨v332, rfl, ho0, hi, hb, hk⟩; refine ⟨_, rfl, ?_⟩; have HO333 := za (zH ho0 (zQ (qP34))); replace HB := za hb; replace HI330 := za hi; clear hb hk hi ho0) | ((with_reducible refine zn (f := 65) rfl ?_); refine zO (some 14) rfl rfl Try.func65 (qP22) rfl #[.pointer (some ⟨gb330, 0, none⟩)] rfl (qP5) ?_; (with_reducible refine (spec_l1Cur_scale13.calls gb330 l0 t334 t335 t336 t337 t338 w _ ?s1 ?s2 A3.1).mono ?_); (case s1 => exact (qP35)); (case s2 => exact (qP34)); rintro e w7 ⟨rfl, hi, hb, hk⟩; refine ⟨_, rfl, ?_⟩; replace HO333 := za (by exact zD (zF (IsS85.apart (show IsS85 w _ gb330 l0 t334 t335 from (qP35)) (qP0 HO333.1) (by decide)) hk (fun _ h => h.2)) (fun _ h => h.1)); replace HB := za hb; replace HI330 := za hi; clear hb hk hi) | ((with_reducible refine zo (N := 16) rfl ?_); refine zI Kd.string _ 9 ?hg (N := 16) ?hd (xs := ([(⟨#[65]⟩ : ByteArray), (⟨#[66]⟩ : ByteArray), (⟨#[67]⟩ : ByteArray), (⟨#[68]⟩ : ByteArray), (⟨#[90]⟩ : ByteArray), (⟨#[]⟩ : ByteArray)] : List ByteArray)) (inner := [.string (⟨#[65]⟩ : ByteArray), .string (⟨#[66]⟩ : ByteArray), .string (⟨#[67]⟩ : ByteArray), .string (⟨#[68]⟩ : ByteArray), .string (⟨#[90]⟩ : ByteArray), .string (⟨#[]⟩ : ByteArray)]) (ok := fun _ => True) (okp := fun _ => True) ?hr ?hp (fun _ hk => hk) trivial (zp _ _) (zm _) (by simp) ?_; (case hd | hg => rfl); (case hr => exact (qP24)); (case hp => exact (by exact (zq (show Kd.M Kd.string _ _ _ (⟨#[65]⟩ : ByteArray) [.string (⟨#[65]⟩ : ByteArray)] from rfl) (zq (show Kd.M Kd.string _ _ _ (⟨#[66]⟩ : ByteArray) [.string (⟨#[66]⟩ : ByteArray)] from rfl) (zq (show Kd.M Kd.string _ _ _ (⟨#[67]⟩ : ByteArray) [.string (⟨#[67]⟩ : ByteArray)] from rfl) (zq (show Kd.M Kd.string _ _ _ (⟨#[68]⟩ : ByteArray) [.string (⟨#[68]⟩ : ByteArray)] from rfl) (zq (show Kd.M Kd.string _ _ _ (⟨#[90]⟩ : ByteArray) [.string (⟨#[90]⟩ : ByteArray)] from rfl) (zq (show Kd.M Kd.string _ _ _ (⟨#[]⟩ : ByteArray) [.string (⟨#[]⟩ : ByteArray)] from rfl) (zr _ _))))))))); intro v340 w8 ho9 hb hg_ hnew_; clear hg_ hnew_; (first | rw [← Ny339.1] at ho9 | (simp only [Int.reduceToNat] at ho9; rw [← Ny339.1] at ho9)); replace HO333 := za (qP63 HO333.1); have HO341 := za (zH ho9 (zQ (qP34))); replace HB := za (zP (qP34) hb); replace HI330 := za (by exact IsS85.below (qP35) hb); clear hb ho9; obtain ⟨Ao10, co10, eo10⟩ := zC HO341.1; subst eo10) | ((with_reducible refine zn (f := 66) rfl ?_); refine zO (some 17) rfl rfl Try.func66 (qP22) rfl #[.pointer (some ⟨gb330, 0, none⟩), .slice Ao10 y339.length co10] rfl (qP5) ?_; (with_reducible refine (spec_l1Cur_of.calls gb330 l0 t337 t338 _ _ y339 t342 t343 t344 w _ ?s1 ?s2 ?s3 ?s4 ?s5 A4.1).mono ?_); (case s1 => exact (qP35)); (case s2 => exact (qP34)); (case s3 => exact (qP6 HO341.1)); (case s4 => exact (qP32 HO341.1)); (case s5 => exact (by exact far_slice (IsS85.own_ne HI330.1 HO341.1 (by decide)))); rintro e w11 ⟨rfl, hi, hb, hk⟩; refine ⟨_, rfl, ?_⟩; replace HO333 := za (qP91 HO333.1); replace HO341 := za (qP91 HO341.1); replace HB := za hb; replace HI330 := za hi; clear hb hk hi))
 go_ret3
 exact ⟨_, (qP19), (qP0 HO333.1), (qP34)⟩

def spec_SquareOf.l0 : Nat → List (S44) → Int → ByteArray → Int → Int → Int → Option (Int × Int × Bool)
 | 0, _, _, _, _, _, _ => none
 | k + 1, x0, x1, x2, x9, x12, x13 => if x13 < (x0.length : Int) then (if 0 ≤ x13 then (if ((rd_T44 x0 x13).f0).toList = x2.toList then ((spec_l13Square.f ((rd_T44 x0 x13).f1) x1).bind fun t352 => ((spec_l13Square.f ((rd_T44 x0 x13).f2) x1).bind fun t354 => (some (wrap64 (t352 - x9), wrap64 (x12 - t354), true)))) else (spec_SquareOf.l0 k x0 x1 x2 x9 x12 (wrap64 (x13 + 1)))) else (none)) else (some (0, 0, false))
def spec_SquareOf.f (k : Nat) (l0 : List (S44)) (a1 : Int) (a2 : ByteArray) : Option (Int × Int × Bool) := (spec_l13Fits.f k l0 a1).bind fun t345 => (if t345 = true then ((spec_l13Bounds.f k l0 a1).bind fun bt346 => (spec_SquareOf.l0 k l0 a1 a2 bt346.1 bt346.2.2.2 0)) else (some (0, 0, false)))
set_option maxHeartbeats 8000000 in
set_option maxRecDepth 100000 in
theorem spec_SquareOf.calls (k : Nat) (A0 : Option Addr) (c0 : Nat) (l0 : List (S44)) (a1 : Int) (a2 : ByteArray) (r1 : Int) (r2 : Int) (r3 : Bool) (w : World) (hr0 : Kd.C k44 w A0 l0.length l0) (hc0 : l0.length ≤ c0) (h : spec_SquareOf.f k l0 a1 a2 = some (r1, r2, r3)) :
  Calls Try.prog 30 #[.slice A0 l0.length c0, .int .i64 a1, .string a2] w fun e w' => e = .returned (.tuple #[.int .i64 r1, .int .i64 r2, .bool r3]) ∧ Below w.heap.size w w' := by
 have HR0 := za hr0; have HC0 := za hc0; clear hr0 hc0; have HB := za (zp w.heap.size w); have H : ((spec_l13Fits.f k l0 a1).bind fun t345 => (if t345 = true then ((spec_l13Bounds.f k l0 a1).bind fun bt346 => (spec_SquareOf.l0 k l0 a1 a2 bt346.1 bt346.2.2.2 0)) else (some (0, 0, false)))) = some (r1, r2, r3) := h; clear h; replace H := bindA H; obtain ⟨t345, A4, H⟩ := H; (try dsimp only at H)
 by_cases c5 : t345 = true
 ·subst c5; rw [zU rfl] at H; replace H := bindA H; obtain ⟨⟨t346, t347, t348, t349⟩, A6, H⟩ := H; (try dsimp only at H); have H' := za H; clear H
  go_enter Try.func30, Try.ntmps30
  go_wp2_with (first | (go_at_call 44; (with_reducible refine (spec_l13Fits.calls k _ _ l0 a1 true _ ?s1 ?s2 A4.1).mono ?_); (case s1 => exact (qP20)); (case s2 => exact HC0.1); rintro e w7 ⟨rfl, hb⟩; replace HB := za qP64; clear hb) | (go_at_call 45; (with_reducible refine (spec_l13Bounds.calls k _ _ l0 a1 t346 t347 t348 t349 _ ?s1 ?s2 A6.1).mono ?_); (case s1 => exact (qP11)); (case s2 => exact HC0.1); rintro e w' ⟨rfl, ⟨nd, rfl⟩⟩; (try first | exact ⟨rfl, _, zL _ _ _⟩ | exact ⟨rfl, _, Eq.trans (zL _ _ _) (congrArg (World.drewN _) (Nat.add_assoc _ _ _))⟩)))
  repeat (go_quiet (first | (go_at_call 44; (with_reducible refine (spec_l13Fits.calls k _ _ l0 a1 true _ ?s1 ?s2 A4.1).mono ?_); (case s1 => exact (qP20)); (case s2 => exact HC0.1); rintro e w7 ⟨rfl, hb⟩; replace HB := za qP64; clear hb) | (go_at_call 45; (with_reducible refine (spec_l13Bounds.calls k _ _ l0 a1 t346 t347 t348 t349 _ ?s1 ?s2 A6.1).mono ?_); (case s1 => exact (qP11)); (case s2 => exact HC0.1); rintro e w' ⟨rfl, ⟨nd, rfl⟩⟩; (try first | exact ⟨rfl, _, zL _ _ _⟩ | exact ⟨rfl, _, Eq.trans (zL _ _ _) (congrArg (World.drewN _) (Nat.add_assoc _ _ _))⟩))); try go_wp2_with (first | (go_at_call 44; (with_reducible refine (spec_l13Fits.calls k _ _ l0 a1 true _ ?s1 ?s2 A4.1).mono ?_); (case s1 => exact (qP20)); (case s2 => exact HC0.1); rintro e w7 ⟨rfl, hb⟩; replace HB := za qP64; clear hb) | (go_at_call 45; (with_reducible refine (spec_l13Bounds.calls k _ _ l0 a1 t346 t347 t348 t349 _ ?s1 ?s2 A6.1).mono ?_); (case s1 => exact (qP11)); (case s2 => exact HC0.1); rintro e w' ⟨rfl, ⟨nd, rfl⟩⟩; (try first | exact ⟨rfl, _, zL _ _ _⟩ | exact ⟨rfl, _, Eq.trans (zL _ _ _) (congrArg (World.drewN _) (Nat.add_assoc _ _ _))⟩))))
  go_loopg [13] k (fun kq v13 w' => ∃ (x13_1 : Int), v13 = .int .i64 x13_1 ∧ Aside0 (spec_SquareOf.l0 kq l0 a1 a2 t346 t349 x13_1 = some (r1, r2, r3)) ∧ Aside0 (kq ≤ k) ∧ Aside0 (Below w.heap.size w w'))
  case atStart => exact ⟨(0), (qP17), H', ⟨zm _⟩, ⟨(qP1)⟩⟩
  case round =>
   clear H'; (try clear c5); obtain ⟨x13_1, rfl, HA, HK1, HB⟩ := hrel
   cases gk with
   | zero => exact zJ HA.1 (by simp [spec_SquareOf.l0])
   | succ k1 =>
    have H := HA.1; clear HA; simp only [spec_SquareOf.l0] at H
    by_cases c8 : x13_1 < (l0.length : Int)
    ·rw [zU c8] at H; have c8b0 : decide (x13_1 < (l0.length : Int)) = true := zc c8; clear c8
     by_cases c9 : 0 ≤ x13_1
     ·rw [zU c9] at H; have c9b0 : decide (0 ≤ x13_1) = true := zc c9; clear c9
      by_cases c10 : ((rd_T44 l0 x13_1).f0).toList = a2.toList
      ·rw [zU c10] at H; have c10b0 : (((rd_T44 l0 x13_1).f0).toList == a2.toList) = true := zM c10; have c10b1 : (((rd_T44 l0 x13_1).f0).toList != a2.toList) = false := zv c10; clear c10; replace H := bindA H; obtain ⟨t352, A11, H⟩ := H; (try dsimp only at H); replace H := bindA H; obtain ⟨t354, A12, H⟩ := H; (try dsimp only at H); simp only [zW, zX] at H; obtain ⟨rfl, rfl, rfl⟩ := H; have p350 : 0 ≤ (x13_1 : Int) := zb (qP9); have q350 : x13_1 < (l0.length : Int) := zb (qP9); obtain ⟨ad350, e350, hx350_0, hx350_1, hx350_2⟩ := at_T44 HR0.1 x13_1 p350 q350; cases e350; replace hx350_0 := (HB.1.cell (zd w _ hx350_0)).trans hx350_0; replace hx350_1 := (HB.1.cell (zd w _ hx350_1)).trans hx350_1; replace hx350_2 := (HB.1.cell (zd w _ hx350_2)).trans hx350_2; replace p350 := zt p350; replace q350 := zt q350; have p351 : 0 ≤ (x13_1 : Int) := zb (qP9); have q351 : x13_1 < (l0.length : Int) := zb (qP9); obtain ⟨ad351, e351, hx351_0, hx351_1, hx351_2⟩ := at_T44 HR0.1 x13_1 p351 q351; obtain rfl : ad350 = ad351 := (by injection e351); replace hx351_0 := (HB.1.cell (zd w _ hx351_0)).trans hx351_0; replace hx351_1 := (HB.1.cell (zd w _ hx351_1)).trans hx351_1; replace hx351_2 := (HB.1.cell (zd w _ hx351_2)).trans hx351_2
       replace p351 := zt p351; replace q351 := zt q351
       go_wp2_with (first | (go_at_call 51; (with_reducible refine (spec_l13Square.calls ((rd_T44 l0 x13_1).f1) a1 t352 _ A11.1).mono ?_); rintro e w' ⟨rfl, ⟨nd, rfl⟩⟩; (try first | exact ⟨rfl, _, zL _ _ _⟩ | exact ⟨rfl, _, Eq.trans (zL _ _ _) (congrArg (World.drewN _) (Nat.add_assoc _ _ _))⟩); have p353 : 0 ≤ (x13_1 : Int) := zb (qP9); have q353 : x13_1 < (l0.length : Int) := zb (qP9); obtain ⟨ad353, e353, hx353_0, hx353_1, hx353_2⟩ := at_T44 HR0.1 x13_1 p353 q353; obtain rfl : ad350 = ad353 := (by injection e353); replace hx353_0 := (HB.1.cell (zd w _ hx353_0)).trans hx353_0; replace hx353_1 := (HB.1.cell (zd w _ hx353_1)).trans hx353_1; replace hx353_2 := (HB.1.cell (zd w _ hx353_2)).trans hx353_2; replace p353 := zt p353; replace q353 := zt q353) | (go_at_call 51; (with_reducible refine (spec_l13Square.calls ((rd_T44 l0 x13_1).f2) a1 t354 _ A12.1).mono ?_); rintro e w' ⟨rfl, ⟨nd, rfl⟩⟩; (try first | exact ⟨rfl, _, zL _ _ _⟩ | exact ⟨rfl, _, Eq.trans (zL _ _ _) (congrArg (World.drewN _) (Nat.add_assoc _ _ _))⟩)))
       repeat (go_quiet (first | (go_at_call 51; (with_reducible refine (spec_l13Square.calls ((rd_T44 l0 x13_1).f1) a1 t352 _ A11.1).mono ?_); rintro e w' ⟨rfl, ⟨nd, rfl⟩⟩; (try first | exact ⟨rfl, _, zL _ _ _⟩ | exact ⟨rfl, _, Eq.trans (zL _ _ _) (congrArg (World.drewN _) (Nat.add_assoc _ _ _))⟩); have p353 : 0 ≤ (x13_1 : Int) := zb (qP9); have q353 : x13_1 < (l0.length : Int) := zb (qP9); obtain ⟨ad353, e353, hx353_0, hx353_1, hx353_2⟩ := at_T44 HR0.1 x13_1 p353 q353; obtain rfl : ad350 = ad353 := (by injection e353); replace hx353_0 := (HB.1.cell (zd w _ hx353_0)).trans hx353_0; replace hx353_1 := (HB.1.cell (zd w _ hx353_1)).trans hx353_1; replace hx353_2 := (HB.1.cell (zd w _ hx353_2)).trans hx353_2; replace p353 := zt p353; replace q353 := zt q353) | (go_at_call 51; (with_reducible refine (spec_l13Square.calls ((rd_T44 l0 x13_1).f2) a1 t354 _ A12.1).mono ?_); rintro e w' ⟨rfl, ⟨nd, rfl⟩⟩; (try first | exact ⟨rfl, _, zL _ _ _⟩ | exact ⟨rfl, _, Eq.trans (zL _ _ _) (congrArg (World.drewN _) (Nat.add_assoc _ _ _))⟩))); try go_wp2_with (first | (go_at_call 51; (with_reducible refine (spec_l13Square.calls ((rd_T44 l0 x13_1).f1) a1 t352 _ A11.1).mono ?_); rintro e w' ⟨rfl, ⟨nd, rfl⟩⟩; (try first | exact ⟨rfl, _, zL _ _ _⟩ | exact ⟨rfl, _, Eq.trans (zL _ _ _) (congrArg (World.drewN _) (Nat.add_assoc _ _ _))⟩); have p353 : 0 ≤ (x13_1 : Int) := zb (qP9); have q353 : x13_1 < (l0.length : Int) := zb (qP9); obtain ⟨ad353, e353, hx353_0, hx353_1, hx353_2⟩ := at_T44 HR0.1 x13_1 p353 q353; obtain rfl : ad350 = ad353 := (by injection e353); replace hx353_0 := (HB.1.cell (zd w _ hx353_0)).trans hx353_0; replace hx353_1 := (HB.1.cell (zd w _ hx353_1)).trans hx353_1; replace hx353_2 := (HB.1.cell (zd w _ hx353_2)).trans hx353_2; replace p353 := zt p353; replace q353 := zt q353) | (go_at_call 51; (with_reducible refine (spec_l13Square.calls ((rd_T44 l0 x13_1).f2) a1 t354 _ A12.1).mono ?_); rintro e w' ⟨rfl, ⟨nd, rfl⟩⟩; (try first | exact ⟨rfl, _, zL _ _ _⟩ | exact ⟨rfl, _, Eq.trans (zL _ _ _) (congrArg (World.drewN _) (Nat.add_assoc _ _ _))⟩))))
       go_ret3
       exact ⟨(qP51), (qP1)⟩
      ·rw [zV c10] at H; have c10b0 : (((rd_T44 l0 x13_1).f0).toList == a2.toList) = false := zu c10; have c10b1 : (((rd_T44 l0 x13_1).f0).toList != a2.toList) = true := zN c10; have H' := za H; clear H; have p350 : 0 ≤ (x13_1 : Int) := zb (qP9); have q350 : x13_1 < (l0.length : Int) := zb (qP9); obtain ⟨ad350, e350, hx350_0, hx350_1, hx350_2⟩ := at_T44 HR0.1 x13_1 p350 q350; cases e350; replace hx350_0 := (HB.1.cell (zd w _ hx350_0)).trans hx350_0; replace hx350_1 := (HB.1.cell (zd w _ hx350_1)).trans hx350_1; replace hx350_2 := (HB.1.cell (zd w _ hx350_2)).trans hx350_2; replace p350 := zt p350; replace q350 := zt q350
       go_wp2
       repeat (go_quiet (fail); try go_wp2)
       go_roundg k1
       case measure => have := HK1.1; omega
       case rel => exact ⟨(wrap64 (x13_1 + 1)), (qP17), H', ⟨by have := HK1.1; omega⟩, ⟨(qP1)⟩⟩
     ·rw [zV c9] at H
      exact zJ H (by simp)
    ·rw [zV c8] at H; have c8b0 : decide (x13_1 < (l0.length : Int)) = false := zs c8; clear c8; simp only [zW, zX] at H; obtain ⟨rfl, rfl, rfl⟩ := H
     go_wp2
     repeat (go_quiet (fail); try go_wp2)
     go_ret3
     exact ⟨(qP51), (qP1)⟩
 ·replace c5 := zl c5; subst c5; rw [zV (show ¬ (false = true) by decide)] at H; simp only [zW, zX] at H; obtain ⟨rfl, rfl, rfl⟩ := H
  go_enter Try.func30, Try.ntmps30
  go_wp2_with (first | (go_at_call 44; (with_reducible refine (spec_l13Fits.calls k _ _ l0 a1 false _ ?s1 ?s2 A4.1).mono ?_); (case s1 => exact (qP20)); (case s2 => exact HC0.1); rintro e w13 ⟨rfl, hb⟩; replace HB := za qP64; clear hb))
  repeat (go_quiet (first | (go_at_call 44; (with_reducible refine (spec_l13Fits.calls k _ _ l0 a1 false _ ?s1 ?s2 A4.1).mono ?_); (case s1 => exact (qP20)); (case s2 => exact HC0.1); rintro e w13 ⟨rfl, hb⟩; replace HB := za qP64; clear hb)); try go_wp2_with (first | (go_at_call 44; (with_reducible refine (spec_l13Fits.calls k _ _ l0 a1 false _ ?s1 ?s2 A4.1).mono ?_); (case s1 => exact (qP20)); (case s2 => exact HC0.1); rintro e w13 ⟨rfl, hb⟩; replace HB := za qP64; clear hb)))
  go_ret3
  exact ⟨(qP51), (qP1)⟩

end Go.Proofs.Ytckidmhkhlbkeaa.MP
