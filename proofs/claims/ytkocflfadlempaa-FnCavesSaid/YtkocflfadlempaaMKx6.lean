-- tight2 (a walk)
import Derived.Test.YtkocflfadlempaaMKx0
import Derived.Test.YtkocflfadlempaaMKx5
namespace Go.Proofs.Ytkocflfadlempaa.MK
open Go.RowKit Go.Proofs.YtkocflfadlempaaW.PrintWords Go.Proofs.YtkocflfadlempaaW.PrintLast
theorem qK6_c0 {p : Prop} (h : p := by
  simp only [Act.put, yf, yg, yh, i64_w, i32_w]
  rfl) : p := h
theorem qK6_c1 {p : Prop} (h : p := by
  intro w'
  go_simp
  with_reducible rfl) : p := h
attribute [local go_sem] max2_int min2_int max_two min_two
set_option linter.unusedVariables false
set_option linter.unusedSimpArgs false

def spec_l1Cur_caves.f (k : Nat) (s0_0 : List Int) (s0_1 : Int) (s0_2 : Int) : Option ((List (S72)) × Int × Int) := (spec_l1Cur_cave.f k s0_0 s0_1 s0_2).bind fun bt338 => ((spec_l1Cur_one.f s0_0 bt338.2.1 bt338.2.2 2).bind fun bt343 => (if bt343.1 = true then (if (bt338.1.length : Int) > 1 then ((spec_l1Cur_pick.f s0_0 bt343.2.1 bt343.2.2 (bt338.1.length : Int)).bind fun bt346 => ((some (([] : List (S72)) : List (S72))).bind fun y349 => (if 0 ≤ bt346.1 then (if bt346.1 ≤ (bt338.1.length : Int) then ((some (bt338.1.take (bt346.1 : Int).toNat : List (S72))).bind fun y352 => (if y349.length + y352.length < 3518437208883 then ((some (y349 ++ y352 : List (S72))).bind fun y356 => (if 0 ≤ (wrap64 (bt346.1 + 1)) then (if (wrap64 (bt346.1 + 1)) ≤ (bt338.1.length : Int) then ((some (bt338.1.drop ((wrap64 (bt346.1 + 1)) : Int).toNat : List (S72))).bind fun y359 => (if y356.length + y359.length < 3518437208883 then (some ((y356 ++ y359), bt346.2.1, bt346.2.2)) else (none))) else (none)) else (none))) else (none))) else (none)) else (none)))) else (some (bt338.1, bt343.2.1, bt343.2.2))) else (some (bt338.1, bt343.2.1, bt343.2.2))))
def spec_l1Cur_caves.T4 : Bool × List (List Nat × List Nat) := (true, [([], []), ([], []), ([], []), ([1, 2], [1, 2]), ([0, 3], [0, 3]), ([], []), ([], []), ([6], [6]), ([5, 7], [5, 7]), ([4, 8, 4], [4, 8]), ([9, 9, 0, 1, 2, 3, 4, 5, 6, 7, 8, 9], [1, 5, 9])])
def spec_l1Cur_caves.B4 : List Nat := [0, 0, 0, 6, 15, 0, 0, 64, 224, 511, 1023]
theorem spec_l1Cur_caves.tab4 : rtab .any (opsOf Try.f24 4) = spec_l1Cur_caves.T4 := by kernel_rfl
theorem spec_l1Cur_caves.bits4 : waitsOk spec_l1Cur_caves.T4.2 spec_l1Cur_caves.B4 = true := by kernel_rfl
set_option maxHeartbeats 8000000 in
set_option maxRecDepth 100000 in
theorem spec_l1Cur_caves.calls (k : Nat) (g : Nat) (s0_0 : List Int) (s0_1 : Int) (s0_2 : Int) (r1 : List (S72)) (r2 : Int) (r3 : Int) (w0 w : World) (hI : IsS54 w0 w g s0_0 s0_1 s0_2) (hB : Below w0.heap.size w0 w) (h : spec_l1Cur_caves.f k s0_0 s0_1 s0_2 = some (r1, r2, r3)) :
  Calls Try.prog 24 #[.pointer (some ⟨g, 0, none⟩)] w fun e w' => ∃ v0_ : Value, e = .returned (v0_) ∧ Kd.R k72 72 w' w.heap.size (fun _ => True) v0_ r1 ∧ IsS54 w0 w' g s0_0 r2 r3 ∧ Below w0.heap.size w0 w' ∧ KeepBut w w' g none := by
 have HI0 := za hI; have HK := za (KeepBut.refl w g none); have HL := za hB.size; clear hI; have HW0 := za hB.size; have HB := za hB; clear hB; have H : ((spec_l1Cur_cave.f k s0_0 s0_1 s0_2).bind fun bt338 => ((spec_l1Cur_one.f s0_0 bt338.2.1 bt338.2.2 2).bind fun bt343 => (if bt343.1 = true then (if (bt338.1.length : Int) > 1 then ((spec_l1Cur_pick.f s0_0 bt343.2.1 bt343.2.2 (bt338.1.length : Int)).bind fun bt346 => ((some (([] : List (S72)) : List (S72))).bind fun y349 => (if 0 ≤ bt346.1 then (if bt346.1 ≤ (bt338.1.length : Int) then ((some (bt338.1.take (bt346.1 : Int).toNat : List (S72))).bind fun y352 => (if y349.length + y352.length < 3518437208883 then ((some (y349 ++ y352 : List (S72))).bind fun y356 => (if 0 ≤ (wrap64 (bt346.1 + 1)) then (if (wrap64 (bt346.1 + 1)) ≤ (bt338.1.length : Int) then ((some (bt338.1.drop ((wrap64 (bt346.1 + 1)) : Int).toNat : List (S72))).bind fun y359 => (if y356.length + y359.length < 3518437208883 then (some ((y356 ++ y359), bt346.2.1, bt346.2.2)) else (none))) else (none)) else (none))) else (none))) else (none)) else (none)))) else (some (bt338.1, bt343.2.1, bt343.2.2))) else (some (bt338.1, bt343.2.1, bt343.2.2))))) = some (r1, r2, r3) := h; clear h; replace H := bindA H; obtain ⟨⟨t338, t341, t342⟩, A2, H⟩ := H; (try dsimp only at H); replace H := bindA H; obtain ⟨⟨t343, t344, t345⟩, A3, H⟩ := H; (try dsimp only at H)
 by_cases c4 : t343 = true
 ·subst c4; rw [yb rfl] at H
  by_cases c5 : (t338.length : Int) > 1
  ·rw [yb c5] at H; have c5b0 : decide (1 < (t338.length : Int)) = true := zc c5; have c5b1 : decide (1 < t338.length) = true := zc (by omega); clear c5; replace H := bindA H; obtain ⟨⟨t346, t347, t348⟩, A6, H⟩ := H; (try dsimp only at H); obtain ⟨y349, hy349⟩ : ∃ y_ : List (S72), y_ = (([] : List (S72))) := ⟨_, rfl⟩; replace H : (if 0 ≤ t346 then (if t346 ≤ (t338.length : Int) then ((some (t338.take (t346 : Int).toNat : List (S72))).bind fun y352 => (if y349.length + y352.length < 3518437208883 then ((some (y349 ++ y352 : List (S72))).bind fun y356 => (if 0 ≤ (wrap64 (t346 + 1)) then (if (wrap64 (t346 + 1)) ≤ (t338.length : Int) then ((some (t338.drop ((wrap64 (t346 + 1)) : Int).toNat : List (S72))).bind fun y359 => (if y356.length + y359.length < 3518437208883 then (some ((y356 ++ y359), t347, t348)) else (none))) else (none)) else (none))) else (none))) else (none)) else (none)) = some (r1, r2, r3) := (qK4 hy349); have Ny349 := za hy349; clear hy349
   by_cases c7 : 0 ≤ t346
   ·rw [yb c7] at H; have c7b0 := zw c7; have c7b1 : decide (0 ≤ t346) = true := zc c7; clear c7
    by_cases c8 : t346 ≤ (t338.length : Int)
    ·rw [yb c8] at H; have c8b0 := zw c8; have c8b1 : decide (t346 ≤ (t338.length : Int)) = true := zc c8; clear c8; obtain ⟨y352, hy352⟩ : ∃ y_ : List (S72), y_ = (t338.take (t346 : Int).toNat) := ⟨_, rfl⟩; replace H : (if y349.length + y352.length < 3518437208883 then ((some (y349 ++ y352 : List (S72))).bind fun y356 => (if 0 ≤ (wrap64 (t346 + 1)) then (if (wrap64 (t346 + 1)) ≤ (t338.length : Int) then ((some (t338.drop ((wrap64 (t346 + 1)) : Int).toNat : List (S72))).bind fun y359 => (if y356.length + y359.length < 3518437208883 then (some ((y356 ++ y359), t347, t348)) else (none))) else (none)) else (none))) else (none)) = some (r1, r2, r3) := (qK4 hy352); have Ny352 := za hy352; clear hy352
     by_cases c9 : y349.length + y352.length < 3518437208883
     ·rw [yb c9] at H; have LMc9 := za c9; clear c9; obtain ⟨y356, hy356⟩ : ∃ y_ : List (S72), y_ = (y349 ++ y352) := ⟨_, rfl⟩; replace H : (if 0 ≤ (wrap64 (t346 + 1)) then (if (wrap64 (t346 + 1)) ≤ (t338.length : Int) then ((some (t338.drop ((wrap64 (t346 + 1)) : Int).toNat : List (S72))).bind fun y359 => (if y356.length + y359.length < 3518437208883 then (some ((y356 ++ y359), t347, t348)) else (none))) else (none)) else (none)) = some (r1, r2, r3) := (qK4 hy356); have Ny356 := za hy356; clear hy356; obtain ⟨ji10, hji10⟩ : ∃ j_ : Int, (wrap64 (t346 + 1)) = j_ := ⟨_, rfl⟩
      replace H : (if 0 ≤ (ji10) then (if (ji10) ≤ (t338.length : Int) then ((some (t338.drop ((ji10) : Int).toNat : List (S72))).bind fun y359 => (if y356.length + y359.length < 3518437208883 then (some ((y356 ++ y359), t347, t348)) else (none))) else (none)) else (none)) = some (r1, r2, r3) := by first | (rw [hji10] at H; exact H) | (simp only [hji10] at H ⊢; exact H)
      (try rw [hji10] at A2)
      (try rw [hji10] at A3)
      (try rw [hji10] at A6); have hji10w : (IntKind.i64.wrap (t346 + 1)) = ji10 := (i64_w _).trans hji10
      by_cases c11 : 0 ≤ (ji10)
      ·rw [yb c11] at H; have c11b0 := zw c11; have c11b1 : decide (0 ≤ (ji10)) = true := zc c11; clear c11
       by_cases c12 : (ji10) ≤ (t338.length : Int)
       ·rw [yb c12] at H; have c12b0 := zw c12; have c12b1 : decide ((ji10) ≤ (t338.length : Int)) = true := zc c12; clear c12; obtain ⟨y359, hy359⟩ : ∃ y_ : List (S72), y_ = (t338.drop ((ji10) : Int).toNat) := ⟨_, rfl⟩; replace H : (if y356.length + y359.length < 3518437208883 then (some ((y356 ++ y359), t347, t348)) else (none)) = some (r1, r2, r3) := (qK4 hy359); have Ny359 := za hy359; clear hy359
        by_cases c13 : y356.length + y359.length < 3518437208883
        ·rw [yb c13] at H; have LMc13 := za c13; clear c13; obtain ⟨y363, hy363⟩ : ∃ y_ : List (S72), y_ = (y356 ++ y359) := ⟨_, rfl⟩; replace H : (some (y363, t347, t348)) = some (r1, r2, r3) := (qK4 hy363); have Ny363 := za hy363; clear hy363; simp only [yd, ye] at H; obtain ⟨rfl, rfl, rfl⟩ := H
         go_enter Try.func24, Try.ntmps24
         try go_wp2_with (first | ((with_reducible refine zp (f := 46) rfl ?_); refine zV (some 6) rfl rfl Try.func46 (qK25) rfl #[.pointer (some ⟨g, 0, none⟩)] rfl (qK2) ?_; (with_reducible refine (spec_l1Cur_cave.calls k g s0_0 s0_1 s0_2 t338 t341 t342 w0 _ ?s1 ?s2 A2.1).mono ?_); (case s1 => exact (qK3)); (case s2 => exact (qK6)); rintro e w14 ⟨v339, rfl, ho0, hi, hb, hk⟩; refine ⟨_, rfl, ?_⟩; have HO340 := za (qK90 ho0); replace HK := za qK77; replace HB := za hb; replace HI0 := za hi; clear hb hk hi ho0) | ((with_reducible refine zp (f := 47) rfl ?_); refine zV (some 8) rfl rfl Try.func47 (qK25) rfl #[.pointer (some ⟨g, 0, none⟩), .int .i64 2] rfl (qK2) ?_; (with_reducible refine (spec_l1Cur_one.calls g s0_0 t341 t342 2 true t344 t345 w0 _ ?s1 ?s2 A3.1).mono ?_); (case s1 => exact (qK3)); (case s2 => exact (qK6)); rintro e w15 ⟨rfl, hi, hb, hk⟩; refine ⟨_, rfl, ?_⟩; replace HO340 := za (qK72 HO340.1); replace HK := za qK77; replace HB := za hb; replace HI0 := za hi; clear hb hk hi; obtain ⟨Ao16, co16, eo16⟩ := zI HO340.1; subst eo16) | ((with_reducible refine zp (f := 48) rfl ?_); refine zV (some 17) rfl rfl Try.func48 (qK25) rfl #[.pointer (some ⟨g, 0, none⟩), .int .i64 (t338.length : Int)] rfl (qK2) ?_; (with_reducible refine (spec_l1Cur_pick.calls g s0_0 t344 t345 (t338.length : Int) t346 t347 t348 w0 _ ?s1 ?s2 A6.1).mono ?_); (case s1 => exact (qK3)); (case s2 => exact (qK6)); rintro e w17 ⟨rfl, hi, hb, hk⟩; refine ⟨_, rfl, ?_⟩; replace HO340 := za (qK72 HO340.1); replace HK := za qK77; replace HB := za hb; replace HI0 := za hi; clear hb hk hi))
         replace HO340 := za (zO HO340.1); replace HI0 := za (IsS54.drew HI0.1); replace HK := za (keep_drew HK.1); replace HB := za (below_drew1 HB.1); have q19 : (t346 : Int) ≤ ((t338.length : Int) : Int) := zb (qK7); obtain ⟨i019, hi019, _, hsz19, _⟩ := info_parts info72; have hroom19 : t338.length ≤ co16 := (zH HO340.1).2.1; have hC19 : Kd.C k72 _ Ao16 t338.length t338 := (zH HO340.1).2.2; have hcut19 := cut_to (P := Try.prog) 24 72 .i64 Try.underlying24 hi019 Ao16 t338.length co16 t346 (zb (qK7)) q19 hroom19; have hr19 := Kd.C_take (m := (t346 : Int).toNat) hC19 (by omega); have hy19 : y352.length = (t346 : Int).toNat := (by rw [Ny352.1, List.length_take]; omega); rw [← Ny352.1] at hr19; rw [← hy19] at hcut19; have HR355 := za hr19
         have HC355 := za (by exact show y352.length ≤ co16 from by omega)
         clear hr19 hC19 hroom19 hi019 hsz19; have KY19 := za hy19; clear hy19
         have KL19 := za (by exact show (t346 : Int).toNat ≤ t338.length from by omega)
         replace q19 := zw q19; have q20 : ((ji10) : Int) ≤ ((t338.length : Int) : Int) := zb (qK7); obtain ⟨i020, hi020, _, hsz20, _⟩ := info_parts info72; have hroom20 : t338.length ≤ co16 := (zH HO340.1).2.1; have hC20 : Kd.C k72 _ Ao16 t338.length t338 := (zH HO340.1).2.2; have q020 : (0 : Int) ≤ ((ji10) : Int) := zb (qK7); have hcut20 := cut_from (P := Try.prog) 24 72 .i64 Try.underlying24 hi020 5 hsz20 Ao16 t338.length co16 (ji10) q020 q20; have hr20 := Kd.C_drop (m := ((ji10) : Int).toNat) (c := co16) hC20 (by omega) hroom20; obtain ⟨A20, hA20⟩ : ∃ A1, A1 = (if co16 = ((ji10) : Int).toNat then Ao16 else (Ao16 : Option Addr).map (·.add (((ji10) : Int).toNat * 5))) := ⟨_, rfl⟩; obtain ⟨c20, hc20⟩ : ∃ c1, c1 = co16 - ((ji10) : Int).toNat := ⟨_, rfl⟩; have hy20 : y359.length = t338.length - ((ji10) : Int).toNat := (by rw [Ny359.1, List.length_drop] <;> omega); rw [show (t338).drop ((ji10) : Int).toNat = y359 from Ny359.1.symm] at hr20; replace hr20 : Kd.C k72 _ A20 y359.length y359 := (by rw [hA20]; exact hr20); rw [← hy20, ← hA20, ← hc20] at hcut20; have HR362 := za hr20
         have HC362 := za (by exact show y359.length ≤ c20 from by rw [hy20, hc20]; exact Nat.sub_le_sub_right hroom20 _)
         clear hr20 hC20 hroom20 hi020 hsz20 hc20; have KY20 := za hy20; have KA20 := za hA20; clear hy20 hA20
         have KL20 := za (by exact show ((ji10) : Int).toNat ≤ t338.length from by omega)
         replace q20 := zw q20
         refine start_ (n := 11) (S := fun w' => True) (ds := []) qKb0 (qK25) rfl rfl trivial (fun hHeld => ?_); refine with_tabW spec_l1Cur_caves.tab4 spec_l1Cur_caves.bits4 (fun HT_ HW_ => ?_)
         generalize w17.drew = w18 at HO340 HI0 HK HB HR355 HR362 hHeld ⊢
         refine pure_ (i := 1) (N := some 19) (v := ?_) (a' := ?_) #[false, true, false, false, false, false, false, false, false, false, false] rfl rfl (qK76) (fun _ _ _ h => h) (zY ⟨by rfl, ?_⟩) ?_ ?_
         rotate_left; exact qK6_c1; rotate_left; exact qK6_c0
         refine pure_ (i := 2) (N := some 20) (v := ?_) (a' := ?_) #[false, true, true, false, false, false, false, false, false, false, false] rfl rfl (qK76) (fun _ _ _ h => h) (zY ⟨by rfl, ?_⟩) ?_ ?_
         rotate_left; exact qK6_c1; rotate_left; exact qK6_c0
         refine pure_ (i := 3) (N := some 21) (v := ?_) (a' := ?_) #[false, true, true, true, false, false, false, false, false, false, false] rfl rfl (qK76) (fun _ _ _ h => h) (zY ⟨by rfl, ?_⟩) ?_ ?_
         rotate_left; exact qK6_c1; rotate_left; exact qK6_c0
         refine pure_ (i := 5) (N := some 23) (v := ?_) (a' := ?_) #[false, true, true, true, false, true, false, false, false, false, false] rfl rfl (qK76) (fun _ _ _ h => h) (zY ⟨by rfl, ?_⟩) ?_ ?_
         rotate_left; exact qK6_c1; rotate_left; exact qK6_c0
         refine pure_ (i := 6) (N := some 24) (v := ?_) (a' := ?_) #[false, true, true, true, false, true, true, false, false, false, false] rfl rfl (qK76) (fun _ _ _ h => h) (zY ⟨by rfl, ?_⟩) ?_ ?_
         rotate_left; exact qK6_c1; rotate_left; exact qK6_c0
         refine pure_ (i := 7) (N := some 25) (v := ?_) (a' := ?_) #[false, true, true, true, false, true, true, true, false, false, false] rfl rfl (qK76) (fun _ _ _ h => h) (zY ⟨by rfl, ?_⟩) ?_ ?_
         rotate_left; exact qK6_c1; rotate_left; exact qK6_c0
         refine pure_ (i := 8) (N := some 26) (v := ?_) (a' := ?_) #[false, true, true, true, false, true, true, true, true, false, false] rfl rfl (qK76) (fun _ _ _ h => h) (zY ⟨by rfl, ?_⟩) ?_ ?_
         rotate_left; exact qK6_c1; rotate_left; exact qK6_c0
         refine one_ (i := 0) (N := some 18) #[true, true, true, true, false, true, true, true, true, false, false] rfl rfl (qK81) (by decide) (fun K hK => ?_)
         refine Kd.R_lit_step k72 _ 72 ?hg (N := 18) ?hd (xs := ([] : List (S72))) (inner := []) (ok := fun _ => True) (okp := fun _ => True) ?hr ?hp (fun _ hk => hk) trivial (zs _ _) (zo _) (by simp) ?_; (case hd | hg => rfl); (case hr => exact (qK23)); (case hp => exact (zu _ _))
         intro v350 w21 ho22 hb hg_ hnew_; clear hg_ hnew_
         (first | rw [← Ny349.1] at ho22 | (simp only [Int.reduceToNat] at ho22; rw [← Ny349.1] at ho22))
         have HO351 := za (qK99 ho22 HO340.1); replace HO340 := za (qK84 HO340.1 ho22); replace HR355 := za (zG (qK41 HR355.1) hb); replace HR362 := za (zG (qK41 HR362.1) hb); replace HK := za qK79; replace HB := za (zW (qK6) hb); replace HI0 := za qK93; clear hb ho22
         refine hK.out _ _ trivial (fun hHeld => ?_)
         clear hK K
         refine norm_ (a' := ?_) ?_ ?_
         rotate_left
         ·show Act.put _ (some 18) _ = _
          simp only [Act.put, yf, yg, yh, i64_w, i32_w]
          rfl
         refine one_ (i := 4) (N := some 22) qKb2 rfl rfl (qK81) (by decide) (fun K hK => ?_)
         refine zM k72 w.heap.size (by rfl) (.tmp 18) (.tmp 21) 24 72 (.agg #[(.int .i64 0), (.int .i64 0), (.int .i64 0), (.int .i64 0), (.int .i64 0)]) 40 rfl Try.underlying24 info72 rfl (by decide) (by omega) v350 y349 y352 _ _ _ (fun k_ => some k_ ≠ (.slice Ao16 t338.length co16 : Value).ownBlock) (fun _ => False) rfl rfl ?aO ?aR (fun _ _ h => h) (fun _ h => h.elim) ?aF (zs _ _) ?aS ?aL ?_
         (case aR => exact (qK97 HR355.1))
         (case aF => exact (qK85 HO340.1))
         (case aO => exact (qK26 HO351.1))
         (case aS => exact (qK96))
         (case aL => have := LMc9.1; omega)
         intro v357 w23 ho hb hg hat; rw [← Ny356.1] at ho; replace HB := za (below_weaken (qK6) HL.1 hb); replace HI0 := za (qK89 HO351.1); replace HK := za (qK95 HO351.1)
         replace HR355 := za (by exact (show Kd.C k72 w23 Ao16 y352.length y352 from by rw [Ny352.1]; exact Kd.C_take (m := (t346 : Int).toNat) ((zH (Kd.R_after (ok := (fun _ => True)) (qK1 HO340.1) hg hat)).2.2) KL19.1))
         replace HR362 := za (by exact (show Kd.C k72 w23 A20 y359.length y359 from by rw [Ny359.1, KA20.1]; exact Kd.C_drop (m := ((ji10) : Int).toNat) (c := co16) ((zH (Kd.R_after (ok := (fun _ => True)) (qK1 HO340.1) hg hat)).2.2) KL20.1 ((zH (Kd.R_after (ok := (fun _ => True)) (qK1 HO340.1) hg hat)).2.1)))
         replace HO340 := za (qK88 HO340.1); have HO358 := za ho; clear HO351; clear ho hb hg hat
         refine hK.out _ _ trivial (fun hHeld => ?_)
         clear hK K
         refine norm_ (a' := ?_) ?_ ?_
         rotate_left
         ·show Act.put _ (some 22) _ = _
          simp only [Act.put, yf, yg, yh, i64_w, i32_w]
          rfl
         refine one_ (i := 9) (N := some 27) qKb1 rfl rfl (qK81) (by decide) (fun K hK => ?_)
         refine zM k72 w.heap.size (by rfl) (.tmp 22) (.tmp 26) 24 72 (.agg #[(.int .i64 0), (.int .i64 0), (.int .i64 0), (.int .i64 0), (.int .i64 0)]) 40 rfl Try.underlying24 info72 rfl (by decide) (by omega) v357 y356 y359 _ _ _ (fun k_ => some k_ ≠ (.slice Ao16 t338.length co16 : Value).ownBlock) (fun _ => False) rfl rfl ?aO ?aR (fun _ _ h => h) (fun _ h => h.elim) ?aF (zs _ _) ?aS ?aL ?_
         (case aR => exact (qK97 HR362.1))
         (case aF => exact (qK85 HO340.1))
         (case aO => exact (qK1 HO358.1))
         (case aS => exact (qK96))
         (case aL => have := LMc13.1; omega)
         intro v364 w24 ho hb hg hat; rw [← Ny363.1] at ho; replace HB := za (below_weaken (qK6) HL.1 hb); replace HI0 := za (qK89 HO358.1); replace HK := za (qK95 HO358.1)
         replace HR355 := za (by exact (show Kd.C k72 w24 Ao16 y352.length y352 from by rw [Ny352.1]; exact Kd.C_take (m := (t346 : Int).toNat) ((zH (Kd.R_after (ok := (fun _ => True)) (qK1 HO340.1) hg hat)).2.2) KL19.1))
         replace HR362 := za (by exact (show Kd.C k72 w24 A20 y359.length y359 from by rw [Ny359.1, KA20.1]; exact Kd.C_drop (m := ((ji10) : Int).toNat) (c := co16) ((zH (Kd.R_after (ok := (fun _ => True)) (qK1 HO340.1) hg hat)).2.2) KL20.1 ((zH (Kd.R_after (ok := (fun _ => True)) (qK1 HO340.1) hg hat)).2.1)))
         replace HO340 := za (qK88 HO340.1); have HO365 := za ho; clear HO358; clear ho hb hg hat
         refine hK.out _ _ trivial (fun hHeld => ?_)
         clear hK K
         refine norm_ (a' := ?_) ?_ ?_
         rotate_left
         ·show Act.put _ (some 27) _ = _
          simp only [Act.put, yf, yg, yh, i64_w, i32_w]
          rfl
         refine pure_ (i := 10) (N := some 3) (v := ?_) (a' := ?_) qKb3 rfl rfl (qK76) (fun _ _ _ h => h) (zY ⟨by rfl, ?_⟩) ?_ ?_
         rotate_left; exact qK6_c1; rotate_left; exact qK6_c0
         refine done_ (qK102) ?_
         try go_wp2
         go_ret
         exact ⟨_, (by first | rfl | (simp [errW_none, errW_some] <;> rfl) | (simp only [← hji10]; first | rfl | (simp [errW_none, errW_some] <;> rfl)) | (simp [*, errW_none, errW_some] <;> rfl)), (qK31 HO365.1), (qK3), (qK6), (qK5)⟩
        ·rw [yc c13] at H
         exact absurd H (by simp)
       ·rw [yc c12] at H
        exact absurd H (by simp)
      ·rw [yc c11] at H
       exact absurd H (by simp)
     ·rw [yc c9] at H
      exact absurd H (by simp)
    ·rw [yc c8] at H
     exact absurd H (by simp)
   ·rw [yc c7] at H
    exact absurd H (by simp)
  ·rw [yc c5] at H; have c5b0 : decide (1 < (t338.length : Int)) = false := zv c5; have c5b1 : decide (1 < t338.length) = false := zv (by omega); clear c5; simp only [yd, ye] at H; obtain ⟨rfl, rfl, rfl⟩ := H
   go_enter Try.func24, Try.ntmps24
   go_wp2_with (first | ((with_reducible refine zp (f := 46) rfl ?_); refine zV (some 6) rfl rfl Try.func46 (qK25) rfl #[.pointer (some ⟨g, 0, none⟩)] rfl (qK2) ?_; (with_reducible refine (spec_l1Cur_cave.calls k g s0_0 s0_1 s0_2 t338 t341 t342 w0 _ ?s1 ?s2 A2.1).mono ?_); (case s1 => exact (qK3)); (case s2 => exact (qK6)); rintro e w25 ⟨v339, rfl, ho0, hi, hb, hk⟩; refine ⟨_, rfl, ?_⟩; have HO340 := za (qK90 ho0); replace HK := za qK77; replace HB := za hb; replace HI0 := za hi; clear hb hk hi ho0) | ((with_reducible refine zp (f := 47) rfl ?_); refine zV (some 8) rfl rfl Try.func47 (qK25) rfl #[.pointer (some ⟨g, 0, none⟩), .int .i64 2] rfl (qK2) ?_; (with_reducible refine (spec_l1Cur_one.calls g s0_0 t341 t342 2 true t344 t345 w0 _ ?s1 ?s2 A3.1).mono ?_); (case s1 => exact (qK3)); (case s2 => exact (qK6)); rintro e w26 ⟨rfl, hi, hb, hk⟩; refine ⟨_, rfl, ?_⟩; replace HO340 := za (qK72 HO340.1); replace HK := za qK77; replace HB := za hb; replace HI0 := za hi; clear hb hk hi; obtain ⟨Ao27, co27, eo27⟩ := zI HO340.1; subst eo27))
   go_ret
   exact ⟨_, (qK11), (qK1 HO340.1), (qK3), (qK6), (qK5)⟩
 ·replace c4 := zn c4; subst c4; rw [yc (show ¬ (false = true) by decide)] at H; simp only [yd, ye] at H; obtain ⟨rfl, rfl, rfl⟩ := H
  go_enter Try.func24, Try.ntmps24
  go_wp2_with (first | ((with_reducible refine zp (f := 46) rfl ?_); refine zV (some 6) rfl rfl Try.func46 (qK25) rfl #[.pointer (some ⟨g, 0, none⟩)] rfl (qK2) ?_; (with_reducible refine (spec_l1Cur_cave.calls k g s0_0 s0_1 s0_2 t338 t341 t342 w0 _ ?s1 ?s2 A2.1).mono ?_); (case s1 => exact (qK3)); (case s2 => exact (qK6)); rintro e w28 ⟨v339, rfl, ho0, hi, hb, hk⟩; refine ⟨_, rfl, ?_⟩; have HO340 := za (qK90 ho0); replace HK := za qK77; replace HB := za hb; replace HI0 := za hi; clear hb hk hi ho0) | ((with_reducible refine zp (f := 47) rfl ?_); refine zV (some 8) rfl rfl Try.func47 (qK25) rfl #[.pointer (some ⟨g, 0, none⟩), .int .i64 2] rfl (qK2) ?_; (with_reducible refine (spec_l1Cur_one.calls g s0_0 t341 t342 2 false t344 t345 w0 _ ?s1 ?s2 A3.1).mono ?_); (case s1 => exact (qK3)); (case s2 => exact (qK6)); rintro e w29 ⟨rfl, hi, hb, hk⟩; refine ⟨_, rfl, ?_⟩; replace HO340 := za (qK72 HO340.1); replace HK := za qK77; replace HB := za hb; replace HI0 := za hi; clear hb hk hi))
  go_ret
  exact ⟨_, (qK11), (qK1 HO340.1), (qK3), (qK6), (qK5)⟩

def spec_DrawCavesOf.f (k : Nat) (l0 : List Int) : Option ((List (S72))) := (spec_l1Cur_caves.f k l0 0 0).bind fun bt367 => (some bt367.1)
set_option maxHeartbeats 8000000 in
set_option maxRecDepth 100000 in
theorem spec_DrawCavesOf.calls (k : Nat) (A0 : Option Addr) (c0 : Nat) (l0 : List Int) (r : List (S72)) (w : World) (hr0 : Kd.C (Kd.int .u8) w A0 l0.length l0) (hc0 : l0.length ≤ c0) (h : spec_DrawCavesOf.f k l0 = some r) :
  Calls Try.prog 5 #[.slice A0 l0.length c0] w fun e w' => ∃ v0_ : Value, e = .returned (v0_) ∧ Kd.R k72 72 w' w.heap.size (fun _ => True) v0_ r ∧ Below w.heap.size w w' := by
 have hu54 := Try.underlying54; have HR0 := za hr0; have HC0 := za hc0; clear hr0 hc0; have HB := za (zs w.heap.size w); have H : ((spec_l1Cur_caves.f k l0 0 0).bind fun bt367 => (some bt367.1)) = some r := h; clear h; replace H := zC H; obtain ⟨⟨t367, t370, t371⟩, A20, H⟩ := H; replace H : (some t367) = some r := H; have A2 := za A20; clear A20; obtain rfl := zm H
 go_enter Try.func5, Try.ntmps5
 go_wp2_with (first | ((with_reducible refine zq (N := 6) rfl ?_); refine zB ?hg (N := 6) ?hd (cs := #[.slice A0 l0.length c0, .int .i64 0, .int .u64 0]) (t := 54) ?hr ?_; (case hd | hg => rfl); (case hr => exact (qK23)); intro gb366 hg w3 hbox hb; have GW366 := za (by exact (by rw [hg]; exact (zX (qK0)) : w.heap.size ≤ gb366)); have GE366 := za (by exact (by rw [hg]; exact (zX (qK0)) : w.heap.size ≤ gb366)); have HI366 := za (by exact (show IsS54 w w3 gb366 l0 0 0 from ⟨_, _, hbox, (qK114), HR0.1⟩)); replace HB := za qK73; clear hb hbox hg) | ((with_reducible refine zp (f := 24) rfl ?_); refine zV (some 8) rfl rfl Try.func24 (qK25) rfl #[.pointer (some ⟨gb366, 0, none⟩)] rfl (qK2) ?_; (with_reducible refine (spec_l1Cur_caves.calls k gb366 l0 0 0 t367 t370 t371 w _ ?s1 ?s2 A2.1).mono ?_); (case s1 => exact (by repeat (first | (with_reducible first | exact HI366.1 | apply IsS54.alloc | apply IsS54.drewN | apply IsS54.drew | apply IsS54.set_1 | apply IsS54.set_2) | exact HI366.1))); (case s2 => exact (qK55)); rintro e w4 ⟨v368, rfl, ho0, hi, hb, hk⟩; refine ⟨_, rfl, ?_⟩; have HO369 := za (zP ho0 (zX (qK55))); replace HB := za hb; replace HI366 := za hi; clear hb hk hi ho0))
 go_ret
 exact ⟨_, (qK11), (qK1 HO369.1), (qK55)⟩

end Go.Proofs.Ytkocflfadlempaa.MK
