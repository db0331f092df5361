-- tight2 (a walk)
import Derived.Test.YtoljdjgndogegaaMSx0
import Derived.Test.YtoljdjgndogegaaMSx7
import Derived.Test.YtoljdjgndogegaaMSx8
import Derived.Test.YtoljdjgndogegaaMSx3
import Derived.Test.YtoljdjgndogegaaMSx6
namespace Go.Proofs.Ytoljdjgndogegaa.MS
open Go.RowKit Go.Proofs.YtoljdjgndogegaaW.PrintWords Go.Proofs.YtoljdjgndogegaaW.PrintLast
theorem qS9_c0 {p : Prop} (h : p := by
  simp only [Act.put, yf, yg, yh, i64_w, i32_w]
  rfl) : p := h
theorem qS9_c1 {p : Prop} (h : p := by
  intro w'
  go_simp
  with_reducible rfl) : p := h
theorem qS9_c2 {p : Prop} (h : p := by
  show Act.put _ (some 41) _ = _
  simp only [Act.put, yf, yg, yh, i64_w, i32_w]
  rfl) : p := h
theorem qS9_c3 {p : Prop} (h : p := by
  show Act.put _ (some 45) _ = _
  simp only [Act.put, yf, yg, yh, i64_w, i32_w]
  rfl) : p := h
theorem qS9_c4 {p : Prop} (h : p := by
  show Act.put _ (some 50) _ = _
  simp only [Act.put, yf, yg, yh, i64_w, i32_w]
  rfl) : p := h
attribute [local go_sem] max2_int min2_int max_two min_two
set_option linter.unusedVariables false
set_option linter.unusedSimpArgs false

def spec_l10Less.f (l0 : List (S58)) (a1 : Int) : Option ((List (S58))) := (some (([] : List (S58)) : List (S58))).bind fun y523 => (if 0 ≤ a1 then (if a1 ≤ (l0.length : Int) then ((some (l0.take (a1 : Int).toNat : List (S58))).bind fun y526 => (if y523.length + y526.length < 3518437208883 then ((some (y523 ++ y526 : List (S58))).bind fun y530 => (if 0 ≤ (wrap64 (a1 + 1)) then (if (wrap64 (a1 + 1)) ≤ (l0.length : Int) then ((some (l0.drop ((wrap64 (a1 + 1)) : Int).toNat : List (S58))).bind fun y533 => (if y530.length + y533.length < 3518437208883 then (some (y530 ++ y533)) else (none))) else (none)) else (none))) else (none))) else (none)) else (none))
def spec_l10Less.T1 : Bool × List (List Nat × List Nat) := (true, [([], []), ([], []), ([], []), ([1, 2], [1, 2]), ([0, 3], [0, 3]), ([], []), ([], []), ([6], [6]), ([5, 7], [5, 7]), ([4, 8, 4], [4, 8]), ([9, 9, 0, 1, 2, 3, 4, 5, 6, 7, 8, 9], [9])])
def spec_l10Less.B1 : List Nat := [0, 0, 0, 6, 15, 0, 0, 64, 224, 511, 1023]
theorem spec_l10Less.tab1 : rtab .any (opsOf Try.f56 1) = spec_l10Less.T1 := by kernel_rfl
theorem spec_l10Less.bits1 : waitsOk spec_l10Less.T1.2 spec_l10Less.B1 = true := by kernel_rfl
set_option maxHeartbeats 8000000 in
set_option maxRecDepth 100000 in
theorem spec_l10Less.calls (A0 : Option Addr) (c0 : Nat) (l0 : List (S58)) (a1 : Int) (r : List (S58)) (w : World) (hr0 : Kd.C k58 w A0 l0.length l0) (hc0 : l0.length ≤ c0) (h : spec_l10Less.f l0 a1 = some r) :
  Calls Try.prog 56 #[.slice A0 l0.length c0, .int .i64 a1] w fun e w' => ∃ v0_ : Value, e = .returned (v0_) ∧ Kd.R k58 58 w' w.heap.size (fun _ => True) v0_ r ∧ Below w.heap.size w w' := by
 have HR0 := za hr0; have HC0 := za hc0; clear hr0 hc0; have HB := za (zs w.heap.size w); have H : ((some (([] : List (S58)) : List (S58))).bind fun y523 => (if 0 ≤ a1 then (if a1 ≤ (l0.length : Int) then ((some (l0.take (a1 : Int).toNat : List (S58))).bind fun y526 => (if y523.length + y526.length < 3518437208883 then ((some (y523 ++ y526 : List (S58))).bind fun y530 => (if 0 ≤ (wrap64 (a1 + 1)) then (if (wrap64 (a1 + 1)) ≤ (l0.length : Int) then ((some (l0.drop ((wrap64 (a1 + 1)) : Int).toNat : List (S58))).bind fun y533 => (if y530.length + y533.length < 3518437208883 then (some (y530 ++ y533)) else (none))) else (none)) else (none))) else (none))) else (none)) else (none))) = some r := h; clear h; obtain ⟨y523, hy523⟩ : ∃ y_ : List (S58), y_ = (([] : List (S58))) := ⟨_, rfl⟩; replace H : (if 0 ≤ a1 then (if a1 ≤ (l0.length : Int) then ((some (l0.take (a1 : Int).toNat : List (S58))).bind fun y526 => (if y523.length + y526.length < 3518437208883 then ((some (y523 ++ y526 : List (S58))).bind fun y530 => (if 0 ≤ (wrap64 (a1 + 1)) then (if (wrap64 (a1 + 1)) ≤ (l0.length : Int) then ((some (l0.drop ((wrap64 (a1 + 1)) : Int).toNat : List (S58))).bind fun y533 => (if y530.length + y533.length < 3518437208883 then (some (y530 ++ y533)) else (none))) else (none)) else (none))) else (none))) else (none)) else (none)) = some r := (qS4 hy523); have Ny523 := za hy523; clear hy523
 by_cases c3 : 0 ≤ a1
 ·rw [yb c3] at H; have c3b0 := zw c3; have c3b1 : decide (0 ≤ a1) = true := zc c3; clear c3
  by_cases c4 : a1 ≤ (l0.length : Int)
  ·rw [yb c4] at H; have c4b0 := zw c4; have c4b1 : decide (a1 ≤ (l0.length : Int)) = true := zc c4; clear c4; obtain ⟨y526, hy526⟩ : ∃ y_ : List (S58), y_ = (l0.take (a1 : Int).toNat) := ⟨_, rfl⟩; replace H : (if y523.length + y526.length < 3518437208883 then ((some (y523 ++ y526 : List (S58))).bind fun y530 => (if 0 ≤ (wrap64 (a1 + 1)) then (if (wrap64 (a1 + 1)) ≤ (l0.length : Int) then ((some (l0.drop ((wrap64 (a1 + 1)) : Int).toNat : List (S58))).bind fun y533 => (if y530.length + y533.length < 3518437208883 then (some (y530 ++ y533)) else (none))) else (none)) else (none))) else (none)) = some r := (qS4 hy526); have Ny526 := za hy526; clear hy526
   by_cases c5 : y523.length + y526.length < 3518437208883
   ·rw [yb c5] at H; have LMc5 := za c5; clear c5; obtain ⟨y530, hy530⟩ : ∃ y_ : List (S58), y_ = (y523 ++ y526) := ⟨_, rfl⟩; replace H : (if 0 ≤ (wrap64 (a1 + 1)) then (if (wrap64 (a1 + 1)) ≤ (l0.length : Int) then ((some (l0.drop ((wrap64 (a1 + 1)) : Int).toNat : List (S58))).bind fun y533 => (if y530.length + y533.length < 3518437208883 then (some (y530 ++ y533)) else (none))) else (none)) else (none)) = some r := (qS4 hy530); have Ny530 := za hy530; clear hy530; obtain ⟨ji6, hji6⟩ : ∃ j_ : Int, (wrap64 (a1 + 1)) = j_ := ⟨_, rfl⟩
    replace H : (if 0 ≤ (ji6) then (if (ji6) ≤ (l0.length : Int) then ((some (l0.drop ((ji6) : Int).toNat : List (S58))).bind fun y533 => (if y530.length + y533.length < 3518437208883 then (some (y530 ++ y533)) else (none))) else (none)) else (none)) = some r := by first | (rw [hji6] at H; exact H) | (simp only [hji6] at H ⊢; exact H)
    have hji6w : (IntKind.i64.wrap (a1 + 1)) = ji6 := (i64_w _).trans hji6
    by_cases c7 : 0 ≤ (ji6)
    ·rw [yb c7] at H; have c7b0 := zw c7; have c7b1 : decide (0 ≤ (ji6)) = true := zc c7; clear c7
     by_cases c8 : (ji6) ≤ (l0.length : Int)
     ·rw [yb c8] at H; have c8b0 := zw c8; have c8b1 : decide ((ji6) ≤ (l0.length : Int)) = true := zc c8; clear c8; obtain ⟨y533, hy533⟩ : ∃ y_ : List (S58), y_ = (l0.drop ((ji6) : Int).toNat) := ⟨_, rfl⟩; replace H : (if y530.length + y533.length < 3518437208883 then (some (y530 ++ y533)) else (none)) = some r := (qS4 hy533); have Ny533 := za hy533; clear hy533
      by_cases c9 : y530.length + y533.length < 3518437208883
      ·rw [yb c9] at H; have LMc9 := za c9; clear c9; obtain ⟨y537, hy537⟩ : ∃ y_ : List (S58), y_ = (y530 ++ y533) := ⟨_, rfl⟩; replace H : (some y537) = some r := (qS4 hy537); have Ny537 := za hy537; clear hy537; obtain rfl := zm H
       go_enter Try.func56, Try.ntmps56
       try go_wp2
       replace HB := za (below_drew1 HB.1); have q11 : (a1 : Int) ≤ ((l0.length : Int) : Int) := zb (qS8); obtain ⟨i011, hi011, _, hsz11, _⟩ := info_parts info58; have hroom11 : l0.length ≤ c0 := HC0.1; have hC11 : Kd.C k58 _ A0 l0.length l0 := HR0.1; have hcut11 := cut_to (P := Try.prog) 24 58 .i64 Try.underlying24 hi011 A0 l0.length c0 a1 (zb (qS8)) q11 hroom11; have hr11 := Kd.C_take (m := (a1 : Int).toNat) hC11 (by omega); have hy11 : y526.length = (a1 : Int).toNat := (by rw [Ny526.1, List.length_take]; omega); rw [← Ny526.1] at hr11; rw [← hy11] at hcut11; have HR529 := za hr11
       have HC529 := za (by exact show y526.length ≤ c0 from by omega)
       clear hr11 hC11 hroom11 hi011 hsz11; have KY11 := za hy11; clear hy11; replace q11 := zw q11; have q12 : ((ji6) : Int) ≤ ((l0.length : Int) : Int) := zb (qS8); obtain ⟨i012, hi012, _, hsz12, _⟩ := info_parts info58; have hroom12 : l0.length ≤ c0 := HC0.1; have hC12 : Kd.C k58 _ A0 l0.length l0 := HR0.1; have q012 : (0 : Int) ≤ ((ji6) : Int) := zb (qS8); have hcut12 := cut_from (P := Try.prog) 24 58 .i64 Try.underlying24 hi012 5 hsz12 A0 l0.length c0 (ji6) q012 q12; have hr12 := Kd.C_drop (m := ((ji6) : Int).toNat) (c := c0) hC12 (by omega) hroom12; obtain ⟨A12, hA12⟩ : ∃ A1, A1 = (if c0 = ((ji6) : Int).toNat then A0 else (A0 : Option Addr).map (·.add (((ji6) : Int).toNat * 5))) := ⟨_, rfl⟩; obtain ⟨c12, hc12⟩ : ∃ c1, c1 = c0 - ((ji6) : Int).toNat := ⟨_, rfl⟩; have hy12 : y533.length = l0.length - ((ji6) : Int).toNat := (qS61 Ny533.1); rw [show (l0).drop ((ji6) : Int).toNat = y533 from Ny533.1.symm] at hr12; replace hr12 : Kd.C k58 _ A12 y533.length y533 := (by rw [hA12]; exact hr12); rw [← hy12, ← hA12, ← hc12] at hcut12; have HR536 := za hr12
       have HC536 := za (by exact show y533.length ≤ c12 from by rw [hy12, hc12]; exact Nat.sub_le_sub_right hroom12 _)
       clear hr12 hC12 hroom12 hi012 hsz12 hc12; have KY12 := za hy12; have KA12 := za hA12; clear hy12 hA12; replace q12 := zw q12
       refine start_ (n := 11) (S := fun w' => True) (ds := []) qSb0 (qS27) rfl rfl trivial (fun hHeld => ?_); refine with_tabW spec_l10Less.tab1 spec_l10Less.bits1 (fun HT_ HW_ => ?_)
       generalize w.drew = w10 at HB HR529 HR536 hHeld ⊢
       refine pure_ (i := 1) (N := some 6) (v := ?_) (a' := ?_) qSb20 rfl rfl (qS24) (fun _ _ _ h => h) (zY ⟨by rfl, ?_⟩) ?_ ?_
       rotate_left; exact qS9_c1; rotate_left; exact qS9_c0
       refine pure_ (i := 2) (N := some 7) (v := ?_) (a' := ?_) qSb21 rfl rfl (qS24) (fun _ _ _ h => h) (zY ⟨by rfl, ?_⟩) ?_ ?_
       rotate_left; exact qS9_c1; rotate_left; exact qS9_c0
       refine pure_ (i := 3) (N := some 8) (v := ?_) (a' := ?_) qSb22 rfl rfl (qS24) (fun _ _ _ h => h) (zY ⟨by rfl, ?_⟩) ?_ ?_
       rotate_left; exact qS9_c1; rotate_left; exact qS9_c0
       refine pure_ (i := 5) (N := some 10) (v := ?_) (a' := ?_) qSb23 rfl rfl (qS24) (fun _ _ _ h => h) (zY ⟨by rfl, ?_⟩) ?_ ?_
       rotate_left; exact qS9_c1; rotate_left; exact qS9_c0
       refine pure_ (i := 6) (N := some 11) (v := ?_) (a' := ?_) qSb24 rfl rfl (qS24) (fun _ _ _ h => h) (zY ⟨by rfl, ?_⟩) ?_ ?_
       rotate_left; exact qS9_c1; rotate_left; exact qS9_c0
       refine pure_ (i := 7) (N := some 12) (v := ?_) (a' := ?_) qSb25 rfl rfl (qS24) (fun _ _ _ h => h) (zY ⟨by rfl, ?_⟩) ?_ ?_
       rotate_left; exact qS9_c1; rotate_left; exact qS9_c0
       refine pure_ (i := 8) (N := some 13) (v := ?_) (a' := ?_) qSb26 rfl rfl (qS24) (fun _ _ _ h => h) (zY ⟨by rfl, ?_⟩) ?_ ?_
       rotate_left; exact qS9_c1; rotate_left; exact qS9_c0
       refine one_ (i := 0) (N := some 5) qSb27 rfl rfl (qS70) (by decide) (fun K hK => ?_)
       refine Kd.R_lit_step k58 _ 58 ?hg (N := 5) ?hd (xs := ([] : List (S58))) (inner := []) (ok := fun _ => True) (okp := fun _ => True) ?hr ?hp (fun _ hk => hk) trivial (zs _ _) (zo _) (by simp) ?_; (case hd | hg => rfl); (case hr => exact (qS26)); (case hp => exact (zu _ _))
       intro v524 w13 ho14 hb hg_ hnew_; clear hg_ hnew_
       (first | rw [← Ny523.1] at ho14 | (simp only [Int.reduceToNat] at ho14; rw [← Ny523.1] at ho14))
       have HO525 := za (qS77 ho14); replace HB := za qS64; clear hb ho14
       refine hK.out _ _ trivial (fun hHeld => ?_)
       clear hK K
       refine norm_ (a' := ?_) ?_ ?_
       rotate_left
       ·show Act.put _ (some 5) _ = _
        simp only [Act.put, yf, yg, yh, i64_w, i32_w]
        rfl
       refine one_ (i := 4) (N := some 9) qSb2 rfl rfl (qS70) (by decide) (fun K hK => ?_)
       refine zM k58 (w0 := w) w.heap.size (by rfl) (.tmp 5) (.tmp 8) 24 58 (.agg #[(.int .i64 0), (.int .i64 0), (.int .i64 0), (.int .i64 0), (.int .i64 0)]) 40 rfl Try.underlying24 info58 rfl (by decide) (by omega) v524 y523 y526 _ _ _ (fun _ => True) (fun _ => False) rfl rfl ?aO ?aR (fun _ _ h => h) (fun _ h => h.elim) ?aF ?aB ?aS ?aL ?_
       (case aR => exact (qS13 HR529.1))
       (case aB => exact (qS0))
       (case aF => exact (fun _ _ => trivial))
       (case aO => exact (qS1 HO525.1))
       (case aS => exact (qS82))
       (case aL => have := LMc5.1; omega)
       intro v531 w15 ho hb hg hat; rw [← Ny530.1] at ho; replace HB := za hb; have HO532 := za ho; clear HO525; clear ho hb hg hat
       refine hK.out _ _ trivial (fun hHeld => ?_)
       clear hK K
       refine norm_ (a' := ?_) ?_ ?_
       rotate_left
       ·show Act.put _ (some 9) _ = _
        simp only [Act.put, yf, yg, yh, i64_w, i32_w]
        rfl
       refine one_ (i := 9) (N := some 14) qSb1 rfl rfl (qS70) (by decide) (fun K hK => ?_)
       refine zM k58 (w0 := w) w.heap.size (by rfl) (.tmp 9) (.tmp 13) 24 58 (.agg #[(.int .i64 0), (.int .i64 0), (.int .i64 0), (.int .i64 0), (.int .i64 0)]) 40 rfl Try.underlying24 info58 rfl (by decide) (by omega) v531 y530 y533 _ _ _ (fun _ => True) (fun _ => False) rfl rfl ?aO ?aR (fun _ _ h => h) (fun _ h => h.elim) ?aF ?aB ?aS ?aL ?_
       (case aR => exact (qS13 HR536.1))
       (case aB => exact (qS0))
       (case aF => exact (fun _ _ => trivial))
       (case aO => exact (qS1 HO532.1))
       (case aS => exact (qS82))
       (case aL => have := LMc9.1; omega)
       intro v538 w16 ho hb hg hat; rw [← Ny537.1] at ho; replace HB := za hb; have HO539 := za ho; clear HO532; clear ho hb hg hat
       refine hK.out _ _ trivial (fun hHeld => ?_)
       clear hK K
       refine norm_ (a' := ?_) ?_ ?_
       rotate_left
       ·show Act.put _ (some 14) _ = _
        simp only [Act.put, yf, yg, yh, i64_w, i32_w]
        rfl
       refine pure_ (i := 10) (N := some 4) (v := ?_) (a' := ?_) qSb3 rfl rfl (qS24) (fun _ _ _ h => h) (zY ⟨by rfl, ?_⟩) ?_ ?_
       rotate_left; exact qS9_c1; rotate_left; exact qS9_c0
       refine done_ (qS88) ?_
       try go_wp2
       go_ret
       exact ⟨_, (by first | rfl | (simp [errW_none, errW_some] <;> rfl) | (simp only [← hji6]; first | rfl | (simp [errW_none, errW_some] <;> rfl)) | (simp [*, errW_none, errW_some] <;> rfl)), (qS1 HO539.1), (qS0)⟩
      ·rw [yc c9] at H
       exact absurd H (by simp)
     ·rw [yc c8] at H
      exact absurd H (by simp)
    ·rw [yc c7] at H
     exact absurd H (by simp)
   ·rw [yc c5] at H
    exact absurd H (by simp)
  ·rw [yc c4] at H
   exact absurd H (by simp)
 ·rw [yc c3] at H
  exact absurd H (by simp)

mutual
def spec_NarrowPlaces.j0 : Nat → List (S58) → List Int → Int → Int → List Int → Bool → Option (List Int × Bool)
 | 0, _, _, _, _, _, _ => none
 | k + 1, x0, x1, x2, x3, x10, x28 => if x28 = true then (some (x10, false)) else ((spec_l15Greatest.f k x0 x1 x2 x3).bind fun t545 => (spec_NarrowPlaces.l0 k x0 x1 x2 x3 x10 t545 0))
def spec_NarrowPlaces.l0 : Nat → List (S58) → List Int → Int → Int → List Int → Int → Int → Option (List Int × Bool)
 | 0, _, _, _, _, _, _, _ => none
 | k + 1, x0, x1, x2, x3, x10, x11, x12 => if x12 < (x0.length : Int) then ((some (([] : List Int) : List Int)).bind fun y546 => (if 0 ≤ x12 then (if x12 ≤ (x1.length : Int) then (if y546.length + (x1.take (x12 : Int).toNat).length < 17592186044416 then ((some (y546 ++ (x1.take (x12 : Int).toNat) : List Int)).bind fun y550 => (if 0 ≤ (wrap64 (x12 + 1)) then (if (wrap64 (x12 + 1)) ≤ (x1.length : Int) then (if y550.length + (x1.drop ((wrap64 (x12 + 1)) : Int).toNat).length < 17592186044416 then (if x12 < (x1.length : Int) then (if (rd x1 x12) = x11 then ((spec_l10Less.f x0 x12).bind fun t558 => ((spec_l15Greatest.f k t558 (y550 ++ (x1.drop ((wrap64 (x12 + 1)) : Int).toNat)) x2 x3).bind fun t561 => (if t561 < x11 then (if x10.length < 17592186044416 then (spec_NarrowPlaces.l0 k x0 x1 x2 x3 (x10 ++ [x12]) x11 (wrap64 (x12 + 1))) else (none)) else (spec_NarrowPlaces.l0 k x0 x1 x2 x3 x10 x11 (wrap64 (x12 + 1)))))) else (spec_NarrowPlaces.l0 k x0 x1 x2 x3 x10 x11 (wrap64 (x12 + 1)))) else (none)) else (none)) else (none)) else (none))) else (none)) else (none)) else (none))) else (some (x10, true))
end
def spec_NarrowPlaces.f (k : Nat) (l0 : List (S58)) (l1 : List Int) (a2 : Int) (a3 : Int) : Option (List Int × Bool) := (some (([] : List Int) : List Int)).bind fun y540 => ((spec_l15Asked.f k l0 l1 a2 a3).bind fun t543 => (if t543 = true then ((spec_l15Greatest.f k l0 l1 a2 a3).bind fun t544 => (spec_NarrowPlaces.j0 k l0 l1 a2 a3 y540 (decide (t544 < 0)))) else (spec_NarrowPlaces.j0 k l0 l1 a2 a3 y540 true)))
def spec_NarrowPlaces.T8 : Bool × List (List Nat × List Nat) := (true, [([], []), ([], []), ([], []), ([1, 2], [1, 2]), ([0, 3], [0, 3]), ([], []), ([], []), ([6], [6]), ([5, 7], [5, 7]), ([4, 8, 4], [4, 8]), ([9, 9, 0, 1, 2, 3, 4, 5, 6, 7, 8, 9], [9])])
def spec_NarrowPlaces.B8 : List Nat := [0, 0, 0, 6, 15, 0, 0, 64, 224, 511, 1023]
theorem spec_NarrowPlaces.tab8 : rtab .any (opsOf Try.f21 8) = spec_NarrowPlaces.T8 := by kernel_rfl
theorem spec_NarrowPlaces.bits8 : waitsOk spec_NarrowPlaces.T8.2 spec_NarrowPlaces.B8 = true := by kernel_rfl
set_option maxHeartbeats 8000000 in
set_option maxRecDepth 100000 in
theorem spec_NarrowPlaces.calls (k : Nat) (A0 : Option Addr) (c0 : Nat) (l0 : List (S58)) (A1 : Option Addr) (c1 : Nat) (l1 : List Int) (a2 : Int) (a3 : Int) (r1 : List Int) (r2 : Bool) (w : World) (hr0 : Kd.C k58 w A0 l0.length l0) (hc0 : l0.length ≤ c0) (hr1 : Kd.C (Kd.int .i64) w A1 l1.length l1) (hc1 : l1.length ≤ c1) (h : spec_NarrowPlaces.f k l0 l1 a2 a3 = some (r1, r2)) :
  Calls Try.prog 21 #[.slice A0 l0.length c0, .slice A1 l1.length c1, .int .i64 a2, .int .i64 a3] w fun e w' => ∃ v0_ : Value, e = .returned (.tuple #[v0_, .bool r2]) ∧ Kd.R (Kd.int .i64) 3 w' w.heap.size (fun _ => True) v0_ r1 ∧ Below w.heap.size w w' := by
 have HR0 := za hr0; have HC0 := za hc0; clear hr0 hc0; have HR1 := za hr1; have HC1 := za hc1; clear hr1 hc1; have HB := za (zs w.heap.size w); have H : ((some (([] : List Int) : List Int)).bind fun y540 => ((spec_l15Asked.f k l0 l1 a2 a3).bind fun t543 => (if t543 = true then ((spec_l15Greatest.f k l0 l1 a2 a3).bind fun t544 => (spec_NarrowPlaces.j0 k l0 l1 a2 a3 y540 (decide (t544 < 0)))) else (spec_NarrowPlaces.j0 k l0 l1 a2 a3 y540 true)))) = some (r1, r2) := h; clear h; obtain ⟨y540, hy540⟩ : ∃ y_ : List Int, y_ = (([] : List Int)) := ⟨_, rfl⟩; replace H : ((spec_l15Asked.f k l0 l1 a2 a3).bind fun t543 => (if t543 = true then ((spec_l15Greatest.f k l0 l1 a2 a3).bind fun t544 => (spec_NarrowPlaces.j0 k l0 l1 a2 a3 y540 (decide (t544 < 0)))) else (spec_NarrowPlaces.j0 k l0 l1 a2 a3 y540 true))) = some (r1, r2) := (qS4 hy540); have Ny540 := za hy540; clear hy540; have HC5 := za H; clear H
 go_enter Try.func21, Try.ntmps21
 go_upto_region 2 with (first | ((with_reducible refine zq (N := 14) rfl ?_); refine zQ (Kd.int .i64) _ 3 ?hg (N := 14) ?hd (xs := ([] : List Int)) (inner := []) (ok := fun _ => True) (okp := fun _ => True) ?hr ?hp (fun _ hk => hk) trivial (zs _ _) (zo _) (by simp) ?_; (case hd | hg => rfl); (case hr => exact (qS26)); (case hp => exact (zu _ _)); intro v541 w6 ho7 hb hg_ hnew_; clear hg_ hnew_; (first | rw [← Ny540.1] at ho7 | (simp only [Int.reduceToNat] at ho7; rw [← Ny540.1] at ho7)); have HO542 := za (qS77 ho7); replace HB := za qS64; clear hb ho7))
 (try simp only [Act.put, yf, yg, yh])
 go_cut [28] (fun v28 wc => ∃ (kq : Nat) (x28_4 : Bool), v28 = .bool x28_4 ∧ Aside0 (spec_NarrowPlaces.j0 kq l0 l1 a2 a3 y540 x28_4 = some (r1, r2)) ∧ Aside0 (kq ≤ k) ∧ Aside0 (Kd.R (Kd.int .i64) 3 wc w.heap.size (fun _ => True) v541 y540) ∧ Aside0 (Below w.heap.size w wc))
 case first =>
  have H := HC5.1; clear HC5; replace H := bindA H; obtain ⟨t543, A8, H⟩ := H; (try dsimp only at H)
  by_cases c9 : t543 = true
  ·subst c9; rw [yb rfl] at H; replace H := bindA H; obtain ⟨t544, A10, H⟩ := H; (try dsimp only at H); have H' := za H; clear H
   go_wp2_with (first | ((with_reducible refine zp (f := 39) rfl ?_); refine zV (some 19) rfl rfl Try.func39 (qS27) rfl #[.slice A0 l0.length c0, .slice A1 l1.length c1, .int .i64 a2, .int .i64 a3] rfl (qS2) ?_; (with_reducible refine (spec_l15Asked.calls k _ _ l0 _ _ l1 a2 a3 true _ ?s1 ?s2 ?s3 ?s4 A8.1).mono ?_); (case s1 => exact (qS13 HR0.1)); (case s2 => exact HC0.1); (case s3 => exact (qS13 HR1.1)); (case s4 => exact HC1.1); rintro e w11 ⟨rfl, hb⟩; refine ⟨_, rfl, ?_⟩; replace HO542 := za (qS66 HO542.1); replace HB := za qS64; clear hb) | (go_at_call 47; (with_reducible refine (spec_l15Greatest.calls k _ _ l0 _ _ l1 a2 a3 t544 _ ?s1 ?s2 ?s3 ?s4 A10.1).mono ?_); (case s1 => exact (qS13 HR0.1)); (case s2 => exact HC0.1); (case s3 => exact (qS13 HR1.1)); (case s4 => exact HC1.1); rintro e w12 ⟨rfl, hb⟩; replace HO542 := za (qS66 HO542.1); replace HB := za qS64; clear hb))
   go_meet
   case rel => exact ⟨_, (decide (t544 < 0)), (qS16), H', ⟨by first | omega | exact zo _⟩, ⟨(qS1 HO542.1)⟩, ⟨(qS0)⟩⟩
  ·replace c9 := zn c9; subst c9; rw [yc (show ¬ (false = true) by decide)] at H; have H' := za H; clear H
   go_wp2_with (first | ((with_reducible refine zp (f := 39) rfl ?_); refine zV (some 19) rfl rfl Try.func39 (qS27) rfl #[.slice A0 l0.length c0, .slice A1 l1.length c1, .int .i64 a2, .int .i64 a3] rfl (qS2) ?_; (with_reducible refine (spec_l15Asked.calls k _ _ l0 _ _ l1 a2 a3 false _ ?s1 ?s2 ?s3 ?s4 A8.1).mono ?_); (case s1 => exact (qS13 HR0.1)); (case s2 => exact HC0.1); (case s3 => exact (qS13 HR1.1)); (case s4 => exact HC1.1); rintro e w13 ⟨rfl, hb⟩; refine ⟨_, rfl, ?_⟩; replace HO542 := za (qS66 HO542.1); replace HB := za qS64; clear hb))
   go_meet
   case rel => exact ⟨_, (true), (qS16), H', ⟨by first | omega | exact zo _⟩, ⟨(qS1 HO542.1)⟩, ⟨(qS0)⟩⟩
 case rest =>
  clear HC5; (try clear c1); (try clear c2); (try clear p2); (try clear c3); (try clear c9); obtain ⟨kq, x28_4, rfl, HA, HJ4, HO_10, HB⟩ := hcut
  cases kq with
  | zero => exact absurd HA.1 (by simp [spec_NarrowPlaces.j0])
  | succ kj4 =>
   have H := HA.1; clear HA; simp only [spec_NarrowPlaces.j0] at H
   by_cases c14 : x28_4 = true
   ·subst c14; rw [yb rfl] at H; simp only [yd, ye] at H; obtain ⟨rfl, rfl⟩ := H
    go_wp2
    go_ret2
    exact ⟨_, (qS11), (qS1 HO_10.1), (qS0)⟩
   ·replace c14 := zn c14; subst c14; rw [yc (show ¬ (false = true) by decide)] at H; replace H := bindA H; obtain ⟨t545, A15, H⟩ := H; (try dsimp only at H); have H' := za H; clear H
    go_wp2_with (first | ((with_reducible refine zp (f := 47) rfl ?_); refine zV (some 34) rfl rfl Try.func47 (qS27) rfl #[.slice A0 l0.length c0, .slice A1 l1.length c1, .int .i64 a2, .int .i64 a3] rfl (qS2) ?_; (with_reducible refine (spec_l15Greatest.calls kj4 _ _ l0 _ _ l1 a2 a3 t545 _ ?s1 ?s2 ?s3 ?s4 A15.1).mono ?_); (case s1 => exact (qS13 HR0.1)); (case s2 => exact HC0.1); (case s3 => exact (qS13 HR1.1)); (case s4 => exact HC1.1); rintro e w16 ⟨rfl, hb⟩; refine ⟨_, rfl, ?_⟩; replace HO_10 := za (qS66 HO_10.1); replace HB := za qS64; clear hb))
    go_loopg [10, 12] kj4 (fun kq v10 v12 w' => ∃ (x10_2 : List Int) (x12_2 : Int), v12 = .int .i64 x12_2 ∧ Aside0 (spec_NarrowPlaces.l0 kq l0 l1 a2 a3 x10_2 t545 x12_2 = some (r1, r2)) ∧ Aside0 (kq ≤ kj4) ∧ Aside0 (Kd.R (Kd.int .i64) 3 w' w.heap.size (fun _ => True) v10 x10_2) ∧ Aside0 (Below w.heap.size w w'))
    case atStart => exact ⟨(y540), (0), (qS16), H', ⟨zo _⟩, ⟨(qS1 HO_10.1)⟩, ⟨(qS0)⟩⟩
    case round =>
     clear H'; (try clear c1); (try clear c2); (try clear p2); (try clear c3); (try clear c4); (try clear c9); (try clear c14); (try clear p2); obtain ⟨x10_2, x12_2, rfl, HA, HK2, HO_10, HB⟩ := hrel
     cases gk with
     | zero => exact absurd HA.1 (by simp [spec_NarrowPlaces.l0])
     | succ k2 =>
      have H := HA.1; clear HA; simp only [spec_NarrowPlaces.l0] at H
      by_cases c17 : x12_2 < (l0.length : Int)
      ·rw [yb c17] at H; have c17b0 : decide (x12_2 < (l0.length : Int)) = true := zc c17; clear c17; obtain ⟨y546, hy546⟩ : ∃ y_ : List Int, y_ = (([] : List Int)) := ⟨_, rfl⟩; replace H : (if 0 ≤ x12_2 then (if x12_2 ≤ (l1.length : Int) then (if y546.length + (l1.take (x12_2 : Int).toNat).length < 17592186044416 then ((some (y546 ++ (l1.take (x12_2 : Int).toNat) : List Int)).bind fun y550 => (if 0 ≤ (wrap64 (x12_2 + 1)) then (if (wrap64 (x12_2 + 1)) ≤ (l1.length : Int) then (if y550.length + (l1.drop ((wrap64 (x12_2 + 1)) : Int).toNat).length < 17592186044416 then (if x12_2 < (l1.length : Int) then (if (rd l1 x12_2) = t545 then ((spec_l10Less.f l0 x12_2).bind fun t558 => ((spec_l15Greatest.f k2 t558 (y550 ++ (l1.drop ((wrap64 (x12_2 + 1)) : Int).toNat)) a2 a3).bind fun t561 => (if t561 < t545 then (if x10_2.length < 17592186044416 then (spec_NarrowPlaces.l0 k2 l0 l1 a2 a3 (x10_2 ++ [x12_2]) t545 (wrap64 (x12_2 + 1))) else (none)) else (spec_NarrowPlaces.l0 k2 l0 l1 a2 a3 x10_2 t545 (wrap64 (x12_2 + 1)))))) else (spec_NarrowPlaces.l0 k2 l0 l1 a2 a3 x10_2 t545 (wrap64 (x12_2 + 1)))) else (none)) else (none)) else (none)) else (none))) else (none)) else (none)) else (none)) = some (r1, r2) := (qS4 hy546); have Ny546 := za hy546; clear hy546
       by_cases c18 : 0 ≤ x12_2
       ·rw [yb c18] at H; have c18b0 := zw c18; have c18b1 : decide (0 ≤ x12_2) = true := zc c18; clear c18
        by_cases c19 : x12_2 ≤ (l1.length : Int)
        ·rw [yb c19] at H; have c19b0 := zw c19; have c19b1 : decide (x12_2 ≤ (l1.length : Int)) = true := zc c19; clear c19
         by_cases c20 : y546.length + (l1.take (x12_2 : Int).toNat).length < 17592186044416
         ·rw [yb c20] at H; have LMc20 := za c20; clear c20; obtain ⟨y550, hy550⟩ : ∃ y_ : List Int, y_ = (y546 ++ (l1.take (x12_2 : Int).toNat)) := ⟨_, rfl⟩; replace H : (if 0 ≤ (wrap64 (x12_2 + 1)) then (if (wrap64 (x12_2 + 1)) ≤ (l1.length : Int) then (if y550.length + (l1.drop ((wrap64 (x12_2 + 1)) : Int).toNat).length < 17592186044416 then (if x12_2 < (l1.length : Int) then (if (rd l1 x12_2) = t545 then ((spec_l10Less.f l0 x12_2).bind fun t558 => ((spec_l15Greatest.f k2 t558 (y550 ++ (l1.drop ((wrap64 (x12_2 + 1)) : Int).toNat)) a2 a3).bind fun t561 => (if t561 < t545 then (if x10_2.length < 17592186044416 then (spec_NarrowPlaces.l0 k2 l0 l1 a2 a3 (x10_2 ++ [x12_2]) t545 (wrap64 (x12_2 + 1))) else (none)) else (spec_NarrowPlaces.l0 k2 l0 l1 a2 a3 x10_2 t545 (wrap64 (x12_2 + 1)))))) else (spec_NarrowPlaces.l0 k2 l0 l1 a2 a3 x10_2 t545 (wrap64 (x12_2 + 1)))) else (none)) else (none)) else (none)) else (none)) = some (r1, r2) := (qS4 hy550); have Ny550 := za hy550; clear hy550; obtain ⟨ji21, hji21⟩ : ∃ j_ : Int, (wrap64 (x12_2 + 1)) = j_ := ⟨_, rfl⟩
          replace H : (if 0 ≤ (ji21) then (if (ji21) ≤ (l1.length : Int) then (if y550.length + (l1.drop ((ji21) : Int).toNat).length < 17592186044416 then (if x12_2 < (l1.length : Int) then (if (rd l1 x12_2) = t545 then ((spec_l10Less.f l0 x12_2).bind fun t558 => ((spec_l15Greatest.f k2 t558 (y550 ++ (l1.drop ((ji21) : Int).toNat)) a2 a3).bind fun t561 => (if t561 < t545 then (if x10_2.length < 17592186044416 then (spec_NarrowPlaces.l0 k2 l0 l1 a2 a3 (x10_2 ++ [x12_2]) t545 ji21) else (none)) else (spec_NarrowPlaces.l0 k2 l0 l1 a2 a3 x10_2 t545 ji21)))) else (spec_NarrowPlaces.l0 k2 l0 l1 a2 a3 x10_2 t545 ji21)) else (none)) else (none)) else (none)) else (none)) = some (r1, r2) := by first | (rw [hji21] at H; exact H) | (simp only [hji21] at H ⊢; exact H)
          have hji21w : (IntKind.i64.wrap (x12_2 + 1)) = ji21 := (i64_w _).trans hji21
          by_cases c22 : 0 ≤ (ji21)
          ·rw [yb c22] at H; have c22b0 := zw c22; have c22b1 : decide (0 ≤ (ji21)) = true := zc c22; clear c22
           by_cases c23 : (ji21) ≤ (l1.length : Int)
           ·rw [yb c23] at H; have c23b0 := zw c23; have c23b1 : decide ((ji21) ≤ (l1.length : Int)) = true := zc c23; clear c23
            by_cases c24 : y550.length + (l1.drop ((ji21) : Int).toNat).length < 17592186044416
            ·rw [yb c24] at H; have LMc24 := za c24; clear c24; obtain ⟨y554, hy554⟩ : ∃ y_ : List Int, y_ = (y550 ++ (l1.drop ((ji21) : Int).toNat)) := ⟨_, rfl⟩; replace H : (if x12_2 < (l1.length : Int) then (if (rd l1 x12_2) = t545 then ((spec_l10Less.f l0 x12_2).bind fun t558 => ((spec_l15Greatest.f k2 t558 y554 a2 a3).bind fun t561 => (if t561 < t545 then (if x10_2.length < 17592186044416 then (spec_NarrowPlaces.l0 k2 l0 l1 a2 a3 (x10_2 ++ [x12_2]) t545 ji21) else (none)) else (spec_NarrowPlaces.l0 k2 l0 l1 a2 a3 x10_2 t545 ji21)))) else (spec_NarrowPlaces.l0 k2 l0 l1 a2 a3 x10_2 t545 ji21)) else (none)) = some (r1, r2) := (qS4 hy554); have Ny554 := za hy554; clear hy554
             by_cases c25 : x12_2 < (l1.length : Int)
             ·rw [yb c25] at H; have c25b0 : decide (x12_2 < (l1.length : Int)) = true := zc c25; clear c25
              by_cases c26 : (rd l1 x12_2) = t545
              ·rw [yb c26] at H; have c26b0 : ((rd l1 x12_2) == t545) = true := zT c26; have c26b1 : ((rd l1 x12_2) != t545) = false := zy c26; clear c26; replace H := bindA H; obtain ⟨t558, A27, H⟩ := H; (try dsimp only at H); replace H := bindA H; obtain ⟨t561, A28, H⟩ := H; (try dsimp only at H)
               by_cases c29 : t561 < t545
               ·rw [yb c29] at H; have c29b0 : decide (t561 < t545) = true := zc c29; clear c29
                by_cases c30 : x10_2.length < 17592186044416
                ·rw [yb c30] at H; have LMc30 := za c30; clear c30; obtain ⟨y562, hy562⟩ : ∃ y_ : List Int, y_ = (x10_2 ++ [x12_2]) := ⟨_, rfl⟩; replace H : (spec_NarrowPlaces.l0 k2 l0 l1 a2 a3 y562 t545 ji21) = some (r1, r2) := (qS4 hy562); have Ny562 := za hy562; clear hy562; have H' := za H; clear H
                 try go_wp2
                 replace HO_10 := za (zO HO_10.1); replace HB := za (below_drew1 HB.1); obtain ⟨i032, hi032, _, hsz32, _⟩ := info_parts info3; obtain ⟨hcut32, hA32, hC32⟩ := print_take_of (P := Try.prog) (Value.int .i64) 0 25 3 .i64 Try.underlying25 hi032 hsz32 A1 c1 l1 x12_2 (zb (qS8)) (zb (qS8)) HC1.1; have HR549 := za (by exact Kd.C_of_reads (h1 := fun _ => rfl) (hA32 _ (Kd.reads_of_C HR1.1))); have HC549 := za hC32; clear hA32 hC32 hi032 hsz32; obtain ⟨i033, hi033, _, hsz33, _⟩ := info_parts info3; obtain ⟨A33, hcut33, hA33, hC33⟩ := print_drop_of (P := Try.prog) (Value.int .i64) 0 25 3 .i64 Try.underlying25 hi033 hsz33 A1 c1 l1 (ji21) (zb (qS8)) (zb (qS8)) HC1.1; have HR553 := za (by exact Kd.C_of_reads (h1 := fun _ => rfl) (hA33 _ (Kd.reads_of_C HR1.1))); have HC553 := za hC33; clear hA33 hC33 hi033 hsz33
                 refine start_ (n := 11) (S := fun w' => True) (ds := []) qSb0 (qS27) rfl rfl trivial (fun hHeld => ?_); refine with_tabW spec_NarrowPlaces.tab8 spec_NarrowPlaces.bits8 (fun HT_ HW_ => ?_)
                 generalize wr.drew = w31 at HO_10 HB HR549 HR553 hHeld ⊢
                 refine pure_ (i := 1) (N := some 42) (v := ?_) (a' := ?_) qSb20 rfl rfl (qS24) (fun _ _ _ h => h) (zY ⟨by rfl, ?_⟩) ?_ ?_
                 rotate_left; exact qS9_c1; rotate_left; exact qS9_c0
                 refine pure_ (i := 2) (N := some 43) (v := ?_) (a' := ?_) qSb21 rfl rfl (qS24) (fun _ _ _ h => h) (zY ⟨by rfl, ?_⟩) ?_ ?_
                 rotate_left; exact qS9_c1; rotate_left; exact qS9_c0
                 refine pure_ (i := 3) (N := some 44) (v := ?_) (a' := ?_) qSb22 rfl rfl (qS24) (fun _ _ _ h => h) (zY ⟨by rfl, ?_⟩) ?_ ?_
                 rotate_left; exact qS9_c1; rotate_left; exact qS9_c0
                 refine pure_ (i := 5) (N := some 46) (v := ?_) (a' := ?_) qSb23 rfl rfl (qS24) (fun _ _ _ h => h) (zY ⟨by rfl, ?_⟩) ?_ ?_
                 rotate_left; exact qS9_c1; rotate_left; exact qS9_c0
                 refine pure_ (i := 6) (N := some 47) (v := ?_) (a' := ?_) qSb24 rfl rfl (qS24) (fun _ _ _ h => h) (zY ⟨by rfl, ?_⟩) ?_ ?_
                 rotate_left; exact qS9_c1; rotate_left; exact qS9_c0
                 refine pure_ (i := 7) (N := some 48) (v := ?_) (a' := ?_) qSb25 rfl rfl (qS24) (fun _ _ _ h => h) (zY ⟨by rfl, ?_⟩) ?_ ?_
                 rotate_left; exact qS9_c1; rotate_left; exact qS9_c0
                 refine pure_ (i := 8) (N := some 49) (v := ?_) (a' := ?_) qSb26 rfl rfl (qS24) (fun _ _ _ h => h) (zY ⟨by rfl, ?_⟩) ?_ ?_
                 rotate_left; exact qS9_c1; rotate_left; exact qS9_c0
                 refine one_ (i := 0) (N := some 41) qSb27 rfl rfl (qS70) (by decide) (fun K hK => ?_)
                 refine Kd.R_lit_step (Kd.int .i64) _ 3 ?hg (N := 41) ?hd (xs := ([] : List Int)) (inner := []) (ok := fun _ => True) (okp := fun _ => True) ?hr ?hp (fun _ hk => hk) trivial (zs _ _) (zo _) (by simp) ?_; (case hd | hg => rfl); (case hr => exact (qS26)); (case hp => exact (zu _ _))
                 intro v547 w34 ho35 hb hg_ hnew_; clear hg_ hnew_
                 (first | rw [← Ny546.1] at ho35 | (simp only [Int.reduceToNat] at ho35; rw [← Ny546.1] at ho35))
                 have HO548 := za (qS75 ho35 HO_10.1); replace HO_10 := za (qS67 HO_10.1 ho35); replace HB := za qS64; clear hb ho35
                 refine hK.out _ _ trivial (fun hHeld => ?_)
                 clear hK K
                 refine norm_ (a' := ?_) ?_ ?_
                 rotate_left
                 ·exact qS9_c2
                 refine one_ (i := 4) (N := some 45) qSb2 rfl rfl (qS70) (by decide) (fun K hK => ?_)
                 refine zM (Kd.int .i64) (w0 := w) w.heap.size (by rfl) (.tmp 41) (.tmp 44) 25 3 (.int .i64 0) 8 rfl Try.underlying25 info3 rfl (by decide) (by omega) v547 y546 (l1.take (x12_2 : Int).toNat) _ _ _ (fun k_ => some k_ ≠ (u10 : Value).ownBlock) (fun _ => False) rfl rfl ?aO ?aR (fun _ _ h => h) (fun _ h => h.elim) ?aF ?aB ?aS ?aL ?_
                 (case aR => exact (qS71))
                 (case aB => exact (qS0))
                 (case aF => exact (qS73 HO_10.1))
                 (case aO => exact (qS29 HO548.1))
                 (case aS => exact (qS82))
                 (case aL => exact (qS86))
                 intro v551 w36 ho hb hg hat; rw [← Ny550.1] at ho; replace HO_10 := za (qS79 HO_10.1); replace HB := za hb; have HO552 := za ho; clear HO548; clear ho hb hg hat
                 refine hK.out _ _ trivial (fun hHeld => ?_)
                 clear hK K
                 refine norm_ (a' := ?_) ?_ ?_
                 rotate_left
                 ·exact qS9_c3
                 refine one_ (i := 9) (N := some 50) qSb1 rfl rfl (qS70) (by decide) (fun K hK => ?_)
                 refine zM (Kd.int .i64) (w0 := w) w.heap.size (by rfl) (.tmp 45) (.tmp 49) 25 3 (.int .i64 0) 8 rfl Try.underlying25 info3 rfl (by decide) (by omega) v551 y550 (l1.drop ((ji21) : Int).toNat) _ _ _ (fun k_ => some k_ ≠ (u10 : Value).ownBlock) (fun _ => False) rfl rfl ?aO ?aR (fun _ _ h => h) (fun _ h => h.elim) ?aF ?aB ?aS ?aL ?_
                 (case aR => exact (qS44))
                 (case aB => exact (qS0))
                 (case aF => exact (qS73 HO_10.1))
                 (case aO => exact (qS1 HO552.1))
                 (case aS => exact (qS82))
                 (case aL => exact (qS56))
                 intro v555 w37 ho hb hg hat; rw [← Ny554.1] at ho; replace HO_10 := za (qS79 HO_10.1); replace HB := za hb; have HO556 := za ho; clear HO552; clear ho hb hg hat
                 refine hK.out _ _ trivial (fun hHeld => ?_)
                 clear hK K
                 refine norm_ (a' := ?_) ?_ ?_
                 rotate_left
                 ·exact qS9_c4
                 refine pure_ (i := 10) (N := some 13) (v := ?_) (a' := ?_) qSb3 rfl rfl (qS24) (fun _ _ _ h => h) (zY ⟨by rfl, ?_⟩) ?_ ?_
                 rotate_left; exact qS9_c1; rotate_left; exact qS9_c0
                 refine done_ (qS88) ?_
                 have p557 : 0 ≤ (x12_2 : Int) := zb (qS8); have q557 : x12_2 < (l1.length : Int) := zb (qS8); obtain ⟨ad557, e557, hx557_0⟩ := zJ HR1.1 x12_2 p557 q557; cases e557; replace hx557_0 := (HB.1.cell (zd w _ hx557_0)).trans hx557_0; replace p557 := zw p557; replace q557 := zw q557
                 try go_wp2_with (first | (go_at_call 56; (with_reducible refine (spec_l10Less.calls _ _ l0 x12_2 t558 _ ?s1 ?s2 A27.1).mono ?_); (case s1 => exact (qS13 HR0.1)); (case s2 => exact HC0.1); rintro e w38 ⟨v559, rfl, ho0, hb⟩; replace HO_10 := za (qS66 HO_10.1); replace HO556 := za (qS66 HO556.1); have HO560 := za (qS77 ho0); replace HB := za qS64; clear hb ho0; obtain ⟨Ao39, co39, eo39⟩ := zI HO560.1; subst eo39; obtain ⟨Ao40, co40, eo40⟩ := zI HO556.1; subst eo40) | (go_at_call 47; (with_reducible refine (spec_l15Greatest.calls k2 _ _ t558 _ _ y554 a2 a3 t561 _ ?s1 ?s2 ?s3 ?s4 A28.1).mono ?_); (case s1 => exact (qS7 HO560.1)); (case s2 => exact (qS38 HO560.1)); (case s3 => exact (qS7 HO556.1)); (case s4 => exact (qS38 HO556.1)); rintro e w41 ⟨rfl, hb⟩; replace HO_10 := za (qS66 HO_10.1); replace HO556 := za (qS66 HO556.1); replace HO560 := za (qS66 HO560.1); replace HB := za qS64; clear hb) | ((with_reducible refine zr (b := .append) (xs := #[.tmp 68, .tmp 70]) rfl ?_); at_builtin; refine Kd.R_append (Kd.int .i64) (w0 := w) w.heap.size rfl (.tmp 68) (.tmp 70) 25 3 (.int .i64 0) 8 rfl Try.underlying25 info3 rfl (by decide) (by omega) u10 x10_2 x12_2 [.int .i64 x12_2] (fun k_ => some k_ ≠ (.slice Ao40 y554.length co40 : Value).ownBlock) (fun _ => False) rfl rfl ?aP (fun _ hk => hk.elim) ?aF ?aO ?aB ?aS ?aL ?_; (case aP => exact rfl); (case aB => exact (qS0)); (case aF => exact (qS73 HO556.1)); (case aO => exact (qS29 HO_10.1)); (case aS => exact (qS82)); (case aL => have := LMc30.1; omega); intro v563 w42 ho hb hg hat; rw [← Ny562.1] at ho; replace HO556 := za (qS46 HO556.1); replace HO560 := za (qS72 HO560.1 HO_10.1); replace HB := za hb; have HO564 := za ho; clear HO_10; clear ho hb hg hat))
                 go_roundg k2
                 case measure => have := HJ4.1; have := HK2.1; omega
                 case rel => exact ⟨(y562), (ji21), (qS58), H', ⟨by have := HJ4.1; have := HK2.1; omega⟩, ⟨(qS32 HO564.1)⟩, ⟨(qS0)⟩⟩
                ·rw [yc c30] at H
                 exact absurd H (by simp)
               ·rw [yc c29] at H; have c29b0 : decide (t561 < t545) = false := zv c29; clear c29; have H' := za H; clear H
                try go_wp2
                replace HO_10 := za (zO HO_10.1); replace HB := za (below_drew1 HB.1); obtain ⟨i044, hi044, _, hsz44, _⟩ := info_parts info3; obtain ⟨hcut44, hA44, hC44⟩ := print_take_of (P := Try.prog) (Value.int .i64) 0 25 3 .i64 Try.underlying25 hi044 hsz44 A1 c1 l1 x12_2 (zb (qS8)) (zb (qS8)) HC1.1; have HR549 := za (by exact Kd.C_of_reads (h1 := fun _ => rfl) (hA44 _ (Kd.reads_of_C HR1.1))); have HC549 := za hC44; clear hA44 hC44 hi044 hsz44; obtain ⟨i045, hi045, _, hsz45, _⟩ := info_parts info3; obtain ⟨A45, hcut45, hA45, hC45⟩ := print_drop_of (P := Try.prog) (Value.int .i64) 0 25 3 .i64 Try.underlying25 hi045 hsz45 A1 c1 l1 (ji21) (zb (qS8)) (zb (qS8)) HC1.1; have HR553 := za (by exact Kd.C_of_reads (h1 := fun _ => rfl) (hA45 _ (Kd.reads_of_C HR1.1))); have HC553 := za hC45; clear hA45 hC45 hi045 hsz45
                refine start_ (n := 11) (S := fun w' => True) (ds := []) qSb0 (qS27) rfl rfl trivial (fun hHeld => ?_); refine with_tabW spec_NarrowPlaces.tab8 spec_NarrowPlaces.bits8 (fun HT_ HW_ => ?_)
                generalize wr.drew = w43 at HO_10 HB HR549 HR553 hHeld ⊢
                refine pure_ (i := 1) (N := some 42) (v := ?_) (a' := ?_) qSb20 rfl rfl (qS24) (fun _ _ _ h => h) (zY ⟨by rfl, ?_⟩) ?_ ?_
                rotate_left; exact qS9_c1; rotate_left; exact qS9_c0
                refine pure_ (i := 2) (N := some 43) (v := ?_) (a' := ?_) qSb21 rfl rfl (qS24) (fun _ _ _ h => h) (zY ⟨by rfl, ?_⟩) ?_ ?_
                rotate_left; exact qS9_c1; rotate_left; exact qS9_c0
                refine pure_ (i := 3) (N := some 44) (v := ?_) (a' := ?_) qSb22 rfl rfl (qS24) (fun _ _ _ h => h) (zY ⟨by rfl, ?_⟩) ?_ ?_
                rotate_left; exact qS9_c1; rotate_left; exact qS9_c0
                refine pure_ (i := 5) (N := some 46) (v := ?_) (a' := ?_) qSb23 rfl rfl (qS24) (fun _ _ _ h => h) (zY ⟨by rfl, ?_⟩) ?_ ?_
                rotate_left; exact qS9_c1; rotate_left; exact qS9_c0
                refine pure_ (i := 6) (N := some 47) (v := ?_) (a' := ?_) qSb24 rfl rfl (qS24) (fun _ _ _ h => h) (zY ⟨by rfl, ?_⟩) ?_ ?_
                rotate_left; exact qS9_c1; rotate_left; exact qS9_c0
                refine pure_ (i := 7) (N := some 48) (v := ?_) (a' := ?_) qSb25 rfl rfl (qS24) (fun _ _ _ h => h) (zY ⟨by rfl, ?_⟩) ?_ ?_
                rotate_left; exact qS9_c1; rotate_left; exact qS9_c0
                refine pure_ (i := 8) (N := some 49) (v := ?_) (a' := ?_) qSb26 rfl rfl (qS24) (fun _ _ _ h => h) (zY ⟨by rfl, ?_⟩) ?_ ?_
                rotate_left; exact qS9_c1; rotate_left; exact qS9_c0
                refine one_ (i := 0) (N := some 41) qSb27 rfl rfl (qS70) (by decide) (fun K hK => ?_)
                refine Kd.R_lit_step (Kd.int .i64) _ 3 ?hg (N := 41) ?hd (xs := ([] : List Int)) (inner := []) (ok := fun _ => True) (okp := fun _ => True) ?hr ?hp (fun _ hk => hk) trivial (zs _ _) (zo _) (by simp) ?_; (case hd | hg => rfl); (case hr => exact (qS26)); (case hp => exact (zu _ _))
                intro v547 w46 ho47 hb hg_ hnew_; clear hg_ hnew_
                (first | rw [← Ny546.1] at ho47 | (simp only [Int.reduceToNat] at ho47; rw [← Ny546.1] at ho47))
                have HO548 := za (qS75 ho47 HO_10.1); replace HO_10 := za (qS67 HO_10.1 ho47); replace HB := za qS64; clear hb ho47
                refine hK.out _ _ trivial (fun hHeld => ?_)
                clear hK K
                refine norm_ (a' := ?_) ?_ ?_
                rotate_left
                ·exact qS9_c2
                refine one_ (i := 4) (N := some 45) qSb2 rfl rfl (qS70) (by decide) (fun K hK => ?_)
                refine zM (Kd.int .i64) (w0 := w) w.heap.size (by rfl) (.tmp 41) (.tmp 44) 25 3 (.int .i64 0) 8 rfl Try.underlying25 info3 rfl (by decide) (by omega) v547 y546 (l1.take (x12_2 : Int).toNat) _ _ _ (fun k_ => some k_ ≠ (u10 : Value).ownBlock) (fun _ => False) rfl rfl ?aO ?aR (fun _ _ h => h) (fun _ h => h.elim) ?aF ?aB ?aS ?aL ?_
                (case aR => exact (qS71))
                (case aB => exact (qS0))
                (case aF => exact (qS73 HO_10.1))
                (case aO => exact (qS29 HO548.1))
                (case aS => exact (qS82))
                (case aL => exact (qS86))
                intro v551 w48 ho hb hg hat; rw [← Ny550.1] at ho; replace HO_10 := za (qS79 HO_10.1); replace HB := za hb; have HO552 := za ho; clear HO548; clear ho hb hg hat
                refine hK.out _ _ trivial (fun hHeld => ?_)
                clear hK K
                refine norm_ (a' := ?_) ?_ ?_
                rotate_left
                ·exact qS9_c3
                refine one_ (i := 9) (N := some 50) qSb1 rfl rfl (qS70) (by decide) (fun K hK => ?_)
                refine zM (Kd.int .i64) (w0 := w) w.heap.size (by rfl) (.tmp 45) (.tmp 49) 25 3 (.int .i64 0) 8 rfl Try.underlying25 info3 rfl (by decide) (by omega) v551 y550 (l1.drop ((ji21) : Int).toNat) _ _ _ (fun k_ => some k_ ≠ (u10 : Value).ownBlock) (fun _ => False) rfl rfl ?aO ?aR (fun _ _ h => h) (fun _ h => h.elim) ?aF ?aB ?aS ?aL ?_
                (case aR => exact (qS44))
                (case aB => exact (qS0))
                (case aF => exact (qS73 HO_10.1))
                (case aO => exact (qS1 HO552.1))
                (case aS => exact (qS82))
                (case aL => exact (qS56))
                intro v555 w49 ho hb hg hat; rw [← Ny554.1] at ho; replace HO_10 := za (qS79 HO_10.1); replace HB := za hb; have HO556 := za ho; clear HO552; clear ho hb hg hat
                refine hK.out _ _ trivial (fun hHeld => ?_)
                clear hK K
                refine norm_ (a' := ?_) ?_ ?_
                rotate_left
                ·exact qS9_c4
                refine pure_ (i := 10) (N := some 13) (v := ?_) (a' := ?_) qSb3 rfl rfl (qS24) (fun _ _ _ h => h) (zY ⟨by rfl, ?_⟩) ?_ ?_
                rotate_left; exact qS9_c1; rotate_left; exact qS9_c0
                refine done_ (qS88) ?_
                have p557 : 0 ≤ (x12_2 : Int) := zb (qS8); have q557 : x12_2 < (l1.length : Int) := zb (qS8); obtain ⟨ad557, e557, hx557_0⟩ := zJ HR1.1 x12_2 p557 q557; cases e557; replace hx557_0 := (HB.1.cell (zd w _ hx557_0)).trans hx557_0; replace p557 := zw p557; replace q557 := zw q557
                try go_wp2_with (first | (go_at_call 56; (with_reducible refine (spec_l10Less.calls _ _ l0 x12_2 t558 _ ?s1 ?s2 A27.1).mono ?_); (case s1 => exact (qS13 HR0.1)); (case s2 => exact HC0.1); rintro e w50 ⟨v559, rfl, ho0, hb⟩; replace HO_10 := za (qS66 HO_10.1); replace HO556 := za (qS66 HO556.1); have HO560 := za (qS77 ho0); replace HB := za qS64; clear hb ho0; obtain ⟨Ao51, co51, eo51⟩ := zI HO560.1; subst eo51; obtain ⟨Ao52, co52, eo52⟩ := zI HO556.1; subst eo52) | (go_at_call 47; (with_reducible refine (spec_l15Greatest.calls k2 _ _ t558 _ _ y554 a2 a3 t561 _ ?s1 ?s2 ?s3 ?s4 A28.1).mono ?_); (case s1 => exact (qS7 HO560.1)); (case s2 => exact (qS38 HO560.1)); (case s3 => exact (qS7 HO556.1)); (case s4 => exact (qS38 HO556.1)); rintro e w53 ⟨rfl, hb⟩; replace HO_10 := za (qS66 HO_10.1); replace HO556 := za (qS66 HO556.1); replace HO560 := za (qS66 HO560.1); replace HB := za qS64; clear hb))
                go_roundg k2
                case measure => have := HJ4.1; have := HK2.1; omega
                case rel => exact ⟨(x10_2), (ji21), (qS58), H', ⟨by have := HJ4.1; have := HK2.1; omega⟩, ⟨(qS32 HO_10.1)⟩, ⟨(qS0)⟩⟩
              ·rw [yc c26] at H; have c26b0 : ((rd l1 x12_2) == t545) = false := zx c26; have c26b1 : ((rd l1 x12_2) != t545) = true := zU c26; have H' := za H; clear H
               try go_wp2
               replace HO_10 := za (zO HO_10.1); replace HB := za (below_drew1 HB.1); obtain ⟨i055, hi055, _, hsz55, _⟩ := info_parts info3; obtain ⟨hcut55, hA55, hC55⟩ := print_take_of (P := Try.prog) (Value.int .i64) 0 25 3 .i64 Try.underlying25 hi055 hsz55 A1 c1 l1 x12_2 (zb (qS8)) (zb (qS8)) HC1.1; have HR549 := za (by exact Kd.C_of_reads (h1 := fun _ => rfl) (hA55 _ (Kd.reads_of_C HR1.1))); have HC549 := za hC55; clear hA55 hC55 hi055 hsz55; obtain ⟨i056, hi056, _, hsz56, _⟩ := info_parts info3; obtain ⟨A56, hcut56, hA56, hC56⟩ := print_drop_of (P := Try.prog) (Value.int .i64) 0 25 3 .i64 Try.underlying25 hi056 hsz56 A1 c1 l1 (ji21) (zb (qS8)) (zb (qS8)) HC1.1; have HR553 := za (by exact Kd.C_of_reads (h1 := fun _ => rfl) (hA56 _ (Kd.reads_of_C HR1.1))); have HC553 := za hC56; clear hA56 hC56 hi056 hsz56
               refine start_ (n := 11) (S := fun w' => True) (ds := []) qSb0 (qS27) rfl rfl trivial (fun hHeld => ?_); refine with_tabW spec_NarrowPlaces.tab8 spec_NarrowPlaces.bits8 (fun HT_ HW_ => ?_)
               generalize wr.drew = w54 at HO_10 HB HR549 HR553 hHeld ⊢
               refine pure_ (i := 1) (N := some 42) (v := ?_) (a' := ?_) qSb20 rfl rfl (qS24) (fun _ _ _ h => h) (zY ⟨by rfl, ?_⟩) ?_ ?_
               rotate_left; exact qS9_c1; rotate_left; exact qS9_c0
               refine pure_ (i := 2) (N := some 43) (v := ?_) (a' := ?_) qSb21 rfl rfl (qS24) (fun _ _ _ h => h) (zY ⟨by rfl, ?_⟩) ?_ ?_
               rotate_left; exact qS9_c1; rotate_left; exact qS9_c0
               refine pure_ (i := 3) (N := some 44) (v := ?_) (a' := ?_) qSb22 rfl rfl (qS24) (fun _ _ _ h => h) (zY ⟨by rfl, ?_⟩) ?_ ?_
               rotate_left; exact qS9_c1; rotate_left; exact qS9_c0
               refine pure_ (i := 5) (N := some 46) (v := ?_) (a' := ?_) qSb23 rfl rfl (qS24) (fun _ _ _ h => h) (zY ⟨by rfl, ?_⟩) ?_ ?_
               rotate_left; exact qS9_c1; rotate_left; exact qS9_c0
               refine pure_ (i := 6) (N := some 47) (v := ?_) (a' := ?_) qSb24 rfl rfl (qS24) (fun _ _ _ h => h) (zY ⟨by rfl, ?_⟩) ?_ ?_
               rotate_left; exact qS9_c1; rotate_left; exact qS9_c0
               refine pure_ (i := 7) (N := some 48) (v := ?_) (a' := ?_) qSb25 rfl rfl (qS24) (fun _ _ _ h => h) (zY ⟨by rfl, ?_⟩) ?_ ?_
               rotate_left; exact qS9_c1; rotate_left; exact qS9_c0
               refine pure_ (i := 8) (N := some 49) (v := ?_) (a' := ?_) qSb26 rfl rfl (qS24) (fun _ _ _ h => h) (zY ⟨by rfl, ?_⟩) ?_ ?_
               rotate_left; exact qS9_c1; rotate_left; exact qS9_c0
               refine one_ (i := 0) (N := some 41) qSb27 rfl rfl (qS70) (by decide) (fun K hK => ?_)
               refine Kd.R_lit_step (Kd.int .i64) _ 3 ?hg (N := 41) ?hd (xs := ([] : List Int)) (inner := []) (ok := fun _ => True) (okp := fun _ => True) ?hr ?hp (fun _ hk => hk) trivial (zs _ _) (zo _) (by simp) ?_; (case hd | hg => rfl); (case hr => exact (qS26)); (case hp => exact (zu _ _))
               intro v547 w57 ho58 hb hg_ hnew_; clear hg_ hnew_
               (first | rw [← Ny546.1] at ho58 | (simp only [Int.reduceToNat] at ho58; rw [← Ny546.1] at ho58))
               have HO548 := za (qS75 ho58 HO_10.1); replace HO_10 := za (qS67 HO_10.1 ho58); replace HB := za qS64; clear hb ho58
               refine hK.out _ _ trivial (fun hHeld => ?_)
               clear hK K
               refine norm_ (a' := ?_) ?_ ?_
               rotate_left
               ·exact qS9_c2
               refine one_ (i := 4) (N := some 45) qSb2 rfl rfl (qS70) (by decide) (fun K hK => ?_)
               refine zM (Kd.int .i64) (w0 := w) w.heap.size (by rfl) (.tmp 41) (.tmp 44) 25 3 (.int .i64 0) 8 rfl Try.underlying25 info3 rfl (by decide) (by omega) v547 y546 (l1.take (x12_2 : Int).toNat) _ _ _ (fun k_ => some k_ ≠ (u10 : Value).ownBlock) (fun _ => False) rfl rfl ?aO ?aR (fun _ _ h => h) (fun _ h => h.elim) ?aF ?aB ?aS ?aL ?_
               (case aR => exact (qS71))
               (case aB => exact (qS0))
               (case aF => exact (qS73 HO_10.1))
               (case aO => exact (qS29 HO548.1))
               (case aS => exact (qS82))
               (case aL => exact (qS86))
               intro v551 w59 ho hb hg hat; rw [← Ny550.1] at ho; replace HO_10 := za (qS79 HO_10.1); replace HB := za hb; have HO552 := za ho; clear HO548; clear ho hb hg hat
               refine hK.out _ _ trivial (fun hHeld => ?_)
               clear hK K
               refine norm_ (a' := ?_) ?_ ?_
               rotate_left
               ·exact qS9_c3
               refine one_ (i := 9) (N := some 50) qSb1 rfl rfl (qS70) (by decide) (fun K hK => ?_)
               refine zM (Kd.int .i64) (w0 := w) w.heap.size (by rfl) (.tmp 45) (.tmp 49) 25 3 (.int .i64 0) 8 rfl Try.underlying25 info3 rfl (by decide) (by omega) v551 y550 (l1.drop ((ji21) : Int).toNat) _ _ _ (fun k_ => some k_ ≠ (u10 : Value).ownBlock) (fun _ => False) rfl rfl ?aO ?aR (fun _ _ h => h) (fun _ h => h.elim) ?aF ?aB ?aS ?aL ?_
               (case aR => exact (qS44))
               (case aB => exact (qS0))
               (case aF => exact (qS73 HO_10.1))
               (case aO => exact (qS1 HO552.1))
               (case aS => exact (qS82))
               (case aL => exact (qS56))
               intro v555 w60 ho hb hg hat; rw [← Ny554.1] at ho; replace HO_10 := za (qS79 HO_10.1); replace HB := za hb; have HO556 := za ho; clear HO552; clear ho hb hg hat
               refine hK.out _ _ trivial (fun hHeld => ?_)
               clear hK K
               refine norm_ (a' := ?_) ?_ ?_
               rotate_left
               ·exact qS9_c4
               refine pure_ (i := 10) (N := some 13) (v := ?_) (a' := ?_) qSb3 rfl rfl (qS24) (fun _ _ _ h => h) (zY ⟨by rfl, ?_⟩) ?_ ?_
               rotate_left; exact qS9_c1; rotate_left; exact qS9_c0
               refine done_ (qS88) ?_
               have p557 : 0 ≤ (x12_2 : Int) := zb (qS8); have q557 : x12_2 < (l1.length : Int) := zb (qS8); obtain ⟨ad557, e557, hx557_0⟩ := zJ HR1.1 x12_2 p557 q557; cases e557; replace hx557_0 := (HB.1.cell (zd w _ hx557_0)).trans hx557_0; replace p557 := zw p557; replace q557 := zw q557
               try go_wp2
               go_roundg k2
               case measure => have := HJ4.1; have := HK2.1; omega
               case rel => exact ⟨(x10_2), (ji21), (qS58), H', ⟨by have := HJ4.1; have := HK2.1; omega⟩, ⟨(qS32 HO_10.1)⟩, ⟨(qS0)⟩⟩
             ·rw [yc c25] at H
              exact absurd H (by simp)
            ·rw [yc c24] at H
             exact absurd H (by simp)
           ·rw [yc c23] at H
            exact absurd H (by simp)
          ·rw [yc c22] at H
           exact absurd H (by simp)
         ·rw [yc c20] at H
          exact absurd H (by simp)
        ·rw [yc c19] at H
         exact absurd H (by simp)
       ·rw [yc c18] at H
        exact absurd H (by simp)
      ·rw [yc c17] at H; have c17b0 : decide (x12_2 < (l0.length : Int)) = false := zv c17; clear c17; simp only [yd, ye] at H; obtain ⟨rfl, rfl⟩ := H
       go_wp2
       go_ret2
       exact ⟨_, (qS11), (qS1 HO_10.1), (qS0)⟩

def spec_DrawRescueOrder.l0 : Nat → List (S58) → List Int → List Int → Int → List Int → Int → Int → Option ((List (S58)) × List Int × Int × List Int)
 | 0, _, _, _, _, _, _, _ => none
 | k + 1, x7, x8, x9, x10, x566000, x566001, x566002 => if x10 < 7 then ((spec_l1Cur_one.f x566000 x566001 x566002 2).bind fun bt577 => (if bt577.1 = true then (if x9.length < 17592186044416 then (spec_DrawRescueOrder.l0 k x7 x8 (x9 ++ [x10]) (wrap64 (x10 + 1)) x566000 bt577.2.1 bt577.2.2) else (none)) else (spec_DrawRescueOrder.l0 k x7 x8 x9 (wrap64 (x10 + 1)) x566000 bt577.2.1 bt577.2.2))) else ((spec_l1Cur_one.f x566000 x566001 x566002 24).bind fun bt583 => (if bt583.1 = true then ((spec_l1Cur_among.f x566000 bt583.2.1 bt583.2.2 (([0, 8] : List Int))).bind fun bt589 => (if x9.length < 17592186044416 then ((spec_l1Cur_stationOf.f x566000 bt589.2.1 bt589.2.2).bind fun bt595 => (some (x7, x8, bt595.1, (x9 ++ [bt589.1])))) else (none))) else ((spec_l1Cur_stationOf.f x566000 bt583.2.1 bt583.2.2).bind fun bt598 => (some (x7, x8, bt598.1, x9)))))
def spec_DrawRescueOrder.f (k : Nat) (l0 : List Int) : Option ((List (S58)) × List Int × Int × List Int) := (spec_l1Cur_wide.f k l0 0 0).bind fun bt566 => (spec_DrawRescueOrder.l0 k bt566.1 bt566.2.1 (([] : List Int)) 0 l0 bt566.2.2.1 bt566.2.2.2)
set_option maxHeartbeats 8000000 in
set_option maxRecDepth 100000 in
theorem spec_DrawRescueOrder.calls (k : Nat) (A0 : Option Addr) (c0 : Nat) (l0 : List Int) (r1 : List (S58)) (r2 : List Int) (r3 : Int) (r4 : List Int) (w : World) (hr0 : Kd.C (Kd.int .u8) w A0 l0.length l0) (hc0 : l0.length ≤ c0) (h : spec_DrawRescueOrder.f k l0 = some (r1, r2, r3, r4)) :
  Calls Try.prog 22 #[.slice A0 l0.length c0] w fun e w' => ∃ v0_ v1_ v3_ : Value, e = .returned (.tuple #[v0_, v1_, .int .i64 r3, v3_]) ∧ Kd.R k58 58 w' w.heap.size (fun _ => True) v0_ r1 ∧ Kd.R (Kd.int .i64) 3 w' w.heap.size (fun k_ => some k_ ≠ (v3_ : Value).ownBlock) v1_ r2 ∧ Kd.R (Kd.int .i64) 3 w' w.heap.size (fun k_ => some k_ ≠ (v1_ : Value).ownBlock) v3_ r4 ∧ Below w.heap.size w w' := by
 have hu47 := Try.underlying47; have HR0 := za hr0; have HC0 := za hc0; clear hr0 hc0; have HB := za (zs w.heap.size w); have H : ((spec_l1Cur_wide.f k l0 0 0).bind fun bt566 => (spec_DrawRescueOrder.l0 k bt566.1 bt566.2.1 (([] : List Int)) 0 l0 bt566.2.2.1 bt566.2.2.2)) = some (r1, r2, r3, r4) := h; clear h; replace H := bindA H; obtain ⟨⟨t566, t569, t572, t573⟩, A2, H⟩ := H; (try dsimp only at H); obtain ⟨y574, hy574⟩ : ∃ y_ : List Int, y_ = (([] : List Int)) := ⟨_, rfl⟩; replace H : (spec_DrawRescueOrder.l0 k t566 t569 y574 0 l0 t572 t573) = some (r1, r2, r3, r4) := (qS4 hy574); have Ny574 := za hy574; clear hy574; have H' := za H; clear H
 go_enter Try.func22, Try.ntmps22
 go_wp2_with (first | ((with_reducible refine zq (N := 13) rfl ?_); refine zB ?hg (N := 13) ?hd (cs := #[.slice A0 l0.length c0, .int .i64 0, .int .u64 0]) (t := 47) ?hr ?_; (case hd | hg => rfl); (case hr => exact (qS26)); intro gb565 hg w3 hbox hb; have GW565 := za (by exact (by rw [hg]; exact (zX (qS0)) : w.heap.size ≤ gb565)); have GE565 := za (by exact (by rw [hg]; exact (zX (qS0)) : w.heap.size ≤ gb565)); have HI565 := za (by exact (show IsS47 w w3 gb565 l0 0 0 from ⟨_, _, hbox, (by rw [hg]; exact (zX (qS0))), HR0.1⟩)); replace HB := za qS64; clear hb hbox hg) | ((with_reducible refine zp (f := 30) rfl ?_); refine zV (some 16) rfl rfl Try.func30 (qS27) rfl #[.pointer (some ⟨gb565, 0, none⟩)] rfl (qS2) ?_; (with_reducible refine (spec_l1Cur_wide.calls k gb565 l0 0 0 t566 t569 t572 t573 w _ ?s1 ?s2 A2.1).mono ?_); (case s1 => exact (qS15)); (case s2 => exact (qS23)); rintro e w4 ⟨v567, v570, rfl, ho0, ho1, hi, hb, hk⟩; refine ⟨_, rfl, ?_⟩; have HO568 := za (zP ho0 (zX (qS23))); have HO571 := za (zP ho1 (zX (qS23))); replace HB := za hb; replace HI565 := za hi; clear hb hk hi ho0 ho1) | ((with_reducible refine zq (N := 19) rfl ?_); refine zQ (Kd.int .i64) _ 3 ?hg (N := 19) ?hd (xs := ([] : List Int)) (inner := []) (ok := fun _ => True) (okp := fun _ => True) ?hr ?hp (fun _ hk => hk) trivial (zs _ _) (zo _) (by simp) ?_; (case hd | hg => rfl); (case hr => exact (qS26)); (case hp => exact (zu _ _)); intro v575 w5 ho6 hb hg_ hnew_; clear hg_ hnew_; (first | rw [← Ny574.1] at ho6 | (simp only [Int.reduceToNat] at ho6; rw [← Ny574.1] at ho6)); replace HO568 := za (qS66 HO568.1); have HO576 := za (zP (Kd.R_new' ho6 (Kd.R_lt (qS1 HO571.1))) (zX (qS23))); replace HO571 := za (qS67 HO571.1 ho6); replace HB := za (zW (qS23) hb); replace HI565 := za (by exact IsS47.below (qS15) hb); clear hb ho6))
 go_loopg [9, 10] k (fun kq v9 v10 w' => ∃ (x9_1 : List Int) (x10_1 : Int) (x566001_1 : Int) (x566002_1 : Int), v10 = .int .i64 x10_1 ∧ Aside0 (spec_DrawRescueOrder.l0 kq t566 t569 x9_1 x10_1 l0 x566001_1 x566002_1 = some (r1, r2, r3, r4)) ∧ Aside0 (kq ≤ k) ∧ Aside0 (Kd.R k58 58 w' w.heap.size (fun _ => True) v567 t566) ∧ Aside0 (Kd.R (Kd.int .i64) 3 w' w.heap.size (fun k_ => some k_ ≠ (v9 : Value).ownBlock) v570 t569) ∧ Aside0 (Kd.R (Kd.int .i64) 3 w' w.heap.size (fun k_ => some k_ ≠ (v570 : Value).ownBlock) v9 x9_1) ∧ Aside0 (IsS47 w w' gb565 l0 x566001_1 x566002_1) ∧ Aside0 (Below w.heap.size w w'))
 case atStart => exact ⟨(y574), (0), (t572), (t573), (qS16), H', ⟨zo _⟩, ⟨(qS1 HO568.1)⟩, ⟨(qS29 HO571.1)⟩, ⟨(qS29 HO576.1)⟩, ⟨(qS15)⟩, ⟨(qS23)⟩⟩
 case round =>
  clear H'; (try clear c2); (try clear p2); (try clear c3); obtain ⟨x9_1, x10_1, x566001_1, x566002_1, rfl, HA, HK1, HO_7, HO_8, HO_9, HI565, HB⟩ := hrel
  cases gk with
  | zero => exact absurd HA.1 (by simp [spec_DrawRescueOrder.l0])
  | succ k1 =>
   have H := HA.1; clear HA; simp only [spec_DrawRescueOrder.l0] at H
   by_cases c7 : x10_1 < 7
   ·rw [yb c7] at H; have c7b0 : decide (x10_1 < 7) = true := zc c7; clear c7; replace H := bindA H; obtain ⟨⟨t577, t578, t579⟩, A8, H⟩ := H; (try dsimp only at H)
    by_cases c9 : t577 = true
    ·subst c9; rw [yb rfl] at H
     by_cases c10 : x9_1.length < 17592186044416
     ·rw [yb c10] at H; have LMc10 := za c10; clear c10; obtain ⟨y580, hy580⟩ : ∃ y_ : List Int, y_ = (x9_1 ++ [x10_1]) := ⟨_, rfl⟩; replace H : (spec_DrawRescueOrder.l0 k1 t566 t569 y580 (wrap64 (x10_1 + 1)) l0 t578 t579) = some (r1, r2, r3, r4) := (qS4 hy580); have Ny580 := za hy580; clear hy580; have H' := za H; clear H
      go_wp2_with (first | ((with_reducible refine zp (f := 50) rfl ?_); refine zV (some 25) rfl rfl Try.func50 (qS27) rfl #[.pointer (some ⟨gb565, 0, none⟩), .int .i64 2] rfl (qS2) ?_; (with_reducible refine (spec_l1Cur_one.calls gb565 l0 x566001_1 x566002_1 2 true t578 t579 w _ ?s1 ?s2 A8.1).mono ?_); (case s1 => exact (qS15)); (case s2 => exact (qS23)); rintro e w11 ⟨rfl, hi, hb, hk⟩; refine ⟨_, rfl, ?_⟩; replace HO_7 := za (qS69 HO_7.1); replace HO_8 := za (qS69 HO_8.1); replace HO_9 := za (qS69 HO_9.1); replace HB := za hb; replace HI565 := za hi; clear hb hk hi) | ((with_reducible refine zr (b := .append) (xs := #[.tmp 26, .tmp 28]) rfl ?_); at_builtin; refine Kd.R_append (Kd.int .i64) (w0 := w) w.heap.size rfl (.tmp 26) (.tmp 28) 25 3 (.int .i64 0) 8 rfl Try.underlying25 info3 rfl (by decide) (by omega) u9 x9_1 x10_1 [.int .i64 x10_1] (fun k_ => some k_ ≠ (v570 : Value).ownBlock) (fun _ => False) rfl rfl ?aP (fun _ hk => hk.elim) ?aF ?aO ?aB ?aS ?aL ?_; (case aP => exact rfl); (case aB => exact (qS23)); (case aF => exact (qS73 HO_8.1)); (case aO => exact (qS1 HO_9.1)); (case aS => exact (by exact (zX (qS23)))); (case aL => have := LMc10.1; omega); intro v581 w12 ho hb hg hat; rw [← Ny580.1] at ho; replace HO_7 := za (qS72 HO_7.1 HO_9.1); replace HO_8 := za (qS46 HO_8.1); replace HI565 := za (by exact IsS47.grown (show IsS47 w _ gb565 l0 t578 t579 from (qS15)) hg (IsS47.own_ne HI565.1 HO_9.1 (by decide))); replace HB := za hb; have HO582 := za ho; clear HO_9; clear ho hb hg hat))
      go_roundg k1
      case measure => have := HK1.1; omega
      case rel => exact ⟨(y580), (wrap64 (x10_1 + 1)), (t578), (t579), (qS16), H', ⟨by have := HK1.1; omega⟩, ⟨(qS1 HO_7.1)⟩, ⟨(qS29 HO_8.1)⟩, ⟨(qS1 HO582.1)⟩, ⟨(qS15)⟩, ⟨(qS23)⟩⟩
     ·rw [yc c10] at H
      exact absurd H (by simp)
    ·replace c9 := zn c9; subst c9; rw [yc (show ¬ (false = true) by decide)] at H; have H' := za H; clear H
     go_wp2_with (first | ((with_reducible refine zp (f := 50) rfl ?_); refine zV (some 25) rfl rfl Try.func50 (qS27) rfl #[.pointer (some ⟨gb565, 0, none⟩), .int .i64 2] rfl (qS2) ?_; (with_reducible refine (spec_l1Cur_one.calls gb565 l0 x566001_1 x566002_1 2 false t578 t579 w _ ?s1 ?s2 A8.1).mono ?_); (case s1 => exact (qS15)); (case s2 => exact (qS23)); rintro e w13 ⟨rfl, hi, hb, hk⟩; refine ⟨_, rfl, ?_⟩; replace HO_7 := za (qS69 HO_7.1); replace HO_8 := za (qS69 HO_8.1); replace HO_9 := za (qS69 HO_9.1); replace HB := za hb; replace HI565 := za hi; clear hb hk hi))
     go_roundg k1
     case measure => have := HK1.1; omega
     case rel => exact ⟨(x9_1), (wrap64 (x10_1 + 1)), (t578), (t579), (qS16), H', ⟨by have := HK1.1; omega⟩, ⟨(qS1 HO_7.1)⟩, ⟨(qS1 HO_8.1)⟩, ⟨(qS1 HO_9.1)⟩, ⟨(qS15)⟩, ⟨(qS23)⟩⟩
   ·rw [yc c7] at H; have c7b0 : decide (x10_1 < 7) = false := zv c7; clear c7; replace H := bindA H; obtain ⟨⟨t583, t584, t585⟩, A14, H⟩ := H; (try dsimp only at H)
    by_cases c15 : t583 = true
    ·subst c15; rw [yb rfl] at H; obtain ⟨y586, hy586⟩ : ∃ y_ : List Int, y_ = (([0, 8] : List Int)) := ⟨_, rfl⟩; replace H : ((spec_l1Cur_among.f l0 t584 t585 y586).bind fun bt589 => (if x9_1.length < 17592186044416 then ((spec_l1Cur_stationOf.f l0 bt589.2.1 bt589.2.2).bind fun bt595 => (some (t566, t569, bt595.1, (x9_1 ++ [bt589.1])))) else (none))) = some (r1, r2, r3, r4) := (qS4 hy586); have Ny586 := za hy586; clear hy586; replace H := bindA H; obtain ⟨⟨t589, t590, t591⟩, A16, H⟩ := H; (try dsimp only at H)
     by_cases c17 : x9_1.length < 17592186044416
     ·rw [yb c17] at H; have LMc17 := za c17; clear c17; obtain ⟨y592, hy592⟩ : ∃ y_ : List Int, y_ = (x9_1 ++ [t589]) := ⟨_, rfl⟩; replace H : ((spec_l1Cur_stationOf.f l0 t590 t591).bind fun bt595 => (some (t566, t569, bt595.1, y592))) = some (r1, r2, r3, r4) := (qS4 hy592); have Ny592 := za hy592; clear hy592; replace H := zC H; obtain ⟨⟨t595, t596, t597⟩, A180, H⟩ := H; replace H : (some (t566, t569, t595, y592)) = some (r1, r2, r3, r4) := H; have A18 := za A180; clear A180; simp only [yd, ye] at H; obtain ⟨rfl, rfl, rfl, rfl⟩ := H
      go_wp2_with (first | ((with_reducible refine zp (f := 50) rfl ?_); refine zV (some 31) rfl rfl Try.func50 (qS27) rfl #[.pointer (some ⟨gb565, 0, none⟩), .int .i64 24] rfl (qS2) ?_; (with_reducible refine (spec_l1Cur_one.calls gb565 l0 x566001_1 x566002_1 24 true t584 t585 w _ ?s1 ?s2 A14.1).mono ?_); (case s1 => exact (qS15)); (case s2 => exact (qS23)); rintro e w19 ⟨rfl, hi, hb, hk⟩; refine ⟨_, rfl, ?_⟩; replace HO_7 := za (qS69 HO_7.1); replace HO_8 := za (qS69 HO_8.1); replace HO_9 := za (qS69 HO_9.1); replace HB := za hb; replace HI565 := za hi; clear hb hk hi) | ((with_reducible refine zq (N := 34) rfl ?_); refine zQ (Kd.int .i64) _ 3 ?hg (N := 34) ?hd (xs := ([0, 8] : List Int)) (inner := [.int .i64 0, .int .i64 8]) (ok := fun _ => True) (okp := fun _ => True) ?hr ?hp (fun _ hk => hk) trivial (zs _ _) (zo _) (by simp) ?_; (case hd | hg => rfl); (case hr => exact (qS26)); (case hp => exact (by exact (zt (show Kd.M (Kd.int .i64) _ _ _ 0 [.int .i64 0] from rfl) (zt (show Kd.M (Kd.int .i64) _ _ _ 8 [.int .i64 8] from rfl) (zu _ _))))); intro v587 w20 ho21 hb hg_ hnew_; clear hg_ hnew_; (first | rw [← Ny586.1] at ho21 | (simp only [Int.reduceToNat] at ho21; rw [← Ny586.1] at ho21)); replace HO_7 := za (qS66 HO_7.1); have HO588 := za (zP (Kd.R_new' (Kd.R_new' ho21 (Kd.R_lt (qS1 HO_8.1))) (Kd.R_lt (qS1 HO_9.1))) (zX (qS23))); replace HO_8 := za (qS67 HO_8.1 ho21); replace HO_9 := za (qS67 HO_9.1 ho21); replace HB := za (zW (qS23) hb); replace HI565 := za (by exact IsS47.below (qS15) hb); clear hb ho21; obtain ⟨Ao22, co22, eo22⟩ := zI HO588.1; subst eo22) | ((with_reducible refine zp (f := 32) rfl ?_); refine zV (some 35) rfl rfl Try.func32 (qS27) rfl #[.pointer (some ⟨gb565, 0, none⟩), .slice Ao22 y586.length co22] rfl (qS2) ?_; (with_reducible refine (spec_l1Cur_among.calls gb565 l0 t584 t585 _ _ y586 t589 t590 t591 w _ ?s1 ?s2 ?s3 ?s4 ?s5 A16.1).mono ?_); (case s1 => exact (qS15)); (case s2 => exact (qS23)); (case s3 => exact (qS7 HO588.1)); (case s4 => exact (qS38 HO588.1)); (case s5 => exact (by exact far_slice (IsS47.own_ne HI565.1 HO588.1 (by decide)))); rintro e w23 ⟨rfl, hi, hb, hk⟩; refine ⟨_, rfl, ?_⟩; replace HO_7 := za (qS80 HO_7.1); replace HO_8 := za (qS80 HO_8.1); replace HO_9 := za (qS80 HO_9.1); replace HO588 := za (qS80 HO588.1); replace HB := za hb; replace HI565 := za hi; clear hb hk hi) | ((with_reducible refine zr (b := .append) (xs := #[.tmp 32, .tmp 36]) rfl ?_); at_builtin; refine Kd.R_append (Kd.int .i64) (w0 := w) w.heap.size rfl (.tmp 32) (.tmp 36) 25 3 (.int .i64 0) 8 rfl Try.underlying25 info3 rfl (by decide) (by omega) u9 x9_1 t589 [.int .i64 t589] (fun k_ => some k_ ≠ (v570 : Value).ownBlock ∧ some k_ ≠ (.slice Ao22 y586.length co22 : Value).ownBlock) (fun _ => False) rfl rfl ?aP (fun _ hk => hk.elim) ?aF ?aO ?aB ?aS ?aL ?_; (case aP => exact rfl); (case aB => exact (qS23)); (case aF => exact (qS81 HO_8.1 HO588.1)); (case aO => exact (qS1 HO_9.1)); (case aS => exact (by exact (zX (qS23)))); (case aL => have := LMc17.1; omega); intro v593 w24 ho hb hg hat; rw [← Ny592.1] at ho; replace HO_7 := za (qS72 HO_7.1 HO_9.1); replace HO_8 := za (by exact Kd.R_after (ok := (fun k_ => some k_ ≠ (.slice Ao22 y586.length co22 : Value).ownBlock)) (qS28 HO_8.1) hg hat); replace HI565 := za (by exact IsS47.grown (show IsS47 w _ gb565 l0 t590 t591 from (qS15)) hg (IsS47.own_ne HI565.1 HO_9.1 (by decide))); replace HO588 := za (by exact Kd.R_after (ok := (fun k_ => some k_ ≠ (v570 : Value).ownBlock)) (qS31 HO588.1) hg hat); replace HB := za hb; have HO594 := za ho; clear HO_9; clear ho hb hg hat) | ((with_reducible refine zp (f := 31) rfl ?_); refine zV (some 41) rfl rfl Try.func31 (qS27) rfl #[.pointer (some ⟨gb565, 0, none⟩)] rfl (qS2) ?_; (with_reducible refine (spec_l1Cur_stationOf.calls gb565 l0 t590 t591 t595 t596 t597 w _ ?s1 ?s2 A18.1).mono ?_); (case s1 => exact (qS15)); (case s2 => exact (qS23)); rintro e w25 ⟨rfl, hi, hb, hk⟩; refine ⟨_, rfl, ?_⟩; replace HO_7 := za (qS87 HO_7.1); replace HO_8 := za (qS87 HO_8.1); replace HO588 := za (qS87 HO588.1); replace HO594 := za (qS87 HO594.1); replace HB := za hb; replace HI565 := za hi; clear hb hk hi))
      refine bodyPost_ret (results_list (rs := [.tmp 2, .tmp 3, .tmp 4, .tmp 5]) rfl (by simp) (.tmp (.tmp (.tmp (.tmp .nil))))) rfl ?_
      exact ⟨_, _, _, (qS11), (qS1 HO_7.1), (qS29 HO_8.1), (qS57 HO594.1), (qS23)⟩
     ·rw [yc c17] at H
      exact absurd H (by simp)
    ·replace c15 := zn c15; subst c15; rw [yc (show ¬ (false = true) by decide)] at H; replace H := zC H; obtain ⟨⟨t598, t599, t600⟩, A260, H⟩ := H; replace H : (some (t566, t569, t598, x9_1)) = some (r1, r2, r3, r4) := H; have A26 := za A260; clear A260; simp only [yd, ye] at H; obtain ⟨rfl, rfl, rfl, rfl⟩ := H
     go_wp2_with (first | ((with_reducible refine zp (f := 50) rfl ?_); refine zV (some 31) rfl rfl Try.func50 (qS27) rfl #[.pointer (some ⟨gb565, 0, none⟩), .int .i64 24] rfl (qS2) ?_; (with_reducible refine (spec_l1Cur_one.calls gb565 l0 x566001_1 x566002_1 24 false t584 t585 w _ ?s1 ?s2 A14.1).mono ?_); (case s1 => exact (qS15)); (case s2 => exact (qS23)); rintro e w27 ⟨rfl, hi, hb, hk⟩; refine ⟨_, rfl, ?_⟩; replace HO_7 := za (qS69 HO_7.1); replace HO_8 := za (qS69 HO_8.1); replace HO_9 := za (qS69 HO_9.1); replace HB := za hb; replace HI565 := za hi; clear hb hk hi) | ((with_reducible refine zp (f := 31) rfl ?_); refine zV (some 41) rfl rfl Try.func31 (qS27) rfl #[.pointer (some ⟨gb565, 0, none⟩)] rfl (qS2) ?_; (with_reducible refine (spec_l1Cur_stationOf.calls gb565 l0 t584 t585 t598 t599 t600 w _ ?s1 ?s2 A26.1).mono ?_); (case s1 => exact (qS15)); (case s2 => exact (qS23)); rintro e w28 ⟨rfl, hi, hb, hk⟩; refine ⟨_, rfl, ?_⟩; replace HO_7 := za (qS80 HO_7.1); replace HO_8 := za (qS80 HO_8.1); replace HO_9 := za (qS80 HO_9.1); replace HB := za hb; replace HI565 := za hi; clear hb hk hi))
     refine bodyPost_ret (results_list (rs := [.tmp 2, .tmp 3, .tmp 4, .tmp 5]) rfl (by simp) (.tmp (.tmp (.tmp (.tmp .nil))))) rfl ?_
     exact ⟨_, _, _, (qS11), (qS1 HO_7.1), (qS1 HO_8.1), (qS1 HO_9.1), (qS23)⟩

end Go.Proofs.Ytoljdjgndogegaa.MS
