-- tight2 (a walk)
import Derived.Test.YtckidmhkhlbkeaaMKx0
import Derived.Test.YtckidmhkhlbkeaaMKx9
namespace Go.Proofs.Ytckidmhkhlbkeaa.MK
open Go.RowKit Go.Proofs.YtckidmhkhlbkeaaW.PrintWords Go.Proofs.YtckidmhkhlbkeaaW.PrintLast
theorem qK11_c0 {p : Prop} (h : p := by
  simp only [putAll, Act.put, yb, yc, yd]
  rfl) : p := h
theorem qK11_c1 {p : Prop} (h : p := by
  show Act.put _ (some 24) _ = _
  simp only [Act.put, yb, yc, yd, i64_w, i32_w]
  rfl) : p := h
theorem qK11_c2 {p : Prop} (h : p := by
  show Act.put _ (some 18) _ = _
  simp only [Act.put, yb, yc, yd, i64_w, i32_w]
  rfl) : p := h
theorem qK11_c3 {p : Prop} (h : p := by
  show Act.put _ (some 19) _ = _
  simp only [Act.put, yb, yc, yd, i64_w, i32_w]
  rfl) : p := h
theorem qK11_c4 {p : Prop} (h : p := by
  show Act.put _ (some 21) _ = _
  simp only [Act.put, yb, yc, yd, i64_w, i32_w]
  rfl) : p := h
theorem qK11_c5 {p : Prop} (h : p := by
  show Act.put _ (some 22) _ = _
  simp only [Act.put, yb, yc, yd, i64_w, i32_w]
  rfl) : p := h
theorem qK11_c6 {p : Prop} (h : p := by
  simp only [Act.put, yb, yc, yd, i64_w, i32_w]
  rfl) : p := h
theorem qK11_c7 {p : Prop} (h : p := by
  show Act.put _ (some 25) _ = _
  simp only [Act.put, yb, yc, yd, i64_w, i32_w]
  rfl) : p := h
attribute [local go_sem] max2_int min2_int max_two min_two
set_option linter.unusedVariables false
set_option linter.unusedSimpArgs false

mutual
def spec_l1Cur_marks13.l0 : Nat → List (S44) → Int → Int → List Int → Int → Int → Option ((List (S44)) × Int × Int)
 | 0, _, _, _, _, _, _ => none
 | k + 1, x3, x4, x5, x1000, x1001, x1002 => if x5 > 0 then ((spec_l1Cur_among.f x1000 x1001 x1002 (([(-30), (-1), 0, 5, 9, 10, 40, 1000] : List Int))).bind fun bt259 => ((spec_l1Cur_among.f x1000 bt259.2.1 bt259.2.2 (([(-25), (-10), 0, 1, 9, 20, (-1000)] : List Int))).bind fun bt265 => (if x3.length < 4398046511104 then ((spec_l1Cur_pick.f x1000 bt265.2.1 bt265.2.2 3).bind fun bt271 => (spec_l1Cur_marks13.l0 k (x3 ++ [(⟨strOfNums (([x4] : List Int)), bt259.1, bt265.1⟩ : S44)]) ((x4 + ((wrap64 (1 + bt271.1)) % 256)) % 256) (wrap64 (x5 - 1)) x1000 bt271.2.1 bt271.2.2)) else (none)))) else (if (x3.length : Int) = 0 then (some (x3, x1001, x1002)) else ((spec_l1Cur_pick.f x1000 x1001 x1002 (x3.length : Int)).bind fun bt274 => (if 0 ≤ bt274.1 then (if bt274.1 < (x3.length : Int) then ((spec_l1Cur_pick.f x1000 bt274.2.1 bt274.2.2 50).bind fun bt279 => (if bt279.1 = 0 then ((spec_l1Cur_of.f x1000 bt279.2.1 bt279.2.2 (([(⟨#[]⟩ : ByteArray), (⟨#[97]⟩ : ByteArray), (⟨#[65, 66]⟩ : ByteArray), (⟨#[65]⟩ : ByteArray)] : List ByteArray))).bind fun bt285 => (some ((x3.set (bt274.1 : Int).toNat (⟨bt285.1, (rd_T44 x3 bt274.1).f1, (rd_T44 x3 bt274.1).f2⟩ : S44)), bt285.2.1, bt285.2.2))) else (if bt279.1 = 1 then ((spec_l1Cur_among.f x1000 bt279.2.1 bt279.2.2 (([(-1001), 1001] : List Int))).bind fun bt292 => (some ((x3.set (bt274.1 : Int).toNat (⟨(rd_T44 x3 bt274.1).f0, bt292.1, (rd_T44 x3 bt274.1).f2⟩ : S44)), bt292.2.1, bt292.2.2))) else (if bt279.1 = 2 then ((spec_l1Cur_among.f x1000 bt279.2.1 bt279.2.2 (([(-1001), 1001] : List Int))).bind fun bt299 => (some ((x3.set (bt274.1 : Int).toNat (⟨(rd_T44 x3 bt274.1).f0, (rd_T44 x3 bt274.1).f1, bt299.1⟩ : S44)), bt299.2.1, bt299.2.2))) else (if bt279.1 = 3 then (spec_l1Cur_marks13.l1 k (([] : List (S44))) 0 x1000 bt279.2.1 bt279.2.2) else (some ((x3.set (bt274.1 : Int).toNat (⟨(rd_T44 x3 bt274.1).f0, (rd_T44 x3 bt274.1).f1, (rd_T44 x3 bt274.1).f2⟩ : S44)), bt279.2.1, bt279.2.2))))))) else (none)) else (none))))
def spec_l1Cur_marks13.l1 : Nat → List (S44) → Int → List Int → Int → Int → Option ((List (S44)) × Int × Int)
 | 0, _, _, _, _, _ => none
 | k + 1, x3, x8, x1000, x1001, x1002 => (spec_l1Cur_pick.f x1000 x1001 x1002 2).bind fun bt306 => (if x8 < (wrap64 (12 + bt306.1)) then (if x3.length < 4398046511104 then (spec_l1Cur_marks13.l1 k (x3 ++ [(⟨strOfNums (([(wrap64 (65 + x8)) % 256] : List Int)), x8, x8⟩ : S44)]) (wrap64 (x8 + 1)) x1000 bt306.2.1 bt306.2.2) else (none)) else (some (x3, bt306.2.1, bt306.2.2)))
end
def spec_l1Cur_marks13.f (k : Nat) (s0_0 : List Int) (s0_1 : Int) (s0_2 : Int) : Option ((List (S44)) × Int × Int) := (spec_l1Cur_pick.f s0_0 s0_1 s0_2 7).bind fun bt250 => (spec_l1Cur_marks13.l0 k (([] : List (S44))) 65 bt250.1 s0_0 bt250.2.1 bt250.2.2)
def spec_l1Cur_marks13.T6 : Bool × List (List Nat × List Nat) := (true, [([], []), ([], []), ([1], [1]), ([2], [2]), ([], []), ([], []), ([4, 5], [4, 5]), ([], []), ([], []), ([7, 8, 6], [7, 8]), ([3, 6, 9], [3, 6, 9]), ([10], [10]), ([0, 11, 9], [0, 11]), ([12, 12, 0, 1, 2, 3, 4, 5, 6, 7, 8, 9, 10, 11, 12], [0, 12])])
def spec_l1Cur_marks13.B6 : List Nat := [0, 0, 2, 6, 0, 0, 48, 0, 0, 496, 1022, 2046, 4095, 8191]
theorem spec_l1Cur_marks13.tab6 : rtab .any (opsOf Try.f58 6) = spec_l1Cur_marks13.T6 := by kernel_rfl
theorem spec_l1Cur_marks13.bits6 : waitsOk spec_l1Cur_marks13.T6.2 spec_l1Cur_marks13.B6 = true := by kernel_rfl
set_option maxHeartbeats 8000000 in
set_option maxRecDepth 100000 in
theorem spec_l1Cur_marks13.calls (k : Nat) (g : Nat) (s0_0 : List Int) (s0_1 : Int) (s0_2 : Int) (r1 : List (S44)) (r2 : Int) (r3 : Int) (w0 w : World) (hI : IsS85 w0 w g s0_0 s0_1 s0_2) (hB : Below w0.heap.size w0 w) (h : spec_l1Cur_marks13.f k s0_0 s0_1 s0_2 = some (r1, r2, r3)) :
  Calls Try.prog 58 #[.pointer (some ⟨g, 0, none⟩)] w fun e w' => ∃ v0_ : Value, e = .returned (v0_) ∧ Kd.R k44 44 w' w.heap.size (fun _ => True) v0_ r1 ∧ IsS85 w0 w' g s0_0 r2 r3 ∧ Below w0.heap.size w0 w' ∧ KeepBut w w' g none := by
 have hu44 := Try.underlying44; have HI0 := za hI; have HK := za (KeepBut.refl w g none); have HL := za hB.size; clear hI; have HW0 := za hB.size; have HB := za hB; clear hB; have H : ((spec_l1Cur_pick.f s0_0 s0_1 s0_2 7).bind fun bt250 => (spec_l1Cur_marks13.l0 k (([] : List (S44))) 65 bt250.1 s0_0 bt250.2.1 bt250.2.2)) = some (r1, r2, r3) := h; clear h; obtain ⟨y247, hy247⟩ : ∃ y_ : List (S44), y_ = (([] : List (S44))) := ⟨_, rfl⟩; replace H : ((spec_l1Cur_pick.f s0_0 s0_1 s0_2 7).bind fun bt250 => (spec_l1Cur_marks13.l0 k y247 65 bt250.1 s0_0 bt250.2.1 bt250.2.2)) = some (r1, r2, r3) := (qK7 hy247); have Ny247 := za hy247; clear hy247; replace H := bindA H; obtain ⟨⟨t250, t251, t252⟩, A2, H⟩ := H; (try dsimp only at H); have H' := za H; clear H
 go_enter Try.func58, Try.ntmps58
 go_wp2_with (first | ((with_reducible refine zp (N := 9) rfl ?_); refine zL k44 _ 44 ?hg (N := 9) ?hd (xs := ([] : List (S44))) (inner := []) (ok := fun _ => True) (okp := fun _ => True) ?hr ?hp (fun _ hk => hk) trivial (zr _ _) (zn _) (by simp) ?_; (case hd | hg => rfl); (case hr => exact (qK21)); (case hp => exact (zt _ _)); intro v248 w3 ho4 hb hg_ hnew_; clear hg_ hnew_; (first | rw [← Ny247.1] at ho4 | (simp only [Int.reduceToNat] at ho4; rw [← Ny247.1] at ho4)); have HO249 := za (qK89 ho4); replace HK := za qK82; replace HB := za (zS (qK4) hb); replace HI0 := za qK93; clear hb ho4) | ((with_reducible refine zo (f := 60) rfl ?_); refine zR (some 11) rfl rfl Try.func60 (qK18) rfl #[.pointer (some ⟨g, 0, none⟩), .int .i64 7] rfl (qK5) ?_; (with_reducible refine (spec_l1Cur_pick.calls g s0_0 s0_1 s0_2 7 t250 t251 t252 w0 _ ?s1 ?s2 A2.1).mono ?_); (case s1 => exact (qK1)); (case s2 => exact (qK4)); rintro e w5 ⟨rfl, hi, hb, hk⟩; refine ⟨_, rfl, ?_⟩; replace HO249 := za (qK81 HO249.1); replace HK := za qK84; replace HB := za hb; replace HI0 := za hi; clear hb hk hi))
 go_loopg [3, 4, 5] k (fun kq v3 v4 v5 w' => ∃ (x3_1 : List (S44)) (x4_1 : Int) (x5_1 : Int) (x1001_1 : Int) (x1002_1 : Int), v4 = .int .u8 x4_1 ∧ v5 = .int .i64 x5_1 ∧ Aside0 (spec_l1Cur_marks13.l0 kq x3_1 x4_1 x5_1 s0_0 x1001_1 x1002_1 = some (r1, r2, r3)) ∧ Aside0 (kq ≤ k) ∧ Aside0 (Kd.R k44 44 w' w.heap.size (fun _ => True) v3 x3_1) ∧ Aside0 (IsS85 w0 w' g s0_0 x1001_1 x1002_1) ∧ Aside0 (KeepBut w w' g none) ∧ Aside0 (Below w0.heap.size w0 w'))
 case atStart => exact ⟨(y247), (65), (t250), (t251), (t252), (qK17), (qK17), H', ⟨zn _⟩, ⟨(qK0 HO249.1)⟩, ⟨(qK1)⟩, ⟨(qK3)⟩, ⟨(qK4)⟩⟩
 case round =>
  clear H'; obtain ⟨x3_1, x4_1, x5_1, x1001_1, x1002_1, rfl, rfl, HA, HK1, HO_3, HI0, HK, HB⟩ := hrel
  cases gk with
  | zero => exact zM HA.1 (by simp [spec_l1Cur_marks13.l0])
  | succ k1 =>
   have H := HA.1; clear HA; simp only [spec_l1Cur_marks13.l0] at H
   by_cases c6 : x5_1 > 0
   ·rw [zX c6] at H; have c6b0 : decide (0 < x5_1) = true := zc c6; clear c6; obtain ⟨y253, hy253⟩ : ∃ y_ : List Int, y_ = (([x4_1] : List Int)) := ⟨_, rfl⟩; replace H : ((spec_l1Cur_among.f s0_0 x1001_1 x1002_1 (([(-30), (-1), 0, 5, 9, 10, 40, 1000] : List Int))).bind fun bt259 => ((spec_l1Cur_among.f s0_0 bt259.2.1 bt259.2.2 (([(-25), (-10), 0, 1, 9, 20, (-1000)] : List Int))).bind fun bt265 => (if x3_1.length < 4398046511104 then ((spec_l1Cur_pick.f s0_0 bt265.2.1 bt265.2.2 3).bind fun bt271 => (spec_l1Cur_marks13.l0 k1 (x3_1 ++ [(⟨strOfNums y253, bt259.1, bt265.1⟩ : S44)]) ((x4_1 + ((wrap64 (1 + bt271.1)) % 256)) % 256) (wrap64 (x5_1 - 1)) s0_0 bt271.2.1 bt271.2.2)) else (none)))) = some (r1, r2, r3) := (qK7 hy253); have Ny253 := za hy253; clear hy253; obtain ⟨y256, hy256⟩ : ∃ y_ : List Int, y_ = (([(-30), (-1), 0, 5, 9, 10, 40, 1000] : List Int)) := ⟨_, rfl⟩; replace H : ((spec_l1Cur_among.f s0_0 x1001_1 x1002_1 y256).bind fun bt259 => ((spec_l1Cur_among.f s0_0 bt259.2.1 bt259.2.2 (([(-25), (-10), 0, 1, 9, 20, (-1000)] : List Int))).bind fun bt265 => (if x3_1.length < 4398046511104 then ((spec_l1Cur_pick.f s0_0 bt265.2.1 bt265.2.2 3).bind fun bt271 => (spec_l1Cur_marks13.l0 k1 (x3_1 ++ [(⟨strOfNums y253, bt259.1, bt265.1⟩ : S44)]) ((x4_1 + ((wrap64 (1 + bt271.1)) % 256)) % 256) (wrap64 (x5_1 - 1)) s0_0 bt271.2.1 bt271.2.2)) else (none)))) = some (r1, r2, r3) := (qK7 hy256); have Ny256 := za hy256; clear hy256; replace H := bindA H; obtain ⟨⟨t259, t260, t261⟩, A7, H⟩ := H
    (try dsimp only at H); obtain ⟨y262, hy262⟩ : ∃ y_ : List Int, y_ = (([(-25), (-10), 0, 1, 9, 20, (-1000)] : List Int)) := ⟨_, rfl⟩; replace H : ((spec_l1Cur_among.f s0_0 t260 t261 y262).bind fun bt265 => (if x3_1.length < 4398046511104 then ((spec_l1Cur_pick.f s0_0 bt265.2.1 bt265.2.2 3).bind fun bt271 => (spec_l1Cur_marks13.l0 k1 (x3_1 ++ [(⟨strOfNums y253, t259, bt265.1⟩ : S44)]) ((x4_1 + ((wrap64 (1 + bt271.1)) % 256)) % 256) (wrap64 (x5_1 - 1)) s0_0 bt271.2.1 bt271.2.2)) else (none))) = some (r1, r2, r3) := (qK7 hy262); have Ny262 := za hy262; clear hy262; replace H := bindA H; obtain ⟨⟨t265, t266, t267⟩, A8, H⟩ := H; (try dsimp only at H)
    by_cases c9 : x3_1.length < 4398046511104
    ·rw [zX c9] at H; have LMc9 := za c9; clear c9; obtain ⟨y268, hy268⟩ : ∃ y_ : List (S44), y_ = (x3_1 ++ [(⟨strOfNums y253, t259, t265⟩ : S44)]) := ⟨_, rfl⟩; replace H : ((spec_l1Cur_pick.f s0_0 t266 t267 3).bind fun bt271 => (spec_l1Cur_marks13.l0 k1 y268 ((x4_1 + ((wrap64 (1 + bt271.1)) % 256)) % 256) (wrap64 (x5_1 - 1)) s0_0 bt271.2.1 bt271.2.2)) = some (r1, r2, r3) := (qK7 hy268); have Ny268 := za hy268; clear hy268; replace H := bindA H; obtain ⟨⟨t271, t272, t273⟩, A10, H⟩ := H; (try dsimp only at H); have H' := za H; clear H; obtain ⟨Ao11, co11, eo11⟩ := zE HO_3.1; subst eo11
     try go_wp2
     replace HO_3 := za (zJ HO_3.1); replace HI0 := za (IsS85.drew HI0.1); replace HK := za (keep_drew HK.1); replace HB := za (below_drew1 HB.1)
     refine start_ (n := 14) (S := fun w' => True) (ds := []) qKb44 (qK18) rfl rfl trivial (fun hHeld => ?_); refine with_tabW spec_l1Cur_marks13.tab6 spec_l1Cur_marks13.bits6 (fun HT_ HW_ => ?_)
     generalize wr.drew = w12 at HO_3 HI0 HK HB hHeld ⊢
     refine pure_ (i := 0) (N := some 16) (v := ?_) (a' := ?_) qKb45 rfl rfl (qK9) (fun _ _ _ h => h) (zU ⟨by rfl, ?_⟩) ?_ ?_
     rotate_left
     ·intro w'
      go_simp
      with_reducible rfl
     rotate_left
     ·exact qK11_c6
     refine pure_ (i := 1) (N := some 17) (v := ?_) (a' := ?_) qKb46 rfl rfl (qK9) (fun _ _ _ h => h) (zU ⟨by rfl, ?_⟩) ?_ ?_
     rotate_left
     ·intro w'
      go_simp
      with_reducible rfl
     rotate_left
     ·exact qK11_c6
     refine pure_ (i := 4) (N := some 20) (v := ?_) (a' := ?_) #[true, true, false, false, true, false, false, false, false, false, false, false, false, false] rfl rfl (qK9) (fun _ _ _ h => h) (zU ⟨by rfl, ?_⟩) ?_ ?_
     rotate_left
     ·intro w'
      go_simp
      with_reducible rfl
     rotate_left
     ·exact qK11_c6
     refine pure_ (i := 7) (N := some 23) (v := ?_) (a' := ?_) #[true, true, false, false, true, false, false, true, false, false, false, false, false, false] rfl rfl (qK9) (fun _ _ _ h => h) (zU ⟨by rfl, ?_⟩) ?_ ?_
     rotate_left
     ·intro w'
      go_simp
      with_reducible rfl
     rotate_left
     ·exact qK11_c6
     refine join_ (σ := Value × Value × Value) 4 qKb75 (fun s_ => [(18, s_.1), (19, .string (strOfNums y253)), (21, s_.2.1), (22, .int .i64 t259), (24, s_.2.2), (25, .int .i64 t265)]) (fun s_ w' => (Kd.R (Kd.int .u8) 5 w' w.heap.size (fun _ => True) s_.1 y253) ∧ (Kd.R (Kd.int .i64) 3 w' w.heap.size (fun k_ => some k_ ≠ (s_.2.2 : Value).ownBlock) s_.2.1 y256) ∧ (Kd.R (Kd.int .i64) 3 w' w.heap.size (fun k_ => some k_ ≠ (s_.2.1 : Value).ownBlock) s_.2.2 y262) ∧ (Kd.R k44 44 w' w.heap.size (fun _ => True) (.slice Ao11 x3_1.length co11) x3_1) ∧ (IsS85 w0 w' g s0_0 t266 t267) ∧ (KeepBut w w' g none) ∧ (Below w0.heap.size w0 w')) ?_ ?_
     rotate_left
     ·intro hJ2_3_5_6_8_9
      refine join_ (σ := Value × Value × Value) 5 qKb53 (fun s_ => [(18, s_.1), (19, .string (strOfNums y253)), (21, s_.2.1), (22, .int .i64 t259), (24, s_.2.2)]) (fun s_ w' => (Kd.R (Kd.int .u8) 5 w' w.heap.size (fun _ => True) s_.1 y253) ∧ (Kd.R (Kd.int .i64) 3 w' w.heap.size (fun k_ => some k_ ≠ (s_.2.2 : Value).ownBlock) s_.2.1 y256) ∧ (Kd.R (Kd.int .i64) 3 w' w.heap.size (fun k_ => some k_ ≠ (s_.2.1 : Value).ownBlock) s_.2.2 y262) ∧ (Kd.R k44 44 w' w.heap.size (fun _ => True) (.slice Ao11 x3_1.length co11) x3_1) ∧ (IsS85 w0 w' g s0_0 t260 t261) ∧ (KeepBut w w' g none) ∧ (Below w0.heap.size w0 w')) ?_ ?_
      rotate_left
      ·intro hJ2_3_5_6_8
       refine join_ (σ := Value × Value × Value) 5 qKb76 (fun s_ => [(18, s_.1), (21, s_.2.1), (22, .int .i64 t259), (24, s_.2.2), (25, .int .i64 t265)]) (fun s_ w' => (Kd.R (Kd.int .u8) 5 w' w.heap.size (fun _ => True) s_.1 y253) ∧ (Kd.R (Kd.int .i64) 3 w' w.heap.size (fun k_ => some k_ ≠ (s_.2.2 : Value).ownBlock) s_.2.1 y256) ∧ (Kd.R (Kd.int .i64) 3 w' w.heap.size (fun k_ => some k_ ≠ (s_.2.1 : Value).ownBlock) s_.2.2 y262) ∧ (Kd.R k44 44 w' w.heap.size (fun _ => True) (.slice Ao11 x3_1.length co11) x3_1) ∧ (IsS85 w0 w' g s0_0 t266 t267) ∧ (KeepBut w w' g none) ∧ (Below w0.heap.size w0 w')) ?_ ?_
       rotate_left
       ·intro hJ2_5_6_8_9
        refine join_ (σ := Value × Value) 6 qKb52 (fun s_ => [(18, s_.1), (19, .string (strOfNums y253)), (21, s_.2), (22, .int .i64 t259)]) (fun s_ w' => (Kd.R (Kd.int .u8) 5 w' w.heap.size (fun _ => True) s_.1 y253) ∧ (Kd.R (Kd.int .i64) 3 w' w.heap.size (fun _ => True) s_.2 y256) ∧ (Kd.R k44 44 w' w.heap.size (fun _ => True) (.slice Ao11 x3_1.length co11) x3_1) ∧ (IsS85 w0 w' g s0_0 t260 t261) ∧ (KeepBut w w' g none) ∧ (Below w0.heap.size w0 w')) ?_ ?_
        rotate_left
        ·intro hJ2_3_5_6
         refine join_ (σ := Value × Value × Value) 6 qKb77 (fun s_ => [(18, s_.1), (19, .string (strOfNums y253)), (21, s_.2.1), (24, s_.2.2)]) (fun s_ w' => (Kd.R (Kd.int .u8) 5 w' w.heap.size (fun _ => True) s_.1 y253) ∧ (Kd.R (Kd.int .i64) 3 w' w.heap.size (fun k_ => some k_ ≠ (s_.2.2 : Value).ownBlock) s_.2.1 y256) ∧ (Kd.R (Kd.int .i64) 3 w' w.heap.size (fun k_ => some k_ ≠ (s_.2.1 : Value).ownBlock) s_.2.2 y262) ∧ (Kd.R k44 44 w' w.heap.size (fun _ => True) (.slice Ao11 x3_1.length co11) x3_1) ∧ (IsS85 w0 w' g s0_0 x1001_1 x1002_1) ∧ (KeepBut w w' g none) ∧ (Below w0.heap.size w0 w')) ?_ ?_
         rotate_left
         ·intro hJ2_3_5_8
          refine join_ (σ := Value × Value × Value) 6 qKb78 (fun s_ => [(18, s_.1), (21, s_.2.1), (22, .int .i64 t259), (24, s_.2.2)]) (fun s_ w' => (Kd.R (Kd.int .u8) 5 w' w.heap.size (fun _ => True) s_.1 y253) ∧ (Kd.R (Kd.int .i64) 3 w' w.heap.size (fun k_ => some k_ ≠ (s_.2.2 : Value).ownBlock) s_.2.1 y256) ∧ (Kd.R (Kd.int .i64) 3 w' w.heap.size (fun k_ => some k_ ≠ (s_.2.1 : Value).ownBlock) s_.2.2 y262) ∧ (Kd.R k44 44 w' w.heap.size (fun _ => True) (.slice Ao11 x3_1.length co11) x3_1) ∧ (IsS85 w0 w' g s0_0 t260 t261) ∧ (KeepBut w w' g none) ∧ (Below w0.heap.size w0 w')) ?_ ?_
          rotate_left
          ·intro hJ2_5_6_8
           refine join_ (σ := Value × Value) 6 qKb79 (fun s_ => [(21, s_.1), (22, .int .i64 t259), (24, s_.2), (25, .int .i64 t265)]) (fun s_ w' => (Kd.R (Kd.int .i64) 3 w' w.heap.size (fun k_ => some k_ ≠ (s_.2 : Value).ownBlock) s_.1 y256) ∧ (Kd.R (Kd.int .i64) 3 w' w.heap.size (fun k_ => some k_ ≠ (s_.1 : Value).ownBlock) s_.2 y262) ∧ (Kd.R k44 44 w' w.heap.size (fun _ => True) (.slice Ao11 x3_1.length co11) x3_1) ∧ (IsS85 w0 w' g s0_0 t266 t267) ∧ (KeepBut w w' g none) ∧ (Below w0.heap.size w0 w')) ?_ ?_
           rotate_left
           ·intro hJ5_6_8_9
            refine join_ (σ := Value × Value) 7 qKb80 (fun s_ => [(18, s_.1), (19, .string (strOfNums y253)), (21, s_.2)]) (fun s_ w' => (Kd.R (Kd.int .u8) 5 w' w.heap.size (fun _ => True) s_.1 y253) ∧ (Kd.R (Kd.int .i64) 3 w' w.heap.size (fun _ => True) s_.2 y256) ∧ (Kd.R k44 44 w' w.heap.size (fun _ => True) (.slice Ao11 x3_1.length co11) x3_1) ∧ (IsS85 w0 w' g s0_0 x1001_1 x1002_1) ∧ (KeepBut w w' g none) ∧ (Below w0.heap.size w0 w')) ?_ ?_
            rotate_left
            ·intro hJ2_3_5
             refine join_ (σ := Value × Value) 7 qKb81 (fun s_ => [(18, s_.1), (19, .string (strOfNums y253)), (24, s_.2)]) (fun s_ w' => (Kd.R (Kd.int .u8) 5 w' w.heap.size (fun _ => True) s_.1 y253) ∧ (Kd.R (Kd.int .i64) 3 w' w.heap.size (fun _ => True) s_.2 y262) ∧ (Kd.R k44 44 w' w.heap.size (fun _ => True) (.slice Ao11 x3_1.length co11) x3_1) ∧ (IsS85 w0 w' g s0_0 x1001_1 x1002_1) ∧ (KeepBut w w' g none) ∧ (Below w0.heap.size w0 w')) ?_ ?_
             rotate_left
             ·intro hJ2_3_8
              refine join_ (σ := Value × Value) 7 qKb82 (fun s_ => [(18, s_.1), (21, s_.2), (22, .int .i64 t259)]) (fun s_ w' => (Kd.R (Kd.int .u8) 5 w' w.heap.size (fun _ => True) s_.1 y253) ∧ (Kd.R (Kd.int .i64) 3 w' w.heap.size (fun _ => True) s_.2 y256) ∧ (Kd.R k44 44 w' w.heap.size (fun _ => True) (.slice Ao11 x3_1.length co11) x3_1) ∧ (IsS85 w0 w' g s0_0 t260 t261) ∧ (KeepBut w w' g none) ∧ (Below w0.heap.size w0 w')) ?_ ?_
              rotate_left
              ·intro hJ2_5_6
               refine join_ (σ := Value × Value × Value) 7 qKb83 (fun s_ => [(18, s_.1), (21, s_.2.1), (24, s_.2.2)]) (fun s_ w' => (Kd.R (Kd.int .u8) 5 w' w.heap.size (fun _ => True) s_.1 y253) ∧ (Kd.R (Kd.int .i64) 3 w' w.heap.size (fun k_ => some k_ ≠ (s_.2.2 : Value).ownBlock) s_.2.1 y256) ∧ (Kd.R (Kd.int .i64) 3 w' w.heap.size (fun k_ => some k_ ≠ (s_.2.1 : Value).ownBlock) s_.2.2 y262) ∧ (Kd.R k44 44 w' w.heap.size (fun _ => True) (.slice Ao11 x3_1.length co11) x3_1) ∧ (IsS85 w0 w' g s0_0 x1001_1 x1002_1) ∧ (KeepBut w w' g none) ∧ (Below w0.heap.size w0 w')) ?_ ?_
               rotate_left
               ·intro hJ2_5_8
                refine join_ (σ := Value × Value) 7 qKb84 (fun s_ => [(21, s_.1), (22, .int .i64 t259), (24, s_.2)]) (fun s_ w' => (Kd.R (Kd.int .i64) 3 w' w.heap.size (fun k_ => some k_ ≠ (s_.2 : Value).ownBlock) s_.1 y256) ∧ (Kd.R (Kd.int .i64) 3 w' w.heap.size (fun k_ => some k_ ≠ (s_.1 : Value).ownBlock) s_.2 y262) ∧ (Kd.R k44 44 w' w.heap.size (fun _ => True) (.slice Ao11 x3_1.length co11) x3_1) ∧ (IsS85 w0 w' g s0_0 t260 t261) ∧ (KeepBut w w' g none) ∧ (Below w0.heap.size w0 w')) ?_ ?_
                rotate_left
                ·intro hJ5_6_8
                 refine join_ (σ := Value) 8 qKb85 (fun s_ => [(18, s_), (19, .string (strOfNums y253))]) (fun s_ w' => (Kd.R (Kd.int .u8) 5 w' w.heap.size (fun _ => True) s_ y253) ∧ (Kd.R k44 44 w' w.heap.size (fun _ => True) (.slice Ao11 x3_1.length co11) x3_1) ∧ (IsS85 w0 w' g s0_0 x1001_1 x1002_1) ∧ (KeepBut w w' g none) ∧ (Below w0.heap.size w0 w')) ?_ ?_
                 rotate_left
                 ·intro hJ2_3
                  refine join_ (σ := Value × Value) 8 qKb86 (fun s_ => [(18, s_.1), (21, s_.2)]) (fun s_ w' => (Kd.R (Kd.int .u8) 5 w' w.heap.size (fun _ => True) s_.1 y253) ∧ (Kd.R (Kd.int .i64) 3 w' w.heap.size (fun _ => True) s_.2 y256) ∧ (Kd.R k44 44 w' w.heap.size (fun _ => True) (.slice Ao11 x3_1.length co11) x3_1) ∧ (IsS85 w0 w' g s0_0 x1001_1 x1002_1) ∧ (KeepBut w w' g none) ∧ (Below w0.heap.size w0 w')) ?_ ?_
                  rotate_left
                  ·intro hJ2_5
                   refine join_ (σ := Value × Value) 8 qKb87 (fun s_ => [(18, s_.1), (24, s_.2)]) (fun s_ w' => (Kd.R (Kd.int .u8) 5 w' w.heap.size (fun _ => True) s_.1 y253) ∧ (Kd.R (Kd.int .i64) 3 w' w.heap.size (fun _ => True) s_.2 y262) ∧ (Kd.R k44 44 w' w.heap.size (fun _ => True) (.slice Ao11 x3_1.length co11) x3_1) ∧ (IsS85 w0 w' g s0_0 x1001_1 x1002_1) ∧ (KeepBut w w' g none) ∧ (Below w0.heap.size w0 w')) ?_ ?_
                   rotate_left
                   ·intro hJ2_8
                    refine join_ (σ := Value) 8 qKb88 (fun s_ => [(21, s_), (22, .int .i64 t259)]) (fun s_ w' => (Kd.R (Kd.int .i64) 3 w' w.heap.size (fun _ => True) s_ y256) ∧ (Kd.R k44 44 w' w.heap.size (fun _ => True) (.slice Ao11 x3_1.length co11) x3_1) ∧ (IsS85 w0 w' g s0_0 t260 t261) ∧ (KeepBut w w' g none) ∧ (Below w0.heap.size w0 w')) ?_ ?_
                    rotate_left
                    ·intro hJ5_6
                     refine join_ (σ := Value × Value) 8 qKb89 (fun s_ => [(21, s_.1), (24, s_.2)]) (fun s_ w' => (Kd.R (Kd.int .i64) 3 w' w.heap.size (fun k_ => some k_ ≠ (s_.2 : Value).ownBlock) s_.1 y256) ∧ (Kd.R (Kd.int .i64) 3 w' w.heap.size (fun k_ => some k_ ≠ (s_.1 : Value).ownBlock) s_.2 y262) ∧ (Kd.R k44 44 w' w.heap.size (fun _ => True) (.slice Ao11 x3_1.length co11) x3_1) ∧ (IsS85 w0 w' g s0_0 x1001_1 x1002_1) ∧ (KeepBut w w' g none) ∧ (Below w0.heap.size w0 w')) ?_ ?_
                     rotate_left
                     ·intro hJ5_8
                      refine join_ (σ := Value) 9 qKb90 (fun s_ => [(18, s_)]) (fun s_ w' => (Kd.R (Kd.int .u8) 5 w' w.heap.size (fun _ => True) s_ y253) ∧ (Kd.R k44 44 w' w.heap.size (fun _ => True) (.slice Ao11 x3_1.length co11) x3_1) ∧ (IsS85 w0 w' g s0_0 x1001_1 x1002_1) ∧ (KeepBut w w' g none) ∧ (Below w0.heap.size w0 w')) ?_ ?_
                      rotate_left
                      ·intro hJ2
                       refine join_ (σ := Value) 9 qKb91 (fun s_ => [(21, s_)]) (fun s_ w' => (Kd.R (Kd.int .i64) 3 w' w.heap.size (fun _ => True) s_ y256) ∧ (Kd.R k44 44 w' w.heap.size (fun _ => True) (.slice Ao11 x3_1.length co11) x3_1) ∧ (IsS85 w0 w' g s0_0 x1001_1 x1002_1) ∧ (KeepBut w w' g none) ∧ (Below w0.heap.size w0 w')) ?_ ?_
                       rotate_left
                       ·intro hJ5
                        refine join_ (σ := Value) 9 qKb92 (fun s_ => [(24, s_)]) (fun s_ w' => (Kd.R (Kd.int .i64) 3 w' w.heap.size (fun _ => True) s_ y262) ∧ (Kd.R k44 44 w' w.heap.size (fun _ => True) (.slice Ao11 x3_1.length co11) x3_1) ∧ (IsS85 w0 w' g s0_0 x1001_1 x1002_1) ∧ (KeepBut w w' g none) ∧ (Below w0.heap.size w0 w')) ?_ ?_
                        rotate_left
                        ·intro hJ8
                         refine three_ (i := 2) (j := 5) (k := 8) (Ni := some 18) (Nj := some 21) (Nk := some 24) qKb90 qKb91 qKb92 rfl rfl rfl rfl rfl rfl (three_of HT_.1 (qK18)) (by decide) (by decide) (by decide) (fun K hK => ?_) (fun K hK => ?_) (fun K hK => ?_)
                         ·skip
                          refine Kd.R_lit_step (Kd.int .u8) _ 5 ?hg (N := 18) ?hd (xs := ([x4_1] : List Int)) (inner := [.int .u8 x4_1]) (ok := fun _ => True) (okp := fun _ => True) ?hr ?hp (fun _ hk => hk) trivial (zr _ _) (zn _) (by simp) ?_; (case hd | hg => rfl); (case hr => exact (qK21)); (case hp => exact (qK53))
                          intro v254 w13 ho14 hb hg_ hnew_; clear hg_ hnew_
                          (first | rw [← Ny253.1] at ho14 | (simp only [Int.reduceToNat] at ho14; rw [← Ny253.1] at ho14))
                          replace HO_3 := za (qK83 HO_3.1); have HO255 := za (qK89 ho14); replace HK := za qK82; replace HB := za (zS (qK4) hb); replace HI0 := za qK93; clear hb ho14
                          refine hK.out _ _ trivial (fun hHeld => ?_)
                          clear hK K
                          refine norm_ (a' := ?_) ?_ ?_
                          rotate_left
                          ·exact qK11_c2
                          exact norm_ (qK10) (hJ2 (v254) _ ⟨(qK0 HO255.1), (qK0 HO_3.1), (qK1), (qK3), (qK4)⟩)
                         ·skip
                          refine Kd.R_lit_step (Kd.int .i64) _ 3 ?hg (N := 21) ?hd (xs := ([(-30), (-1), 0, 5, 9, 10, 40, 1000] : List Int)) (inner := [.int .i64 (-30), .int .i64 (-1), .int .i64 0, .int .i64 5, .int .i64 9, .int .i64 10, .int .i64 40, .int .i64 1000]) (ok := fun _ => True) (okp := fun _ => True) ?hr ?hp (fun _ hk => hk) trivial (zr _ _) (zn _) (by simp) ?_; (case hd | hg => rfl); (case hr => exact (qK21)); (case hp => exact (qK23))
                          intro v257 w13 ho14 hb hg_ hnew_; clear hg_ hnew_
                          (first | rw [← Ny256.1] at ho14 | (simp only [Int.reduceToNat] at ho14; rw [← Ny256.1] at ho14))
                          replace HO_3 := za (qK83 HO_3.1); have HO258 := za (qK89 ho14); replace HK := za qK82; replace HB := za (zS (qK4) hb); replace HI0 := za qK93; clear hb ho14
                          refine hK.out _ _ trivial (fun hHeld => ?_)
                          clear hK K
                          refine norm_ (a' := ?_) ?_ ?_
                          rotate_left
                          ·exact qK11_c4
                          exact norm_ (qK10) (hJ5 (v257) _ ⟨(qK0 HO258.1), (qK0 HO_3.1), (qK1), (qK3), (qK4)⟩)
                         ·skip
                          refine Kd.R_lit_step (Kd.int .i64) _ 3 ?hg (N := 24) ?hd (xs := ([(-25), (-10), 0, 1, 9, 20, (-1000)] : List Int)) (inner := [.int .i64 (-25), .int .i64 (-10), .int .i64 0, .int .i64 1, .int .i64 9, .int .i64 20, .int .i64 (-1000)]) (ok := fun _ => True) (okp := fun _ => True) ?hr ?hp (fun _ hk => hk) trivial (zr _ _) (zn _) (by simp) ?_; (case hd | hg => rfl); (case hr => exact (qK21)); (case hp => exact (qK19))
                          intro v263 w13 ho14 hb hg_ hnew_; clear hg_ hnew_
                          (first | rw [← Ny262.1] at ho14 | (simp only [Int.reduceToNat] at ho14; rw [← Ny262.1] at ho14))
                          replace HO_3 := za (qK83 HO_3.1); have HO264 := za (qK89 ho14); replace HK := za qK82; replace HB := za (zS (qK4) hb); replace HI0 := za qK93; clear hb ho14
                          refine hK.out _ _ trivial (fun hHeld => ?_)
                          clear hK K
                          refine norm_ (a' := ?_) ?_ ?_
                          rotate_left
                          ·exact qK11_c1
                          exact norm_ (qK10) (hJ8 (v263) _ ⟨(qK0 HO264.1), (qK0 HO_3.1), (qK1), (qK3), (qK4)⟩)
                        ·skip
                         rintro v263 w15 ⟨h0_, h1_, h2_, h3_, h4_⟩
                         have HO264 : Aside0 (Kd.R (Kd.int .i64) 3 w15 w.heap.size (fun _ => True) v263 y262) := ⟨h0_⟩; replace HO_3 : Aside0 (Kd.R k44 44 w15 w.heap.size (fun _ => True) (.slice Ao11 x3_1.length co11) x3_1) := ⟨h1_⟩; replace HI0 : Aside0 (IsS85 w0 w15 g s0_0 x1001_1 x1002_1) := ⟨h2_⟩; replace HK : Aside0 (KeepBut w w15 g none) := ⟨h3_⟩; replace HB : Aside0 (Below w0.heap.size w0 w15) := ⟨h4_⟩; clear h0_ h1_ h2_ h3_ h4_; have hHeld := trivial
                         refine norm_ (a' := ?_) ?_ ?_
                         rotate_left
                         ·exact qK11_c0
                         refine two_ (i := 2) (j := 5) (Ni := some 18) (Nj := some 21) qKb87 qKb89 rfl rfl rfl rfl (two_of HT_.1 (qK18)) (by decide) (by decide) (fun K hK => ?_) (fun K hK => ?_)
                         ·skip
                          refine Kd.R_lit_step (Kd.int .u8) _ 5 ?hg (N := 18) ?hd (xs := ([x4_1] : List Int)) (inner := [.int .u8 x4_1]) (ok := fun _ => True) (okp := fun _ => True) ?hr ?hp (fun _ hk => hk) trivial (zr _ _) (zn _) (by simp) ?_; (case hd | hg => rfl); (case hr => exact (qK21)); (case hp => exact (qK53))
                          intro v254 w16 ho17 hb hg_ hnew_; clear hg_ hnew_
                          (first | rw [← Ny253.1] at ho17 | (simp only [Int.reduceToNat] at ho17; rw [← Ny253.1] at ho17))
                          replace HO_3 := za (qK83 HO_3.1); replace HO264 := za (qK83 HO264.1); have HO255 := za (qK89 ho17); replace HK := za qK82; replace HB := za (zS (qK4) hb); replace HI0 := za qK93; clear hb ho17
                          refine hK.out _ _ trivial (fun hHeld => ?_)
                          clear hK K
                          refine norm_ (a' := ?_) ?_ ?_
                          rotate_left
                          ·exact qK11_c2
                          exact norm_ (qK10) (hJ2_8 (v254, v263) _ ⟨(qK0 HO255.1), (qK0 HO264.1), (qK0 HO_3.1), (qK1), (qK3), (qK4)⟩)
                         ·skip
                          refine Kd.R_lit_step (Kd.int .i64) _ 3 ?hg (N := 21) ?hd (xs := ([(-30), (-1), 0, 5, 9, 10, 40, 1000] : List Int)) (inner := [.int .i64 (-30), .int .i64 (-1), .int .i64 0, .int .i64 5, .int .i64 9, .int .i64 10, .int .i64 40, .int .i64 1000]) (ok := fun _ => True) (okp := fun _ => True) ?hr ?hp (fun _ hk => hk) trivial (zr _ _) (zn _) (by simp) ?_; (case hd | hg => rfl); (case hr => exact (qK21)); (case hp => exact (qK23))
                          intro v257 w16 ho17 hb hg_ hnew_; clear hg_ hnew_
                          (first | rw [← Ny256.1] at ho17 | (simp only [Int.reduceToNat] at ho17; rw [← Ny256.1] at ho17))
                          replace HO_3 := za (qK83 HO_3.1); have HO258 := za (qK91 ho17 HO264.1); replace HO264 := za (qK86 HO264.1 ho17); replace HK := za qK82; replace HB := za (zS (qK4) hb); replace HI0 := za qK93; clear hb ho17
                          refine hK.out _ _ trivial (fun hHeld => ?_)
                          clear hK K
                          refine norm_ (a' := ?_) ?_ ?_
                          rotate_left
                          ·exact qK11_c4
                          exact norm_ (qK10) (hJ5_8 (v257, v263) _ ⟨(qK29 HO258.1), (qK29 HO264.1), (qK0 HO_3.1), (qK1), (qK3), (qK4)⟩)
                       ·skip
                        rintro v257 w15 ⟨h0_, h1_, h2_, h3_, h4_⟩
                        have HO258 : Aside0 (Kd.R (Kd.int .i64) 3 w15 w.heap.size (fun _ => True) v257 y256) := ⟨h0_⟩; replace HO_3 : Aside0 (Kd.R k44 44 w15 w.heap.size (fun _ => True) (.slice Ao11 x3_1.length co11) x3_1) := ⟨h1_⟩; replace HI0 : Aside0 (IsS85 w0 w15 g s0_0 x1001_1 x1002_1) := ⟨h2_⟩; replace HK : Aside0 (KeepBut w w15 g none) := ⟨h3_⟩; replace HB : Aside0 (Below w0.heap.size w0 w15) := ⟨h4_⟩; clear h0_ h1_ h2_ h3_ h4_; have hHeld := trivial
                        refine norm_ (a' := ?_) ?_ ?_
                        rotate_left
                        ·exact qK11_c0
                        refine three_ (i := 2) (j := 6) (k := 8) (Ni := some 18) (Nj := some 22) (Nk := some 24) qKb86 qKb88 qKb89 rfl rfl rfl rfl rfl rfl (three_of HT_.1 (qK18)) (by decide) (by decide) (by decide) (fun K hK => ?_) (fun K hK => ?_) (fun K hK => ?_)
                        ·skip
                         refine Kd.R_lit_step (Kd.int .u8) _ 5 ?hg (N := 18) ?hd (xs := ([x4_1] : List Int)) (inner := [.int .u8 x4_1]) (ok := fun _ => True) (okp := fun _ => True) ?hr ?hp (fun _ hk => hk) trivial (zr _ _) (zn _) (by simp) ?_; (case hd | hg => rfl); (case hr => exact (qK21)); (case hp => exact (qK53))
                         intro v254 w16 ho17 hb hg_ hnew_; clear hg_ hnew_
                         (first | rw [← Ny253.1] at ho17 | (simp only [Int.reduceToNat] at ho17; rw [← Ny253.1] at ho17))
                         replace HO_3 := za (qK83 HO_3.1); replace HO258 := za (qK83 HO258.1); have HO255 := za (qK89 ho17); replace HK := za qK82; replace HB := za (zS (qK4) hb); replace HI0 := za qK93; clear hb ho17
                         refine hK.out _ _ trivial (fun hHeld => ?_)
                         clear hK K
                         refine norm_ (a' := ?_) ?_ ?_
                         rotate_left
                         ·exact qK11_c2
                         exact norm_ (qK10) (hJ2_5 (v254, v257) _ ⟨(qK0 HO255.1), (qK0 HO258.1), (qK0 HO_3.1), (qK1), (qK3), (qK4)⟩)
                        ·skip
                         obtain ⟨Ao16, co16, eo16⟩ := zE HO258.1
                         (first | subst eo16 | (injection eo16 with f1_ f2_ f3_; have f4_ := f1_.symm; have f5_ := f3_.symm; clear f1_ f2_ f3_; subst f4_; subst f5_))
                         refine goes_ Try.func59 (qK18) rfl #[.pointer (some ⟨g, 0, none⟩), .slice Ao16 y256.length co16] (by rfl) rfl rfl (qK5) ?_
                         with_reducible refine (spec_l1Cur_among.calls g s0_0 x1001_1 x1002_1 _ _ y256 t259 t260 t261 w0 _ ?s1 ?s2 ?s3 ?s4 ?s5 A7.1).mono ?_
                         (case s1 => exact (qK1))
                         (case s2 => exact (qK4))
                         (case s3 => exact (qK11 HO258.1))
                         (case s4 => exact (qK42 HO258.1))
                         (case s5 => exact (qK56 HO258.1))
                         rintro e w17 ⟨rfl, hi, hb, hk⟩
                         refine ⟨_, rfl, ?_⟩
                         replace HO_3 := za (qK81 HO_3.1); replace HO258 := za (qK81 HO258.1); replace HK := za qK84; replace HB := za hb; replace HI0 := za hi
                         (try clear hb)
                         (try clear hb2)
                         (try clear hk)
                         (try clear hi)
                         refine hK.out _ _ trivial (fun hHeld => ?_)
                         clear hK K
                         refine norm_ (a' := ?_) ?_ ?_
                         rotate_left
                         ·exact qK11_c5
                         exact norm_ (qK10) (hJ5_6 (.slice Ao16 y256.length co16) _ ⟨(qK0 HO258.1), (qK0 HO_3.1), (qK1), (qK3), (qK4)⟩)
                        ·skip
                         refine Kd.R_lit_step (Kd.int .i64) _ 3 ?hg (N := 24) ?hd (xs := ([(-25), (-10), 0, 1, 9, 20, (-1000)] : List Int)) (inner := [.int .i64 (-25), .int .i64 (-10), .int .i64 0, .int .i64 1, .int .i64 9, .int .i64 20, .int .i64 (-1000)]) (ok := fun _ => True) (okp := fun _ => True) ?hr ?hp (fun _ hk => hk) trivial (zr _ _) (zn _) (by simp) ?_; (case hd | hg => rfl); (case hr => exact (qK21)); (case hp => exact (qK19))
                         intro v263 w16 ho17 hb hg_ hnew_; clear hg_ hnew_
                         (first | rw [← Ny262.1] at ho17 | (simp only [Int.reduceToNat] at ho17; rw [← Ny262.1] at ho17))
                         replace HO_3 := za (qK83 HO_3.1); have HO264 := za (qK91 ho17 HO258.1); replace HO258 := za (qK86 HO258.1 ho17); replace HK := za qK82; replace HB := za (zS (qK4) hb); replace HI0 := za qK93; clear hb ho17
                         refine hK.out _ _ trivial (fun hHeld => ?_)
                         clear hK K
                         refine norm_ (a' := ?_) ?_ ?_
                         rotate_left
                         ·exact qK11_c1
                         exact norm_ (qK10) (hJ5_8 (v257, v263) _ ⟨(qK29 HO258.1), (qK29 HO264.1), (qK0 HO_3.1), (qK1), (qK3), (qK4)⟩)
                      ·skip
                       rintro v254 w15 ⟨h0_, h1_, h2_, h3_, h4_⟩
                       have HO255 : Aside0 (Kd.R (Kd.int .u8) 5 w15 w.heap.size (fun _ => True) v254 y253) := ⟨h0_⟩; replace HO_3 : Aside0 (Kd.R k44 44 w15 w.heap.size (fun _ => True) (.slice Ao11 x3_1.length co11) x3_1) := ⟨h1_⟩; replace HI0 : Aside0 (IsS85 w0 w15 g s0_0 x1001_1 x1002_1) := ⟨h2_⟩; replace HK : Aside0 (KeepBut w w15 g none) := ⟨h3_⟩; replace HB : Aside0 (Below w0.heap.size w0 w15) := ⟨h4_⟩; clear h0_ h1_ h2_ h3_ h4_; have hHeld := trivial
                       refine norm_ (a' := ?_) ?_ ?_
                       rotate_left
                       ·exact qK11_c0
                       refine three_ (i := 3) (j := 5) (k := 8) (Ni := some 19) (Nj := some 21) (Nk := some 24) qKb85 qKb86 qKb87 rfl rfl rfl rfl rfl rfl (three_of HT_.1 (qK18)) (by decide) (by decide) (by decide) (fun K hK => ?_) (fun K hK => ?_) (fun K hK => ?_)
                       ·skip
                        have hcv16 := own_string (P := Try.prog) Try.underlying36 Try.underlying5 Try.underlying9 (Kd.own_of_R HO255.1)
                        refine value_ (w1 := ?_) (v := ?_) (by rfl) rfl ?_ ?_
                        rotate_left 2
                        ·go_simp
                         constructor
                         ·rfl
                         ·rfl
                        clear hcv16
                        refine hK.out _ _ trivial (fun hHeld => ?_)
                        clear hK K
                        refine norm_ (a' := ?_) ?_ ?_
                        rotate_left
                        ·exact qK11_c3
                        exact norm_ (qK10) (hJ2_3 (v254) _ ⟨(qK0 HO255.1), (qK0 HO_3.1), (qK1), (qK3), (qK4)⟩)
                       ·skip
                        refine Kd.R_lit_step (Kd.int .i64) _ 3 ?hg (N := 21) ?hd (xs := ([(-30), (-1), 0, 5, 9, 10, 40, 1000] : List Int)) (inner := [.int .i64 (-30), .int .i64 (-1), .int .i64 0, .int .i64 5, .int .i64 9, .int .i64 10, .int .i64 40, .int .i64 1000]) (ok := fun _ => True) (okp := fun _ => True) ?hr ?hp (fun _ hk => hk) trivial (zr _ _) (zn _) (by simp) ?_; (case hd | hg => rfl); (case hr => exact (qK21)); (case hp => exact (qK23))
                        intro v257 w16 ho17 hb hg_ hnew_; clear hg_ hnew_
                        (first | rw [← Ny256.1] at ho17 | (simp only [Int.reduceToNat] at ho17; rw [← Ny256.1] at ho17))
                        replace HO_3 := za (qK83 HO_3.1); replace HO255 := za (qK83 HO255.1); have HO258 := za (qK89 ho17); replace HK := za qK82; replace HB := za (zS (qK4) hb); replace HI0 := za qK93; clear hb ho17
                        refine hK.out _ _ trivial (fun hHeld => ?_)
                        clear hK K
                        refine norm_ (a' := ?_) ?_ ?_
                        rotate_left
                        ·exact qK11_c4
                        exact norm_ (qK10) (hJ2_5 (v254, v257) _ ⟨(qK0 HO255.1), (qK0 HO258.1), (qK0 HO_3.1), (qK1), (qK3), (qK4)⟩)
                       ·skip
                        refine Kd.R_lit_step (Kd.int .i64) _ 3 ?hg (N := 24) ?hd (xs := ([(-25), (-10), 0, 1, 9, 20, (-1000)] : List Int)) (inner := [.int .i64 (-25), .int .i64 (-10), .int .i64 0, .int .i64 1, .int .i64 9, .int .i64 20, .int .i64 (-1000)]) (ok := fun _ => True) (okp := fun _ => True) ?hr ?hp (fun _ hk => hk) trivial (zr _ _) (zn _) (by simp) ?_; (case hd | hg => rfl); (case hr => exact (qK21)); (case hp => exact (qK19))
                        intro v263 w16 ho17 hb hg_ hnew_; clear hg_ hnew_
                        (first | rw [← Ny262.1] at ho17 | (simp only [Int.reduceToNat] at ho17; rw [← Ny262.1] at ho17))
                        replace HO_3 := za (qK83 HO_3.1); replace HO255 := za (qK83 HO255.1); have HO264 := za (qK89 ho17); replace HK := za qK82; replace HB := za (zS (qK4) hb); replace HI0 := za qK93; clear hb ho17
                        refine hK.out _ _ trivial (fun hHeld => ?_)
                        clear hK K
                        refine norm_ (a' := ?_) ?_ ?_
                        rotate_left
                        ·exact qK11_c1
                        exact norm_ (qK10) (hJ2_8 (v254, v263) _ ⟨(qK0 HO255.1), (qK0 HO264.1), (qK0 HO_3.1), (qK1), (qK3), (qK4)⟩)
                     ·skip
                      rintro ⟨v257, v263⟩ w17 ⟨h0_, h1_, h2_, h3_, h4_, h5_⟩
                      have HO258 : Aside0 (Kd.R (Kd.int .i64) 3 w17 w.heap.size (fun k_ => some k_ ≠ (v263 : Value).ownBlock) v257 y256) := ⟨h0_⟩; have HO264 : Aside0 (Kd.R (Kd.int .i64) 3 w17 w.heap.size (fun k_ => some k_ ≠ (v257 : Value).ownBlock) v263 y262) := ⟨h1_⟩; replace HO_3 : Aside0 (Kd.R k44 44 w17 w.heap.size (fun _ => True) (.slice Ao11 x3_1.length co11) x3_1) := ⟨h2_⟩; replace HI0 : Aside0 (IsS85 w0 w17 g s0_0 x1001_1 x1002_1) := ⟨h3_⟩; replace HK : Aside0 (KeepBut w w17 g none) := ⟨h4_⟩; replace HB : Aside0 (Below w0.heap.size w0 w17) := ⟨h5_⟩; clear h0_ h1_ h2_ h3_ h4_ h5_; have hHeld := trivial
                      refine norm_ (a' := ?_) ?_ ?_
                      rotate_left
                      ·exact qK11_c0
                      refine two_ (i := 2) (j := 6) (Ni := some 18) (Nj := some 22) qKb83 qKb84 rfl rfl rfl rfl (two_of HT_.1 (qK18)) (by decide) (by decide) (fun K hK => ?_) (fun K hK => ?_)
                      ·skip
                       refine Kd.R_lit_step (Kd.int .u8) _ 5 ?hg (N := 18) ?hd (xs := ([x4_1] : List Int)) (inner := [.int .u8 x4_1]) (ok := fun _ => True) (okp := fun _ => True) ?hr ?hp (fun _ hk => hk) trivial (zr _ _) (zn _) (by simp) ?_; (case hd | hg => rfl); (case hr => exact (qK21)); (case hp => exact (qK53))
                       intro v254 w18 ho19 hb hg_ hnew_; clear hg_ hnew_
                       (first | rw [← Ny253.1] at ho19 | (simp only [Int.reduceToNat] at ho19; rw [← Ny253.1] at ho19))
                       replace HO_3 := za (qK83 HO_3.1); replace HO258 := za (qK83 HO258.1); replace HO264 := za (qK83 HO264.1); have HO255 := za (qK89 ho19); replace HK := za qK82; replace HB := za (zS (qK4) hb); replace HI0 := za qK93; clear hb ho19
                       refine hK.out _ _ trivial (fun hHeld => ?_)
                       clear hK K
                       refine norm_ (a' := ?_) ?_ ?_
                       rotate_left
                       ·exact qK11_c2
                       exact norm_ (qK10) (hJ2_5_8 (v254, v257, v263) _ ⟨(qK0 HO255.1), (qK0 HO258.1), (qK0 HO264.1), (qK0 HO_3.1), (qK1), (qK3), (qK4)⟩)
                      ·skip
                       obtain ⟨Ao18, co18, eo18⟩ := zE HO258.1
                       (first | subst eo18 | (injection eo18 with f1_ f2_ f3_; have f4_ := f1_.symm; have f5_ := f3_.symm; clear f1_ f2_ f3_; subst f4_; subst f5_))
                       refine goes_ Try.func59 (qK18) rfl #[.pointer (some ⟨g, 0, none⟩), .slice Ao18 y256.length co18] (by rfl) rfl rfl (qK5) ?_
                       with_reducible refine (spec_l1Cur_among.calls g s0_0 x1001_1 x1002_1 _ _ y256 t259 t260 t261 w0 _ ?s1 ?s2 ?s3 ?s4 ?s5 A7.1).mono ?_
                       (case s1 => exact (qK1))
                       (case s2 => exact (qK4))
                       (case s3 => exact (qK11 HO258.1))
                       (case s4 => exact (qK42 HO258.1))
                       (case s5 => exact (qK56 HO258.1))
                       rintro e w19 ⟨rfl, hi, hb, hk⟩
                       refine ⟨_, rfl, ?_⟩
                       replace HO_3 := za (qK81 HO_3.1); replace HO258 := za (qK81 HO258.1); replace HO264 := za (qK81 HO264.1); replace HK := za qK84; replace HB := za hb; replace HI0 := za hi
                       (try clear hb)
                       (try clear hb2)
                       (try clear hk)
                       (try clear hi)
                       refine hK.out _ _ trivial (fun hHeld => ?_)
                       clear hK K
                       refine norm_ (a' := ?_) ?_ ?_
                       rotate_left
                       ·exact qK11_c5
                       exact norm_ (qK10) (hJ5_6_8 (.slice Ao18 y256.length co18, v263) _ ⟨(qK0 HO258.1), (qK0 HO264.1), (qK0 HO_3.1), (qK1), (qK3), (qK4)⟩)
                    ·skip
                     rintro v257 w17 ⟨h0_, h1_, h2_, h3_, h4_⟩
                     have HO258 : Aside0 (Kd.R (Kd.int .i64) 3 w17 w.heap.size (fun _ => True) v257 y256) := ⟨h0_⟩; replace HO_3 : Aside0 (Kd.R k44 44 w17 w.heap.size (fun _ => True) (.slice Ao11 x3_1.length co11) x3_1) := ⟨h1_⟩; replace HI0 : Aside0 (IsS85 w0 w17 g s0_0 t260 t261) := ⟨h2_⟩; replace HK : Aside0 (KeepBut w w17 g none) := ⟨h3_⟩; replace HB : Aside0 (Below w0.heap.size w0 w17) := ⟨h4_⟩; clear h0_ h1_ h2_ h3_ h4_; have hHeld := trivial
                     refine norm_ (a' := ?_) ?_ ?_
                     rotate_left
                     ·exact qK11_c0
                     refine two_ (i := 2) (j := 8) (Ni := some 18) (Nj := some 24) qKb82 qKb84 rfl rfl rfl rfl (two_of HT_.1 (qK18)) (by decide) (by decide) (fun K hK => ?_) (fun K hK => ?_)
                     ·skip
                      refine Kd.R_lit_step (Kd.int .u8) _ 5 ?hg (N := 18) ?hd (xs := ([x4_1] : List Int)) (inner := [.int .u8 x4_1]) (ok := fun _ => True) (okp := fun _ => True) ?hr ?hp (fun _ hk => hk) trivial (zr _ _) (zn _) (by simp) ?_; (case hd | hg => rfl); (case hr => exact (qK21)); (case hp => exact (qK53))
                      intro v254 w18 ho19 hb hg_ hnew_; clear hg_ hnew_
                      (first | rw [← Ny253.1] at ho19 | (simp only [Int.reduceToNat] at ho19; rw [← Ny253.1] at ho19))
                      replace HO_3 := za (qK83 HO_3.1); replace HO258 := za (qK83 HO258.1); have HO255 := za (qK89 ho19); replace HK := za qK82; replace HB := za (zS (qK4) hb); replace HI0 := za qK93; clear hb ho19
                      refine hK.out _ _ trivial (fun hHeld => ?_)
                      clear hK K
                      refine norm_ (a' := ?_) ?_ ?_
                      rotate_left
                      ·exact qK11_c2
                      exact norm_ (qK10) (hJ2_5_6 (v254, v257) _ ⟨(qK0 HO255.1), (qK0 HO258.1), (qK0 HO_3.1), (qK1), (qK3), (qK4)⟩)
                     ·skip
                      refine Kd.R_lit_step (Kd.int .i64) _ 3 ?hg (N := 24) ?hd (xs := ([(-25), (-10), 0, 1, 9, 20, (-1000)] : List Int)) (inner := [.int .i64 (-25), .int .i64 (-10), .int .i64 0, .int .i64 1, .int .i64 9, .int .i64 20, .int .i64 (-1000)]) (ok := fun _ => True) (okp := fun _ => True) ?hr ?hp (fun _ hk => hk) trivial (zr _ _) (zn _) (by simp) ?_; (case hd | hg => rfl); (case hr => exact (qK21)); (case hp => exact (qK19))
                      intro v263 w18 ho19 hb hg_ hnew_; clear hg_ hnew_
                      (first | rw [← Ny262.1] at ho19 | (simp only [Int.reduceToNat] at ho19; rw [← Ny262.1] at ho19))
                      replace HO_3 := za (qK83 HO_3.1); have HO264 := za (qK91 ho19 HO258.1); replace HO258 := za (qK86 HO258.1 ho19); replace HK := za qK82; replace HB := za (zS (qK4) hb); replace HI0 := za qK93; clear hb ho19
                      refine hK.out _ _ trivial (fun hHeld => ?_)
                      clear hK K
                      refine norm_ (a' := ?_) ?_ ?_
                      rotate_left
                      ·exact qK11_c1
                      exact norm_ (qK10) (hJ5_6_8 (v257, v263) _ ⟨(qK29 HO258.1), (qK29 HO264.1), (qK0 HO_3.1), (qK1), (qK3), (qK4)⟩)
                   ·skip
                    rintro ⟨v254, v263⟩ w17 ⟨h0_, h1_, h2_, h3_, h4_, h5_⟩
                    have HO255 : Aside0 (Kd.R (Kd.int .u8) 5 w17 w.heap.size (fun _ => True) v254 y253) := ⟨h0_⟩; have HO264 : Aside0 (Kd.R (Kd.int .i64) 3 w17 w.heap.size (fun _ => True) v263 y262) := ⟨h1_⟩; replace HO_3 : Aside0 (Kd.R k44 44 w17 w.heap.size (fun _ => True) (.slice Ao11 x3_1.length co11) x3_1) := ⟨h2_⟩; replace HI0 : Aside0 (IsS85 w0 w17 g s0_0 x1001_1 x1002_1) := ⟨h3_⟩; replace HK : Aside0 (KeepBut w w17 g none) := ⟨h4_⟩; replace HB : Aside0 (Below w0.heap.size w0 w17) := ⟨h5_⟩; clear h0_ h1_ h2_ h3_ h4_ h5_; have hHeld := trivial
                    refine norm_ (a' := ?_) ?_ ?_
                    rotate_left
                    ·exact qK11_c0
                    refine two_ (i := 3) (j := 5) (Ni := some 19) (Nj := some 21) qKb81 qKb83 rfl rfl rfl rfl (two_of HT_.1 (qK18)) (by decide) (by decide) (fun K hK => ?_) (fun K hK => ?_)
                    ·skip
                     have hcv18 := own_string (P := Try.prog) Try.underlying36 Try.underlying5 Try.underlying9 (Kd.own_of_R HO255.1)
                     refine value_ (w1 := ?_) (v := ?_) (by rfl) rfl ?_ ?_
                     rotate_left 2
                     ·go_simp
                      constructor
                      ·rfl
                      ·rfl
                     clear hcv18
                     refine hK.out _ _ trivial (fun hHeld => ?_)
                     clear hK K
                     refine norm_ (a' := ?_) ?_ ?_
                     rotate_left
                     ·exact qK11_c3
                     exact norm_ (qK10) (hJ2_3_8 (v254, v263) _ ⟨(qK0 HO255.1), (qK0 HO264.1), (qK0 HO_3.1), (qK1), (qK3), (qK4)⟩)
                    ·skip
                     refine Kd.R_lit_step (Kd.int .i64) _ 3 ?hg (N := 21) ?hd (xs := ([(-30), (-1), 0, 5, 9, 10, 40, 1000] : List Int)) (inner := [.int .i64 (-30), .int .i64 (-1), .int .i64 0, .int .i64 5, .int .i64 9, .int .i64 10, .int .i64 40, .int .i64 1000]) (ok := fun _ => True) (okp := fun _ => True) ?hr ?hp (fun _ hk => hk) trivial (zr _ _) (zn _) (by simp) ?_; (case hd | hg => rfl); (case hr => exact (qK21)); (case hp => exact (qK23))
                     intro v257 w18 ho19 hb hg_ hnew_; clear hg_ hnew_
                     (first | rw [← Ny256.1] at ho19 | (simp only [Int.reduceToNat] at ho19; rw [← Ny256.1] at ho19))
                     replace HO_3 := za (qK83 HO_3.1); replace HO255 := za (qK83 HO255.1); have HO258 := za (qK91 ho19 HO264.1); replace HO264 := za (qK86 HO264.1 ho19); replace HK := za qK82; replace HB := za (zS (qK4) hb); replace HI0 := za qK93; clear hb ho19
                     refine hK.out _ _ trivial (fun hHeld => ?_)
                     clear hK K
                     refine norm_ (a' := ?_) ?_ ?_
                     rotate_left
                     ·exact qK11_c4
                     exact norm_ (qK10) (hJ2_5_8 (v254, v257, v263) _ ⟨(qK0 HO255.1), (qK29 HO258.1), (qK29 HO264.1), (qK0 HO_3.1), (qK1), (qK3), (qK4)⟩)
                  ·skip
                   rintro ⟨v254, v257⟩ w17 ⟨h0_, h1_, h2_, h3_, h4_, h5_⟩
                   have HO255 : Aside0 (Kd.R (Kd.int .u8) 5 w17 w.heap.size (fun _ => True) v254 y253) := ⟨h0_⟩; have HO258 : Aside0 (Kd.R (Kd.int .i64) 3 w17 w.heap.size (fun _ => True) v257 y256) := ⟨h1_⟩; replace HO_3 : Aside0 (Kd.R k44 44 w17 w.heap.size (fun _ => True) (.slice Ao11 x3_1.length co11) x3_1) := ⟨h2_⟩; replace HI0 : Aside0 (IsS85 w0 w17 g s0_0 x1001_1 x1002_1) := ⟨h3_⟩; replace HK : Aside0 (KeepBut w w17 g none) := ⟨h4_⟩; replace HB : Aside0 (Below w0.heap.size w0 w17) := ⟨h5_⟩; clear h0_ h1_ h2_ h3_ h4_ h5_; have hHeld := trivial
                   refine norm_ (a' := ?_) ?_ ?_
                   rotate_left
                   ·exact qK11_c0
                   refine three_ (i := 3) (j := 6) (k := 8) (Ni := some 19) (Nj := some 22) (Nk := some 24) qKb80 qKb82 qKb83 rfl rfl rfl rfl rfl rfl (three_of HT_.1 (qK18)) (by decide) (by decide) (by decide) (fun K hK => ?_) (fun K hK => ?_) (fun K hK => ?_)
                   ·skip
                    have hcv18 := own_string (P := Try.prog) Try.underlying36 Try.underlying5 Try.underlying9 (Kd.own_of_R HO255.1)
                    refine value_ (w1 := ?_) (v := ?_) (by rfl) rfl ?_ ?_
                    rotate_left 2
                    ·go_simp
                     constructor
                     ·rfl
                     ·rfl
                    clear hcv18
                    refine hK.out _ _ trivial (fun hHeld => ?_)
                    clear hK K
                    refine norm_ (a' := ?_) ?_ ?_
                    rotate_left
                    ·exact qK11_c3
                    exact norm_ (qK10) (hJ2_3_5 (v254, v257) _ ⟨(qK0 HO255.1), (qK0 HO258.1), (qK0 HO_3.1), (qK1), (qK3), (qK4)⟩)
                   ·skip
                    obtain ⟨Ao18, co18, eo18⟩ := zE HO258.1
                    (first | subst eo18 | (injection eo18 with f1_ f2_ f3_; have f4_ := f1_.symm; have f5_ := f3_.symm; clear f1_ f2_ f3_; subst f4_; subst f5_))
                    refine goes_ Try.func59 (qK18) rfl #[.pointer (some ⟨g, 0, none⟩), .slice Ao18 y256.length co18] (by rfl) rfl rfl (qK5) ?_
                    with_reducible refine (spec_l1Cur_among.calls g s0_0 x1001_1 x1002_1 _ _ y256 t259 t260 t261 w0 _ ?s1 ?s2 ?s3 ?s4 ?s5 A7.1).mono ?_
                    (case s1 => exact (qK1))
                    (case s2 => exact (qK4))
                    (case s3 => exact (qK11 HO258.1))
                    (case s4 => exact (qK42 HO258.1))
                    (case s5 => exact (qK56 HO258.1))
                    rintro e w19 ⟨rfl, hi, hb, hk⟩
                    refine ⟨_, rfl, ?_⟩
                    replace HO_3 := za (qK81 HO_3.1); replace HO255 := za (qK81 HO255.1); replace HO258 := za (qK81 HO258.1); replace HK := za qK84; replace HB := za hb; replace HI0 := za hi
                    (try clear hb)
                    (try clear hb2)
                    (try clear hk)
                    (try clear hi)
                    refine hK.out _ _ trivial (fun hHeld => ?_)
                    clear hK K
                    refine norm_ (a' := ?_) ?_ ?_
                    rotate_left
                    ·exact qK11_c5
                    exact norm_ (qK10) (hJ2_5_6 (v254, .slice Ao18 y256.length co18) _ ⟨(qK0 HO255.1), (qK0 HO258.1), (qK0 HO_3.1), (qK1), (qK3), (qK4)⟩)
                   ·skip
                    refine Kd.R_lit_step (Kd.int .i64) _ 3 ?hg (N := 24) ?hd (xs := ([(-25), (-10), 0, 1, 9, 20, (-1000)] : List Int)) (inner := [.int .i64 (-25), .int .i64 (-10), .int .i64 0, .int .i64 1, .int .i64 9, .int .i64 20, .int .i64 (-1000)]) (ok := fun _ => True) (okp := fun _ => True) ?hr ?hp (fun _ hk => hk) trivial (zr _ _) (zn _) (by simp) ?_; (case hd | hg => rfl); (case hr => exact (qK21)); (case hp => exact (qK19))
                    intro v263 w18 ho19 hb hg_ hnew_; clear hg_ hnew_
                    (first | rw [← Ny262.1] at ho19 | (simp only [Int.reduceToNat] at ho19; rw [← Ny262.1] at ho19))
                    replace HO_3 := za (qK83 HO_3.1); replace HO255 := za (qK83 HO255.1); have HO264 := za (qK91 ho19 HO258.1); replace HO258 := za (qK86 HO258.1 ho19); replace HK := za qK82; replace HB := za (zS (qK4) hb); replace HI0 := za qK93; clear hb ho19
                    refine hK.out _ _ trivial (fun hHeld => ?_)
                    clear hK K
                    refine norm_ (a' := ?_) ?_ ?_
                    rotate_left
                    ·exact qK11_c1
                    exact norm_ (qK10) (hJ2_5_8 (v254, v257, v263) _ ⟨(qK0 HO255.1), (qK29 HO258.1), (qK29 HO264.1), (qK0 HO_3.1), (qK1), (qK3), (qK4)⟩)
                 ·skip
                  rintro v254 w16 ⟨h0_, h1_, h2_, h3_, h4_⟩
                  have HO255 : Aside0 (Kd.R (Kd.int .u8) 5 w16 w.heap.size (fun _ => True) v254 y253) := ⟨h0_⟩; replace HO_3 : Aside0 (Kd.R k44 44 w16 w.heap.size (fun _ => True) (.slice Ao11 x3_1.length co11) x3_1) := ⟨h1_⟩; replace HI0 : Aside0 (IsS85 w0 w16 g s0_0 x1001_1 x1002_1) := ⟨h2_⟩; replace HK : Aside0 (KeepBut w w16 g none) := ⟨h3_⟩; replace HB : Aside0 (Below w0.heap.size w0 w16) := ⟨h4_⟩; clear h0_ h1_ h2_ h3_ h4_; have hHeld := trivial
                  refine norm_ (a' := ?_) ?_ ?_
                  rotate_left
                  ·exact qK11_c0
                  refine two_ (i := 5) (j := 8) (Ni := some 21) (Nj := some 24) qKb80 qKb81 rfl rfl rfl rfl (two_of HT_.1 (qK18)) (by decide) (by decide) (fun K hK => ?_) (fun K hK => ?_)
                  ·skip
                   refine Kd.R_lit_step (Kd.int .i64) _ 3 ?hg (N := 21) ?hd (xs := ([(-30), (-1), 0, 5, 9, 10, 40, 1000] : List Int)) (inner := [.int .i64 (-30), .int .i64 (-1), .int .i64 0, .int .i64 5, .int .i64 9, .int .i64 10, .int .i64 40, .int .i64 1000]) (ok := fun _ => True) (okp := fun _ => True) ?hr ?hp (fun _ hk => hk) trivial (zr _ _) (zn _) (by simp) ?_; (case hd | hg => rfl); (case hr => exact (qK21)); (case hp => exact (qK23))
                   intro v257 w17 ho18 hb hg_ hnew_; clear hg_ hnew_
                   (first | rw [← Ny256.1] at ho18 | (simp only [Int.reduceToNat] at ho18; rw [← Ny256.1] at ho18))
                   replace HO_3 := za (qK83 HO_3.1); replace HO255 := za (qK83 HO255.1); have HO258 := za (qK89 ho18); replace HK := za qK82; replace HB := za (zS (qK4) hb); replace HI0 := za qK93; clear hb ho18
                   refine hK.out _ _ trivial (fun hHeld => ?_)
                   clear hK K
                   refine norm_ (a' := ?_) ?_ ?_
                   rotate_left
                   ·exact qK11_c4
                   exact norm_ (qK10) (hJ2_3_5 (v254, v257) _ ⟨(qK0 HO255.1), (qK0 HO258.1), (qK0 HO_3.1), (qK1), (qK3), (qK4)⟩)
                  ·skip
                   refine Kd.R_lit_step (Kd.int .i64) _ 3 ?hg (N := 24) ?hd (xs := ([(-25), (-10), 0, 1, 9, 20, (-1000)] : List Int)) (inner := [.int .i64 (-25), .int .i64 (-10), .int .i64 0, .int .i64 1, .int .i64 9, .int .i64 20, .int .i64 (-1000)]) (ok := fun _ => True) (okp := fun _ => True) ?hr ?hp (fun _ hk => hk) trivial (zr _ _) (zn _) (by simp) ?_; (case hd | hg => rfl); (case hr => exact (qK21)); (case hp => exact (qK19))
                   intro v263 w17 ho18 hb hg_ hnew_; clear hg_ hnew_
                   (first | rw [← Ny262.1] at ho18 | (simp only [Int.reduceToNat] at ho18; rw [← Ny262.1] at ho18))
                   replace HO_3 := za (qK83 HO_3.1); replace HO255 := za (qK83 HO255.1); have HO264 := za (qK89 ho18); replace HK := za qK82; replace HB := za (zS (qK4) hb); replace HI0 := za qK93; clear hb ho18
                   refine hK.out _ _ trivial (fun hHeld => ?_)
                   clear hK K
                   refine norm_ (a' := ?_) ?_ ?_
                   rotate_left
                   ·exact qK11_c1
                   exact norm_ (qK10) (hJ2_3_8 (v254, v263) _ ⟨(qK0 HO255.1), (qK0 HO264.1), (qK0 HO_3.1), (qK1), (qK3), (qK4)⟩)
                ·skip
                 rintro ⟨v257, v263⟩ w19 ⟨h0_, h1_, h2_, h3_, h4_, h5_⟩
                 have HO258 : Aside0 (Kd.R (Kd.int .i64) 3 w19 w.heap.size (fun k_ => some k_ ≠ (v263 : Value).ownBlock) v257 y256) := ⟨h0_⟩; have HO264 : Aside0 (Kd.R (Kd.int .i64) 3 w19 w.heap.size (fun k_ => some k_ ≠ (v257 : Value).ownBlock) v263 y262) := ⟨h1_⟩; replace HO_3 : Aside0 (Kd.R k44 44 w19 w.heap.size (fun _ => True) (.slice Ao11 x3_1.length co11) x3_1) := ⟨h2_⟩; replace HI0 : Aside0 (IsS85 w0 w19 g s0_0 t260 t261) := ⟨h3_⟩; replace HK : Aside0 (KeepBut w w19 g none) := ⟨h4_⟩; replace HB : Aside0 (Below w0.heap.size w0 w19) := ⟨h5_⟩; clear h0_ h1_ h2_ h3_ h4_ h5_; have hHeld := trivial
                 refine norm_ (a' := ?_) ?_ ?_
                 rotate_left
                 ·exact qK11_c0
                 refine two_ (i := 2) (j := 9) (Ni := some 18) (Nj := some 25) qKb78 qKb79 rfl rfl rfl rfl (two_of HT_.1 (qK18)) (by decide) (by decide) (fun K hK => ?_) (fun K hK => ?_)
                 ·skip
                  refine Kd.R_lit_step (Kd.int .u8) _ 5 ?hg (N := 18) ?hd (xs := ([x4_1] : List Int)) (inner := [.int .u8 x4_1]) (ok := fun _ => True) (okp := fun _ => True) ?hr ?hp (fun _ hk => hk) trivial (zr _ _) (zn _) (by simp) ?_; (case hd | hg => rfl); (case hr => exact (qK21)); (case hp => exact (qK53))
                  intro v254 w20 ho21 hb hg_ hnew_; clear hg_ hnew_
                  (first | rw [← Ny253.1] at ho21 | (simp only [Int.reduceToNat] at ho21; rw [← Ny253.1] at ho21))
                  replace HO_3 := za (qK83 HO_3.1); replace HO258 := za (qK83 HO258.1); replace HO264 := za (qK83 HO264.1); have HO255 := za (qK89 ho21); replace HK := za qK82; replace HB := za (zS (qK4) hb); replace HI0 := za qK93; clear hb ho21
                  refine hK.out _ _ trivial (fun hHeld => ?_)
                  clear hK K
                  refine norm_ (a' := ?_) ?_ ?_
                  rotate_left
                  ·exact qK11_c2
                  exact norm_ (qK10) (hJ2_5_6_8 (v254, v257, v263) _ ⟨(qK0 HO255.1), (qK0 HO258.1), (qK0 HO264.1), (qK0 HO_3.1), (qK1), (qK3), (qK4)⟩)
                 ·skip
                  obtain ⟨Ao20, co20, eo20⟩ := zE HO264.1
                  (first | subst eo20 | (injection eo20 with f1_ f2_ f3_; have f4_ := f1_.symm; have f5_ := f3_.symm; clear f1_ f2_ f3_; subst f4_; subst f5_))
                  refine goes_ Try.func59 (qK18) rfl #[.pointer (some ⟨g, 0, none⟩), .slice Ao20 y262.length co20] (by rfl) rfl rfl (qK5) ?_
                  with_reducible refine (spec_l1Cur_among.calls g s0_0 t260 t261 _ _ y262 t265 t266 t267 w0 _ ?s1 ?s2 ?s3 ?s4 ?s5 A8.1).mono ?_
                  (case s1 => exact (qK1))
                  (case s2 => exact (qK4))
                  (case s3 => exact (qK11 HO264.1))
                  (case s4 => exact (qK42 HO264.1))
                  (case s5 => exact (qK56 HO264.1))
                  rintro e w21 ⟨rfl, hi, hb, hk⟩
                  refine ⟨_, rfl, ?_⟩
                  replace HO_3 := za (qK81 HO_3.1); replace HO258 := za (qK81 HO258.1); replace HO264 := za (qK81 HO264.1); replace HK := za qK84; replace HB := za hb; replace HI0 := za hi
                  (try clear hb)
                  (try clear hb2)
                  (try clear hk)
                  (try clear hi)
                  refine hK.out _ _ trivial (fun hHeld => ?_)
                  clear hK K
                  refine norm_ (a' := ?_) ?_ ?_
                  rotate_left
                  ·exact qK11_c7
                  exact norm_ (qK10) (hJ5_6_8_9 (v257, .slice Ao20 y262.length co20) _ ⟨(qK0 HO258.1), (qK0 HO264.1), (qK0 HO_3.1), (qK1), (qK3), (qK4)⟩)
               ·skip
                rintro ⟨v254, v257, v263⟩ w19 ⟨h0_, h1_, h2_, h3_, h4_, h5_, h6_⟩
                have HO255 : Aside0 (Kd.R (Kd.int .u8) 5 w19 w.heap.size (fun _ => True) v254 y253) := ⟨h0_⟩; have HO258 : Aside0 (Kd.R (Kd.int .i64) 3 w19 w.heap.size (fun k_ => some k_ ≠ (v263 : Value).ownBlock) v257 y256) := ⟨h1_⟩; have HO264 : Aside0 (Kd.R (Kd.int .i64) 3 w19 w.heap.size (fun k_ => some k_ ≠ (v257 : Value).ownBlock) v263 y262) := ⟨h2_⟩; replace HO_3 : Aside0 (Kd.R k44 44 w19 w.heap.size (fun _ => True) (.slice Ao11 x3_1.length co11) x3_1) := ⟨h3_⟩; replace HI0 : Aside0 (IsS85 w0 w19 g s0_0 x1001_1 x1002_1) := ⟨h4_⟩; replace HK : Aside0 (KeepBut w w19 g none) := ⟨h5_⟩; replace HB : Aside0 (Below w0.heap.size w0 w19) := ⟨h6_⟩; clear h0_ h1_ h2_ h3_ h4_ h5_ h6_; have hHeld := trivial
                refine norm_ (a' := ?_) ?_ ?_
                rotate_left
                ·exact qK11_c0
                refine two_ (i := 3) (j := 6) (Ni := some 19) (Nj := some 22) qKb77 qKb78 rfl rfl rfl rfl (two_of HT_.1 (qK18)) (by decide) (by decide) (fun K hK => ?_) (fun K hK => ?_)
                ·skip
                 have hcv20 := own_string (P := Try.prog) Try.underlying36 Try.underlying5 Try.underlying9 (Kd.own_of_R HO255.1)
                 refine value_ (w1 := ?_) (v := ?_) (by rfl) rfl ?_ ?_
                 rotate_left 2
                 ·go_simp
                  constructor
                  ·rfl
                  ·rfl
                 clear hcv20
                 refine hK.out _ _ trivial (fun hHeld => ?_)
                 clear hK K
                 refine norm_ (a' := ?_) ?_ ?_
                 rotate_left
                 ·exact qK11_c3
                 exact norm_ (qK10) (hJ2_3_5_8 (v254, v257, v263) _ ⟨(qK0 HO255.1), (qK0 HO258.1), (qK0 HO264.1), (qK0 HO_3.1), (qK1), (qK3), (qK4)⟩)
                ·skip
                 obtain ⟨Ao20, co20, eo20⟩ := zE HO258.1
                 (first | subst eo20 | (injection eo20 with f1_ f2_ f3_; have f4_ := f1_.symm; have f5_ := f3_.symm; clear f1_ f2_ f3_; subst f4_; subst f5_))
                 refine goes_ Try.func59 (qK18) rfl #[.pointer (some ⟨g, 0, none⟩), .slice Ao20 y256.length co20] (by rfl) rfl rfl (qK5) ?_
                 with_reducible refine (spec_l1Cur_among.calls g s0_0 x1001_1 x1002_1 _ _ y256 t259 t260 t261 w0 _ ?s1 ?s2 ?s3 ?s4 ?s5 A7.1).mono ?_
                 (case s1 => exact (qK1))
                 (case s2 => exact (qK4))
                 (case s3 => exact (qK11 HO258.1))
                 (case s4 => exact (qK42 HO258.1))
                 (case s5 => exact (qK56 HO258.1))
                 rintro e w21 ⟨rfl, hi, hb, hk⟩
                 refine ⟨_, rfl, ?_⟩
                 replace HO_3 := za (qK81 HO_3.1); replace HO255 := za (qK81 HO255.1); replace HO258 := za (qK81 HO258.1); replace HO264 := za (qK81 HO264.1); replace HK := za qK84; replace HB := za hb; replace HI0 := za hi
                 (try clear hb)
                 (try clear hb2)
                 (try clear hk)
                 (try clear hi)
                 refine hK.out _ _ trivial (fun hHeld => ?_)
                 clear hK K
                 refine norm_ (a' := ?_) ?_ ?_
                 rotate_left
                 ·exact qK11_c5
                 exact norm_ (qK10) (hJ2_5_6_8 (v254, .slice Ao20 y256.length co20, v263) _ ⟨(qK0 HO255.1), (qK0 HO258.1), (qK0 HO264.1), (qK0 HO_3.1), (qK1), (qK3), (qK4)⟩)
              ·skip
               rintro ⟨v254, v257⟩ w19 ⟨h0_, h1_, h2_, h3_, h4_, h5_⟩
               have HO255 : Aside0 (Kd.R (Kd.int .u8) 5 w19 w.heap.size (fun _ => True) v254 y253) := ⟨h0_⟩; have HO258 : Aside0 (Kd.R (Kd.int .i64) 3 w19 w.heap.size (fun _ => True) v257 y256) := ⟨h1_⟩; replace HO_3 : Aside0 (Kd.R k44 44 w19 w.heap.size (fun _ => True) (.slice Ao11 x3_1.length co11) x3_1) := ⟨h2_⟩; replace HI0 : Aside0 (IsS85 w0 w19 g s0_0 t260 t261) := ⟨h3_⟩; replace HK : Aside0 (KeepBut w w19 g none) := ⟨h4_⟩; replace HB : Aside0 (Below w0.heap.size w0 w19) := ⟨h5_⟩; clear h0_ h1_ h2_ h3_ h4_ h5_; have hHeld := trivial
               refine norm_ (a' := ?_) ?_ ?_
               rotate_left
               ·exact qK11_c0
               refine two_ (i := 3) (j := 8) (Ni := some 19) (Nj := some 24) qKb52 qKb78 rfl rfl rfl rfl (two_of HT_.1 (qK18)) (by decide) (by decide) (fun K hK => ?_) (fun K hK => ?_)
               ·skip
                have hcv20 := own_string (P := Try.prog) Try.underlying36 Try.underlying5 Try.underlying9 (Kd.own_of_R HO255.1)
                refine value_ (w1 := ?_) (v := ?_) (by rfl) rfl ?_ ?_
                rotate_left 2
                ·go_simp
                 constructor
                 ·rfl
                 ·rfl
                clear hcv20
                refine hK.out _ _ trivial (fun hHeld => ?_)
                clear hK K
                refine norm_ (a' := ?_) ?_ ?_
                rotate_left
                ·exact qK11_c3
                exact norm_ (qK10) (hJ2_3_5_6 (v254, v257) _ ⟨(qK0 HO255.1), (qK0 HO258.1), (qK0 HO_3.1), (qK1), (qK3), (qK4)⟩)
               ·skip
                refine Kd.R_lit_step (Kd.int .i64) _ 3 ?hg (N := 24) ?hd (xs := ([(-25), (-10), 0, 1, 9, 20, (-1000)] : List Int)) (inner := [.int .i64 (-25), .int .i64 (-10), .int .i64 0, .int .i64 1, .int .i64 9, .int .i64 20, .int .i64 (-1000)]) (ok := fun _ => True) (okp := fun _ => True) ?hr ?hp (fun _ hk => hk) trivial (zr _ _) (zn _) (by simp) ?_; (case hd | hg => rfl); (case hr => exact (qK21)); (case hp => exact (qK19))
                intro v263 w20 ho21 hb hg_ hnew_; clear hg_ hnew_
                (first | rw [← Ny262.1] at ho21 | (simp only [Int.reduceToNat] at ho21; rw [← Ny262.1] at ho21))
                replace HO_3 := za (qK83 HO_3.1); replace HO255 := za (qK83 HO255.1); have HO264 := za (qK91 ho21 HO258.1); replace HO258 := za (qK86 HO258.1 ho21); replace HK := za qK82; replace HB := za (zS (qK4) hb); replace HI0 := za qK93; clear hb ho21
                refine hK.out _ _ trivial (fun hHeld => ?_)
                clear hK K
                refine norm_ (a' := ?_) ?_ ?_
                rotate_left
                ·exact qK11_c1
                exact norm_ (qK10) (hJ2_5_6_8 (v254, v257, v263) _ ⟨(qK0 HO255.1), (qK29 HO258.1), (qK29 HO264.1), (qK0 HO_3.1), (qK1), (qK3), (qK4)⟩)
             ·skip
              rintro ⟨v254, v263⟩ w18 ⟨h0_, h1_, h2_, h3_, h4_, h5_⟩
              have HO255 : Aside0 (Kd.R (Kd.int .u8) 5 w18 w.heap.size (fun _ => True) v254 y253) := ⟨h0_⟩; have HO264 : Aside0 (Kd.R (Kd.int .i64) 3 w18 w.heap.size (fun _ => True) v263 y262) := ⟨h1_⟩; replace HO_3 : Aside0 (Kd.R k44 44 w18 w.heap.size (fun _ => True) (.slice Ao11 x3_1.length co11) x3_1) := ⟨h2_⟩; replace HI0 : Aside0 (IsS85 w0 w18 g s0_0 x1001_1 x1002_1) := ⟨h3_⟩; replace HK : Aside0 (KeepBut w w18 g none) := ⟨h4_⟩; replace HB : Aside0 (Below w0.heap.size w0 w18) := ⟨h5_⟩; clear h0_ h1_ h2_ h3_ h4_ h5_; have hHeld := trivial
              refine norm_ (a' := ?_) ?_ ?_
              rotate_left
              ·exact qK11_c0
              refine one_ (i := 5) (N := some 21) qKb77 rfl rfl (qK88) (by decide) (fun K hK => ?_)
              refine Kd.R_lit_step (Kd.int .i64) _ 3 ?hg (N := 21) ?hd (xs := ([(-30), (-1), 0, 5, 9, 10, 40, 1000] : List Int)) (inner := [.int .i64 (-30), .int .i64 (-1), .int .i64 0, .int .i64 5, .int .i64 9, .int .i64 10, .int .i64 40, .int .i64 1000]) (ok := fun _ => True) (okp := fun _ => True) ?hr ?hp (fun _ hk => hk) trivial (zr _ _) (zn _) (by simp) ?_; (case hd | hg => rfl); (case hr => exact (qK21)); (case hp => exact (qK23))
              intro v257 w19 ho20 hb hg_ hnew_; clear hg_ hnew_
              (first | rw [← Ny256.1] at ho20 | (simp only [Int.reduceToNat] at ho20; rw [← Ny256.1] at ho20))
              replace HO_3 := za (qK83 HO_3.1); replace HO255 := za (qK83 HO255.1); have HO258 := za (qK91 ho20 HO264.1); replace HO264 := za (qK86 HO264.1 ho20); replace HK := za qK82; replace HB := za (zS (qK4) hb); replace HI0 := za qK93; clear hb ho20
              refine hK.out _ _ trivial (fun hHeld => ?_)
              clear hK K
              refine norm_ (a' := ?_) ?_ ?_
              rotate_left
              ·exact qK11_c4
              exact norm_ (qK10) (hJ2_3_5_8 (v254, v257, v263) _ ⟨(qK0 HO255.1), (qK29 HO258.1), (qK29 HO264.1), (qK0 HO_3.1), (qK1), (qK3), (qK4)⟩)
            ·skip
             rintro ⟨v254, v257⟩ w18 ⟨h0_, h1_, h2_, h3_, h4_, h5_⟩
             have HO255 : Aside0 (Kd.R (Kd.int .u8) 5 w18 w.heap.size (fun _ => True) v254 y253) := ⟨h0_⟩; have HO258 : Aside0 (Kd.R (Kd.int .i64) 3 w18 w.heap.size (fun _ => True) v257 y256) := ⟨h1_⟩; replace HO_3 : Aside0 (Kd.R k44 44 w18 w.heap.size (fun _ => True) (.slice Ao11 x3_1.length co11) x3_1) := ⟨h2_⟩; replace HI0 : Aside0 (IsS85 w0 w18 g s0_0 x1001_1 x1002_1) := ⟨h3_⟩; replace HK : Aside0 (KeepBut w w18 g none) := ⟨h4_⟩; replace HB : Aside0 (Below w0.heap.size w0 w18) := ⟨h5_⟩; clear h0_ h1_ h2_ h3_ h4_ h5_; have hHeld := trivial
             refine norm_ (a' := ?_) ?_ ?_
             rotate_left
             ·exact qK11_c0
             refine two_ (i := 6) (j := 8) (Ni := some 22) (Nj := some 24) qKb52 qKb77 rfl rfl rfl rfl (two_of HT_.1 (qK18)) (by decide) (by decide) (fun K hK => ?_) (fun K hK => ?_)
             ·skip
              obtain ⟨Ao19, co19, eo19⟩ := zE HO258.1
              (first | subst eo19 | (injection eo19 with f1_ f2_ f3_; have f4_ := f1_.symm; have f5_ := f3_.symm; clear f1_ f2_ f3_; subst f4_; subst f5_))
              refine goes_ Try.func59 (qK18) rfl #[.pointer (some ⟨g, 0, none⟩), .slice Ao19 y256.length co19] (by rfl) rfl rfl (qK5) ?_
              with_reducible refine (spec_l1Cur_among.calls g s0_0 x1001_1 x1002_1 _ _ y256 t259 t260 t261 w0 _ ?s1 ?s2 ?s3 ?s4 ?s5 A7.1).mono ?_
              (case s1 => exact (qK1))
              (case s2 => exact (qK4))
              (case s3 => exact (qK11 HO258.1))
              (case s4 => exact (qK42 HO258.1))
              (case s5 => exact (qK56 HO258.1))
              rintro e w20 ⟨rfl, hi, hb, hk⟩
              refine ⟨_, rfl, ?_⟩
              replace HO_3 := za (qK81 HO_3.1); replace HO255 := za (qK81 HO255.1); replace HO258 := za (qK81 HO258.1); replace HK := za qK84; replace HB := za hb; replace HI0 := za hi
              (try clear hb)
              (try clear hb2)
              (try clear hk)
              (try clear hi)
              refine hK.out _ _ trivial (fun hHeld => ?_)
              clear hK K
              refine norm_ (a' := ?_) ?_ ?_
              rotate_left
              ·exact qK11_c5
              exact norm_ (qK10) (hJ2_3_5_6 (v254, .slice Ao19 y256.length co19) _ ⟨(qK0 HO255.1), (qK0 HO258.1), (qK0 HO_3.1), (qK1), (qK3), (qK4)⟩)
             ·skip
              refine Kd.R_lit_step (Kd.int .i64) _ 3 ?hg (N := 24) ?hd (xs := ([(-25), (-10), 0, 1, 9, 20, (-1000)] : List Int)) (inner := [.int .i64 (-25), .int .i64 (-10), .int .i64 0, .int .i64 1, .int .i64 9, .int .i64 20, .int .i64 (-1000)]) (ok := fun _ => True) (okp := fun _ => True) ?hr ?hp (fun _ hk => hk) trivial (zr _ _) (zn _) (by simp) ?_; (case hd | hg => rfl); (case hr => exact (qK21)); (case hp => exact (qK19))
              intro v263 w19 ho20 hb hg_ hnew_; clear hg_ hnew_
              (first | rw [← Ny262.1] at ho20 | (simp only [Int.reduceToNat] at ho20; rw [← Ny262.1] at ho20))
              replace HO_3 := za (qK83 HO_3.1); replace HO255 := za (qK83 HO255.1); have HO264 := za (qK91 ho20 HO258.1); replace HO258 := za (qK86 HO258.1 ho20); replace HK := za qK82; replace HB := za (zS (qK4) hb); replace HI0 := za qK93; clear hb ho20
              refine hK.out _ _ trivial (fun hHeld => ?_)
              clear hK K
              refine norm_ (a' := ?_) ?_ ?_
              rotate_left
              ·exact qK11_c1
              exact norm_ (qK10) (hJ2_3_5_8 (v254, v257, v263) _ ⟨(qK0 HO255.1), (qK29 HO258.1), (qK29 HO264.1), (qK0 HO_3.1), (qK1), (qK3), (qK4)⟩)
           ·skip
            rintro ⟨v257, v263⟩ w21 ⟨h0_, h1_, h2_, h3_, h4_, h5_⟩
            have HO258 : Aside0 (Kd.R (Kd.int .i64) 3 w21 w.heap.size (fun k_ => some k_ ≠ (v263 : Value).ownBlock) v257 y256) := ⟨h0_⟩; have HO264 : Aside0 (Kd.R (Kd.int .i64) 3 w21 w.heap.size (fun k_ => some k_ ≠ (v257 : Value).ownBlock) v263 y262) := ⟨h1_⟩; replace HO_3 : Aside0 (Kd.R k44 44 w21 w.heap.size (fun _ => True) (.slice Ao11 x3_1.length co11) x3_1) := ⟨h2_⟩; replace HI0 : Aside0 (IsS85 w0 w21 g s0_0 t266 t267) := ⟨h3_⟩; replace HK : Aside0 (KeepBut w w21 g none) := ⟨h4_⟩; replace HB : Aside0 (Below w0.heap.size w0 w21) := ⟨h5_⟩; clear h0_ h1_ h2_ h3_ h4_ h5_; have hHeld := trivial
            refine norm_ (a' := ?_) ?_ ?_
            rotate_left
            ·exact qK11_c0
            refine one_ (i := 2) (N := some 18) qKb76 rfl rfl (qK88) (by decide) (fun K hK => ?_)
            refine Kd.R_lit_step (Kd.int .u8) _ 5 ?hg (N := 18) ?hd (xs := ([x4_1] : List Int)) (inner := [.int .u8 x4_1]) (ok := fun _ => True) (okp := fun _ => True) ?hr ?hp (fun _ hk => hk) trivial (zr _ _) (zn _) (by simp) ?_; (case hd | hg => rfl); (case hr => exact (qK21)); (case hp => exact (qK53))
            intro v254 w22 ho23 hb hg_ hnew_; clear hg_ hnew_
            (first | rw [← Ny253.1] at ho23 | (simp only [Int.reduceToNat] at ho23; rw [← Ny253.1] at ho23))
            replace HO_3 := za (qK83 HO_3.1); replace HO258 := za (qK83 HO258.1); replace HO264 := za (qK83 HO264.1); have HO255 := za (qK89 ho23); replace HK := za qK82; replace HB := za (zS (qK4) hb); replace HI0 := za qK93; clear hb ho23
            refine hK.out _ _ trivial (fun hHeld => ?_)
            clear hK K
            refine norm_ (a' := ?_) ?_ ?_
            rotate_left
            ·exact qK11_c2
            exact norm_ (qK10) (hJ2_5_6_8_9 (v254, v257, v263) _ ⟨(qK0 HO255.1), (qK0 HO258.1), (qK0 HO264.1), (qK0 HO_3.1), (qK1), (qK3), (qK4)⟩)
          ·skip
           rintro ⟨v254, v257, v263⟩ w21 ⟨h0_, h1_, h2_, h3_, h4_, h5_, h6_⟩
           have HO255 : Aside0 (Kd.R (Kd.int .u8) 5 w21 w.heap.size (fun _ => True) v254 y253) := ⟨h0_⟩; have HO258 : Aside0 (Kd.R (Kd.int .i64) 3 w21 w.heap.size (fun k_ => some k_ ≠ (v263 : Value).ownBlock) v257 y256) := ⟨h1_⟩; have HO264 : Aside0 (Kd.R (Kd.int .i64) 3 w21 w.heap.size (fun k_ => some k_ ≠ (v257 : Value).ownBlock) v263 y262) := ⟨h2_⟩; replace HO_3 : Aside0 (Kd.R k44 44 w21 w.heap.size (fun _ => True) (.slice Ao11 x3_1.length co11) x3_1) := ⟨h3_⟩; replace HI0 : Aside0 (IsS85 w0 w21 g s0_0 t260 t261) := ⟨h4_⟩; replace HK : Aside0 (KeepBut w w21 g none) := ⟨h5_⟩; replace HB : Aside0 (Below w0.heap.size w0 w21) := ⟨h6_⟩; clear h0_ h1_ h2_ h3_ h4_ h5_ h6_; have hHeld := trivial
           refine norm_ (a' := ?_) ?_ ?_
           rotate_left
           ·exact qK11_c0
           refine two_ (i := 3) (j := 9) (Ni := some 19) (Nj := some 25) qKb53 qKb76 rfl rfl rfl rfl (two_of HT_.1 (qK18)) (by decide) (by decide) (fun K hK => ?_) (fun K hK => ?_)
           ·skip
            have hcv22 := own_string (P := Try.prog) Try.underlying36 Try.underlying5 Try.underlying9 (Kd.own_of_R HO255.1)
            refine value_ (w1 := ?_) (v := ?_) (by rfl) rfl ?_ ?_
            rotate_left 2
            ·go_simp
             constructor
             ·rfl
             ·rfl
            clear hcv22
            refine hK.out _ _ trivial (fun hHeld => ?_)
            clear hK K
            refine norm_ (a' := ?_) ?_ ?_
            rotate_left
            ·exact qK11_c3
            exact norm_ (qK10) (hJ2_3_5_6_8 (v254, v257, v263) _ ⟨(qK0 HO255.1), (qK0 HO258.1), (qK0 HO264.1), (qK0 HO_3.1), (qK1), (qK3), (qK4)⟩)
           ·skip
            obtain ⟨Ao22, co22, eo22⟩ := zE HO264.1
            (first | subst eo22 | (injection eo22 with f1_ f2_ f3_; have f4_ := f1_.symm; have f5_ := f3_.symm; clear f1_ f2_ f3_; subst f4_; subst f5_))
            refine goes_ Try.func59 (qK18) rfl #[.pointer (some ⟨g, 0, none⟩), .slice Ao22 y262.length co22] (by rfl) rfl rfl (qK5) ?_
            with_reducible refine (spec_l1Cur_among.calls g s0_0 t260 t261 _ _ y262 t265 t266 t267 w0 _ ?s1 ?s2 ?s3 ?s4 ?s5 A8.1).mono ?_
            (case s1 => exact (qK1))
            (case s2 => exact (qK4))
            (case s3 => exact (qK11 HO264.1))
            (case s4 => exact (qK42 HO264.1))
            (case s5 => exact (qK56 HO264.1))
            rintro e w23 ⟨rfl, hi, hb, hk⟩
            refine ⟨_, rfl, ?_⟩
            replace HO_3 := za (qK81 HO_3.1); replace HO255 := za (qK81 HO255.1); replace HO258 := za (qK81 HO258.1); replace HO264 := za (qK81 HO264.1); replace HK := za qK84; replace HB := za hb; replace HI0 := za hi
            (try clear hb)
            (try clear hb2)
            (try clear hk)
            (try clear hi)
            refine hK.out _ _ trivial (fun hHeld => ?_)
            clear hK K
            refine norm_ (a' := ?_) ?_ ?_
            rotate_left
            ·exact qK11_c7
            exact norm_ (qK10) (hJ2_5_6_8_9 (v254, v257, .slice Ao22 y262.length co22) _ ⟨(qK0 HO255.1), (qK0 HO258.1), (qK0 HO264.1), (qK0 HO_3.1), (qK1), (qK3), (qK4)⟩)
         ·skip
          rintro ⟨v254, v257, v263⟩ w20 ⟨h0_, h1_, h2_, h3_, h4_, h5_, h6_⟩
          have HO255 : Aside0 (Kd.R (Kd.int .u8) 5 w20 w.heap.size (fun _ => True) v254 y253) := ⟨h0_⟩; have HO258 : Aside0 (Kd.R (Kd.int .i64) 3 w20 w.heap.size (fun k_ => some k_ ≠ (v263 : Value).ownBlock) v257 y256) := ⟨h1_⟩; have HO264 : Aside0 (Kd.R (Kd.int .i64) 3 w20 w.heap.size (fun k_ => some k_ ≠ (v257 : Value).ownBlock) v263 y262) := ⟨h2_⟩; replace HO_3 : Aside0 (Kd.R k44 44 w20 w.heap.size (fun _ => True) (.slice Ao11 x3_1.length co11) x3_1) := ⟨h3_⟩; replace HI0 : Aside0 (IsS85 w0 w20 g s0_0 x1001_1 x1002_1) := ⟨h4_⟩; replace HK : Aside0 (KeepBut w w20 g none) := ⟨h5_⟩; replace HB : Aside0 (Below w0.heap.size w0 w20) := ⟨h6_⟩; clear h0_ h1_ h2_ h3_ h4_ h5_ h6_; have hHeld := trivial; obtain ⟨Ao21, co21, eo21⟩ := zE HO258.1
          (first | subst eo21 | (injection eo21 with f1_ f2_ f3_; have f4_ := f1_.symm; have f5_ := f3_.symm; clear f1_ f2_ f3_; subst f4_; subst f5_))
          refine norm_ (a' := ?_) ?_ ?_
          rotate_left
          ·exact qK11_c0
          refine one_ (i := 6) (N := some 22) qKb53 rfl rfl (qK88) (by decide) (fun K hK => ?_)
          refine goes_ Try.func59 (qK18) rfl #[.pointer (some ⟨g, 0, none⟩), .slice Ao21 y256.length co21] (by rfl) rfl rfl (qK5) ?_
          with_reducible refine (spec_l1Cur_among.calls g s0_0 x1001_1 x1002_1 _ _ y256 t259 t260 t261 w0 _ ?s1 ?s2 ?s3 ?s4 ?s5 A7.1).mono ?_
          (case s1 => exact (qK1))
          (case s2 => exact (qK4))
          (case s3 => exact (qK11 HO258.1))
          (case s4 => exact (qK42 HO258.1))
          (case s5 => exact (qK56 HO258.1))
          rintro e w22 ⟨rfl, hi, hb, hk⟩
          refine ⟨_, rfl, ?_⟩
          replace HO_3 := za (qK81 HO_3.1); replace HO255 := za (qK81 HO255.1); replace HO258 := za (qK81 HO258.1); replace HO264 := za (qK81 HO264.1); replace HK := za qK84; replace HB := za hb; replace HI0 := za hi
          (try clear hb)
          (try clear hb2)
          (try clear hk)
          (try clear hi)
          refine hK.out _ _ trivial (fun hHeld => ?_)
          clear hK K
          refine norm_ (a' := ?_) ?_ ?_
          rotate_left
          ·exact qK11_c5
          exact norm_ (qK10) (hJ2_3_5_6_8 (v254, .slice Ao21 y256.length co21, v263) _ ⟨(qK0 HO255.1), (qK0 HO258.1), (qK0 HO264.1), (qK0 HO_3.1), (qK1), (qK3), (qK4)⟩)
        ·skip
         rintro ⟨v254, v257⟩ w20 ⟨h0_, h1_, h2_, h3_, h4_, h5_⟩
         have HO255 : Aside0 (Kd.R (Kd.int .u8) 5 w20 w.heap.size (fun _ => True) v254 y253) := ⟨h0_⟩; have HO258 : Aside0 (Kd.R (Kd.int .i64) 3 w20 w.heap.size (fun _ => True) v257 y256) := ⟨h1_⟩; replace HO_3 : Aside0 (Kd.R k44 44 w20 w.heap.size (fun _ => True) (.slice Ao11 x3_1.length co11) x3_1) := ⟨h2_⟩; replace HI0 : Aside0 (IsS85 w0 w20 g s0_0 t260 t261) := ⟨h3_⟩; replace HK : Aside0 (KeepBut w w20 g none) := ⟨h4_⟩; replace HB : Aside0 (Below w0.heap.size w0 w20) := ⟨h5_⟩; clear h0_ h1_ h2_ h3_ h4_ h5_; have hHeld := trivial
         refine norm_ (a' := ?_) ?_ ?_
         rotate_left
         ·exact qK11_c0
         refine one_ (i := 8) (N := some 24) qKb53 rfl rfl (qK88) (by decide) (fun K hK => ?_)
         refine Kd.R_lit_step (Kd.int .i64) _ 3 ?hg (N := 24) ?hd (xs := ([(-25), (-10), 0, 1, 9, 20, (-1000)] : List Int)) (inner := [.int .i64 (-25), .int .i64 (-10), .int .i64 0, .int .i64 1, .int .i64 9, .int .i64 20, .int .i64 (-1000)]) (ok := fun _ => True) (okp := fun _ => True) ?hr ?hp (fun _ hk => hk) trivial (zr _ _) (zn _) (by simp) ?_; (case hd | hg => rfl); (case hr => exact (qK21)); (case hp => exact (qK19))
         intro v263 w21 ho22 hb hg_ hnew_; clear hg_ hnew_
         (first | rw [← Ny262.1] at ho22 | (simp only [Int.reduceToNat] at ho22; rw [← Ny262.1] at ho22))
         replace HO_3 := za (qK83 HO_3.1); replace HO255 := za (qK83 HO255.1); have HO264 := za (qK91 ho22 HO258.1); replace HO258 := za (qK86 HO258.1 ho22); replace HK := za qK82; replace HB := za (zS (qK4) hb); replace HI0 := za qK93; clear hb ho22
         refine hK.out _ _ trivial (fun hHeld => ?_)
         clear hK K
         refine norm_ (a' := ?_) ?_ ?_
         rotate_left
         ·exact qK11_c1
         exact norm_ (qK10) (hJ2_3_5_6_8 (v254, v257, v263) _ ⟨(qK0 HO255.1), (qK29 HO258.1), (qK29 HO264.1), (qK0 HO_3.1), (qK1), (qK3), (qK4)⟩)
       ·skip
        rintro ⟨v254, v257, v263⟩ w23 ⟨h0_, h1_, h2_, h3_, h4_, h5_, h6_⟩
        have HO255 : Aside0 (Kd.R (Kd.int .u8) 5 w23 w.heap.size (fun _ => True) v254 y253) := ⟨h0_⟩; have HO258 : Aside0 (Kd.R (Kd.int .i64) 3 w23 w.heap.size (fun k_ => some k_ ≠ (v263 : Value).ownBlock) v257 y256) := ⟨h1_⟩; have HO264 : Aside0 (Kd.R (Kd.int .i64) 3 w23 w.heap.size (fun k_ => some k_ ≠ (v257 : Value).ownBlock) v263 y262) := ⟨h2_⟩; replace HO_3 : Aside0 (Kd.R k44 44 w23 w.heap.size (fun _ => True) (.slice Ao11 x3_1.length co11) x3_1) := ⟨h3_⟩; replace HI0 : Aside0 (IsS85 w0 w23 g s0_0 t266 t267) := ⟨h4_⟩; replace HK : Aside0 (KeepBut w w23 g none) := ⟨h5_⟩; replace HB : Aside0 (Below w0.heap.size w0 w23) := ⟨h6_⟩; clear h0_ h1_ h2_ h3_ h4_ h5_ h6_; have hHeld := trivial
        refine norm_ (a' := ?_) ?_ ?_
        rotate_left
        ·exact qK11_c0
        refine one_ (i := 3) (N := some 19) qKb75 rfl rfl (qK88) (by decide) (fun K hK => ?_)
        have hcv24 := own_string (P := Try.prog) Try.underlying36 Try.underlying5 Try.underlying9 (Kd.own_of_R HO255.1)
        refine value_ (w1 := ?_) (v := ?_) (by rfl) rfl ?_ ?_
        rotate_left 2
        ·go_simp
         constructor
         ·rfl
         ·rfl
        clear hcv24
        refine hK.out _ _ trivial (fun hHeld => ?_)
        clear hK K
        refine norm_ (a' := ?_) ?_ ?_
        rotate_left
        ·exact qK11_c3
        exact norm_ (qK10) (hJ2_3_5_6_8_9 (v254, v257, v263) _ ⟨(qK0 HO255.1), (qK0 HO258.1), (qK0 HO264.1), (qK0 HO_3.1), (qK1), (qK3), (qK4)⟩)
      ·skip
       rintro ⟨v254, v257, v263⟩ w22 ⟨h0_, h1_, h2_, h3_, h4_, h5_, h6_⟩
       have HO255 : Aside0 (Kd.R (Kd.int .u8) 5 w22 w.heap.size (fun _ => True) v254 y253) := ⟨h0_⟩; have HO258 : Aside0 (Kd.R (Kd.int .i64) 3 w22 w.heap.size (fun k_ => some k_ ≠ (v263 : Value).ownBlock) v257 y256) := ⟨h1_⟩; have HO264 : Aside0 (Kd.R (Kd.int .i64) 3 w22 w.heap.size (fun k_ => some k_ ≠ (v257 : Value).ownBlock) v263 y262) := ⟨h2_⟩; replace HO_3 : Aside0 (Kd.R k44 44 w22 w.heap.size (fun _ => True) (.slice Ao11 x3_1.length co11) x3_1) := ⟨h3_⟩; replace HI0 : Aside0 (IsS85 w0 w22 g s0_0 t260 t261) := ⟨h4_⟩; replace HK : Aside0 (KeepBut w w22 g none) := ⟨h5_⟩; replace HB : Aside0 (Below w0.heap.size w0 w22) := ⟨h6_⟩; clear h0_ h1_ h2_ h3_ h4_ h5_ h6_; have hHeld := trivial; obtain ⟨Ao23, co23, eo23⟩ := zE HO264.1
       (first | subst eo23 | (injection eo23 with f1_ f2_ f3_; have f4_ := f1_.symm; have f5_ := f3_.symm; clear f1_ f2_ f3_; subst f4_; subst f5_))
       refine norm_ (a' := ?_) ?_ ?_
       rotate_left
       ·exact qK11_c0
       refine one_ (i := 9) (N := some 25) qKb75 rfl rfl (qK88) (by decide) (fun K hK => ?_)
       refine goes_ Try.func59 (qK18) rfl #[.pointer (some ⟨g, 0, none⟩), .slice Ao23 y262.length co23] (by rfl) rfl rfl (qK5) ?_
       with_reducible refine (spec_l1Cur_among.calls g s0_0 t260 t261 _ _ y262 t265 t266 t267 w0 _ ?s1 ?s2 ?s3 ?s4 ?s5 A8.1).mono ?_
       (case s1 => exact (qK1))
       (case s2 => exact (qK4))
       (case s3 => exact (qK11 HO264.1))
       (case s4 => exact (qK42 HO264.1))
       (case s5 => exact (qK56 HO264.1))
       rintro e w24 ⟨rfl, hi, hb, hk⟩
       refine ⟨_, rfl, ?_⟩
       replace HO_3 := za (qK81 HO_3.1); replace HO255 := za (qK81 HO255.1); replace HO258 := za (qK81 HO258.1); replace HO264 := za (qK81 HO264.1); replace HK := za qK84; replace HB := za hb; replace HI0 := za hi
       (try clear hb)
       (try clear hb2)
       (try clear hk)
       (try clear hi)
       refine hK.out _ _ trivial (fun hHeld => ?_)
       clear hK K
       refine norm_ (a' := ?_) ?_ ?_
       rotate_left
       ·exact qK11_c7
       exact norm_ (qK10) (hJ2_3_5_6_8_9 (v254, v257, .slice Ao23 y262.length co23) _ ⟨(qK0 HO255.1), (qK0 HO258.1), (qK0 HO264.1), (qK0 HO_3.1), (qK1), (qK3), (qK4)⟩)
     rintro ⟨v254, v257, v263⟩ w24 ⟨h0_, h1_, h2_, h3_, h4_, h5_, h6_⟩
     have HO255 : Aside0 (Kd.R (Kd.int .u8) 5 w24 w.heap.size (fun _ => True) v254 y253) := ⟨h0_⟩; have HO258 : Aside0 (Kd.R (Kd.int .i64) 3 w24 w.heap.size (fun k_ => some k_ ≠ (v263 : Value).ownBlock) v257 y256) := ⟨h1_⟩; have HO264 : Aside0 (Kd.R (Kd.int .i64) 3 w24 w.heap.size (fun k_ => some k_ ≠ (v257 : Value).ownBlock) v263 y262) := ⟨h2_⟩; replace HO_3 : Aside0 (Kd.R k44 44 w24 w.heap.size (fun _ => True) (.slice Ao11 x3_1.length co11) x3_1) := ⟨h3_⟩; replace HI0 : Aside0 (IsS85 w0 w24 g s0_0 t266 t267) := ⟨h4_⟩; replace HK : Aside0 (KeepBut w w24 g none) := ⟨h5_⟩; replace HB : Aside0 (Below w0.heap.size w0 w24) := ⟨h6_⟩; clear h0_ h1_ h2_ h3_ h4_ h5_ h6_; have hHeld := trivial
     refine norm_ (a' := ?_) ?_ ?_
     rotate_left
     ·exact qK11_c0
     refine pure_ (i := 10) (N := some 26) (v := ?_) (a' := ?_) qKb55 rfl rfl (qK9) (fun _ _ _ h => h) (zU ⟨by rfl, ?_⟩) ?_ ?_
     rotate_left
     ·intro w'
      go_simp
      with_reducible rfl
     rotate_left
     ·exact qK11_c6
     refine one_ (i := 11) (N := some 27) qKb56 rfl rfl (qK88) (by decide) (fun K hK => ?_)
     refine value_ (w1 := ?_) (v := ?_) (by rfl) rfl ?_ ?_
     rotate_left 2
     ·go_simp
      constructor
      ·rfl
      ·rfl
     refine hK.out _ _ trivial (fun hHeld => ?_)
     clear hK K
     refine norm_ (a' := ?_) ?_ ?_
     rotate_left
     ·show Act.put _ (some 27) _ = _
      simp only [Act.put, yb, yc, yd, i64_w, i32_w]
      rfl
     refine one_ (i := 12) (N := some 28) qKb57 rfl rfl (qK88) (by decide) (fun K hK => ?_)
     refine Kd.R_append_step k44 w.heap.size (by rfl) (.tmp 16) (.tmp 27) 26 44 (.agg #[(.string ⟨#[]⟩), (.int .i64 0), (.int .i64 0)]) 32 rfl Try.underlying26 info44 rfl (by decide) (by omega) (.slice Ao11 x3_1.length co11) x3_1 (⟨strOfNums y253, t259, t265⟩ : S44) [.string (strOfNums y253), .int .i64 t259, .int .i64 t265] (fun _ => True) (fun _ => False) rfl rfl ?aP (fun _ hk => hk.elim) ?aF ?aO (zr _ _) ?aS ?aL ?_
     (case aP => exact (by exact k44_mkM _ _ _ (⟨strOfNums y253, t259, t265⟩ : S44)))
     (case aF => exact (fun _ _ => trivial))
     (case aO => exact (qK0 HO_3.1))
     (case aS => exact (by exact (keep_size (w := w) (g := g) (row := none) (qK3))))
     (case aL => have := LMc9.1; omega)
     intro v269 w25 ho hb hg hat; rw [← Ny268.1] at ho; replace HO255 := za (qK94 HO255.1 HO_3.1); replace HO258 := za (qK94 HO258.1 HO_3.1); replace HO264 := za (qK94 HO264.1 HO_3.1); replace HB := za (below_weaken (qK4) HL.1 hb); replace HI0 := za (by exact IsS85.grown (show IsS85 w0 _ g _ _ _ from (qK1)) hg (IsS85.own_ne HI0.1 HO_3.1 (by decide))); replace HK := za (by exact zz (qK3) (KeepBut.of_grown hg g) (Kd.R_base2 HO_3.1)); have HO270 := za ho; clear HO_3; clear ho hb hg hat
     refine hK.out _ _ trivial (fun hHeld => ?_)
     clear hK K
     refine norm_ (a' := ?_) ?_ ?_
     rotate_left
     ·show Act.put _ (some 28) _ = _
      simp only [Act.put, yb, yc, yd, i64_w, i32_w]
      rfl
     refine pure_ (i := 13) (N := some 3) (v := ?_) (a' := ?_) qKb58 rfl rfl (qK9) (fun _ _ _ h => h) (zU ⟨by rfl, ?_⟩) ?_ ?_
     rotate_left
     ·intro w'
      go_simp
      with_reducible rfl
     rotate_left
     ·exact qK11_c6
     refine done_ (qK101) ?_
     try go_wp2_with (first | ((with_reducible refine zo (f := 60) rfl ?_); refine zR (some 31) rfl rfl Try.func60 (qK18) rfl #[.pointer (some ⟨g, 0, none⟩), .int .i64 3] rfl (qK5) ?_; (with_reducible refine (spec_l1Cur_pick.calls g s0_0 t266 t267 3 t271 t272 t273 w0 _ ?s1 ?s2 A10.1).mono ?_); (case s1 => exact (qK1)); (case s2 => exact (qK4)); rintro e w26 ⟨rfl, hi, hb, hk⟩; refine ⟨_, rfl, ?_⟩; replace HO255 := za (qK81 HO255.1); replace HO258 := za (qK81 HO258.1); replace HO264 := za (qK81 HO264.1); replace HO270 := za (qK81 HO270.1); replace HK := za qK84; replace HB := za hb; replace HI0 := za hi; clear hb hk hi))
     go_roundg k1
     case measure => have := HK1.1; omega
     case rel => exact ⟨(y268), ((x4_1 + ((wrap64 (1 + t271)) % 256)) % 256), (wrap64 (x5_1 - 1)), (t272), (t273), (qK17), (qK17), H', ⟨by have := HK1.1; omega⟩, ⟨(qK0 HO270.1)⟩, ⟨(qK1)⟩, ⟨(qK3)⟩, ⟨(qK4)⟩⟩
    ·rw [zY c9] at H
     exact zM H (by simp)
   ·rw [zY c6] at H; have c6b0 : decide (0 < x5_1) = false := zu c6; clear c6
    by_cases c27 : (x3_1.length : Int) = 0
    ·rw [zX c27] at H; have c27b0 : ((x3_1.length : Int) == 0) = true := zP c27; have c27b1 : ((x3_1.length : Int) != 0) = false := zx c27; clear c27; simp only [zZ, ya] at H; obtain ⟨rfl, rfl, rfl⟩ := H; obtain ⟨Ao28, co28, eo28⟩ := zE HO_3.1; subst eo28
     go_wp2
     go_ret
     exact ⟨_, (qK15), (qK0 HO_3.1), (qK1), (qK4), (qK3)⟩
    ·rw [zY c27] at H; have c27b0 : ((x3_1.length : Int) == 0) = false := zw c27; have c27b1 : ((x3_1.length : Int) != 0) = true := zQ c27; have c27b2 : ¬ (x3_1 = []) := fun h_ => c27 (by rw [h_]; rfl); replace H := bindA H; obtain ⟨⟨t274, t275, t276⟩, A29, H⟩ := H; (try dsimp only at H)
     by_cases c30 : 0 ≤ t274
     ·rw [zX c30] at H; have c30b0 : decide (0 ≤ t274) = true := zc c30; clear c30
      by_cases c31 : t274 < (x3_1.length : Int)
      ·rw [zX c31] at H; have c31b0 : decide (t274 < (x3_1.length : Int)) = true := zc c31; clear c31; replace H := bindA H; obtain ⟨⟨t279, t280, t281⟩, A32, H⟩ := H; (try dsimp only at H)
       by_cases c33 : t279 = 0
       ·rw [zX c33] at H; have c33b0 : (t279 == 0) = true := zP c33; have c33b1 : (t279 != 0) = false := zx c33; clear c33; obtain ⟨y282, hy282⟩ : ∃ y_ : List ByteArray, y_ = (([(⟨#[]⟩ : ByteArray), (⟨#[97]⟩ : ByteArray), (⟨#[65, 66]⟩ : ByteArray), (⟨#[65]⟩ : ByteArray)] : List ByteArray)) := ⟨_, rfl⟩; replace H : ((spec_l1Cur_of.f s0_0 t280 t281 y282).bind fun bt285 => (some ((x3_1.set (t274 : Int).toNat (⟨bt285.1, (rd_T44 x3_1 t274).f1, (rd_T44 x3_1 t274).f2⟩ : S44)), bt285.2.1, bt285.2.2))) = some (r1, r2, r3) := (qK7 hy282); have Ny282 := za hy282; clear hy282; replace H := bindA H; obtain ⟨⟨t285, t286, t287⟩, A34, H⟩ := H; (try dsimp only at H); obtain ⟨y288, hy288⟩ : ∃ y_ : List (S44), y_ = (x3_1.set (t274 : Int).toNat (⟨t285, (rd_T44 x3_1 t274).f1, (rd_T44 x3_1 t274).f2⟩ : S44)) := ⟨_, rfl⟩; replace H : (some (y288, t286, t287)) = some (r1, r2, r3) := (qK7 hy288); have Ny288 := za hy288; clear hy288; simp only [zZ, ya] at H; obtain ⟨rfl, rfl, rfl⟩ := H; obtain ⟨Ao36, co36, eo36⟩ := zE HO_3.1; subst eo36
        go_wp2_with (first | ((with_reducible refine zo (f := 60) rfl ?_); refine zR (some 42) rfl rfl Try.func60 (qK18) rfl #[.pointer (some ⟨g, 0, none⟩), .int .i64 (x3_1.length : Int)] rfl (qK5) ?_; (with_reducible refine (spec_l1Cur_pick.calls g s0_0 x1001_1 x1002_1 (x3_1.length : Int) t274 t275 t276 w0 _ ?s1 ?s2 A29.1).mono ?_); (case s1 => exact (qK1)); (case s2 => exact (qK4)); rintro e w37 ⟨rfl, hi, hb, hk⟩; refine ⟨_, rfl, ?_⟩; replace HO_3 := za (qK81 HO_3.1); replace HK := za qK84; replace HB := za hb; replace HI0 := za hi; clear hb hk hi; have p277 : 0 ≤ (t274 : Int) := zb (qK12); have q277 : t274 < (x3_1.length : Int) := zb (qK12); obtain ⟨ad277, e277, hx277_0, hx277_1, hx277_2⟩ := at_T44 (zD HO_3.1).2.2 t274 p277 q277; cases e277; replace p277 := zv p277; replace q277 := zv q277) | ((with_reducible refine zp (N := 7) rfl ?_); refine zA ?hg (N := 7) ?hd (cs := #[.string (⟨#[]⟩ : ByteArray), .int .i64 0, .int .i64 0]) (t := 44) ?hr ?_; (case hd | hg => rfl); (case hr => exact (qK21)); intro gb278 hg w38 hbox hb; replace HO_3 := za qK103; replace HB := za (zS (qK4) hb); have BK278 := za hbox; have GW278 := za qK98; have GE278 := za qK95; replace HK := za qK82; have NB0_278 := za qK96; have NB278_0 := za qK97; replace HI0 := za qK93; clear hb hbox hg; have hnb39 := NB278_0.1; have hnc39 := NB0_278.1; have hcz40_0 : w38.cell? ⟨gb278, 0, none⟩ = some (.string (⟨#[]⟩ : ByteArray)) := (blk_cell BK278.1 0).trans rfl; have hcz40_1 : w38.cell? ⟨gb278, 1, none⟩ = some (.int .i64 0) := (blk_cell BK278.1 1).trans rfl; have hcz40_2 : w38.cell? ⟨gb278, 2, none⟩ = some (.int .i64 0) := (blk_cell BK278.1 2).trans rfl; have hfz40_0 := ze BK278.1 0; have hfz40_1 := ze BK278.1 1; have hfz40_2 := ze BK278.1 2) | ((with_reducible refine zo (f := 60) rfl ?_); refine zR (some 48) rfl rfl Try.func60 (qK18) rfl #[.pointer (some ⟨g, 0, none⟩), .int .i64 50] rfl (qK5) ?_; (with_reducible refine (spec_l1Cur_pick.calls g s0_0 t275 t276 50 t279 t280 t281 w0 _ ?s1 ?s2 A32.1).mono ?_); (case s1 => exact (qK8)); (case s2 => exact (qK14)); rintro e w41 ⟨rfl, hi, hb, hk⟩; refine ⟨_, rfl, ?_⟩; replace HO_3 := za (zF (zI (IsS85.apart (show IsS85 w0 _ g s0_0 t275 t276 from (qK8)) (qK30) (by decide)) hk (fun _ h => h.2)) (fun _ h => h.1)); replace BK278 := za (zy hk (g' := gb278) (o := .cells #[.string ((rd_T44 x3_1 t274).f0), .int .i64 ((rd_T44 x3_1 t274).f1), .int .i64 ((rd_T44 x3_1 t274).f2)] 44 (0, 0)) (qK24) NB278_0.1 (by simp)); replace HK := za (zz (qK13) hk (.inl rfl)); replace HB := za hb; replace HI0 := za hi; clear hb hk hi) | ((with_reducible refine zp (N := 52) rfl ?_); refine zL Kd.string _ 9 ?hg (N := 52) ?hd (xs := ([(⟨#[]⟩ : ByteArray), (⟨#[97]⟩ : ByteArray), (⟨#[65, 66]⟩ : ByteArray), (⟨#[65]⟩ : ByteArray)] : List ByteArray)) (inner := [.string (⟨#[]⟩ : ByteArray), .string (⟨#[97]⟩ : ByteArray), .string (⟨#[65, 66]⟩ : ByteArray), .string (⟨#[65]⟩ : ByteArray)]) (ok := fun _ => True) (okp := fun _ => True) ?hr ?hp (fun _ hk => hk) trivial (zr _ _) (zn _) (by simp) ?_; (case hd | hg => rfl); (case hr => exact (qK21)); (case hp => exact (by exact (zs (show Kd.M Kd.string _ _ _ (⟨#[]⟩ : ByteArray) [.string (⟨#[]⟩ : ByteArray)] from rfl) (zs (show Kd.M Kd.string _ _ _ (⟨#[97]⟩ : ByteArray) [.string (⟨#[97]⟩ : ByteArray)] from rfl) (zs (show Kd.M Kd.string _ _ _ (⟨#[65, 66]⟩ : ByteArray) [.string (⟨#[65, 66]⟩ : ByteArray)] from rfl) (zs (show Kd.M Kd.string _ _ _ (⟨#[65]⟩ : ByteArray) [.string (⟨#[65]⟩ : ByteArray)] from rfl) (zt _ _))))))); intro v283 w42 ho43 hb hg_ hnew_; clear hg_ hnew_; (first | rw [← Ny282.1] at ho43 | (simp only [Int.reduceToNat] at ho43; rw [← Ny282.1] at ho43)); replace HO_3 := za (qK83 HO_3.1); have HO284 := za (zK ho43 (keep_size (w := w) (g := g) (row := none) (qK13))); replace BK278 := za (zk (qB BK278.1) hb); replace HK := za (zz (qK13) (zN hb g none) (.inl rfl)); replace HB := za (zS (qK14) hb); replace HI0 := za (IsS85.below (qK8) hb); clear hb ho43; obtain ⟨Ao44, co44, eo44⟩ := zE HO284.1; subst eo44) | ((with_reducible refine zo (f := 66) rfl ?_); refine zR (some 53) rfl rfl Try.func66 (qK18) rfl #[.pointer (some ⟨g, 0, none⟩), .slice Ao44 y282.length co44] rfl (qK5) ?_; (with_reducible refine (spec_l1Cur_of.calls g s0_0 t280 t281 _ _ y282 t285 t286 t287 w0 _ ?s1 ?s2 ?s3 ?s4 ?s5 A34.1).mono ?_); (case s1 => exact (qK8)); (case s2 => exact (qK14)); (case s3 => exact (qK11 HO284.1)); (case s4 => exact (qK42 HO284.1)); (case s5 => exact (qK56 HO284.1)); rintro e w45 ⟨rfl, hi, hb, hk⟩; refine ⟨_, rfl, ?_⟩; replace HO_3 := za (zF (zI (IsS85.apart (show IsS85 w0 _ g s0_0 t280 t281 from (qK8)) (qK0 HO_3.1) (by decide)) hk (fun _ h => h.2)) (fun _ h => h.1)); replace BK278 := za qK62; replace HO284 := za (zF (zI (IsS85.apart (show IsS85 w0 _ g s0_0 t280 t281 from (qK8)) (qK0 HO284.1) (by decide)) hk (fun _ h => h.2)) (fun _ h => h.1)); replace HK := za (zz (qK13) hk (.inl rfl)); replace HB := za hb; replace HI0 := za hi; clear hb hk hi; have hcz46_0 : w45.cell? ⟨gb278, 0, none⟩ = some (.string ((rd_T44 x3_1 t274).f0)) := (blk_cell BK278.1 0).trans rfl; have hcz46_1 : w45.cell? ⟨gb278, 1, none⟩ = some (.int .i64 ((rd_T44 x3_1 t274).f1)) := (blk_cell BK278.1 1).trans rfl; have hcz46_2 : w45.cell? ⟨gb278, 2, none⟩ = some (.int .i64 ((rd_T44 x3_1 t274).f2)) := (blk_cell BK278.1 2).trans rfl; have hfz46_0 := ze BK278.1 0; have hfz46_1 := ze BK278.1 1; have hfz46_2 := ze BK278.1 2) | ((with_reducible refine gate_store (t := 9) (p := 54) rfl ?_); refine store_event (t := 9) (p := 54) (v := ?vo_w47) (w1 := (w45.setCell ⟨gb278, 0, none⟩ (.string t285))) ?hg ?ho ?hn ?hr ?_; (case ho => rfl); (case hg => rfl); (case hn => rfl); (case hr => exact (qK21)); intro w47 hw; replace HO_3 : Aside0 (Kd.R k44 44 w47 w.heap.size (fun k_ => k_ ≠ gb278) (.slice (some ad277) x3_1.length co36) x3_1) := ⟨(by rw [hw]; exact (by (with_reducible repeat (first | apply Kd.R_alloc | apply Kd.R_drewN | apply zJ)); exact zF (zG (p := ⟨gb278, 0, none⟩) (zF HO_3.1 (fun k_ hk => (⟨hk, hk.2⟩ : _ ∧ k_ ≠ gb278))) (fun _ hk => hk.2) (.string t285)) (fun _ hk => hk.1.2)))⟩; replace HO284 : Aside0 (Kd.R Kd.string 9 w47 w.heap.size (fun _ => True) (.slice Ao44 y282.length co44) y282) := ⟨(by rw [hw]; exact (by (with_reducible repeat (first | apply Kd.R_alloc | apply Kd.R_drewN | apply zJ)); exact zF (zG (p := ⟨gb278, 0, none⟩) (Kd.R_types HO284.1 BK278.1 (by decide)) (fun _ hk => hk.2) (.string t285)) (fun _ hk => trivial)))⟩; replace BK278 : Aside0 (w47.heap[gb278]? = some (.cells #[.string t285, .int .i64 ((rd_T44 x3_1 t274).f1), .int .i64 ((rd_T44 x3_1 t274).f2)] 44 (0, 0))) := ⟨(by rw [hw]; exact (by (with_reducible repeat (first | refine zg ?_ _ | refine zh ?_ | refine zf ?_ _)); refine zi (cs := #[.string ((rd_T44 x3_1 t274).f0), .int .i64 ((rd_T44 x3_1 t274).f1), .int .i64 ((rd_T44 x3_1 t274).f2)]) ?_ 0 _ rfl; (with_reducible repeat (first | refine zg ?_ _ | refine zh ?_ | refine zf ?_ _)); exact BK278.1))⟩; replace HK : Aside0 (KeepBut w w47 g none) := ⟨(by rw [hw]; exact (qK13))⟩; replace HB : Aside0 (Below w0.heap.size w0 w47) := ⟨(by rw [hw]; exact (qK14))⟩; replace HI0 : Aside0 (IsS85 w0 w47 g s0_0 t286 t287) := ⟨(by rw [hw]; exact (qK8))⟩; clear hw; have hcz48_0 : w47.cell? ⟨gb278, 0, none⟩ = some (.string t285) := (blk_cell BK278.1 0).trans rfl; have hcz48_1 : w47.cell? ⟨gb278, 1, none⟩ = some (.int .i64 ((rd_T44 x3_1 t274).f1)) := (blk_cell BK278.1 1).trans rfl; have hcz48_2 : w47.cell? ⟨gb278, 2, none⟩ = some (.int .i64 ((rd_T44 x3_1 t274).f2)) := (blk_cell BK278.1 2).trans rfl; have hfz48_0 := ze BK278.1 0; have hfz48_1 := ze BK278.1 1; have hfz48_2 := ze BK278.1 2; have p35 : 0 ≤ (t274 : Int) := zb (qK12); have q35 : (t274 : Int) < ((x3_1.length : Int) : Int) := zb (qK12); obtain ⟨go35, co35, eo35, gb35, gl35, cl35, HG35⟩ := Kd.R_form HO_3.1 (by omega); (first | cases eo35 | (injection eo35 with ea_ en_ ec_; (first | subst ea_ | (injection ea_ with ea_; subst ea_)); subst ec_; clear en_)); have GB35 := za gb35; have GG35 := za HG35; clear gb35 gl35 HG35; (first | simp only [add_plain] at hx277_0 | skip); (first | simp only [add_plain] at hx277_1 | skip); (first | simp only [add_plain] at hx277_2 | skip); obtain ⟨ce35, hcl35, hM35, hcc35, hfr35⟩ := Kd.R_elem HO_3.1 z44 (t274 : Int) p35 q35; obtain rfl := k44_openM hM35; have hx35_0 : w47.cell? ⟨go35, (t274 : Int).toNat * 3, none⟩ = some (.string ((rd_T44 x3_1 t274).f0)) := hcc35 0 _ rfl; have hx35_1 : w47.cell? ⟨go35, (t274 : Int).toNat * 3 + 1, none⟩ = some (.int .i64 ((rd_T44 x3_1 t274).f1)) := hcc35 1 _ rfl; have hx35_2 : w47.cell? ⟨go35, (t274 : Int).toNat * 3 + 2, none⟩ = some (.int .i64 ((rd_T44 x3_1 t274).f2)) := hcc35 2 _ rfl; have hf35_0 : w47.frozen? ⟨go35, (t274 : Int).toNat * 3, none⟩ = false := hfr35 0; have hf35_1 : w47.frozen? ⟨go35, (t274 : Int).toNat * 3 + 1, none⟩ = false := hfr35 1; have hf35_2 : w47.frozen? ⟨go35, (t274 : Int).toNat * 3 + 2, none⟩ = false := hfr35 2; clear hcl35 hcc35 hfr35 hM35; replace p35 := zv p35; replace q35 := zv q35; have HX49 := za (by exact show Kd.R k44 44 w47 w.heap.size (fun k_ => k_ ≠ gb278) (.slice (some ⟨go35, 0, none⟩) x3_1.length co36) x3_1 from (qK0 HO_3.1)); obtain ⟨ce49, hcl49, hM49, hcc49, hfr49⟩ := Kd.R_elem HX49.1 z44 (t274 : Int) (zb (qK12)) (by have h_ : (t274 : Int) < ((x3_1.length : Int) : Int) := zb (qK12); first | exact h_ | (have e_ := (zD HO_3.1).1; omega) | simpa using h_); obtain rfl := k44_openM hM49; have HP49 := Kd.R_seg HX49.1 (t274 : Int) (zb (qK12)) (by have h_ : (t274 : Int) < ((x3_1.length : Int) : Int) := zb (qK12); first | exact h_ | (have e_ := (zD HO_3.1).1; omega) | simpa using h_) (seg := [.string t285, .int .i64 ((rd_T44 x3_1 t274).f1), .int .i64 ((rd_T44 x3_1 t274).f2)]) (j := 0) hcl49 hcc49 (show 3 ≤ 3 from by decide) (x' := (⟨t285, (rd_T44 x3_1 t274).f1, (rd_T44 x3_1 t274).f2⟩ : S44)) (k44_mkM _ _ _ (⟨t285, (rd_T44 x3_1 t274).f1, (rd_T44 x3_1 t274).f2⟩ : S44) ) (fun _ hk => hk); have hx49_0 := hcc49 0 _ rfl; (try simp only [show (k44).sz = 3 from rfl, Nat.mul_one, Nat.add_zero] at hx49_0); have hf49_0 := hfr49 0; (try simp only [show (k44).sz = 3 from rfl, Nat.mul_one, Nat.add_zero] at hf49_0); have hx49_1 := hcc49 1 _ rfl; (try simp only [show (k44).sz = 3 from rfl, Nat.mul_one, Nat.add_zero] at hx49_1); have hf49_1 := hfr49 1; (try simp only [show (k44).sz = 3 from rfl, Nat.mul_one, Nat.add_zero] at hf49_1); have hx49_2 := hcc49 2 _ rfl; (try simp only [show (k44).sz = 3 from rfl, Nat.mul_one, Nat.add_zero] at hx49_2); have hf49_2 := hfr49 2; (try simp only [show (k44).sz = 3 from rfl, Nat.mul_one, Nat.add_zero] at hf49_2); clear hcl49 hcc49 hfr49 hM49) | ((with_reducible refine gate_store (t := 44) (p := 92) rfl ?_); refine store_event (t := 44) (p := 92) (v := ?vo_w50) (w1 := (((w47.setCell ⟨go35, (t274 : Int).toNat * 3, none⟩ (.string t285)).setCell ⟨go35, (t274 : Int).toNat * 3 + 1, none⟩ (.int .i64 ((rd_T44 x3_1 t274).f1))).setCell ⟨go35, (t274 : Int).toNat * 3 + 2, none⟩ (.int .i64 ((rd_T44 x3_1 t274).f2)))) ?hg ?ho ?hn ?hr ?_; (case ho => rfl); (case hg => rfl); (case hn => rfl); (case hr => exact (qK21)); intro w50 hw; have hg : w47.grownBy w50 (some go35) := (by rw [hw]; exact HP49.2); have hp_ : Kd.R k44 44 w50 w.heap.size (fun k_ => k_ ≠ gb278) (.slice (some ⟨go35, 0, none⟩) x3_1.length co36) y288 := (by rw [hw, Ny288.1]; exact HP49.1); clear HP49; replace HI0 := za (IsS85.grown (qK8) hg (IsS85.own_ne HI0.1 HO_3.1 (by decide))); replace BK278 := za qK61; replace HO284 := za (by exact Kd.R_over' (v := (.slice (some ⟨go35, 0, none⟩) x3_1.length co36)) (qK0 HO284.1) (Kd.R_typed HO_3.1) (by decide) hg); replace HB := za (by exact (by rw [hw]; exact zW (zW (zW (HB.1) (Nat.le_trans HL.1 GB35.1)) (Nat.le_trans HL.1 GB35.1)) (Nat.le_trans HL.1 GB35.1) : Below w0.heap.size w0 w50)); replace HK := za (zz (qK13) (KeepBut.of_grown hg g) (Kd.R_base2 HO_3.1)); replace HO_3 := za hp_; clear hg hw hp_))
        go_ret
        exact ⟨_, (qK15), (qK33 HO_3.1), (qK8), (qK14), (qK13)⟩
       ·rw [zY c33] at H; have c33b0 : (t279 == 0) = false := zw c33; have c33b1 : (t279 != 0) = true := zQ c33
        by_cases c51 : t279 = 1
        ·rw [zX c51] at H; have c51b0 : (t279 == 1) = true := zP c51; have c51b1 : (t279 != 1) = false := zx c51; clear c51; obtain ⟨y289, hy289⟩ : ∃ y_ : List Int, y_ = (([(-1001), 1001] : List Int)) := ⟨_, rfl⟩; replace H : ((spec_l1Cur_among.f s0_0 t280 t281 y289).bind fun bt292 => (some ((x3_1.set (t274 : Int).toNat (⟨(rd_T44 x3_1 t274).f0, bt292.1, (rd_T44 x3_1 t274).f2⟩ : S44)), bt292.2.1, bt292.2.2))) = some (r1, r2, r3) := (qK7 hy289); have Ny289 := za hy289; clear hy289; replace H := bindA H; obtain ⟨⟨t292, t293, t294⟩, A52, H⟩ := H; (try dsimp only at H); obtain ⟨y295, hy295⟩ : ∃ y_ : List (S44), y_ = (x3_1.set (t274 : Int).toNat (⟨(rd_T44 x3_1 t274).f0, t292, (rd_T44 x3_1 t274).f2⟩ : S44)) := ⟨_, rfl⟩; replace H : (some (y295, t293, t294)) = some (r1, r2, r3) := (qK7 hy295); have Ny295 := za hy295; clear hy295; simp only [zZ, ya] at H; obtain ⟨rfl, rfl, rfl⟩ := H; obtain ⟨Ao54, co54, eo54⟩ := zE HO_3.1; subst eo54
         go_wp2_with (first | ((with_reducible refine zo (f := 60) rfl ?_); refine zR (some 42) rfl rfl Try.func60 (qK18) rfl #[.pointer (some ⟨g, 0, none⟩), .int .i64 (x3_1.length : Int)] rfl (qK5) ?_; (with_reducible refine (spec_l1Cur_pick.calls g s0_0 x1001_1 x1002_1 (x3_1.length : Int) t274 t275 t276 w0 _ ?s1 ?s2 A29.1).mono ?_); (case s1 => exact (qK1)); (case s2 => exact (qK4)); rintro e w55 ⟨rfl, hi, hb, hk⟩; refine ⟨_, rfl, ?_⟩; replace HO_3 := za (qK81 HO_3.1); replace HK := za qK84; replace HB := za hb; replace HI0 := za hi; clear hb hk hi; have p277 : 0 ≤ (t274 : Int) := zb (qK12); have q277 : t274 < (x3_1.length : Int) := zb (qK12); obtain ⟨ad277, e277, hx277_0, hx277_1, hx277_2⟩ := at_T44 (zD HO_3.1).2.2 t274 p277 q277; cases e277; replace p277 := zv p277; replace q277 := zv q277) | ((with_reducible refine zp (N := 7) rfl ?_); refine zA ?hg (N := 7) ?hd (cs := #[.string (⟨#[]⟩ : ByteArray), .int .i64 0, .int .i64 0]) (t := 44) ?hr ?_; (case hd | hg => rfl); (case hr => exact (qK21)); intro gb278 hg w56 hbox hb; replace HO_3 := za qK103; replace HB := za (zS (qK4) hb); have BK278 := za hbox; have GW278 := za qK98; have GE278 := za qK95; replace HK := za qK82; have NB0_278 := za qK96; have NB278_0 := za qK97; replace HI0 := za qK93; clear hb hbox hg; have hnb57 := NB278_0.1; have hnc57 := NB0_278.1; have hcz58_0 : w56.cell? ⟨gb278, 0, none⟩ = some (.string (⟨#[]⟩ : ByteArray)) := (blk_cell BK278.1 0).trans rfl; have hcz58_1 : w56.cell? ⟨gb278, 1, none⟩ = some (.int .i64 0) := (blk_cell BK278.1 1).trans rfl; have hcz58_2 : w56.cell? ⟨gb278, 2, none⟩ = some (.int .i64 0) := (blk_cell BK278.1 2).trans rfl; have hfz58_0 := ze BK278.1 0; have hfz58_1 := ze BK278.1 1; have hfz58_2 := ze BK278.1 2) | ((with_reducible refine zo (f := 60) rfl ?_); refine zR (some 48) rfl rfl Try.func60 (qK18) rfl #[.pointer (some ⟨g, 0, none⟩), .int .i64 50] rfl (qK5) ?_; (with_reducible refine (spec_l1Cur_pick.calls g s0_0 t275 t276 50 t279 t280 t281 w0 _ ?s1 ?s2 A32.1).mono ?_); (case s1 => exact (qK8)); (case s2 => exact (qK14)); rintro e w59 ⟨rfl, hi, hb, hk⟩; refine ⟨_, rfl, ?_⟩; replace HO_3 := za (zF (zI (IsS85.apart (show IsS85 w0 _ g s0_0 t275 t276 from (qK8)) (qK30) (by decide)) hk (fun _ h => h.2)) (fun _ h => h.1)); replace BK278 := za (zy hk (g' := gb278) (o := .cells #[.string ((rd_T44 x3_1 t274).f0), .int .i64 ((rd_T44 x3_1 t274).f1), .int .i64 ((rd_T44 x3_1 t274).f2)] 44 (0, 0)) (qK24) NB278_0.1 (by simp)); replace HK := za (zz (qK13) hk (.inl rfl)); replace HB := za hb; replace HI0 := za hi; clear hb hk hi) | ((with_reducible refine zp (N := 58) rfl ?_); refine zL (Kd.int .i64) _ 3 ?hg (N := 58) ?hd (xs := ([(-1001), 1001] : List Int)) (inner := [.int .i64 (-1001), .int .i64 1001]) (ok := fun _ => True) (okp := fun _ => True) ?hr ?hp (fun _ hk => hk) trivial (zr _ _) (zn _) (by simp) ?_; (case hd | hg => rfl); (case hr => exact (qK21)); (case hp => exact (qK63)); intro v290 w60 ho61 hb hg_ hnew_; clear hg_ hnew_; (first | rw [← Ny289.1] at ho61 | (simp only [Int.reduceToNat] at ho61; rw [← Ny289.1] at ho61)); replace HO_3 := za (qK83 HO_3.1); have HO291 := za (zK ho61 (keep_size (w := w) (g := g) (row := none) (qK13))); replace BK278 := za (zk (qB BK278.1) hb); replace HK := za (zz (qK13) (zN hb g none) (.inl rfl)); replace HB := za (zS (qK14) hb); replace HI0 := za (IsS85.below (qK8) hb); clear hb ho61; obtain ⟨Ao62, co62, eo62⟩ := zE HO291.1; subst eo62) | ((with_reducible refine zo (f := 59) rfl ?_); refine zR (some 59) rfl rfl Try.func59 (qK18) rfl #[.pointer (some ⟨g, 0, none⟩), .slice Ao62 y289.length co62] rfl (qK5) ?_; (with_reducible refine (spec_l1Cur_among.calls g s0_0 t280 t281 _ _ y289 t292 t293 t294 w0 _ ?s1 ?s2 ?s3 ?s4 ?s5 A52.1).mono ?_); (case s1 => exact (qK8)); (case s2 => exact (qK14)); (case s3 => exact (qK11 HO291.1)); (case s4 => exact (qK42 HO291.1)); (case s5 => exact (qK56 HO291.1)); rintro e w63 ⟨rfl, hi, hb, hk⟩; refine ⟨_, rfl, ?_⟩; replace HO_3 := za (zF (zI (IsS85.apart (show IsS85 w0 _ g s0_0 t280 t281 from (qK8)) (qK0 HO_3.1) (by decide)) hk (fun _ h => h.2)) (fun _ h => h.1)); replace BK278 := za qK62; replace HO291 := za (zF (zI (IsS85.apart (show IsS85 w0 _ g s0_0 t280 t281 from (qK8)) (qK0 HO291.1) (by decide)) hk (fun _ h => h.2)) (fun _ h => h.1)); replace HK := za (zz (qK13) hk (.inl rfl)); replace HB := za hb; replace HI0 := za hi; clear hb hk hi; have hcz64_0 : w63.cell? ⟨gb278, 0, none⟩ = some (.string ((rd_T44 x3_1 t274).f0)) := (blk_cell BK278.1 0).trans rfl; have hcz64_1 : w63.cell? ⟨gb278, 1, none⟩ = some (.int .i64 ((rd_T44 x3_1 t274).f1)) := (blk_cell BK278.1 1).trans rfl; have hcz64_2 : w63.cell? ⟨gb278, 2, none⟩ = some (.int .i64 ((rd_T44 x3_1 t274).f2)) := (blk_cell BK278.1 2).trans rfl; have hfz64_0 := ze BK278.1 0; have hfz64_1 := ze BK278.1 1; have hfz64_2 := ze BK278.1 2) | ((with_reducible refine gate_store (t := 3) (p := 60) rfl ?_); refine store_event (t := 3) (p := 60) (v := ?vo_w65) (w1 := (w63.setCell ⟨gb278, 1, none⟩ (.int .i64 t292))) ?hg ?ho ?hn ?hr ?_; (case ho => rfl); (case hg => rfl); (case hn => rfl); (case hr => exact (qK21)); intro w65 hw; replace HO_3 : Aside0 (Kd.R k44 44 w65 w.heap.size (fun k_ => k_ ≠ gb278) (.slice (some ad277) x3_1.length co54) x3_1) := ⟨(by rw [hw]; exact (by (with_reducible repeat (first | apply Kd.R_alloc | apply Kd.R_drewN | apply zJ)); exact zF (zG (p := ⟨gb278, 1, none⟩) (zF HO_3.1 (fun k_ hk => (⟨hk, hk.2⟩ : _ ∧ k_ ≠ gb278))) (fun _ hk => hk.2) (.int .i64 t292)) (fun _ hk => hk.1.2)))⟩; replace HO291 : Aside0 (Kd.R (Kd.int .i64) 3 w65 w.heap.size (fun _ => True) (.slice Ao62 y289.length co62) y289) := ⟨(by rw [hw]; exact (by (with_reducible repeat (first | apply Kd.R_alloc | apply Kd.R_drewN | apply zJ)); exact zF (zG (p := ⟨gb278, 1, none⟩) (Kd.R_types HO291.1 BK278.1 (by decide)) (fun _ hk => hk.2) (.int .i64 t292)) (fun _ hk => trivial)))⟩; replace BK278 : Aside0 (w65.heap[gb278]? = some (.cells #[.string ((rd_T44 x3_1 t274).f0), .int .i64 t292, .int .i64 ((rd_T44 x3_1 t274).f2)] 44 (0, 0))) := ⟨(by rw [hw]; exact (by (with_reducible repeat (first | refine zg ?_ _ | refine zh ?_ | refine zf ?_ _)); refine zi (cs := #[.string ((rd_T44 x3_1 t274).f0), .int .i64 ((rd_T44 x3_1 t274).f1), .int .i64 ((rd_T44 x3_1 t274).f2)]) ?_ 1 _ rfl; (with_reducible repeat (first | refine zg ?_ _ | refine zh ?_ | refine zf ?_ _)); exact BK278.1))⟩; replace HK : Aside0 (KeepBut w w65 g none) := ⟨(by rw [hw]; exact (qK13))⟩; replace HB : Aside0 (Below w0.heap.size w0 w65) := ⟨(by rw [hw]; exact (qK14))⟩; replace HI0 : Aside0 (IsS85 w0 w65 g s0_0 t293 t294) := ⟨(by rw [hw]; exact (qK8))⟩; clear hw; have hcz66_0 : w65.cell? ⟨gb278, 0, none⟩ = some (.string ((rd_T44 x3_1 t274).f0)) := (blk_cell BK278.1 0).trans rfl; have hcz66_1 : w65.cell? ⟨gb278, 1, none⟩ = some (.int .i64 t292) := (blk_cell BK278.1 1).trans rfl; have hcz66_2 : w65.cell? ⟨gb278, 2, none⟩ = some (.int .i64 ((rd_T44 x3_1 t274).f2)) := (blk_cell BK278.1 2).trans rfl; have hfz66_0 := ze BK278.1 0; have hfz66_1 := ze BK278.1 1; have hfz66_2 := ze BK278.1 2; have p53 : 0 ≤ (t274 : Int) := zb (qK12); have q53 : (t274 : Int) < ((x3_1.length : Int) : Int) := zb (qK12); obtain ⟨go53, co53, eo53, gb53, gl53, cl53, HG53⟩ := Kd.R_form HO_3.1 (by omega); (first | cases eo53 | (injection eo53 with ea_ en_ ec_; (first | subst ea_ | (injection ea_ with ea_; subst ea_)); subst ec_; clear en_)); have GB53 := za gb53; have GG53 := za HG53; clear gb53 gl53 HG53; (first | simp only [add_plain] at hx277_0 | skip); (first | simp only [add_plain] at hx277_1 | skip); (first | simp only [add_plain] at hx277_2 | skip); obtain ⟨ce53, hcl53, hM53, hcc53, hfr53⟩ := Kd.R_elem HO_3.1 z44 (t274 : Int) p53 q53; obtain rfl := k44_openM hM53; have hx53_0 : w65.cell? ⟨go53, (t274 : Int).toNat * 3, none⟩ = some (.string ((rd_T44 x3_1 t274).f0)) := hcc53 0 _ rfl; have hx53_1 : w65.cell? ⟨go53, (t274 : Int).toNat * 3 + 1, none⟩ = some (.int .i64 ((rd_T44 x3_1 t274).f1)) := hcc53 1 _ rfl; have hx53_2 : w65.cell? ⟨go53, (t274 : Int).toNat * 3 + 2, none⟩ = some (.int .i64 ((rd_T44 x3_1 t274).f2)) := hcc53 2 _ rfl; have hf53_0 : w65.frozen? ⟨go53, (t274 : Int).toNat * 3, none⟩ = false := hfr53 0; have hf53_1 : w65.frozen? ⟨go53, (t274 : Int).toNat * 3 + 1, none⟩ = false := hfr53 1; have hf53_2 : w65.frozen? ⟨go53, (t274 : Int).toNat * 3 + 2, none⟩ = false := hfr53 2; clear hcl53 hcc53 hfr53 hM53; replace p53 := zv p53; replace q53 := zv q53; have HX67 := za (by exact show Kd.R k44 44 w65 w.heap.size (fun k_ => k_ ≠ gb278) (.slice (some ⟨go53, 0, none⟩) x3_1.length co54) x3_1 from (qK0 HO_3.1)); obtain ⟨ce67, hcl67, hM67, hcc67, hfr67⟩ := Kd.R_elem HX67.1 z44 (t274 : Int) (zb (qK12)) (by have h_ : (t274 : Int) < ((x3_1.length : Int) : Int) := zb (qK12); first | exact h_ | (have e_ := (zD HO_3.1).1; omega) | simpa using h_); obtain rfl := k44_openM hM67; have HP67 := Kd.R_seg HX67.1 (t274 : Int) (zb (qK12)) (by have h_ : (t274 : Int) < ((x3_1.length : Int) : Int) := zb (qK12); first | exact h_ | (have e_ := (zD HO_3.1).1; omega) | simpa using h_) (seg := [.string ((rd_T44 x3_1 t274).f0), .int .i64 t292, .int .i64 ((rd_T44 x3_1 t274).f2)]) (j := 0) hcl67 hcc67 (show 3 ≤ 3 from by decide) (x' := (⟨(rd_T44 x3_1 t274).f0, t292, (rd_T44 x3_1 t274).f2⟩ : S44)) (k44_mkM _ _ _ (⟨(rd_T44 x3_1 t274).f0, t292, (rd_T44 x3_1 t274).f2⟩ : S44) ) (fun _ hk => hk); have hx67_0 := hcc67 0 _ rfl; (try simp only [show (k44).sz = 3 from rfl, Nat.mul_one, Nat.add_zero] at hx67_0); have hf67_0 := hfr67 0; (try simp only [show (k44).sz = 3 from rfl, Nat.mul_one, Nat.add_zero] at hf67_0); have hx67_1 := hcc67 1 _ rfl; (try simp only [show (k44).sz = 3 from rfl, Nat.mul_one, Nat.add_zero] at hx67_1); have hf67_1 := hfr67 1; (try simp only [show (k44).sz = 3 from rfl, Nat.mul_one, Nat.add_zero] at hf67_1); have hx67_2 := hcc67 2 _ rfl; (try simp only [show (k44).sz = 3 from rfl, Nat.mul_one, Nat.add_zero] at hx67_2); have hf67_2 := hfr67 2; (try simp only [show (k44).sz = 3 from rfl, Nat.mul_one, Nat.add_zero] at hf67_2); clear hcl67 hcc67 hfr67 hM67) | ((with_reducible refine gate_store (t := 44) (p := 92) rfl ?_); refine store_event (t := 44) (p := 92) (v := ?vo_w68) (w1 := (((w65.setCell ⟨go53, (t274 : Int).toNat * 3, none⟩ (.string ((rd_T44 x3_1 t274).f0))).setCell ⟨go53, (t274 : Int).toNat * 3 + 1, none⟩ (.int .i64 t292)).setCell ⟨go53, (t274 : Int).toNat * 3 + 2, none⟩ (.int .i64 ((rd_T44 x3_1 t274).f2)))) ?hg ?ho ?hn ?hr ?_; (case ho => rfl); (case hg => rfl); (case hn => rfl); (case hr => exact (qK21)); intro w68 hw; have hg : w65.grownBy w68 (some go53) := (by rw [hw]; exact HP67.2); have hp_ : Kd.R k44 44 w68 w.heap.size (fun k_ => k_ ≠ gb278) (.slice (some ⟨go53, 0, none⟩) x3_1.length co54) y295 := (by rw [hw, Ny295.1]; exact HP67.1); clear HP67; replace HI0 := za (IsS85.grown (qK8) hg (IsS85.own_ne HI0.1 HO_3.1 (by decide))); replace BK278 := za qK61; replace HO291 := za (by exact Kd.R_over' (v := (.slice (some ⟨go53, 0, none⟩) x3_1.length co54)) (qK0 HO291.1) (Kd.R_typed HO_3.1) (by decide) hg); replace HB := za (by exact (by rw [hw]; exact zW (zW (zW (HB.1) (Nat.le_trans HL.1 GB53.1)) (Nat.le_trans HL.1 GB53.1)) (Nat.le_trans HL.1 GB53.1) : Below w0.heap.size w0 w68)); replace HK := za (zz (qK13) (KeepBut.of_grown hg g) (Kd.R_base2 HO_3.1)); replace HO_3 := za hp_; clear hg hw hp_))
         go_ret
         exact ⟨_, (qK15), (qK33 HO_3.1), (qK8), (qK14), (qK13)⟩
        ·rw [zY c51] at H; have c51b0 : (t279 == 1) = false := zw c51; have c51b1 : (t279 != 1) = true := zQ c51
         by_cases c69 : t279 = 2
         ·rw [zX c69] at H; have c69b0 : (t279 == 2) = true := zP c69; have c69b1 : (t279 != 2) = false := zx c69; clear c69; obtain ⟨y296, hy296⟩ : ∃ y_ : List Int, y_ = (([(-1001), 1001] : List Int)) := ⟨_, rfl⟩; replace H : ((spec_l1Cur_among.f s0_0 t280 t281 y296).bind fun bt299 => (some ((x3_1.set (t274 : Int).toNat (⟨(rd_T44 x3_1 t274).f0, (rd_T44 x3_1 t274).f1, bt299.1⟩ : S44)), bt299.2.1, bt299.2.2))) = some (r1, r2, r3) := (qK7 hy296); have Ny296 := za hy296; clear hy296; replace H := bindA H; obtain ⟨⟨t299, t300, t301⟩, A70, H⟩ := H; (try dsimp only at H); obtain ⟨y302, hy302⟩ : ∃ y_ : List (S44), y_ = (x3_1.set (t274 : Int).toNat (⟨(rd_T44 x3_1 t274).f0, (rd_T44 x3_1 t274).f1, t299⟩ : S44)) := ⟨_, rfl⟩; replace H : (some (y302, t300, t301)) = some (r1, r2, r3) := (qK7 hy302); have Ny302 := za hy302; clear hy302; simp only [zZ, ya] at H; obtain ⟨rfl, rfl, rfl⟩ := H; obtain ⟨Ao72, co72, eo72⟩ := zE HO_3.1; subst eo72
          go_wp2_with (first | ((with_reducible refine zo (f := 60) rfl ?_); refine zR (some 42) rfl rfl Try.func60 (qK18) rfl #[.pointer (some ⟨g, 0, none⟩), .int .i64 (x3_1.length : Int)] rfl (qK5) ?_; (with_reducible refine (spec_l1Cur_pick.calls g s0_0 x1001_1 x1002_1 (x3_1.length : Int) t274 t275 t276 w0 _ ?s1 ?s2 A29.1).mono ?_); (case s1 => exact (qK1)); (case s2 => exact (qK4)); rintro e w73 ⟨rfl, hi, hb, hk⟩; refine ⟨_, rfl, ?_⟩; replace HO_3 := za (qK81 HO_3.1); replace HK := za qK84; replace HB := za hb; replace HI0 := za hi; clear hb hk hi; have p277 : 0 ≤ (t274 : Int) := zb (qK12); have q277 : t274 < (x3_1.length : Int) := zb (qK12); obtain ⟨ad277, e277, hx277_0, hx277_1, hx277_2⟩ := at_T44 (zD HO_3.1).2.2 t274 p277 q277; cases e277; replace p277 := zv p277; replace q277 := zv q277) | ((with_reducible refine zp (N := 7) rfl ?_); refine zA ?hg (N := 7) ?hd (cs := #[.string (⟨#[]⟩ : ByteArray), .int .i64 0, .int .i64 0]) (t := 44) ?hr ?_; (case hd | hg => rfl); (case hr => exact (qK21)); intro gb278 hg w74 hbox hb; replace HO_3 := za qK103; replace HB := za (zS (qK4) hb); have BK278 := za hbox; have GW278 := za qK98; have GE278 := za qK95; replace HK := za qK82; have NB0_278 := za qK96; have NB278_0 := za qK97; replace HI0 := za qK93; clear hb hbox hg; have hnb75 := NB278_0.1; have hnc75 := NB0_278.1; have hcz76_0 : w74.cell? ⟨gb278, 0, none⟩ = some (.string (⟨#[]⟩ : ByteArray)) := (blk_cell BK278.1 0).trans rfl; have hcz76_1 : w74.cell? ⟨gb278, 1, none⟩ = some (.int .i64 0) := (blk_cell BK278.1 1).trans rfl; have hcz76_2 : w74.cell? ⟨gb278, 2, none⟩ = some (.int .i64 0) := (blk_cell BK278.1 2).trans rfl; have hfz76_0 := ze BK278.1 0; have hfz76_1 := ze BK278.1 1; have hfz76_2 := ze BK278.1 2) | ((with_reducible refine zo (f := 60) rfl ?_); refine zR (some 48) rfl rfl Try.func60 (qK18) rfl #[.pointer (some ⟨g, 0, none⟩), .int .i64 50] rfl (qK5) ?_; (with_reducible refine (spec_l1Cur_pick.calls g s0_0 t275 t276 50 t279 t280 t281 w0 _ ?s1 ?s2 A32.1).mono ?_); (case s1 => exact (qK8)); (case s2 => exact (qK14)); rintro e w77 ⟨rfl, hi, hb, hk⟩; refine ⟨_, rfl, ?_⟩; replace HO_3 := za (zF (zI (IsS85.apart (show IsS85 w0 _ g s0_0 t275 t276 from (qK8)) (qK30) (by decide)) hk (fun _ h => h.2)) (fun _ h => h.1)); replace BK278 := za (zy hk (g' := gb278) (o := .cells #[.string ((rd_T44 x3_1 t274).f0), .int .i64 ((rd_T44 x3_1 t274).f1), .int .i64 ((rd_T44 x3_1 t274).f2)] 44 (0, 0)) (qK24) NB278_0.1 (by simp)); replace HK := za (zz (qK13) hk (.inl rfl)); replace HB := za hb; replace HI0 := za hi; clear hb hk hi) | ((with_reducible refine zp (N := 64) rfl ?_); refine zL (Kd.int .i64) _ 3 ?hg (N := 64) ?hd (xs := ([(-1001), 1001] : List Int)) (inner := [.int .i64 (-1001), .int .i64 1001]) (ok := fun _ => True) (okp := fun _ => True) ?hr ?hp (fun _ hk => hk) trivial (zr _ _) (zn _) (by simp) ?_; (case hd | hg => rfl); (case hr => exact (qK21)); (case hp => exact (qK63)); intro v297 w78 ho79 hb hg_ hnew_; clear hg_ hnew_; (first | rw [← Ny296.1] at ho79 | (simp only [Int.reduceToNat] at ho79; rw [← Ny296.1] at ho79)); replace HO_3 := za (qK83 HO_3.1); have HO298 := za (zK ho79 (keep_size (w := w) (g := g) (row := none) (qK13))); replace BK278 := za (zk (qB BK278.1) hb); replace HK := za (zz (qK13) (zN hb g none) (.inl rfl)); replace HB := za (zS (qK14) hb); replace HI0 := za (IsS85.below (qK8) hb); clear hb ho79; obtain ⟨Ao80, co80, eo80⟩ := zE HO298.1; subst eo80) | ((with_reducible refine zo (f := 59) rfl ?_); refine zR (some 65) rfl rfl Try.func59 (qK18) rfl #[.pointer (some ⟨g, 0, none⟩), .slice Ao80 y296.length co80] rfl (qK5) ?_; (with_reducible refine (spec_l1Cur_among.calls g s0_0 t280 t281 _ _ y296 t299 t300 t301 w0 _ ?s1 ?s2 ?s3 ?s4 ?s5 A70.1).mono ?_); (case s1 => exact (qK8)); (case s2 => exact (qK14)); (case s3 => exact (qK11 HO298.1)); (case s4 => exact (qK42 HO298.1)); (case s5 => exact (qK56 HO298.1)); rintro e w81 ⟨rfl, hi, hb, hk⟩; refine ⟨_, rfl, ?_⟩; replace HO_3 := za (zF (zI (IsS85.apart (show IsS85 w0 _ g s0_0 t280 t281 from (qK8)) (qK0 HO_3.1) (by decide)) hk (fun _ h => h.2)) (fun _ h => h.1)); replace BK278 := za qK62; replace HO298 := za (zF (zI (IsS85.apart (show IsS85 w0 _ g s0_0 t280 t281 from (qK8)) (qK0 HO298.1) (by decide)) hk (fun _ h => h.2)) (fun _ h => h.1)); replace HK := za (zz (qK13) hk (.inl rfl)); replace HB := za hb; replace HI0 := za hi; clear hb hk hi; have hcz82_0 : w81.cell? ⟨gb278, 0, none⟩ = some (.string ((rd_T44 x3_1 t274).f0)) := (blk_cell BK278.1 0).trans rfl; have hcz82_1 : w81.cell? ⟨gb278, 1, none⟩ = some (.int .i64 ((rd_T44 x3_1 t274).f1)) := (blk_cell BK278.1 1).trans rfl; have hcz82_2 : w81.cell? ⟨gb278, 2, none⟩ = some (.int .i64 ((rd_T44 x3_1 t274).f2)) := (blk_cell BK278.1 2).trans rfl; have hfz82_0 := ze BK278.1 0; have hfz82_1 := ze BK278.1 1; have hfz82_2 := ze BK278.1 2) | ((with_reducible refine gate_store (t := 3) (p := 66) rfl ?_); refine store_event (t := 3) (p := 66) (v := ?vo_w83) (w1 := (w81.setCell ⟨gb278, 2, none⟩ (.int .i64 t299))) ?hg ?ho ?hn ?hr ?_; (case ho => rfl); (case hg => rfl); (case hn => rfl); (case hr => exact (qK21)); intro w83 hw; replace HO_3 : Aside0 (Kd.R k44 44 w83 w.heap.size (fun k_ => k_ ≠ gb278) (.slice (some ad277) x3_1.length co72) x3_1) := ⟨(by rw [hw]; exact (by (with_reducible repeat (first | apply Kd.R_alloc | apply Kd.R_drewN | apply zJ)); exact zF (zG (p := ⟨gb278, 2, none⟩) (zF HO_3.1 (fun k_ hk => (⟨hk, hk.2⟩ : _ ∧ k_ ≠ gb278))) (fun _ hk => hk.2) (.int .i64 t299)) (fun _ hk => hk.1.2)))⟩; replace HO298 : Aside0 (Kd.R (Kd.int .i64) 3 w83 w.heap.size (fun _ => True) (.slice Ao80 y296.length co80) y296) := ⟨(by rw [hw]; exact (by (with_reducible repeat (first | apply Kd.R_alloc | apply Kd.R_drewN | apply zJ)); exact zF (zG (p := ⟨gb278, 2, none⟩) (Kd.R_types HO298.1 BK278.1 (by decide)) (fun _ hk => hk.2) (.int .i64 t299)) (fun _ hk => trivial)))⟩; replace BK278 : Aside0 (w83.heap[gb278]? = some (.cells #[.string ((rd_T44 x3_1 t274).f0), .int .i64 ((rd_T44 x3_1 t274).f1), .int .i64 t299] 44 (0, 0))) := ⟨(by rw [hw]; exact (by (with_reducible repeat (first | refine zg ?_ _ | refine zh ?_ | refine zf ?_ _)); refine zi (cs := #[.string ((rd_T44 x3_1 t274).f0), .int .i64 ((rd_T44 x3_1 t274).f1), .int .i64 ((rd_T44 x3_1 t274).f2)]) ?_ 2 _ rfl; (with_reducible repeat (first | refine zg ?_ _ | refine zh ?_ | refine zf ?_ _)); exact BK278.1))⟩; replace HK : Aside0 (KeepBut w w83 g none) := ⟨(by rw [hw]; exact (qK13))⟩; replace HB : Aside0 (Below w0.heap.size w0 w83) := ⟨(by rw [hw]; exact (qK14))⟩; replace HI0 : Aside0 (IsS85 w0 w83 g s0_0 t300 t301) := ⟨(by rw [hw]; exact (qK8))⟩; clear hw; have hcz84_0 : w83.cell? ⟨gb278, 0, none⟩ = some (.string ((rd_T44 x3_1 t274).f0)) := (blk_cell BK278.1 0).trans rfl; have hcz84_1 : w83.cell? ⟨gb278, 1, none⟩ = some (.int .i64 ((rd_T44 x3_1 t274).f1)) := (blk_cell BK278.1 1).trans rfl; have hcz84_2 : w83.cell? ⟨gb278, 2, none⟩ = some (.int .i64 t299) := (blk_cell BK278.1 2).trans rfl; have hfz84_0 := ze BK278.1 0; have hfz84_1 := ze BK278.1 1; have hfz84_2 := ze BK278.1 2; have p71 : 0 ≤ (t274 : Int) := zb (qK12); have q71 : (t274 : Int) < ((x3_1.length : Int) : Int) := zb (qK12); obtain ⟨go71, co71, eo71, gb71, gl71, cl71, HG71⟩ := Kd.R_form HO_3.1 (by omega); (first | cases eo71 | (injection eo71 with ea_ en_ ec_; (first | subst ea_ | (injection ea_ with ea_; subst ea_)); subst ec_; clear en_)); have GB71 := za gb71; have GG71 := za HG71; clear gb71 gl71 HG71; (first | simp only [add_plain] at hx277_0 | skip); (first | simp only [add_plain] at hx277_1 | skip); (first | simp only [add_plain] at hx277_2 | skip); obtain ⟨ce71, hcl71, hM71, hcc71, hfr71⟩ := Kd.R_elem HO_3.1 z44 (t274 : Int) p71 q71; obtain rfl := k44_openM hM71; have hx71_0 : w83.cell? ⟨go71, (t274 : Int).toNat * 3, none⟩ = some (.string ((rd_T44 x3_1 t274).f0)) := hcc71 0 _ rfl; have hx71_1 : w83.cell? ⟨go71, (t274 : Int).toNat * 3 + 1, none⟩ = some (.int .i64 ((rd_T44 x3_1 t274).f1)) := hcc71 1 _ rfl; have hx71_2 : w83.cell? ⟨go71, (t274 : Int).toNat * 3 + 2, none⟩ = some (.int .i64 ((rd_T44 x3_1 t274).f2)) := hcc71 2 _ rfl; have hf71_0 : w83.frozen? ⟨go71, (t274 : Int).toNat * 3, none⟩ = false := hfr71 0; have hf71_1 : w83.frozen? ⟨go71, (t274 : Int).toNat * 3 + 1, none⟩ = false := hfr71 1; have hf71_2 : w83.frozen? ⟨go71, (t274 : Int).toNat * 3 + 2, none⟩ = false := hfr71 2; clear hcl71 hcc71 hfr71 hM71; replace p71 := zv p71; replace q71 := zv q71; have HX85 := za (by exact show Kd.R k44 44 w83 w.heap.size (fun k_ => k_ ≠ gb278) (.slice (some ⟨go71, 0, none⟩) x3_1.length co72) x3_1 from (qK0 HO_3.1)); obtain ⟨ce85, hcl85, hM85, hcc85, hfr85⟩ := Kd.R_elem HX85.1 z44 (t274 : Int) (zb (qK12)) (by have h_ : (t274 : Int) < ((x3_1.length : Int) : Int) := zb (qK12); first | exact h_ | (have e_ := (zD HO_3.1).1; omega) | simpa using h_); obtain rfl := k44_openM hM85; have HP85 := Kd.R_seg HX85.1 (t274 : Int) (zb (qK12)) (by have h_ : (t274 : Int) < ((x3_1.length : Int) : Int) := zb (qK12); first | exact h_ | (have e_ := (zD HO_3.1).1; omega) | simpa using h_) (seg := [.string ((rd_T44 x3_1 t274).f0), .int .i64 ((rd_T44 x3_1 t274).f1), .int .i64 t299]) (j := 0) hcl85 hcc85 (show 3 ≤ 3 from by decide) (x' := (⟨(rd_T44 x3_1 t274).f0, (rd_T44 x3_1 t274).f1, t299⟩ : S44)) (k44_mkM _ _ _ (⟨(rd_T44 x3_1 t274).f0, (rd_T44 x3_1 t274).f1, t299⟩ : S44) ) (fun _ hk => hk); have hx85_0 := hcc85 0 _ rfl; (try simp only [show (k44).sz = 3 from rfl, Nat.mul_one, Nat.add_zero] at hx85_0); have hf85_0 := hfr85 0; (try simp only [show (k44).sz = 3 from rfl, Nat.mul_one, Nat.add_zero] at hf85_0); have hx85_1 := hcc85 1 _ rfl; (try simp only [show (k44).sz = 3 from rfl, Nat.mul_one, Nat.add_zero] at hx85_1); have hf85_1 := hfr85 1; (try simp only [show (k44).sz = 3 from rfl, Nat.mul_one, Nat.add_zero] at hf85_1); have hx85_2 := hcc85 2 _ rfl; (try simp only [show (k44).sz = 3 from rfl, Nat.mul_one, Nat.add_zero] at hx85_2); have hf85_2 := hfr85 2; (try simp only [show (k44).sz = 3 from rfl, Nat.mul_one, Nat.add_zero] at hf85_2); clear hcl85 hcc85 hfr85 hM85) | ((with_reducible refine gate_store (t := 44) (p := 92) rfl ?_); refine store_event (t := 44) (p := 92) (v := ?vo_w86) (w1 := (((w83.setCell ⟨go71, (t274 : Int).toNat * 3, none⟩ (.string ((rd_T44 x3_1 t274).f0))).setCell ⟨go71, (t274 : Int).toNat * 3 + 1, none⟩ (.int .i64 ((rd_T44 x3_1 t274).f1))).setCell ⟨go71, (t274 : Int).toNat * 3 + 2, none⟩ (.int .i64 t299))) ?hg ?ho ?hn ?hr ?_; (case ho => rfl); (case hg => rfl); (case hn => rfl); (case hr => exact (qK21)); intro w86 hw; have hg : w83.grownBy w86 (some go71) := (by rw [hw]; exact HP85.2); have hp_ : Kd.R k44 44 w86 w.heap.size (fun k_ => k_ ≠ gb278) (.slice (some ⟨go71, 0, none⟩) x3_1.length co72) y302 := (by rw [hw, Ny302.1]; exact HP85.1); clear HP85; replace HI0 := za (IsS85.grown (qK8) hg (IsS85.own_ne HI0.1 HO_3.1 (by decide))); replace BK278 := za qK61; replace HO298 := za (by exact Kd.R_over' (v := (.slice (some ⟨go71, 0, none⟩) x3_1.length co72)) (qK0 HO298.1) (Kd.R_typed HO_3.1) (by decide) hg); replace HB := za (by exact (by rw [hw]; exact zW (zW (zW (HB.1) (Nat.le_trans HL.1 GB71.1)) (Nat.le_trans HL.1 GB71.1)) (Nat.le_trans HL.1 GB71.1) : Below w0.heap.size w0 w86)); replace HK := za (zz (qK13) (KeepBut.of_grown hg g) (Kd.R_base2 HO_3.1)); replace HO_3 := za hp_; clear hg hw hp_))
          go_ret
          exact ⟨_, (qK15), (qK33 HO_3.1), (qK8), (qK14), (qK13)⟩
         ·rw [zY c69] at H; have c69b0 : (t279 == 2) = false := zw c69; have c69b1 : (t279 != 2) = true := zQ c69
          by_cases c87 : t279 = 3
          ·rw [zX c87] at H; have c87b0 : (t279 == 3) = true := zP c87; have c87b1 : (t279 != 3) = false := zx c87; clear c87; obtain ⟨y303, hy303⟩ : ∃ y_ : List (S44), y_ = (([] : List (S44))) := ⟨_, rfl⟩; replace H : (spec_l1Cur_marks13.l1 k1 y303 0 s0_0 t280 t281) = some (r1, r2, r3) := (qK7 hy303); have Ny303 := za hy303; clear hy303; have H' := za H; clear H; obtain ⟨Ao88, co88, eo88⟩ := zE HO_3.1; subst eo88
           go_wp2_with (first | ((with_reducible refine zo (f := 60) rfl ?_); refine zR (some 42) rfl rfl Try.func60 (qK18) rfl #[.pointer (some ⟨g, 0, none⟩), .int .i64 (x3_1.length : Int)] rfl (qK5) ?_; (with_reducible refine (spec_l1Cur_pick.calls g s0_0 x1001_1 x1002_1 (x3_1.length : Int) t274 t275 t276 w0 _ ?s1 ?s2 A29.1).mono ?_); (case s1 => exact (qK1)); (case s2 => exact (qK4)); rintro e w89 ⟨rfl, hi, hb, hk⟩; refine ⟨_, rfl, ?_⟩; replace HO_3 := za (qK81 HO_3.1); replace HK := za qK84; replace HB := za hb; replace HI0 := za hi; clear hb hk hi; have p277 : 0 ≤ (t274 : Int) := zb (qK12); have q277 : t274 < (x3_1.length : Int) := zb (qK12); obtain ⟨ad277, e277, hx277_0, hx277_1, hx277_2⟩ := at_T44 (zD HO_3.1).2.2 t274 p277 q277; cases e277; replace p277 := zv p277; replace q277 := zv q277) | ((with_reducible refine zp (N := 7) rfl ?_); refine zA ?hg (N := 7) ?hd (cs := #[.string (⟨#[]⟩ : ByteArray), .int .i64 0, .int .i64 0]) (t := 44) ?hr ?_; (case hd | hg => rfl); (case hr => exact (qK21)); intro gb278 hg w90 hbox hb; replace HO_3 := za qK103; replace HB := za (zS (qK4) hb); have BK278 := za hbox; have GW278 := za qK98; have GE278 := za qK95; replace HK := za qK82; have NB0_278 := za qK96; have NB278_0 := za qK97; replace HI0 := za qK93; clear hb hbox hg; have hnb91 := NB278_0.1; have hnc91 := NB0_278.1; have hcz92_0 : w90.cell? ⟨gb278, 0, none⟩ = some (.string (⟨#[]⟩ : ByteArray)) := (blk_cell BK278.1 0).trans rfl; have hcz92_1 : w90.cell? ⟨gb278, 1, none⟩ = some (.int .i64 0) := (blk_cell BK278.1 1).trans rfl; have hcz92_2 : w90.cell? ⟨gb278, 2, none⟩ = some (.int .i64 0) := (blk_cell BK278.1 2).trans rfl; have hfz92_0 := ze BK278.1 0; have hfz92_1 := ze BK278.1 1; have hfz92_2 := ze BK278.1 2) | ((with_reducible refine zo (f := 60) rfl ?_); refine zR (some 48) rfl rfl Try.func60 (qK18) rfl #[.pointer (some ⟨g, 0, none⟩), .int .i64 50] rfl (qK5) ?_; (with_reducible refine (spec_l1Cur_pick.calls g s0_0 t275 t276 50 t279 t280 t281 w0 _ ?s1 ?s2 A32.1).mono ?_); (case s1 => exact (qK8)); (case s2 => exact (qK14)); rintro e w93 ⟨rfl, hi, hb, hk⟩; refine ⟨_, rfl, ?_⟩; replace HO_3 := za (zF (zI (IsS85.apart (show IsS85 w0 _ g s0_0 t275 t276 from (qK8)) (qK30) (by decide)) hk (fun _ h => h.2)) (fun _ h => h.1)); replace BK278 := za (zy hk (g' := gb278) (o := .cells #[.string ((rd_T44 x3_1 t274).f0), .int .i64 ((rd_T44 x3_1 t274).f1), .int .i64 ((rd_T44 x3_1 t274).f2)] 44 (0, 0)) (qK24) NB278_0.1 (by simp)); replace HK := za (zz (qK13) hk (.inl rfl)); replace HB := za hb; replace HI0 := za hi; clear hb hk hi) | ((with_reducible refine zp (N := 69) rfl ?_); refine zL k44 _ 44 ?hg (N := 69) ?hd (xs := ([] : List (S44))) (inner := []) (ok := fun _ => True) (okp := fun _ => True) ?hr ?hp (fun _ hk => hk) trivial (zr _ _) (zn _) (by simp) ?_; (case hd | hg => rfl); (case hr => exact (qK21)); (case hp => exact (zt _ _)); intro v304 w94 ho95 hb hg_ hnew_; clear hg_ hnew_; (first | rw [← Ny303.1] at ho95 | (simp only [Int.reduceToNat] at ho95; rw [← Ny303.1] at ho95)); have HO305 := za (zK (Kd.R_newB (Kd.R_new' ho95 (Kd.R_lt (qK0 HO_3.1))) (qB BK278.1)) (keep_size (w := w) (g := g) (row := none) (qK13))); replace HO_3 := za (qK86 HO_3.1 ho95); replace BK278 := za (zk (qB BK278.1) hb); replace HK := za (zz (qK13) (zN hb g none) (.inl rfl)); replace HB := za (zS (qK14) hb); replace HI0 := za (IsS85.below (qK8) hb); clear hb ho95))
           go_loopg [3, 8] k1 (fun kq v3 v8 w' => ∃ (x3_2 : List (S44)) (x8_2 : Int) (x1001_2 : Int) (x1002_2 : Int), v8 = .int .i64 x8_2 ∧ Aside0 (spec_l1Cur_marks13.l1 kq x3_2 x8_2 s0_0 x1001_2 x1002_2 = some (r1, r2, r3)) ∧ Aside0 (kq ≤ k1) ∧ Aside0 (Kd.R k44 44 w' w.heap.size (fun k_ => k_ ≠ gb278) v3 x3_2) ∧ Aside0 (w'.heap[gb278]? = some (.cells #[.string ((rd_T44 x3_1 t274).f0), .int .i64 ((rd_T44 x3_1 t274).f1), .int .i64 ((rd_T44 x3_1 t274).f2)] 44 (0, 0))) ∧ Aside0 (IsS85 w0 w' g s0_0 x1001_2 x1002_2) ∧ Aside0 (KeepBut w w' g none) ∧ Aside0 (Below w0.heap.size w0 w'))
           case atStart => exact ⟨(y303), (0), (t280), (t281), (qK17), H', ⟨zn _⟩, ⟨(qK29 HO305.1)⟩, ⟨(qK41 BK278.1)⟩, ⟨(qK8)⟩, ⟨(qK13)⟩, ⟨(qK14)⟩⟩
           case round =>
            clear H'; (try clear c6b0); (try clear c27b0); (try clear c27b1); (try clear c27b2); (try clear c30b0); (try clear c31b0); (try clear c33b0); (try clear c33b1); (try clear c51b0); (try clear c51b1); (try clear c69b0); (try clear c69b1); (try clear c87b0); (try clear c87b1); (try clear hcz92_0); (try clear hcz92_1); (try clear hcz92_2); (try clear hfz92_0); (try clear hfz92_1); (try clear hfz92_2); (try clear hx277_0); (try clear hx277_1); (try clear hx277_2); (try clear p277); (try clear q277); obtain ⟨x3_2, x8_2, x1001_2, x1002_2, rfl, HA, HK2, HO_3, BK278, HI0, HK, HB⟩ := hrel
            cases gk with
            | zero => exact zM HA.1 (by simp [spec_l1Cur_marks13.l1])
            | succ k2 =>
             have H := HA.1; clear HA; simp only [spec_l1Cur_marks13.l1] at H; replace H := bindA H; obtain ⟨⟨t306, t307, t308⟩, A96, H⟩ := H; (try dsimp only at H)
             by_cases c97 : x8_2 < (wrap64 (12 + t306))
             ·rw [zX c97] at H; have c97b0 : decide (x8_2 < (wrap64 (12 + t306))) = true := zc c97; clear c97; obtain ⟨y309, hy309⟩ : ∃ y_ : List Int, y_ = (([(wrap64 (65 + x8_2)) % 256] : List Int)) := ⟨_, rfl⟩; replace H : (if x3_2.length < 4398046511104 then (spec_l1Cur_marks13.l1 k2 (x3_2 ++ [(⟨strOfNums y309, x8_2, x8_2⟩ : S44)]) (wrap64 (x8_2 + 1)) s0_0 t307 t308) else (none)) = some (r1, r2, r3) := (qK7 hy309); have Ny309 := za hy309; clear hy309
              by_cases c98 : x3_2.length < 4398046511104
              ·rw [zX c98] at H; have LMc98 := za c98; clear c98; obtain ⟨y312, hy312⟩ : ∃ y_ : List (S44), y_ = (x3_2 ++ [(⟨strOfNums y309, x8_2, x8_2⟩ : S44)]) := ⟨_, rfl⟩; replace H : (spec_l1Cur_marks13.l1 k2 y312 (wrap64 (x8_2 + 1)) s0_0 t307 t308) = some (r1, r2, r3) := (qK7 hy312); have Ny312 := za hy312; clear hy312; have H' := za H; clear H
               go_wp2_with (first | ((with_reducible refine zo (f := 60) rfl ?_); refine zR (some 72) rfl rfl Try.func60 (qK18) rfl #[.pointer (some ⟨g, 0, none⟩), .int .i64 2] rfl (qK5) ?_; (with_reducible refine (spec_l1Cur_pick.calls g s0_0 x1001_2 x1002_2 2 t306 t307 t308 w0 _ ?s1 ?s2 A96.1).mono ?_); (case s1 => exact (qK8)); (case s2 => exact (qK14)); rintro e w99 ⟨rfl, hi, hb, hk⟩; refine ⟨_, rfl, ?_⟩; replace HO_3 := za (zF (zI (IsS85.apart (show IsS85 w0 _ g s0_0 x1001_2 x1002_2 from (qK8)) (qK0 HO_3.1) (by decide)) hk (fun _ h => h.2)) (fun _ h => h.1)); replace BK278 := za qK62; replace HK := za (zz (qK13) hk (.inl rfl)); replace HB := za hb; replace HI0 := za hi; clear hb hk hi) | ((with_reducible refine zp (N := 81) rfl ?_); refine zL (Kd.int .u8) _ 5 ?hg (N := 81) ?hd (xs := ([(wrap64 (65 + x8_2)) % 256] : List Int)) (inner := [.int .u8 ((wrap64 (65 + x8_2)) % 256)]) (ok := fun _ => True) (okp := fun _ => True) ?hr ?hp (fun _ hk => hk) trivial (zr _ _) (zn _) (by simp) ?_; (case hd | hg => rfl); (case hr => exact (qK21)); (case hp => exact (by exact (zs (show Kd.M (Kd.int .u8) _ _ _ ((wrap64 (65 + x8_2)) % 256) [.int .u8 ((wrap64 (65 + x8_2)) % 256)] from rfl) (zt _ _)))); intro v310 w100 ho101 hb hg_ hnew_; clear hg_ hnew_; (first | rw [← Ny309.1] at ho101 | (simp only [Int.reduceToNat] at ho101; rw [← Ny309.1] at ho101)); replace HO_3 := za (qK83 HO_3.1); have HO311 := za (zK ho101 (keep_size (w := w) (g := g) (row := none) (qK13))); replace BK278 := za (zk (qB BK278.1) hb); replace HK := za (zz (qK13) (zN hb g none) (.inl rfl)); replace HB := za (zS (qK14) hb); replace HI0 := za (IsS85.below (qK8) hb); clear hb ho101; have hcv102 := own_string (P := Try.prog) Try.underlying36 Try.underlying5 Try.underlying9 (Kd.own_of_R HO311.1)) | ((with_reducible refine zq (b := .append) (xs := #[.tmp 77, .tmp 86]) rfl ?_); at_builtin; refine Kd.R_append k44 w.heap.size rfl (.tmp 77) (.tmp 86) 26 44 (.agg #[(.string ⟨#[]⟩), (.int .i64 0), (.int .i64 0)]) 32 rfl Try.underlying26 info44 rfl (by decide) (by omega) u3 x3_2 (⟨strOfNums y309, x8_2, x8_2⟩ : S44) [.string (strOfNums y309), .int .i64 x8_2, .int .i64 x8_2] (fun k_ => k_ ≠ gb278) (fun _ => False) rfl rfl ?aP (fun _ hk => hk.elim) ?aF ?aO (zr _ _) ?aS ?aL ?_; (case aP => exact (by exact k44_mkM _ _ _ (⟨strOfNums y309, x8_2, x8_2⟩ : S44))); (case aF => exact (by exact (fun k_ hk => Kd.freshB (qB BK278.1) k_ hk))); (case aO => exact (qK0 HO_3.1)); (case aS => exact (by exact (keep_size (w := w) (g := g) (row := none) (qK13)))); (case aL => have := LMc98.1; omega); intro v313 w103 ho hb hg hat; rw [← Ny312.1] at ho; replace BK278 := za qK61; replace HO311 := za (qK94 HO311.1 HO_3.1); replace HB := za (below_weaken (qK14) HL.1 hb); replace HI0 := za (IsS85.grown (show IsS85 w0 _ g s0_0 t307 t308 from (qK8)) hg (IsS85.own_ne HI0.1 HO_3.1 (by decide))); replace HK := za (zz (qK13) (KeepBut.of_grown hg g) (Kd.R_base2 HO_3.1)); have HO314 := za ho; clear HO_3; clear ho hb hg hat))
               go_roundg k2
               case measure => have := HK1.1; have := HK2.1; omega
               case rel => exact ⟨(y312), (wrap64 (x8_2 + 1)), (t307), (t308), (qK17), H', ⟨by have := HK1.1; have := HK2.1; omega⟩, ⟨(qK0 HO314.1)⟩, ⟨(qK41 BK278.1)⟩, ⟨(qK8)⟩, ⟨(qK13)⟩, ⟨(qK14)⟩⟩
              ·rw [zY c98] at H
               exact zM H (by simp)
             ·rw [zY c97] at H; have c97b0 : decide (x8_2 < (wrap64 (12 + t306))) = false := zu c97; clear c97; simp only [zZ, ya] at H; obtain ⟨rfl, rfl, rfl⟩ := H
              go_wp2_with (first | ((with_reducible refine zo (f := 60) rfl ?_); refine zR (some 72) rfl rfl Try.func60 (qK18) rfl #[.pointer (some ⟨g, 0, none⟩), .int .i64 2] rfl (qK5) ?_; (with_reducible refine (spec_l1Cur_pick.calls g s0_0 x1001_2 x1002_2 2 t306 t307 t308 w0 _ ?s1 ?s2 A96.1).mono ?_); (case s1 => exact (qK8)); (case s2 => exact (qK14)); rintro e w104 ⟨rfl, hi, hb, hk⟩; refine ⟨_, rfl, ?_⟩; replace HO_3 := za (zF (zI (IsS85.apart (show IsS85 w0 _ g s0_0 x1001_2 x1002_2 from (qK8)) (qK0 HO_3.1) (by decide)) hk (fun _ h => h.2)) (fun _ h => h.1)); replace BK278 := za qK62; replace HK := za (zz (qK13) hk (.inl rfl)); replace HB := za hb; replace HI0 := za hi; clear hb hk hi))
              go_ret
              exact ⟨_, (qK15), (qK33 HO_3.1), (qK8), (qK14), (qK13)⟩
          ·rw [zY c87] at H; have c87b0 : (t279 == 3) = false := zw c87; have c87b1 : (t279 != 3) = true := zQ c87; obtain ⟨y315, hy315⟩ : ∃ y_ : List (S44), y_ = (x3_1.set (t274 : Int).toNat (⟨(rd_T44 x3_1 t274).f0, (rd_T44 x3_1 t274).f1, (rd_T44 x3_1 t274).f2⟩ : S44)) := ⟨_, rfl⟩; replace H : (some (y315, t280, t281)) = some (r1, r2, r3) := (qK7 hy315); have Ny315 := za hy315; clear hy315; simp only [zZ, ya] at H; obtain ⟨rfl, rfl, rfl⟩ := H; obtain ⟨Ao106, co106, eo106⟩ := zE HO_3.1; subst eo106
           go_wp2_with (first | ((with_reducible refine zo (f := 60) rfl ?_); refine zR (some 42) rfl rfl Try.func60 (qK18) rfl #[.pointer (some ⟨g, 0, none⟩), .int .i64 (x3_1.length : Int)] rfl (qK5) ?_; (with_reducible refine (spec_l1Cur_pick.calls g s0_0 x1001_1 x1002_1 (x3_1.length : Int) t274 t275 t276 w0 _ ?s1 ?s2 A29.1).mono ?_); (case s1 => exact (qK1)); (case s2 => exact (qK4)); rintro e w107 ⟨rfl, hi, hb, hk⟩; refine ⟨_, rfl, ?_⟩; replace HO_3 := za (qK81 HO_3.1); replace HK := za qK84; replace HB := za hb; replace HI0 := za hi; clear hb hk hi; have p277 : 0 ≤ (t274 : Int) := zb (qK12); have q277 : t274 < (x3_1.length : Int) := zb (qK12); obtain ⟨ad277, e277, hx277_0, hx277_1, hx277_2⟩ := at_T44 (zD HO_3.1).2.2 t274 p277 q277; cases e277; replace p277 := zv p277; replace q277 := zv q277) | ((with_reducible refine zp (N := 7) rfl ?_); refine zA ?hg (N := 7) ?hd (cs := #[.string (⟨#[]⟩ : ByteArray), .int .i64 0, .int .i64 0]) (t := 44) ?hr ?_; (case hd | hg => rfl); (case hr => exact (qK21)); intro gb278 hg w108 hbox hb; replace HO_3 := za qK103; replace HB := za (zS (qK4) hb); have BK278 := za hbox; have GW278 := za qK98; have GE278 := za qK95; replace HK := za qK82; have NB0_278 := za qK96; have NB278_0 := za qK97; replace HI0 := za qK93; clear hb hbox hg; have hnb109 := NB278_0.1; have hnc109 := NB0_278.1; have hcz110_0 : w108.cell? ⟨gb278, 0, none⟩ = some (.string (⟨#[]⟩ : ByteArray)) := (blk_cell BK278.1 0).trans rfl; have hcz110_1 : w108.cell? ⟨gb278, 1, none⟩ = some (.int .i64 0) := (blk_cell BK278.1 1).trans rfl; have hcz110_2 : w108.cell? ⟨gb278, 2, none⟩ = some (.int .i64 0) := (blk_cell BK278.1 2).trans rfl; have hfz110_0 := ze BK278.1 0; have hfz110_1 := ze BK278.1 1; have hfz110_2 := ze BK278.1 2) | ((with_reducible refine zo (f := 60) rfl ?_); refine zR (some 48) rfl rfl Try.func60 (qK18) rfl #[.pointer (some ⟨g, 0, none⟩), .int .i64 50] rfl (qK5) ?_; (with_reducible refine (spec_l1Cur_pick.calls g s0_0 t275 t276 50 t279 t280 t281 w0 _ ?s1 ?s2 A32.1).mono ?_); (case s1 => exact (qK8)); (case s2 => exact (qK14)); rintro e w111 ⟨rfl, hi, hb, hk⟩; refine ⟨_, rfl, ?_⟩; replace HO_3 := za (zF (zI (IsS85.apart (show IsS85 w0 _ g s0_0 t275 t276 from (qK8)) (qK30) (by decide)) hk (fun _ h => h.2)) (fun _ h => h.1)); replace BK278 := za (zy hk (g' := gb278) (o := .cells #[.string ((rd_T44 x3_1 t274).f0), .int .i64 ((rd_T44 x3_1 t274).f1), .int .i64 ((rd_T44 x3_1 t274).f2)] 44 (0, 0)) (qK24) NB278_0.1 (by simp)); replace HK := za (zz (qK13) hk (.inl rfl)); replace HB := za hb; replace HI0 := za hi; clear hb hk hi; have hcz112_0 : w111.cell? ⟨gb278, 0, none⟩ = some (.string ((rd_T44 x3_1 t274).f0)) := (blk_cell BK278.1 0).trans rfl; have hcz112_1 : w111.cell? ⟨gb278, 1, none⟩ = some (.int .i64 ((rd_T44 x3_1 t274).f1)) := (blk_cell BK278.1 1).trans rfl; have hcz112_2 : w111.cell? ⟨gb278, 2, none⟩ = some (.int .i64 ((rd_T44 x3_1 t274).f2)) := (blk_cell BK278.1 2).trans rfl; have hfz112_0 := ze BK278.1 0; have hfz112_1 := ze BK278.1 1; have hfz112_2 := ze BK278.1 2; have p105 : 0 ≤ (t274 : Int) := zb (qK12); have q105 : (t274 : Int) < ((x3_1.length : Int) : Int) := zb (qK12); obtain ⟨go105, co105, eo105, gb105, gl105, cl105, HG105⟩ := Kd.R_form HO_3.1 (by omega); (first | cases eo105 | (injection eo105 with ea_ en_ ec_; (first | subst ea_ | (injection ea_ with ea_; subst ea_)); subst ec_; clear en_)); have GB105 := za gb105; have GG105 := za HG105; clear gb105 gl105 HG105; (first | simp only [add_plain] at hx277_0 | skip); (first | simp only [add_plain] at hx277_1 | skip); (first | simp only [add_plain] at hx277_2 | skip); obtain ⟨ce105, hcl105, hM105, hcc105, hfr105⟩ := Kd.R_elem HO_3.1 z44 (t274 : Int) p105 q105; obtain rfl := k44_openM hM105; have hx105_0 : w111.cell? ⟨go105, (t274 : Int).toNat * 3, none⟩ = some (.string ((rd_T44 x3_1 t274).f0)) := hcc105 0 _ rfl; have hx105_1 : w111.cell? ⟨go105, (t274 : Int).toNat * 3 + 1, none⟩ = some (.int .i64 ((rd_T44 x3_1 t274).f1)) := hcc105 1 _ rfl; have hx105_2 : w111.cell? ⟨go105, (t274 : Int).toNat * 3 + 2, none⟩ = some (.int .i64 ((rd_T44 x3_1 t274).f2)) := hcc105 2 _ rfl; have hf105_0 : w111.frozen? ⟨go105, (t274 : Int).toNat * 3, none⟩ = false := hfr105 0; have hf105_1 : w111.frozen? ⟨go105, (t274 : Int).toNat * 3 + 1, none⟩ = false := hfr105 1; have hf105_2 : w111.frozen? ⟨go105, (t274 : Int).toNat * 3 + 2, none⟩ = false := hfr105 2; clear hcl105 hcc105 hfr105 hM105; replace p105 := zv p105; replace q105 := zv q105; have n_ := za (zF (ok' := (fun k_ => k_ ≠ gb278)) HO_3.1 (fun k_ hk => hk.2)); clear HO_3; have HO_3 := n_; clear n_; have HX113 := za (by exact show Kd.R k44 44 w111 w.heap.size (fun k_ => k_ ≠ gb278) (.slice (some ⟨go105, 0, none⟩) x3_1.length co106) x3_1 from (qK0 HO_3.1)); obtain ⟨ce113, hcl113, hM113, hcc113, hfr113⟩ := Kd.R_elem HX113.1 z44 (t274 : Int) (zb (qK12)) (by have h_ : (t274 : Int) < ((x3_1.length : Int) : Int) := zb (qK12); first | exact h_ | (have e_ := (zD HO_3.1).1; omega) | simpa using h_); obtain rfl := k44_openM hM113; have HP113 := Kd.R_seg HX113.1 (t274 : Int) (zb (qK12)) (by have h_ : (t274 : Int) < ((x3_1.length : Int) : Int) := zb (qK12); first | exact h_ | (have e_ := (zD HO_3.1).1; omega) | simpa using h_) (seg := [.string ((rd_T44 x3_1 t274).f0), .int .i64 ((rd_T44 x3_1 t274).f1), .int .i64 ((rd_T44 x3_1 t274).f2)]) (j := 0) hcl113 hcc113 (show 3 ≤ 3 from by decide) (x' := (⟨(rd_T44 x3_1 t274).f0, (rd_T44 x3_1 t274).f1, (rd_T44 x3_1 t274).f2⟩ : S44)) (k44_mkM _ _ _ (⟨(rd_T44 x3_1 t274).f0, (rd_T44 x3_1 t274).f1, (rd_T44 x3_1 t274).f2⟩ : S44) ) (fun _ hk => hk); have hx113_0 := hcc113 0 _ rfl; (try simp only [show (k44).sz = 3 from rfl, Nat.mul_one, Nat.add_zero] at hx113_0); have hf113_0 := hfr113 0; (try simp only [show (k44).sz = 3 from rfl, Nat.mul_one, Nat.add_zero] at hf113_0); have hx113_1 := hcc113 1 _ rfl; (try simp only [show (k44).sz = 3 from rfl, Nat.mul_one, Nat.add_zero] at hx113_1); have hf113_1 := hfr113 1; (try simp only [show (k44).sz = 3 from rfl, Nat.mul_one, Nat.add_zero] at hf113_1); have hx113_2 := hcc113 2 _ rfl; (try simp only [show (k44).sz = 3 from rfl, Nat.mul_one, Nat.add_zero] at hx113_2); have hf113_2 := hfr113 2; (try simp only [show (k44).sz = 3 from rfl, Nat.mul_one, Nat.add_zero] at hf113_2); clear hcl113 hcc113 hfr113 hM113) | ((with_reducible refine gate_store (t := 44) (p := 92) rfl ?_); refine store_event (t := 44) (p := 92) (v := ?vo_w114) (w1 := (((w111.setCell ⟨go105, (t274 : Int).toNat * 3, none⟩ (.string ((rd_T44 x3_1 t274).f0))).setCell ⟨go105, (t274 : Int).toNat * 3 + 1, none⟩ (.int .i64 ((rd_T44 x3_1 t274).f1))).setCell ⟨go105, (t274 : Int).toNat * 3 + 2, none⟩ (.int .i64 ((rd_T44 x3_1 t274).f2)))) ?hg ?ho ?hn ?hr ?_; (case ho => rfl); (case hg => rfl); (case hn => rfl); (case hr => exact (qK21)); intro w114 hw; have hg : w111.grownBy w114 (some go105) := (by rw [hw]; exact HP113.2); have hp_ : Kd.R k44 44 w114 w.heap.size (fun k_ => k_ ≠ gb278) (.slice (some ⟨go105, 0, none⟩) x3_1.length co106) y315 := (by rw [hw, Ny315.1]; exact HP113.1); clear HP113; replace HI0 := za (IsS85.grown (qK8) hg (IsS85.own_ne HI0.1 HO_3.1 (by decide))); replace BK278 := za qK61; replace HB := za (by exact (by rw [hw]; exact zW (zW (zW (HB.1) (Nat.le_trans HL.1 GB105.1)) (Nat.le_trans HL.1 GB105.1)) (Nat.le_trans HL.1 GB105.1) : Below w0.heap.size w0 w114)); replace HK := za (zz (qK13) (KeepBut.of_grown hg g) (Kd.R_base2 HO_3.1)); replace HO_3 := za hp_; clear hg hw hp_))
           go_ret
           exact ⟨_, (qK15), (qK33 HO_3.1), (qK8), (qK14), (qK13)⟩
      ·rw [zY c31] at H
       exact zM H (by simp)
     ·rw [zY c30] at H
      exact zM H (by simp)

end Go.Proofs.Ytckidmhkhlbkeaa.MK
