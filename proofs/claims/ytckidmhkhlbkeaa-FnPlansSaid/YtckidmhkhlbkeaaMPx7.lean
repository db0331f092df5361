-- tight2 (a walk)
import Derived.Test.YtckidmhkhlbkeaaMPx0
import Derived.Test.YtckidmhkhlbkeaaMPx6
namespace Go.Proofs.Ytckidmhkhlbkeaa.MP
open Go.RowKit Go.Proofs.YtckidmhkhlbkeaaW.PrintWords Go.Proofs.YtckidmhkhlbkeaaW.PrintLast
theorem qP7_c0 {p : Prop} (h : p := by
  simp only [putAll, Act.put, zY, zZ, ya]
  rfl) : p := h
theorem qP7_c1 {p : Prop} (h : p := by
  show Act.put _ (some 24) _ = _
  simp only [Act.put, zY, zZ, ya, i64_w, i32_w]
  rfl) : p := h
theorem qP7_c2 {p : Prop} (h : p := by
  show Act.put _ (some 18) _ = _
  simp only [Act.put, zY, zZ, ya, i64_w, i32_w]
  rfl) : p := h
theorem qP7_c3 {p : Prop} (h : p := by
  show Act.put _ (some 19) _ = _
  simp only [Act.put, zY, zZ, ya, i64_w, i32_w]
  rfl) : p := h
theorem qP7_c4 {p : Prop} (h : p := by
  show Act.put _ (some 21) _ = _
  simp only [Act.put, zY, zZ, ya, i64_w, i32_w]
  rfl) : p := h
theorem qP7_c5 {p : Prop} (h : p := by
  show Act.put _ (some 22) _ = _
  simp only [Act.put, zY, zZ, ya, i64_w, i32_w]
  rfl) : p := h
theorem qP7_c6 {p : Prop} (h : p := by
  simp only [Act.put, zY, zZ, ya, i64_w, i32_w]
  rfl) : p := h
theorem qP7_c7 {p : Prop} (h : p := by
  show Act.put _ (some 25) _ = _
  simp only [Act.put, zY, zZ, ya, i64_w, i32_w]
  rfl) : p := h
attribute [local go_sem] max2_int min2_int max_two min_two
set_option linter.unusedVariables false
set_option linter.unusedSimpArgs false

mutual
def spec_l1Cur_marks13.l0 : Nat → List (S44) → Int → Int → List Int → Int → Int → Option ((List (S44)) × Int × Int)
 | 0, _, _, _, _, _, _ => none
 | k + 1, x3, x4, x5, x1000, x1001, x1002 => if x5 > 0 then ((spec_l1Cur_among.f x1000 x1001 x1002 (([(-30), (-1), 0, 5, 9, 10, 40, 1000] : List Int))).bind fun bt192 => ((spec_l1Cur_among.f x1000 bt192.2.1 bt192.2.2 (([(-25), (-10), 0, 1, 9, 20, (-1000)] : List Int))).bind fun bt198 => (if x3.length < 4398046511104 then ((spec_l1Cur_pick.f x1000 bt198.2.1 bt198.2.2 3).bind fun bt204 => (spec_l1Cur_marks13.l0 k (x3 ++ [(⟨strOfNums (([x4] : List Int)), bt192.1, bt198.1⟩ : S44)]) ((x4 + ((wrap64 (1 + bt204.1)) % 256)) % 256) (wrap64 (x5 - 1)) x1000 bt204.2.1 bt204.2.2)) else (none)))) else (if (x3.length : Int) = 0 then (some (x3, x1001, x1002)) else ((spec_l1Cur_pick.f x1000 x1001 x1002 (x3.length : Int)).bind fun bt207 => (if 0 ≤ bt207.1 then (if bt207.1 < (x3.length : Int) then ((spec_l1Cur_pick.f x1000 bt207.2.1 bt207.2.2 50).bind fun bt212 => (if bt212.1 = 0 then ((spec_l1Cur_of.f x1000 bt212.2.1 bt212.2.2 (([(⟨#[]⟩ : ByteArray), (⟨#[97]⟩ : ByteArray), (⟨#[65, 66]⟩ : ByteArray), (⟨#[65]⟩ : ByteArray)] : List ByteArray))).bind fun bt218 => (some ((x3.set (bt207.1 : Int).toNat (⟨bt218.1, (rd_T44 x3 bt207.1).f1, (rd_T44 x3 bt207.1).f2⟩ : S44)), bt218.2.1, bt218.2.2))) else (if bt212.1 = 1 then ((spec_l1Cur_among.f x1000 bt212.2.1 bt212.2.2 (([(-1001), 1001] : List Int))).bind fun bt225 => (some ((x3.set (bt207.1 : Int).toNat (⟨(rd_T44 x3 bt207.1).f0, bt225.1, (rd_T44 x3 bt207.1).f2⟩ : S44)), bt225.2.1, bt225.2.2))) else (if bt212.1 = 2 then ((spec_l1Cur_among.f x1000 bt212.2.1 bt212.2.2 (([(-1001), 1001] : List Int))).bind fun bt232 => (some ((x3.set (bt207.1 : Int).toNat (⟨(rd_T44 x3 bt207.1).f0, (rd_T44 x3 bt207.1).f1, bt232.1⟩ : S44)), bt232.2.1, bt232.2.2))) else (if bt212.1 = 3 then (spec_l1Cur_marks13.l1 k (([] : List (S44))) 0 x1000 bt212.2.1 bt212.2.2) else (some ((x3.set (bt207.1 : Int).toNat (⟨(rd_T44 x3 bt207.1).f0, (rd_T44 x3 bt207.1).f1, (rd_T44 x3 bt207.1).f2⟩ : S44)), bt212.2.1, bt212.2.2))))))) else (none)) else (none))))
def spec_l1Cur_marks13.l1 : Nat → List (S44) → Int → List Int → Int → Int → Option ((List (S44)) × Int × Int)
 | 0, _, _, _, _, _ => none
 | k + 1, x3, x8, x1000, x1001, x1002 => (spec_l1Cur_pick.f x1000 x1001 x1002 2).bind fun bt239 => (if x8 < (wrap64 (12 + bt239.1)) then (if x3.length < 4398046511104 then (spec_l1Cur_marks13.l1 k (x3 ++ [(⟨strOfNums (([(wrap64 (65 + x8)) % 256] : List Int)), x8, x8⟩ : S44)]) (wrap64 (x8 + 1)) x1000 bt239.2.1 bt239.2.2) else (none)) else (some (x3, bt239.2.1, bt239.2.2)))
end
def spec_l1Cur_marks13.f (k : Nat) (s0_0 : List Int) (s0_1 : Int) (s0_2 : Int) : Option ((List (S44)) × Int × Int) := (spec_l1Cur_pick.f s0_0 s0_1 s0_2 7).bind fun bt183 => (spec_l1Cur_marks13.l0 k (([] : List (S44))) 65 bt183.1 s0_0 bt183.2.1 bt183.2.2)
def spec_l1Cur_marks13.T6 : Bool × List (List Nat × List Nat) := (true, [([], []), ([], []), ([1], [1]), ([2], [2]), ([], []), ([], []), ([4, 5], [4, 5]), ([], []), ([], []), ([7, 8, 6], [7, 8]), ([3, 6, 9], [3, 6, 9]), ([10], [10]), ([0, 11, 9], [0, 11]), ([12, 12, 0, 1, 2, 3, 4, 5, 6, 7, 8, 9, 10, 11, 12], [0, 12])])
def spec_l1Cur_marks13.B6 : List Nat := [0, 0, 2, 6, 0, 0, 48, 0, 0, 496, 1022, 2046, 4095, 8191]
theorem spec_l1Cur_marks13.tab6 : rtab .any (opsOf Try.f58 6) = spec_l1Cur_marks13.T6 := by kernel_rfl
theorem spec_l1Cur_marks13.bits6 : waitsOk spec_l1Cur_marks13.T6.2 spec_l1Cur_marks13.B6 = true := by kernel_rfl
set_option maxHeartbeats 8000000 in
set_option maxRecDepth 100000 in
theorem spec_l1Cur_marks13.calls (k : Nat) (g : Nat) (s0_0 : List Int) (s0_1 : Int) (s0_2 : Int) (r1 : List (S44)) (r2 : Int) (r3 : Int) (w0 w : World) (hI : IsS85 w0 w g s0_0 s0_1 s0_2) (hB : Below w0.heap.size w0 w) (h : spec_l1Cur_marks13.f k s0_0 s0_1 s0_2 = some (r1, r2, r3)) :
  Calls Try.prog 58 #[.pointer (some ⟨g, 0, none⟩)] w fun e w' => ∃ v0_ : Value, e = .returned (v0_) ∧ Kd.R k44 44 w' w.heap.size (fun _ => True) v0_ r1 ∧ IsS85 w0 w' g s0_0 r2 r3 ∧ Below w0.heap.size w0 w' ∧ KeepBut w w' g none := by
 have hu44 := Try.underlying44; have HI0 := za hI; have HK := za (KeepBut.refl w g none); have HL := za hB.size; clear hI; have HW0 := za hB.size; have HB := za hB; clear hB; have H : ((spec_l1Cur_pick.f s0_0 s0_1 s0_2 7).bind fun bt183 => (spec_l1Cur_marks13.l0 k (([] : List (S44))) 65 bt183.1 s0_0 bt183.2.1 bt183.2.2)) = some (r1, r2, r3) := h; clear h; obtain ⟨y180, hy180⟩ : ∃ y_ : List (S44), y_ = (([] : List (S44))) := ⟨_, rfl⟩; replace H : ((spec_l1Cur_pick.f s0_0 s0_1 s0_2 7).bind fun bt183 => (spec_l1Cur_marks13.l0 k y180 65 bt183.1 s0_0 bt183.2.1 bt183.2.2)) = some (r1, r2, r3) := (qP13 hy180); have Ny180 := za hy180; clear hy180; replace H := bindA H; obtain ⟨⟨t183, t184, t185⟩, A2, H⟩ := H; (try dsimp only at H); have H' := za H; clear H
 go_enter Try.func58, Try.ntmps58
 go_wp2_with (first | ((with_reducible refine zo (N := 9) rfl ?_); refine zI k44 _ 44 ?hg (N := 9) ?hd (xs := ([] : List (S44))) (inner := []) (ok := fun _ => True) (okp := fun _ => True) ?hr ?hp (fun _ hk => hk) trivial (zp _ _) (zm _) (by simp) ?_; (case hd | hg => rfl); (case hr => exact (qP24)); (case hp => exact (zr _ _)); intro v181 w3 ho4 hb hg_ hnew_; clear hg_ hnew_; (first | rw [← Ny180.1] at ho4 | (simp only [Int.reduceToNat] at ho4; rw [← Ny180.1] at ho4)); have HO182 := za (qP66 ho4); replace HK := za qP65; replace HB := za (zP (qP4) hb); replace HI0 := za qP71; clear hb ho4) | ((with_reducible refine zn (f := 60) rfl ?_); refine zO (some 11) rfl rfl Try.func60 (qP22) rfl #[.pointer (some ⟨g, 0, none⟩), .int .i64 7] rfl (qP5) ?_; (with_reducible refine (spec_l1Cur_pick.calls g s0_0 s0_1 s0_2 7 t183 t184 t185 w0 _ ?s1 ?s2 A2.1).mono ?_); (case s1 => exact (qP2)); (case s2 => exact (qP4)); rintro e w5 ⟨rfl, hi, hb, hk⟩; refine ⟨_, rfl, ?_⟩; replace HO182 := za (qP62 HO182.1); replace HK := za qP67; replace HB := za hb; replace HI0 := za hi; clear hb hk hi))
 go_loopg [3, 4, 5] k (fun kq v3 v4 v5 w' => ∃ (x3_1 : List (S44)) (x4_1 : Int) (x5_1 : Int) (x1001_1 : Int) (x1002_1 : Int), v4 = .int .u8 x4_1 ∧ v5 = .int .i64 x5_1 ∧ Aside0 (spec_l1Cur_marks13.l0 kq x3_1 x4_1 x5_1 s0_0 x1001_1 x1002_1 = some (r1, r2, r3)) ∧ Aside0 (kq ≤ k) ∧ Aside0 (Kd.R k44 44 w' w.heap.size (fun _ => True) v3 x3_1) ∧ Aside0 (IsS85 w0 w' g s0_0 x1001_1 x1002_1) ∧ Aside0 (KeepBut w w' g none) ∧ Aside0 (Below w0.heap.size w0 w'))
 case atStart => exact ⟨(y180), (65), (t183), (t184), (t185), (qP17), (qP17), H', ⟨zm _⟩, ⟨(qP0 HO182.1)⟩, ⟨(qP2)⟩, ⟨(qP3)⟩, ⟨(qP4)⟩⟩
 case round =>
  clear H'; obtain ⟨x3_1, x4_1, x5_1, x1001_1, x1002_1, rfl, rfl, HA, HK1, HO_3, HI0, HK, HB⟩ := hrel
  cases gk with
  | zero => exact zJ HA.1 (by simp [spec_l1Cur_marks13.l0])
  | succ k1 =>
   have H := HA.1; clear HA; simp only [spec_l1Cur_marks13.l0] at H
   by_cases c6 : x5_1 > 0
   ·rw [zU c6] at H; have c6b0 : decide (0 < x5_1) = true := zc c6; clear c6; obtain ⟨y186, hy186⟩ : ∃ y_ : List Int, y_ = (([x4_1] : List Int)) := ⟨_, rfl⟩; replace H : ((spec_l1Cur_among.f s0_0 x1001_1 x1002_1 (([(-30), (-1), 0, 5, 9, 10, 40, 1000] : List Int))).bind fun bt192 => ((spec_l1Cur_among.f s0_0 bt192.2.1 bt192.2.2 (([(-25), (-10), 0, 1, 9, 20, (-1000)] : List Int))).bind fun bt198 => (if x3_1.length < 4398046511104 then ((spec_l1Cur_pick.f s0_0 bt198.2.1 bt198.2.2 3).bind fun bt204 => (spec_l1Cur_marks13.l0 k1 (x3_1 ++ [(⟨strOfNums y186, bt192.1, bt198.1⟩ : S44)]) ((x4_1 + ((wrap64 (1 + bt204.1)) % 256)) % 256) (wrap64 (x5_1 - 1)) s0_0 bt204.2.1 bt204.2.2)) else (none)))) = some (r1, r2, r3) := (qP13 hy186); have Ny186 := za hy186; clear hy186; obtain ⟨y189, hy189⟩ : ∃ y_ : List Int, y_ = (([(-30), (-1), 0, 5, 9, 10, 40, 1000] : List Int)) := ⟨_, rfl⟩; replace H : ((spec_l1Cur_among.f s0_0 x1001_1 x1002_1 y189).bind fun bt192 => ((spec_l1Cur_among.f s0_0 bt192.2.1 bt192.2.2 (([(-25), (-10), 0, 1, 9, 20, (-1000)] : List Int))).bind fun bt198 => (if x3_1.length < 4398046511104 then ((spec_l1Cur_pick.f s0_0 bt198.2.1 bt198.2.2 3).bind fun bt204 => (spec_l1Cur_marks13.l0 k1 (x3_1 ++ [(⟨strOfNums y186, bt192.1, bt198.1⟩ : S44)]) ((x4_1 + ((wrap64 (1 + bt204.1)) % 256)) % 256) (wrap64 (x5_1 - 1)) s0_0 bt204.2.1 bt204.2.2)) else (none)))) = some (r1, r2, r3) := (qP13 hy189); have Ny189 := za hy189; clear hy189; replace H := bindA H; obtain ⟨⟨t192, t193, t194⟩, A7, H⟩ := H
    (try dsimp only at H); obtain ⟨y195, hy195⟩ : ∃ y_ : List Int, y_ = (([(-25), (-10), 0, 1, 9, 20, (-1000)] : List Int)) := ⟨_, rfl⟩; replace H : ((spec_l1Cur_among.f s0_0 t193 t194 y195).bind fun bt198 => (if x3_1.length < 4398046511104 then ((spec_l1Cur_pick.f s0_0 bt198.2.1 bt198.2.2 3).bind fun bt204 => (spec_l1Cur_marks13.l0 k1 (x3_1 ++ [(⟨strOfNums y186, t192, bt198.1⟩ : S44)]) ((x4_1 + ((wrap64 (1 + bt204.1)) % 256)) % 256) (wrap64 (x5_1 - 1)) s0_0 bt204.2.1 bt204.2.2)) else (none))) = some (r1, r2, r3) := (qP13 hy195); have Ny195 := za hy195; clear hy195; replace H := bindA H; obtain ⟨⟨t198, t199, t200⟩, A8, H⟩ := H; (try dsimp only at H)
    by_cases c9 : x3_1.length < 4398046511104
    ·rw [zU c9] at H; have LMc9 := za c9; clear c9; obtain ⟨y201, hy201⟩ : ∃ y_ : List (S44), y_ = (x3_1 ++ [(⟨strOfNums y186, t192, t198⟩ : S44)]) := ⟨_, rfl⟩; replace H : ((spec_l1Cur_pick.f s0_0 t199 t200 3).bind fun bt204 => (spec_l1Cur_marks13.l0 k1 y201 ((x4_1 + ((wrap64 (1 + bt204.1)) % 256)) % 256) (wrap64 (x5_1 - 1)) s0_0 bt204.2.1 bt204.2.2)) = some (r1, r2, r3) := (qP13 hy201); have Ny201 := za hy201; clear hy201; replace H := bindA H; obtain ⟨⟨t204, t205, t206⟩, A10, H⟩ := H; (try dsimp only at H); have H' := za H; clear H; obtain ⟨Ao11, co11, eo11⟩ := zC HO_3.1; subst eo11
     try go_wp2
     replace HO_3 := za (zG HO_3.1); replace HI0 := za (IsS85.drew HI0.1); replace HK := za (keep_drew HK.1); replace HB := za (below_drew1 HB.1)
     refine start_ (n := 14) (S := fun w' => True) (ds := []) #[false, false, false, false, false, false, false, false, false, false, false, false, false, false] (qP22) rfl rfl trivial (fun hHeld => ?_); refine with_tabW spec_l1Cur_marks13.tab6 spec_l1Cur_marks13.bits6 (fun HT_ HW_ => ?_)
     generalize wr.drew = w12 at HO_3 HI0 HK HB hHeld ⊢
     refine pure_ (i := 0) (N := some 16) (v := ?_) (a' := ?_) #[true, false, false, false, false, false, false, false, false, false, false, false, false, false] rfl rfl (qP10) (fun _ _ _ h => h) (zR ⟨by rfl, ?_⟩) ?_ ?_
     rotate_left
     ·intro w'
      go_simp
      with_reducible rfl
     rotate_left
     ·exact qP7_c6
     refine pure_ (i := 1) (N := some 17) (v := ?_) (a' := ?_) #[true, true, false, false, false, false, false, false, false, false, false, false, false, false] rfl rfl (qP10) (fun _ _ _ h => h) (zR ⟨by rfl, ?_⟩) ?_ ?_
     rotate_left
     ·intro w'
      go_simp
      with_reducible rfl
     rotate_left
     ·exact qP7_c6
     refine pure_ (i := 4) (N := some 20) (v := ?_) (a' := ?_) #[true, true, false, false, true, false, false, false, false, false, false, false, false, false] rfl rfl (qP10) (fun _ _ _ h => h) (zR ⟨by rfl, ?_⟩) ?_ ?_
     rotate_left
     ·intro w'
      go_simp
      with_reducible rfl
     rotate_left
     ·exact qP7_c6
     refine pure_ (i := 7) (N := some 23) (v := ?_) (a' := ?_) #[true, true, false, false, true, false, false, true, false, false, false, false, false, false] rfl rfl (qP10) (fun _ _ _ h => h) (zR ⟨by rfl, ?_⟩) ?_ ?_
     rotate_left
     ·intro w'
      go_simp
      with_reducible rfl
     rotate_left
     ·exact qP7_c6
     refine join_ (σ := Value × Value × Value) 4 qPb44 (fun s_ => [(18, s_.1), (19, .string (strOfNums y186)), (21, s_.2.1), (22, .int .i64 t192), (24, s_.2.2), (25, .int .i64 t198)]) (fun s_ w' => (Kd.R (Kd.int .u8) 5 w' w.heap.size (fun _ => True) s_.1 y186) ∧ (Kd.R (Kd.int .i64) 3 w' w.heap.size (fun k_ => some k_ ≠ (s_.2.2 : Value).ownBlock) s_.2.1 y189) ∧ (Kd.R (Kd.int .i64) 3 w' w.heap.size (fun k_ => some k_ ≠ (s_.2.1 : Value).ownBlock) s_.2.2 y195) ∧ (Kd.R k44 44 w' w.heap.size (fun _ => True) (.slice Ao11 x3_1.length co11) x3_1) ∧ (IsS85 w0 w' g s0_0 t199 t200) ∧ (KeepBut w w' g none) ∧ (Below w0.heap.size w0 w')) ?_ ?_
     rotate_left
     ·intro hJ2_3_5_6_8_9
      refine join_ (σ := Value × Value × Value) 5 qPb45 (fun s_ => [(18, s_.1), (19, .string (strOfNums y186)), (21, s_.2.1), (22, .int .i64 t192), (24, s_.2.2)]) (fun s_ w' => (Kd.R (Kd.int .u8) 5 w' w.heap.size (fun _ => True) s_.1 y186) ∧ (Kd.R (Kd.int .i64) 3 w' w.heap.size (fun k_ => some k_ ≠ (s_.2.2 : Value).ownBlock) s_.2.1 y189) ∧ (Kd.R (Kd.int .i64) 3 w' w.heap.size (fun k_ => some k_ ≠ (s_.2.1 : Value).ownBlock) s_.2.2 y195) ∧ (Kd.R k44 44 w' w.heap.size (fun _ => True) (.slice Ao11 x3_1.length co11) x3_1) ∧ (IsS85 w0 w' g s0_0 t193 t194) ∧ (KeepBut w w' g none) ∧ (Below w0.heap.size w0 w')) ?_ ?_
      rotate_left
      ·intro hJ2_3_5_6_8
       refine join_ (σ := Value × Value × Value) 5 qPb46 (fun s_ => [(18, s_.1), (21, s_.2.1), (22, .int .i64 t192), (24, s_.2.2), (25, .int .i64 t198)]) (fun s_ w' => (Kd.R (Kd.int .u8) 5 w' w.heap.size (fun _ => True) s_.1 y186) ∧ (Kd.R (Kd.int .i64) 3 w' w.heap.size (fun k_ => some k_ ≠ (s_.2.2 : Value).ownBlock) s_.2.1 y189) ∧ (Kd.R (Kd.int .i64) 3 w' w.heap.size (fun k_ => some k_ ≠ (s_.2.1 : Value).ownBlock) s_.2.2 y195) ∧ (Kd.R k44 44 w' w.heap.size (fun _ => True) (.slice Ao11 x3_1.length co11) x3_1) ∧ (IsS85 w0 w' g s0_0 t199 t200) ∧ (KeepBut w w' g none) ∧ (Below w0.heap.size w0 w')) ?_ ?_
       rotate_left
       ·intro hJ2_5_6_8_9
        refine join_ (σ := Value × Value) 6 qPb47 (fun s_ => [(18, s_.1), (19, .string (strOfNums y186)), (21, s_.2), (22, .int .i64 t192)]) (fun s_ w' => (Kd.R (Kd.int .u8) 5 w' w.heap.size (fun _ => True) s_.1 y186) ∧ (Kd.R (Kd.int .i64) 3 w' w.heap.size (fun _ => True) s_.2 y189) ∧ (Kd.R k44 44 w' w.heap.size (fun _ => True) (.slice Ao11 x3_1.length co11) x3_1) ∧ (IsS85 w0 w' g s0_0 t193 t194) ∧ (KeepBut w w' g none) ∧ (Below w0.heap.size w0 w')) ?_ ?_
        rotate_left
        ·intro hJ2_3_5_6
         refine join_ (σ := Value × Value × Value) 6 qPb48 (fun s_ => [(18, s_.1), (19, .string (strOfNums y186)), (21, s_.2.1), (24, s_.2.2)]) (fun s_ w' => (Kd.R (Kd.int .u8) 5 w' w.heap.size (fun _ => True) s_.1 y186) ∧ (Kd.R (Kd.int .i64) 3 w' w.heap.size (fun k_ => some k_ ≠ (s_.2.2 : Value).ownBlock) s_.2.1 y189) ∧ (Kd.R (Kd.int .i64) 3 w' w.heap.size (fun k_ => some k_ ≠ (s_.2.1 : Value).ownBlock) s_.2.2 y195) ∧ (Kd.R k44 44 w' w.heap.size (fun _ => True) (.slice Ao11 x3_1.length co11) x3_1) ∧ (IsS85 w0 w' g s0_0 x1001_1 x1002_1) ∧ (KeepBut w w' g none) ∧ (Below w0.heap.size w0 w')) ?_ ?_
         rotate_left
         ·intro hJ2_3_5_8
          refine join_ (σ := Value × Value × Value) 6 qPb49 (fun s_ => [(18, s_.1), (21, s_.2.1), (22, .int .i64 t192), (24, s_.2.2)]) (fun s_ w' => (Kd.R (Kd.int .u8) 5 w' w.heap.size (fun _ => True) s_.1 y186) ∧ (Kd.R (Kd.int .i64) 3 w' w.heap.size (fun k_ => some k_ ≠ (s_.2.2 : Value).ownBlock) s_.2.1 y189) ∧ (Kd.R (Kd.int .i64) 3 w' w.heap.size (fun k_ => some k_ ≠ (s_.2.1 : Value).ownBlock) s_.2.2 y195) ∧ (Kd.R k44 44 w' w.heap.size (fun _ => True) (.slice Ao11 x3_1.length co11) x3_1) ∧ (IsS85 w0 w' g s0_0 t193 t194) ∧ (KeepBut w w' g none) ∧ (Below w0.heap.size w0 w')) ?_ ?_
          rotate_left
          ·intro hJ2_5_6_8
           refine join_ (σ := Value × Value) 6 qPb50 (fun s_ => [(21, s_.1), (22, .int .i64 t192), (24, s_.2), (25, .int .i64 t198)]) (fun s_ w' => (Kd.R (Kd.int .i64) 3 w' w.heap.size (fun k_ => some k_ ≠ (s_.2 : Value).ownBlock) s_.1 y189) ∧ (Kd.R (Kd.int .i64) 3 w' w.heap.size (fun k_ => some k_ ≠ (s_.1 : Value).ownBlock) s_.2 y195) ∧ (Kd.R k44 44 w' w.heap.size (fun _ => True) (.slice Ao11 x3_1.length co11) x3_1) ∧ (IsS85 w0 w' g s0_0 t199 t200) ∧ (KeepBut w w' g none) ∧ (Below w0.heap.size w0 w')) ?_ ?_
           rotate_left
           ·intro hJ5_6_8_9
            refine join_ (σ := Value × Value) 7 qPb51 (fun s_ => [(18, s_.1), (19, .string (strOfNums y186)), (21, s_.2)]) (fun s_ w' => (Kd.R (Kd.int .u8) 5 w' w.heap.size (fun _ => True) s_.1 y186) ∧ (Kd.R (Kd.int .i64) 3 w' w.heap.size (fun _ => True) s_.2 y189) ∧ (Kd.R k44 44 w' w.heap.size (fun _ => True) (.slice Ao11 x3_1.length co11) x3_1) ∧ (IsS85 w0 w' g s0_0 x1001_1 x1002_1) ∧ (KeepBut w w' g none) ∧ (Below w0.heap.size w0 w')) ?_ ?_
            rotate_left
            ·intro hJ2_3_5
             refine join_ (σ := Value × Value) 7 qPb52 (fun s_ => [(18, s_.1), (19, .string (strOfNums y186)), (24, s_.2)]) (fun s_ w' => (Kd.R (Kd.int .u8) 5 w' w.heap.size (fun _ => True) s_.1 y186) ∧ (Kd.R (Kd.int .i64) 3 w' w.heap.size (fun _ => True) s_.2 y195) ∧ (Kd.R k44 44 w' w.heap.size (fun _ => True) (.slice Ao11 x3_1.length co11) x3_1) ∧ (IsS85 w0 w' g s0_0 x1001_1 x1002_1) ∧ (KeepBut w w' g none) ∧ (Below w0.heap.size w0 w')) ?_ ?_
             rotate_left
             ·intro hJ2_3_8
              refine join_ (σ := Value × Value) 7 qPb53 (fun s_ => [(18, s_.1), (21, s_.2), (22, .int .i64 t192)]) (fun s_ w' => (Kd.R (Kd.int .u8) 5 w' w.heap.size (fun _ => True) s_.1 y186) ∧ (Kd.R (Kd.int .i64) 3 w' w.heap.size (fun _ => True) s_.2 y189) ∧ (Kd.R k44 44 w' w.heap.size (fun _ => True) (.slice Ao11 x3_1.length co11) x3_1) ∧ (IsS85 w0 w' g s0_0 t193 t194) ∧ (KeepBut w w' g none) ∧ (Below w0.heap.size w0 w')) ?_ ?_
              rotate_left
              ·intro hJ2_5_6
               refine join_ (σ := Value × Value × Value) 7 qPb54 (fun s_ => [(18, s_.1), (21, s_.2.1), (24, s_.2.2)]) (fun s_ w' => (Kd.R (Kd.int .u8) 5 w' w.heap.size (fun _ => True) s_.1 y186) ∧ (Kd.R (Kd.int .i64) 3 w' w.heap.size (fun k_ => some k_ ≠ (s_.2.2 : Value).ownBlock) s_.2.1 y189) ∧ (Kd.R (Kd.int .i64) 3 w' w.heap.size (fun k_ => some k_ ≠ (s_.2.1 : Value).ownBlock) s_.2.2 y195) ∧ (Kd.R k44 44 w' w.heap.size (fun _ => True) (.slice Ao11 x3_1.length co11) x3_1) ∧ (IsS85 w0 w' g s0_0 x1001_1 x1002_1) ∧ (KeepBut w w' g none) ∧ (Below w0.heap.size w0 w')) ?_ ?_
               rotate_left
               ·intro hJ2_5_8
                refine join_ (σ := Value × Value) 7 qPb55 (fun s_ => [(21, s_.1), (22, .int .i64 t192), (24, s_.2)]) (fun s_ w' => (Kd.R (Kd.int .i64) 3 w' w.heap.size (fun k_ => some k_ ≠ (s_.2 : Value).ownBlock) s_.1 y189) ∧ (Kd.R (Kd.int .i64) 3 w' w.heap.size (fun k_ => some k_ ≠ (s_.1 : Value).ownBlock) s_.2 y195) ∧ (Kd.R k44 44 w' w.heap.size (fun _ => True) (.slice Ao11 x3_1.length co11) x3_1) ∧ (IsS85 w0 w' g s0_0 t193 t194) ∧ (KeepBut w w' g none) ∧ (Below w0.heap.size w0 w')) ?_ ?_
                rotate_left
                ·intro hJ5_6_8
                 refine join_ (σ := Value) 8 qPb56 (fun s_ => [(18, s_), (19, .string (strOfNums y186))]) (fun s_ w' => (Kd.R (Kd.int .u8) 5 w' w.heap.size (fun _ => True) s_ y186) ∧ (Kd.R k44 44 w' w.heap.size (fun _ => True) (.slice Ao11 x3_1.length co11) x3_1) ∧ (IsS85 w0 w' g s0_0 x1001_1 x1002_1) ∧ (KeepBut w w' g none) ∧ (Below w0.heap.size w0 w')) ?_ ?_
                 rotate_left
                 ·intro hJ2_3
                  refine join_ (σ := Value × Value) 8 qPb57 (fun s_ => [(18, s_.1), (21, s_.2)]) (fun s_ w' => (Kd.R (Kd.int .u8) 5 w' w.heap.size (fun _ => True) s_.1 y186) ∧ (Kd.R (Kd.int .i64) 3 w' w.heap.size (fun _ => True) s_.2 y189) ∧ (Kd.R k44 44 w' w.heap.size (fun _ => True) (.slice Ao11 x3_1.length co11) x3_1) ∧ (IsS85 w0 w' g s0_0 x1001_1 x1002_1) ∧ (KeepBut w w' g none) ∧ (Below w0.heap.size w0 w')) ?_ ?_
                  rotate_left
                  ·intro hJ2_5
                   refine join_ (σ := Value × Value) 8 qPb58 (fun s_ => [(18, s_.1), (24, s_.2)]) (fun s_ w' => (Kd.R (Kd.int .u8) 5 w' w.heap.size (fun _ => True) s_.1 y186) ∧ (Kd.R (Kd.int .i64) 3 w' w.heap.size (fun _ => True) s_.2 y195) ∧ (Kd.R k44 44 w' w.heap.size (fun _ => True) (.slice Ao11 x3_1.length co11) x3_1) ∧ (IsS85 w0 w' g s0_0 x1001_1 x1002_1) ∧ (KeepBut w w' g none) ∧ (Below w0.heap.size w0 w')) ?_ ?_
                   rotate_left
                   ·intro hJ2_8
                    refine join_ (σ := Value) 8 qPb59 (fun s_ => [(21, s_), (22, .int .i64 t192)]) (fun s_ w' => (Kd.R (Kd.int .i64) 3 w' w.heap.size (fun _ => True) s_ y189) ∧ (Kd.R k44 44 w' w.heap.size (fun _ => True) (.slice Ao11 x3_1.length co11) x3_1) ∧ (IsS85 w0 w' g s0_0 t193 t194) ∧ (KeepBut w w' g none) ∧ (Below w0.heap.size w0 w')) ?_ ?_
                    rotate_left
                    ·intro hJ5_6
                     refine join_ (σ := Value × Value) 8 qPb60 (fun s_ => [(21, s_.1), (24, s_.2)]) (fun s_ w' => (Kd.R (Kd.int .i64) 3 w' w.heap.size (fun k_ => some k_ ≠ (s_.2 : Value).ownBlock) s_.1 y189) ∧ (Kd.R (Kd.int .i64) 3 w' w.heap.size (fun k_ => some k_ ≠ (s_.1 : Value).ownBlock) s_.2 y195) ∧ (Kd.R k44 44 w' w.heap.size (fun _ => True) (.slice Ao11 x3_1.length co11) x3_1) ∧ (IsS85 w0 w' g s0_0 x1001_1 x1002_1) ∧ (KeepBut w w' g none) ∧ (Below w0.heap.size w0 w')) ?_ ?_
                     rotate_left
                     ·intro hJ5_8
                      refine join_ (σ := Value) 9 qPb61 (fun s_ => [(18, s_)]) (fun s_ w' => (Kd.R (Kd.int .u8) 5 w' w.heap.size (fun _ => True) s_ y186) ∧ (Kd.R k44 44 w' w.heap.size (fun _ => True) (.slice Ao11 x3_1.length co11) x3_1) ∧ (IsS85 w0 w' g s0_0 x1001_1 x1002_1) ∧ (KeepBut w w' g none) ∧ (Below w0.heap.size w0 w')) ?_ ?_
                      rotate_left
                      ·intro hJ2
                       refine join_ (σ := Value) 9 qPb62 (fun s_ => [(21, s_)]) (fun s_ w' => (Kd.R (Kd.int .i64) 3 w' w.heap.size (fun _ => True) s_ y189) ∧ (Kd.R k44 44 w' w.heap.size (fun _ => True) (.slice Ao11 x3_1.length co11) x3_1) ∧ (IsS85 w0 w' g s0_0 x1001_1 x1002_1) ∧ (KeepBut w w' g none) ∧ (Below w0.heap.size w0 w')) ?_ ?_
                       rotate_left
                       ·intro hJ5
                        refine join_ (σ := Value) 9 qPb63 (fun s_ => [(24, s_)]) (fun s_ w' => (Kd.R (Kd.int .i64) 3 w' w.heap.size (fun _ => True) s_ y195) ∧ (Kd.R k44 44 w' w.heap.size (fun _ => True) (.slice Ao11 x3_1.length co11) x3_1) ∧ (IsS85 w0 w' g s0_0 x1001_1 x1002_1) ∧ (KeepBut w w' g none) ∧ (Below w0.heap.size w0 w')) ?_ ?_
                        rotate_left
                        ·intro hJ8
                         refine three_ (i := 2) (j := 5) (k := 8) (Ni := some 18) (Nj := some 21) (Nk := some 24) qPb61 qPb62 qPb63 rfl rfl rfl rfl rfl rfl (three_of HT_.1 (qP22)) (by decide) (by decide) (by decide) (fun K hK => ?_) (fun K hK => ?_) (fun K hK => ?_)
                         ·skip
                          refine Kd.R_lit_step (Kd.int .u8) _ 5 ?hg (N := 18) ?hd (xs := ([x4_1] : List Int)) (inner := [.int .u8 x4_1]) (ok := fun _ => True) (okp := fun _ => True) ?hr ?hp (fun _ hk => hk) trivial (zp _ _) (zm _) (by simp) ?_; (case hd | hg => rfl); (case hr => exact (qP24)); (case hp => exact (qP41))
                          intro v187 w13 ho14 hb hg_ hnew_; clear hg_ hnew_
                          (first | rw [← Ny186.1] at ho14 | (simp only [Int.reduceToNat] at ho14; rw [← Ny186.1] at ho14))
                          replace HO_3 := za (qP63 HO_3.1); have HO188 := za (qP66 ho14); replace HK := za qP65; replace HB := za (zP (qP4) hb); replace HI0 := za qP71; clear hb ho14
                          refine hK.out _ _ trivial (fun hHeld => ?_)
                          clear hK K
                          refine norm_ (a' := ?_) ?_ ?_
                          rotate_left
                          ·exact qP7_c2
                          exact norm_ (qP8) (hJ2 (v187) _ ⟨(qP0 HO188.1), (qP0 HO_3.1), (qP2), (qP3), (qP4)⟩)
                         ·skip
                          refine Kd.R_lit_step (Kd.int .i64) _ 3 ?hg (N := 21) ?hd (xs := ([(-30), (-1), 0, 5, 9, 10, 40, 1000] : List Int)) (inner := [.int .i64 (-30), .int .i64 (-1), .int .i64 0, .int .i64 5, .int .i64 9, .int .i64 10, .int .i64 40, .int .i64 1000]) (ok := fun _ => True) (okp := fun _ => True) ?hr ?hp (fun _ hk => hk) trivial (zp _ _) (zm _) (by simp) ?_; (case hd | hg => rfl); (case hr => exact (qP24)); (case hp => exact (qP23))
                          intro v190 w13 ho14 hb hg_ hnew_; clear hg_ hnew_
                          (first | rw [← Ny189.1] at ho14 | (simp only [Int.reduceToNat] at ho14; rw [← Ny189.1] at ho14))
                          replace HO_3 := za (qP63 HO_3.1); have HO191 := za (qP66 ho14); replace HK := za qP65; replace HB := za (zP (qP4) hb); replace HI0 := za qP71; clear hb ho14
                          refine hK.out _ _ trivial (fun hHeld => ?_)
                          clear hK K
                          refine norm_ (a' := ?_) ?_ ?_
                          rotate_left
                          ·exact qP7_c4
                          exact norm_ (qP8) (hJ5 (v190) _ ⟨(qP0 HO191.1), (qP0 HO_3.1), (qP2), (qP3), (qP4)⟩)
                         ·skip
                          refine Kd.R_lit_step (Kd.int .i64) _ 3 ?hg (N := 24) ?hd (xs := ([(-25), (-10), 0, 1, 9, 20, (-1000)] : List Int)) (inner := [.int .i64 (-25), .int .i64 (-10), .int .i64 0, .int .i64 1, .int .i64 9, .int .i64 20, .int .i64 (-1000)]) (ok := fun _ => True) (okp := fun _ => True) ?hr ?hp (fun _ hk => hk) trivial (zp _ _) (zm _) (by simp) ?_; (case hd | hg => rfl); (case hr => exact (qP24)); (case hp => exact (qP18))
                          intro v196 w13 ho14 hb hg_ hnew_; clear hg_ hnew_
                          (first | rw [← Ny195.1] at ho14 | (simp only [Int.reduceToNat] at ho14; rw [← Ny195.1] at ho14))
                          replace HO_3 := za (qP63 HO_3.1); have HO197 := za (qP66 ho14); replace HK := za qP65; replace HB := za (zP (qP4) hb); replace HI0 := za qP71; clear hb ho14
                          refine hK.out _ _ trivial (fun hHeld => ?_)
                          clear hK K
                          refine norm_ (a' := ?_) ?_ ?_
                          rotate_left
                          ·exact qP7_c1
                          exact norm_ (qP8) (hJ8 (v196) _ ⟨(qP0 HO197.1), (qP0 HO_3.1), (qP2), (qP3), (qP4)⟩)
                        ·skip
                         rintro v196 w15 ⟨h0_, h1_, h2_, h3_, h4_⟩
                         have HO197 : Aside0 (Kd.R (Kd.int .i64) 3 w15 w.heap.size (fun _ => True) v196 y195) := ⟨h0_⟩; replace HO_3 : Aside0 (Kd.R k44 44 w15 w.heap.size (fun _ => True) (.slice Ao11 x3_1.length co11) x3_1) := ⟨h1_⟩; replace HI0 : Aside0 (IsS85 w0 w15 g s0_0 x1001_1 x1002_1) := ⟨h2_⟩; replace HK : Aside0 (KeepBut w w15 g none) := ⟨h3_⟩; replace HB : Aside0 (Below w0.heap.size w0 w15) := ⟨h4_⟩; clear h0_ h1_ h2_ h3_ h4_; have hHeld := trivial
                         refine norm_ (a' := ?_) ?_ ?_
                         rotate_left
                         ·exact qP7_c0
                         refine two_ (i := 2) (j := 5) (Ni := some 18) (Nj := some 21) qPb58 qPb60 rfl rfl rfl rfl (two_of HT_.1 (qP22)) (by decide) (by decide) (fun K hK => ?_) (fun K hK => ?_)
                         ·skip
                          refine Kd.R_lit_step (Kd.int .u8) _ 5 ?hg (N := 18) ?hd (xs := ([x4_1] : List Int)) (inner := [.int .u8 x4_1]) (ok := fun _ => True) (okp := fun _ => True) ?hr ?hp (fun _ hk => hk) trivial (zp _ _) (zm _) (by simp) ?_; (case hd | hg => rfl); (case hr => exact (qP24)); (case hp => exact (qP41))
                          intro v187 w16 ho17 hb hg_ hnew_; clear hg_ hnew_
                          (first | rw [← Ny186.1] at ho17 | (simp only [Int.reduceToNat] at ho17; rw [← Ny186.1] at ho17))
                          replace HO_3 := za (qP63 HO_3.1); replace HO197 := za (qP63 HO197.1); have HO188 := za (qP66 ho17); replace HK := za qP65; replace HB := za (zP (qP4) hb); replace HI0 := za qP71; clear hb ho17
                          refine hK.out _ _ trivial (fun hHeld => ?_)
                          clear hK K
                          refine norm_ (a' := ?_) ?_ ?_
                          rotate_left
                          ·exact qP7_c2
                          exact norm_ (qP8) (hJ2_8 (v187, v196) _ ⟨(qP0 HO188.1), (qP0 HO197.1), (qP0 HO_3.1), (qP2), (qP3), (qP4)⟩)
                         ·skip
                          refine Kd.R_lit_step (Kd.int .i64) _ 3 ?hg (N := 21) ?hd (xs := ([(-30), (-1), 0, 5, 9, 10, 40, 1000] : List Int)) (inner := [.int .i64 (-30), .int .i64 (-1), .int .i64 0, .int .i64 5, .int .i64 9, .int .i64 10, .int .i64 40, .int .i64 1000]) (ok := fun _ => True) (okp := fun _ => True) ?hr ?hp (fun _ hk => hk) trivial (zp _ _) (zm _) (by simp) ?_; (case hd | hg => rfl); (case hr => exact (qP24)); (case hp => exact (qP23))
                          intro v190 w16 ho17 hb hg_ hnew_; clear hg_ hnew_
                          (first | rw [← Ny189.1] at ho17 | (simp only [Int.reduceToNat] at ho17; rw [← Ny189.1] at ho17))
                          replace HO_3 := za (qP63 HO_3.1); have HO191 := za (qP72 ho17 HO197.1); replace HO197 := za (qP73 HO197.1 ho17); replace HK := za qP65; replace HB := za (zP (qP4) hb); replace HI0 := za qP71; clear hb ho17
                          refine hK.out _ _ trivial (fun hHeld => ?_)
                          clear hK K
                          refine norm_ (a' := ?_) ?_ ?_
                          rotate_left
                          ·exact qP7_c4
                          exact norm_ (qP8) (hJ5_8 (v190, v196) _ ⟨(qP27 HO191.1), (qP27 HO197.1), (qP0 HO_3.1), (qP2), (qP3), (qP4)⟩)
                       ·skip
                        rintro v190 w15 ⟨h0_, h1_, h2_, h3_, h4_⟩
                        have HO191 : Aside0 (Kd.R (Kd.int .i64) 3 w15 w.heap.size (fun _ => True) v190 y189) := ⟨h0_⟩; replace HO_3 : Aside0 (Kd.R k44 44 w15 w.heap.size (fun _ => True) (.slice Ao11 x3_1.length co11) x3_1) := ⟨h1_⟩; replace HI0 : Aside0 (IsS85 w0 w15 g s0_0 x1001_1 x1002_1) := ⟨h2_⟩; replace HK : Aside0 (KeepBut w w15 g none) := ⟨h3_⟩; replace HB : Aside0 (Below w0.heap.size w0 w15) := ⟨h4_⟩; clear h0_ h1_ h2_ h3_ h4_; have hHeld := trivial
                        refine norm_ (a' := ?_) ?_ ?_
                        rotate_left
                        ·exact qP7_c0
                        refine three_ (i := 2) (j := 6) (k := 8) (Ni := some 18) (Nj := some 22) (Nk := some 24) qPb57 qPb59 qPb60 rfl rfl rfl rfl rfl rfl (three_of HT_.1 (qP22)) (by decide) (by decide) (by decide) (fun K hK => ?_) (fun K hK => ?_) (fun K hK => ?_)
                        ·skip
                         refine Kd.R_lit_step (Kd.int .u8) _ 5 ?hg (N := 18) ?hd (xs := ([x4_1] : List Int)) (inner := [.int .u8 x4_1]) (ok := fun _ => True) (okp := fun _ => True) ?hr ?hp (fun _ hk => hk) trivial (zp _ _) (zm _) (by simp) ?_; (case hd | hg => rfl); (case hr => exact (qP24)); (case hp => exact (qP41))
                         intro v187 w16 ho17 hb hg_ hnew_; clear hg_ hnew_
                         (first | rw [← Ny186.1] at ho17 | (simp only [Int.reduceToNat] at ho17; rw [← Ny186.1] at ho17))
                         replace HO_3 := za (qP63 HO_3.1); replace HO191 := za (qP63 HO191.1); have HO188 := za (qP66 ho17); replace HK := za qP65; replace HB := za (zP (qP4) hb); replace HI0 := za qP71; clear hb ho17
                         refine hK.out _ _ trivial (fun hHeld => ?_)
                         clear hK K
                         refine norm_ (a' := ?_) ?_ ?_
                         rotate_left
                         ·exact qP7_c2
                         exact norm_ (qP8) (hJ2_5 (v187, v190) _ ⟨(qP0 HO188.1), (qP0 HO191.1), (qP0 HO_3.1), (qP2), (qP3), (qP4)⟩)
                        ·skip
                         obtain ⟨Ao16, co16, eo16⟩ := zC HO191.1
                         (first | subst eo16 | (injection eo16 with f1_ f2_ f3_; have f4_ := f1_.symm; have f5_ := f3_.symm; clear f1_ f2_ f3_; subst f4_; subst f5_))
                         refine goes_ Try.func59 (qP22) rfl #[.pointer (some ⟨g, 0, none⟩), .slice Ao16 y189.length co16] (by rfl) rfl rfl (qP5) ?_
                         with_reducible refine (spec_l1Cur_among.calls g s0_0 x1001_1 x1002_1 _ _ y189 t192 t193 t194 w0 _ ?s1 ?s2 ?s3 ?s4 ?s5 A7.1).mono ?_
                         (case s1 => exact (qP2))
                         (case s2 => exact (qP4))
                         (case s3 => exact (qP6 HO191.1))
                         (case s4 => exact (qP32 HO191.1))
                         (case s5 => exact (qP42 HO191.1))
                         rintro e w17 ⟨rfl, hi, hb, hk⟩
                         refine ⟨_, rfl, ?_⟩
                         replace HO_3 := za (qP62 HO_3.1); replace HO191 := za (qP62 HO191.1); replace HK := za qP67; replace HB := za hb; replace HI0 := za hi
                         (try clear hb)
                         (try clear hb2)
                         (try clear hk)
                         (try clear hi)
                         refine hK.out _ _ trivial (fun hHeld => ?_)
                         clear hK K
                         refine norm_ (a' := ?_) ?_ ?_
                         rotate_left
                         ·exact qP7_c5
                         exact norm_ (qP8) (hJ5_6 (.slice Ao16 y189.length co16) _ ⟨(qP0 HO191.1), (qP0 HO_3.1), (qP2), (qP3), (qP4)⟩)
                        ·skip
                         refine Kd.R_lit_step (Kd.int .i64) _ 3 ?hg (N := 24) ?hd (xs := ([(-25), (-10), 0, 1, 9, 20, (-1000)] : List Int)) (inner := [.int .i64 (-25), .int .i64 (-10), .int .i64 0, .int .i64 1, .int .i64 9, .int .i64 20, .int .i64 (-1000)]) (ok := fun _ => True) (okp := fun _ => True) ?hr ?hp (fun _ hk => hk) trivial (zp _ _) (zm _) (by simp) ?_; (case hd | hg => rfl); (case hr => exact (qP24)); (case hp => exact (qP18))
                         intro v196 w16 ho17 hb hg_ hnew_; clear hg_ hnew_
                         (first | rw [← Ny195.1] at ho17 | (simp only [Int.reduceToNat] at ho17; rw [← Ny195.1] at ho17))
                         replace HO_3 := za (qP63 HO_3.1); have HO197 := za (qP72 ho17 HO191.1); replace HO191 := za (qP73 HO191.1 ho17); replace HK := za qP65; replace HB := za (zP (qP4) hb); replace HI0 := za qP71; clear hb ho17
                         refine hK.out _ _ trivial (fun hHeld => ?_)
                         clear hK K
                         refine norm_ (a' := ?_) ?_ ?_
                         rotate_left
                         ·exact qP7_c1
                         exact norm_ (qP8) (hJ5_8 (v190, v196) _ ⟨(qP27 HO191.1), (qP27 HO197.1), (qP0 HO_3.1), (qP2), (qP3), (qP4)⟩)
                      ·skip
                       rintro v187 w15 ⟨h0_, h1_, h2_, h3_, h4_⟩
                       have HO188 : Aside0 (Kd.R (Kd.int .u8) 5 w15 w.heap.size (fun _ => True) v187 y186) := ⟨h0_⟩; replace HO_3 : Aside0 (Kd.R k44 44 w15 w.heap.size (fun _ => True) (.slice Ao11 x3_1.length co11) x3_1) := ⟨h1_⟩; replace HI0 : Aside0 (IsS85 w0 w15 g s0_0 x1001_1 x1002_1) := ⟨h2_⟩; replace HK : Aside0 (KeepBut w w15 g none) := ⟨h3_⟩; replace HB : Aside0 (Below w0.heap.size w0 w15) := ⟨h4_⟩; clear h0_ h1_ h2_ h3_ h4_; have hHeld := trivial
                       refine norm_ (a' := ?_) ?_ ?_
                       rotate_left
                       ·exact qP7_c0
                       refine three_ (i := 3) (j := 5) (k := 8) (Ni := some 19) (Nj := some 21) (Nk := some 24) qPb56 qPb57 qPb58 rfl rfl rfl rfl rfl rfl (three_of HT_.1 (qP22)) (by decide) (by decide) (by decide) (fun K hK => ?_) (fun K hK => ?_) (fun K hK => ?_)
                       ·skip
                        have hcv16 := own_string (P := Try.prog) Try.underlying36 Try.underlying5 Try.underlying9 (Kd.own_of_R HO188.1)
                        refine value_ (w1 := ?_) (v := ?_) (by rfl) rfl ?_ ?_
                        rotate_left 2
                        ·go_simp
                         constructor
                         ·rfl
                         ·rfl
                        clear hcv16
                        refine hK.out _ _ trivial (fun hHeld => ?_)
                        clear hK K
                        refine norm_ (a' := ?_) ?_ ?_
                        rotate_left
                        ·exact qP7_c3
                        exact norm_ (qP8) (hJ2_3 (v187) _ ⟨(qP0 HO188.1), (qP0 HO_3.1), (qP2), (qP3), (qP4)⟩)
                       ·skip
                        refine Kd.R_lit_step (Kd.int .i64) _ 3 ?hg (N := 21) ?hd (xs := ([(-30), (-1), 0, 5, 9, 10, 40, 1000] : List Int)) (inner := [.int .i64 (-30), .int .i64 (-1), .int .i64 0, .int .i64 5, .int .i64 9, .int .i64 10, .int .i64 40, .int .i64 1000]) (ok := fun _ => True) (okp := fun _ => True) ?hr ?hp (fun _ hk => hk) trivial (zp _ _) (zm _) (by simp) ?_; (case hd | hg => rfl); (case hr => exact (qP24)); (case hp => exact (qP23))
                        intro v190 w16 ho17 hb hg_ hnew_; clear hg_ hnew_
                        (first | rw [← Ny189.1] at ho17 | (simp only [Int.reduceToNat] at ho17; rw [← Ny189.1] at ho17))
                        replace HO_3 := za (qP63 HO_3.1); replace HO188 := za (qP63 HO188.1); have HO191 := za (qP66 ho17); replace HK := za qP65; replace HB := za (zP (qP4) hb); replace HI0 := za qP71; clear hb ho17
                        refine hK.out _ _ trivial (fun hHeld => ?_)
                        clear hK K
                        refine norm_ (a' := ?_) ?_ ?_
                        rotate_left
                        ·exact qP7_c4
                        exact norm_ (qP8) (hJ2_5 (v187, v190) _ ⟨(qP0 HO188.1), (qP0 HO191.1), (qP0 HO_3.1), (qP2), (qP3), (qP4)⟩)
                       ·skip
                        refine Kd.R_lit_step (Kd.int .i64) _ 3 ?hg (N := 24) ?hd (xs := ([(-25), (-10), 0, 1, 9, 20, (-1000)] : List Int)) (inner := [.int .i64 (-25), .int .i64 (-10), .int .i64 0, .int .i64 1, .int .i64 9, .int .i64 20, .int .i64 (-1000)]) (ok := fun _ => True) (okp := fun _ => True) ?hr ?hp (fun _ hk => hk) trivial (zp _ _) (zm _) (by simp) ?_; (case hd | hg => rfl); (case hr => exact (qP24)); (case hp => exact (qP18))
                        intro v196 w16 ho17 hb hg_ hnew_; clear hg_ hnew_
                        (first | rw [← Ny195.1] at ho17 | (simp only [Int.reduceToNat] at ho17; rw [← Ny195.1] at ho17))
                        replace HO_3 := za (qP63 HO_3.1); replace HO188 := za (qP63 HO188.1); have HO197 := za (qP66 ho17); replace HK := za qP65; replace HB := za (zP (qP4) hb); replace HI0 := za qP71; clear hb ho17
                        refine hK.out _ _ trivial (fun hHeld => ?_)
                        clear hK K
                        refine norm_ (a' := ?_) ?_ ?_
                        rotate_left
                        ·exact qP7_c1
                        exact norm_ (qP8) (hJ2_8 (v187, v196) _ ⟨(qP0 HO188.1), (qP0 HO197.1), (qP0 HO_3.1), (qP2), (qP3), (qP4)⟩)
                     ·skip
                      rintro ⟨v190, v196⟩ w17 ⟨h0_, h1_, h2_, h3_, h4_, h5_⟩
                      have HO191 : Aside0 (Kd.R (Kd.int .i64) 3 w17 w.heap.size (fun k_ => some k_ ≠ (v196 : Value).ownBlock) v190 y189) := ⟨h0_⟩; have HO197 : Aside0 (Kd.R (Kd.int .i64) 3 w17 w.heap.size (fun k_ => some k_ ≠ (v190 : Value).ownBlock) v196 y195) := ⟨h1_⟩; replace HO_3 : Aside0 (Kd.R k44 44 w17 w.heap.size (fun _ => True) (.slice Ao11 x3_1.length co11) x3_1) := ⟨h2_⟩; replace HI0 : Aside0 (IsS85 w0 w17 g s0_0 x1001_1 x1002_1) := ⟨h3_⟩; replace HK : Aside0 (KeepBut w w17 g none) := ⟨h4_⟩; replace HB : Aside0 (Below w0.heap.size w0 w17) := ⟨h5_⟩; clear h0_ h1_ h2_ h3_ h4_ h5_; have hHeld := trivial
                      refine norm_ (a' := ?_) ?_ ?_
                      rotate_left
                      ·exact qP7_c0
                      refine two_ (i := 2) (j := 6) (Ni := some 18) (Nj := some 22) qPb54 qPb55 rfl rfl rfl rfl (two_of HT_.1 (qP22)) (by decide) (by decide) (fun K hK => ?_) (fun K hK => ?_)
                      ·skip
                       refine Kd.R_lit_step (Kd.int .u8) _ 5 ?hg (N := 18) ?hd (xs := ([x4_1] : List Int)) (inner := [.int .u8 x4_1]) (ok := fun _ => True) (okp := fun _ => True) ?hr ?hp (fun _ hk => hk) trivial (zp _ _) (zm _) (by simp) ?_; (case hd | hg => rfl); (case hr => exact (qP24)); (case hp => exact (qP41))
                       intro v187 w18 ho19 hb hg_ hnew_; clear hg_ hnew_
                       (first | rw [← Ny186.1] at ho19 | (simp only [Int.reduceToNat] at ho19; rw [← Ny186.1] at ho19))
                       replace HO_3 := za (qP63 HO_3.1); replace HO191 := za (qP63 HO191.1); replace HO197 := za (qP63 HO197.1); have HO188 := za (qP66 ho19); replace HK := za qP65; replace HB := za (zP (qP4) hb); replace HI0 := za qP71; clear hb ho19
                       refine hK.out _ _ trivial (fun hHeld => ?_)
                       clear hK K
                       refine norm_ (a' := ?_) ?_ ?_
                       rotate_left
                       ·exact qP7_c2
                       exact norm_ (qP8) (hJ2_5_8 (v187, v190, v196) _ ⟨(qP0 HO188.1), (qP0 HO191.1), (qP0 HO197.1), (qP0 HO_3.1), (qP2), (qP3), (qP4)⟩)
                      ·skip
                       obtain ⟨Ao18, co18, eo18⟩ := zC HO191.1
                       (first | subst eo18 | (injection eo18 with f1_ f2_ f3_; have f4_ := f1_.symm; have f5_ := f3_.symm; clear f1_ f2_ f3_; subst f4_; subst f5_))
                       refine goes_ Try.func59 (qP22) rfl #[.pointer (some ⟨g, 0, none⟩), .slice Ao18 y189.length co18] (by rfl) rfl rfl (qP5) ?_
                       with_reducible refine (spec_l1Cur_among.calls g s0_0 x1001_1 x1002_1 _ _ y189 t192 t193 t194 w0 _ ?s1 ?s2 ?s3 ?s4 ?s5 A7.1).mono ?_
                       (case s1 => exact (qP2))
                       (case s2 => exact (qP4))
                       (case s3 => exact (qP6 HO191.1))
                       (case s4 => exact (qP32 HO191.1))
                       (case s5 => exact (qP42 HO191.1))
                       rintro e w19 ⟨rfl, hi, hb, hk⟩
                       refine ⟨_, rfl, ?_⟩
                       replace HO_3 := za (qP62 HO_3.1); replace HO191 := za (qP62 HO191.1); replace HO197 := za (qP62 HO197.1); replace HK := za qP67; replace HB := za hb; replace HI0 := za hi
                       (try clear hb)
                       (try clear hb2)
                       (try clear hk)
                       (try clear hi)
                       refine hK.out _ _ trivial (fun hHeld => ?_)
                       clear hK K
                       refine norm_ (a' := ?_) ?_ ?_
                       rotate_left
                       ·exact qP7_c5
                       exact norm_ (qP8) (hJ5_6_8 (.slice Ao18 y189.length co18, v196) _ ⟨(qP0 HO191.1), (qP0 HO197.1), (qP0 HO_3.1), (qP2), (qP3), (qP4)⟩)
                    ·skip
                     rintro v190 w17 ⟨h0_, h1_, h2_, h3_, h4_⟩
                     have HO191 : Aside0 (Kd.R (Kd.int .i64) 3 w17 w.heap.size (fun _ => True) v190 y189) := ⟨h0_⟩; replace HO_3 : Aside0 (Kd.R k44 44 w17 w.heap.size (fun _ => True) (.slice Ao11 x3_1.length co11) x3_1) := ⟨h1_⟩; replace HI0 : Aside0 (IsS85 w0 w17 g s0_0 t193 t194) := ⟨h2_⟩; replace HK : Aside0 (KeepBut w w17 g none) := ⟨h3_⟩; replace HB : Aside0 (Below w0.heap.size w0 w17) := ⟨h4_⟩; clear h0_ h1_ h2_ h3_ h4_; have hHeld := trivial
                     refine norm_ (a' := ?_) ?_ ?_
                     rotate_left
                     ·exact qP7_c0
                     refine two_ (i := 2) (j := 8) (Ni := some 18) (Nj := some 24) qPb53 qPb55 rfl rfl rfl rfl (two_of HT_.1 (qP22)) (by decide) (by decide) (fun K hK => ?_) (fun K hK => ?_)
                     ·skip
                      refine Kd.R_lit_step (Kd.int .u8) _ 5 ?hg (N := 18) ?hd (xs := ([x4_1] : List Int)) (inner := [.int .u8 x4_1]) (ok := fun _ => True) (okp := fun _ => True) ?hr ?hp (fun _ hk => hk) trivial (zp _ _) (zm _) (by simp) ?_; (case hd | hg => rfl); (case hr => exact (qP24)); (case hp => exact (qP41))
                      intro v187 w18 ho19 hb hg_ hnew_; clear hg_ hnew_
                      (first | rw [← Ny186.1] at ho19 | (simp only [Int.reduceToNat] at ho19; rw [← Ny186.1] at ho19))
                      replace HO_3 := za (qP63 HO_3.1); replace HO191 := za (qP63 HO191.1); have HO188 := za (qP66 ho19); replace HK := za qP65; replace HB := za (zP (qP4) hb); replace HI0 := za qP71; clear hb ho19
                      refine hK.out _ _ trivial (fun hHeld => ?_)
                      clear hK K
                      refine norm_ (a' := ?_) ?_ ?_
                      rotate_left
                      ·exact qP7_c2
                      exact norm_ (qP8) (hJ2_5_6 (v187, v190) _ ⟨(qP0 HO188.1), (qP0 HO191.1), (qP0 HO_3.1), (qP2), (qP3), (qP4)⟩)
                     ·skip
                      refine Kd.R_lit_step (Kd.int .i64) _ 3 ?hg (N := 24) ?hd (xs := ([(-25), (-10), 0, 1, 9, 20, (-1000)] : List Int)) (inner := [.int .i64 (-25), .int .i64 (-10), .int .i64 0, .int .i64 1, .int .i64 9, .int .i64 20, .int .i64 (-1000)]) (ok := fun _ => True) (okp := fun _ => True) ?hr ?hp (fun _ hk => hk) trivial (zp _ _) (zm _) (by simp) ?_; (case hd | hg => rfl); (case hr => exact (qP24)); (case hp => exact (qP18))
                      intro v196 w18 ho19 hb hg_ hnew_; clear hg_ hnew_
                      (first | rw [← Ny195.1] at ho19 | (simp only [Int.reduceToNat] at ho19; rw [← Ny195.1] at ho19))
                      replace HO_3 := za (qP63 HO_3.1); have HO197 := za (qP72 ho19 HO191.1); replace HO191 := za (qP73 HO191.1 ho19); replace HK := za qP65; replace HB := za (zP (qP4) hb); replace HI0 := za qP71; clear hb ho19
                      refine hK.out _ _ trivial (fun hHeld => ?_)
                      clear hK K
                      refine norm_ (a' := ?_) ?_ ?_
                      rotate_left
                      ·exact qP7_c1
                      exact norm_ (qP8) (hJ5_6_8 (v190, v196) _ ⟨(qP27 HO191.1), (qP27 HO197.1), (qP0 HO_3.1), (qP2), (qP3), (qP4)⟩)
                   ·skip
                    rintro ⟨v187, v196⟩ w17 ⟨h0_, h1_, h2_, h3_, h4_, h5_⟩
                    have HO188 : Aside0 (Kd.R (Kd.int .u8) 5 w17 w.heap.size (fun _ => True) v187 y186) := ⟨h0_⟩; have HO197 : Aside0 (Kd.R (Kd.int .i64) 3 w17 w.heap.size (fun _ => True) v196 y195) := ⟨h1_⟩; replace HO_3 : Aside0 (Kd.R k44 44 w17 w.heap.size (fun _ => True) (.slice Ao11 x3_1.length co11) x3_1) := ⟨h2_⟩; replace HI0 : Aside0 (IsS85 w0 w17 g s0_0 x1001_1 x1002_1) := ⟨h3_⟩; replace HK : Aside0 (KeepBut w w17 g none) := ⟨h4_⟩; replace HB : Aside0 (Below w0.heap.size w0 w17) := ⟨h5_⟩; clear h0_ h1_ h2_ h3_ h4_ h5_; have hHeld := trivial
                    refine norm_ (a' := ?_) ?_ ?_
                    rotate_left
                    ·exact qP7_c0
                    refine two_ (i := 3) (j := 5) (Ni := some 19) (Nj := some 21) qPb52 qPb54 rfl rfl rfl rfl (two_of HT_.1 (qP22)) (by decide) (by decide) (fun K hK => ?_) (fun K hK => ?_)
                    ·skip
                     have hcv18 := own_string (P := Try.prog) Try.underlying36 Try.underlying5 Try.underlying9 (Kd.own_of_R HO188.1)
                     refine value_ (w1 := ?_) (v := ?_) (by rfl) rfl ?_ ?_
                     rotate_left 2
                     ·go_simp
                      constructor
                      ·rfl
                      ·rfl
                     clear hcv18
                     refine hK.out _ _ trivial (fun hHeld => ?_)
                     clear hK K
                     refine norm_ (a' := ?_) ?_ ?_
                     rotate_left
                     ·exact qP7_c3
                     exact norm_ (qP8) (hJ2_3_8 (v187, v196) _ ⟨(qP0 HO188.1), (qP0 HO197.1), (qP0 HO_3.1), (qP2), (qP3), (qP4)⟩)
                    ·skip
                     refine Kd.R_lit_step (Kd.int .i64) _ 3 ?hg (N := 21) ?hd (xs := ([(-30), (-1), 0, 5, 9, 10, 40, 1000] : List Int)) (inner := [.int .i64 (-30), .int .i64 (-1), .int .i64 0, .int .i64 5, .int .i64 9, .int .i64 10, .int .i64 40, .int .i64 1000]) (ok := fun _ => True) (okp := fun _ => True) ?hr ?hp (fun _ hk => hk) trivial (zp _ _) (zm _) (by simp) ?_; (case hd | hg => rfl); (case hr => exact (qP24)); (case hp => exact (qP23))
                     intro v190 w18 ho19 hb hg_ hnew_; clear hg_ hnew_
                     (first | rw [← Ny189.1] at ho19 | (simp only [Int.reduceToNat] at ho19; rw [← Ny189.1] at ho19))
                     replace HO_3 := za (qP63 HO_3.1); replace HO188 := za (qP63 HO188.1); have HO191 := za (qP72 ho19 HO197.1); replace HO197 := za (qP73 HO197.1 ho19); replace HK := za qP65; replace HB := za (zP (qP4) hb); replace HI0 := za qP71; clear hb ho19
                     refine hK.out _ _ trivial (fun hHeld => ?_)
                     clear hK K
                     refine norm_ (a' := ?_) ?_ ?_
                     rotate_left
                     ·exact qP7_c4
                     exact norm_ (qP8) (hJ2_5_8 (v187, v190, v196) _ ⟨(qP0 HO188.1), (qP27 HO191.1), (qP27 HO197.1), (qP0 HO_3.1), (qP2), (qP3), (qP4)⟩)
                  ·skip
                   rintro ⟨v187, v190⟩ w17 ⟨h0_, h1_, h2_, h3_, h4_, h5_⟩
                   have HO188 : Aside0 (Kd.R (Kd.int .u8) 5 w17 w.heap.size (fun _ => True) v187 y186) := ⟨h0_⟩; have HO191 : Aside0 (Kd.R (Kd.int .i64) 3 w17 w.heap.size (fun _ => True) v190 y189) := ⟨h1_⟩; replace HO_3 : Aside0 (Kd.R k44 44 w17 w.heap.size (fun _ => True) (.slice Ao11 x3_1.length co11) x3_1) := ⟨h2_⟩; replace HI0 : Aside0 (IsS85 w0 w17 g s0_0 x1001_1 x1002_1) := ⟨h3_⟩; replace HK : Aside0 (KeepBut w w17 g none) := ⟨h4_⟩; replace HB : Aside0 (Below w0.heap.size w0 w17) := ⟨h5_⟩; clear h0_ h1_ h2_ h3_ h4_ h5_; have hHeld := trivial
                   refine norm_ (a' := ?_) ?_ ?_
                   rotate_left
                   ·exact qP7_c0
                   refine three_ (i := 3) (j := 6) (k := 8) (Ni := some 19) (Nj := some 22) (Nk := some 24) qPb51 qPb53 qPb54 rfl rfl rfl rfl rfl rfl (three_of HT_.1 (qP22)) (by decide) (by decide) (by decide) (fun K hK => ?_) (fun K hK => ?_) (fun K hK => ?_)
                   ·skip
                    have hcv18 := own_string (P := Try.prog) Try.underlying36 Try.underlying5 Try.underlying9 (Kd.own_of_R HO188.1)
                    refine value_ (w1 := ?_) (v := ?_) (by rfl) rfl ?_ ?_
                    rotate_left 2
                    ·go_simp
                     constructor
                     ·rfl
                     ·rfl
                    clear hcv18
                    refine hK.out _ _ trivial (fun hHeld => ?_)
                    clear hK K
                    refine norm_ (a' := ?_) ?_ ?_
                    rotate_left
                    ·exact qP7_c3
                    exact norm_ (qP8) (hJ2_3_5 (v187, v190) _ ⟨(qP0 HO188.1), (qP0 HO191.1), (qP0 HO_3.1), (qP2), (qP3), (qP4)⟩)
                   ·skip
                    obtain ⟨Ao18, co18, eo18⟩ := zC HO191.1
                    (first | subst eo18 | (injection eo18 with f1_ f2_ f3_; have f4_ := f1_.symm; have f5_ := f3_.symm; clear f1_ f2_ f3_; subst f4_; subst f5_))
                    refine goes_ Try.func59 (qP22) rfl #[.pointer (some ⟨g, 0, none⟩), .slice Ao18 y189.length co18] (by rfl) rfl rfl (qP5) ?_
                    with_reducible refine (spec_l1Cur_among.calls g s0_0 x1001_1 x1002_1 _ _ y189 t192 t193 t194 w0 _ ?s1 ?s2 ?s3 ?s4 ?s5 A7.1).mono ?_
                    (case s1 => exact (qP2))
                    (case s2 => exact (qP4))
                    (case s3 => exact (qP6 HO191.1))
                    (case s4 => exact (qP32 HO191.1))
                    (case s5 => exact (qP42 HO191.1))
                    rintro e w19 ⟨rfl, hi, hb, hk⟩
                    refine ⟨_, rfl, ?_⟩
                    replace HO_3 := za (qP62 HO_3.1); replace HO188 := za (qP62 HO188.1); replace HO191 := za (qP62 HO191.1); replace HK := za qP67; replace HB := za hb; replace HI0 := za hi
                    (try clear hb)
                    (try clear hb2)
                    (try clear hk)
                    (try clear hi)
                    refine hK.out _ _ trivial (fun hHeld => ?_)
                    clear hK K
                    refine norm_ (a' := ?_) ?_ ?_
                    rotate_left
                    ·exact qP7_c5
                    exact norm_ (qP8) (hJ2_5_6 (v187, .slice Ao18 y189.length co18) _ ⟨(qP0 HO188.1), (qP0 HO191.1), (qP0 HO_3.1), (qP2), (qP3), (qP4)⟩)
                   ·skip
                    refine Kd.R_lit_step (Kd.int .i64) _ 3 ?hg (N := 24) ?hd (xs := ([(-25), (-10), 0, 1, 9, 20, (-1000)] : List Int)) (inner := [.int .i64 (-25), .int .i64 (-10), .int .i64 0, .int .i64 1, .int .i64 9, .int .i64 20, .int .i64 (-1000)]) (ok := fun _ => True) (okp := fun _ => True) ?hr ?hp (fun _ hk => hk) trivial (zp _ _) (zm _) (by simp) ?_; (case hd | hg => rfl); (case hr => exact (qP24)); (case hp => exact (qP18))
                    intro v196 w18 ho19 hb hg_ hnew_; clear hg_ hnew_
                    (first | rw [← Ny195.1] at ho19 | (simp only [Int.reduceToNat] at ho19; rw [← Ny195.1] at ho19))
                    replace HO_3 := za (qP63 HO_3.1); replace HO188 := za (qP63 HO188.1); have HO197 := za (qP72 ho19 HO191.1); replace HO191 := za (qP73 HO191.1 ho19); replace HK := za qP65; replace HB := za (zP (qP4) hb); replace HI0 := za qP71; clear hb ho19
                    refine hK.out _ _ trivial (fun hHeld => ?_)
                    clear hK K
                    refine norm_ (a' := ?_) ?_ ?_
                    rotate_left
                    ·exact qP7_c1
                    exact norm_ (qP8) (hJ2_5_8 (v187, v190, v196) _ ⟨(qP0 HO188.1), (qP27 HO191.1), (qP27 HO197.1), (qP0 HO_3.1), (qP2), (qP3), (qP4)⟩)
                 ·skip
                  rintro v187 w16 ⟨h0_, h1_, h2_, h3_, h4_⟩
                  have HO188 : Aside0 (Kd.R (Kd.int .u8) 5 w16 w.heap.size (fun _ => True) v187 y186) := ⟨h0_⟩; replace HO_3 : Aside0 (Kd.R k44 44 w16 w.heap.size (fun _ => True) (.slice Ao11 x3_1.length co11) x3_1) := ⟨h1_⟩; replace HI0 : Aside0 (IsS85 w0 w16 g s0_0 x1001_1 x1002_1) := ⟨h2_⟩; replace HK : Aside0 (KeepBut w w16 g none) := ⟨h3_⟩; replace HB : Aside0 (Below w0.heap.size w0 w16) := ⟨h4_⟩; clear h0_ h1_ h2_ h3_ h4_; have hHeld := trivial
                  refine norm_ (a' := ?_) ?_ ?_
                  rotate_left
                  ·exact qP7_c0
                  refine two_ (i := 5) (j := 8) (Ni := some 21) (Nj := some 24) qPb51 qPb52 rfl rfl rfl rfl (two_of HT_.1 (qP22)) (by decide) (by decide) (fun K hK => ?_) (fun K hK => ?_)
                  ·skip
                   refine Kd.R_lit_step (Kd.int .i64) _ 3 ?hg (N := 21) ?hd (xs := ([(-30), (-1), 0, 5, 9, 10, 40, 1000] : List Int)) (inner := [.int .i64 (-30), .int .i64 (-1), .int .i64 0, .int .i64 5, .int .i64 9, .int .i64 10, .int .i64 40, .int .i64 1000]) (ok := fun _ => True) (okp := fun _ => True) ?hr ?hp (fun _ hk => hk) trivial (zp _ _) (zm _) (by simp) ?_; (case hd | hg => rfl); (case hr => exact (qP24)); (case hp => exact (qP23))
                   intro v190 w17 ho18 hb hg_ hnew_; clear hg_ hnew_
                   (first | rw [← Ny189.1] at ho18 | (simp only [Int.reduceToNat] at ho18; rw [← Ny189.1] at ho18))
                   replace HO_3 := za (qP63 HO_3.1); replace HO188 := za (qP63 HO188.1); have HO191 := za (qP66 ho18); replace HK := za qP65; replace HB := za (zP (qP4) hb); replace HI0 := za qP71; clear hb ho18
                   refine hK.out _ _ trivial (fun hHeld => ?_)
                   clear hK K
                   refine norm_ (a' := ?_) ?_ ?_
                   rotate_left
                   ·exact qP7_c4
                   exact norm_ (qP8) (hJ2_3_5 (v187, v190) _ ⟨(qP0 HO188.1), (qP0 HO191.1), (qP0 HO_3.1), (qP2), (qP3), (qP4)⟩)
                  ·skip
                   refine Kd.R_lit_step (Kd.int .i64) _ 3 ?hg (N := 24) ?hd (xs := ([(-25), (-10), 0, 1, 9, 20, (-1000)] : List Int)) (inner := [.int .i64 (-25), .int .i64 (-10), .int .i64 0, .int .i64 1, .int .i64 9, .int .i64 20, .int .i64 (-1000)]) (ok := fun _ => True) (okp := fun _ => True) ?hr ?hp (fun _ hk => hk) trivial (zp _ _) (zm _) (by simp) ?_; (case hd | hg => rfl); (case hr => exact (qP24)); (case hp => exact (qP18))
                   intro v196 w17 ho18 hb hg_ hnew_; clear hg_ hnew_
                   (first | rw [← Ny195.1] at ho18 | (simp only [Int.reduceToNat] at ho18; rw [← Ny195.1] at ho18))
                   replace HO_3 := za (qP63 HO_3.1); replace HO188 := za (qP63 HO188.1); have HO197 := za (qP66 ho18); replace HK := za qP65; replace HB := za (zP (qP4) hb); replace HI0 := za qP71; clear hb ho18
                   refine hK.out _ _ trivial (fun hHeld => ?_)
                   clear hK K
                   refine norm_ (a' := ?_) ?_ ?_
                   rotate_left
                   ·exact qP7_c1
                   exact norm_ (qP8) (hJ2_3_8 (v187, v196) _ ⟨(qP0 HO188.1), (qP0 HO197.1), (qP0 HO_3.1), (qP2), (qP3), (qP4)⟩)
                ·skip
                 rintro ⟨v190, v196⟩ w19 ⟨h0_, h1_, h2_, h3_, h4_, h5_⟩
                 have HO191 : Aside0 (Kd.R (Kd.int .i64) 3 w19 w.heap.size (fun k_ => some k_ ≠ (v196 : Value).ownBlock) v190 y189) := ⟨h0_⟩; have HO197 : Aside0 (Kd.R (Kd.int .i64) 3 w19 w.heap.size (fun k_ => some k_ ≠ (v190 : Value).ownBlock) v196 y195) := ⟨h1_⟩; replace HO_3 : Aside0 (Kd.R k44 44 w19 w.heap.size (fun _ => True) (.slice Ao11 x3_1.length co11) x3_1) := ⟨h2_⟩; replace HI0 : Aside0 (IsS85 w0 w19 g s0_0 t193 t194) := ⟨h3_⟩; replace HK : Aside0 (KeepBut w w19 g none) := ⟨h4_⟩; replace HB : Aside0 (Below w0.heap.size w0 w19) := ⟨h5_⟩; clear h0_ h1_ h2_ h3_ h4_ h5_; have hHeld := trivial
                 refine norm_ (a' := ?_) ?_ ?_
                 rotate_left
                 ·exact qP7_c0
                 refine two_ (i := 2) (j := 9) (Ni := some 18) (Nj := some 25) qPb49 qPb50 rfl rfl rfl rfl (two_of HT_.1 (qP22)) (by decide) (by decide) (fun K hK => ?_) (fun K hK => ?_)
                 ·skip
                  refine Kd.R_lit_step (Kd.int .u8) _ 5 ?hg (N := 18) ?hd (xs := ([x4_1] : List Int)) (inner := [.int .u8 x4_1]) (ok := fun _ => True) (okp := fun _ => True) ?hr ?hp (fun _ hk => hk) trivial (zp _ _) (zm _) (by simp) ?_; (case hd | hg => rfl); (case hr => exact (qP24)); (case hp => exact (qP41))
                  intro v187 w20 ho21 hb hg_ hnew_; clear hg_ hnew_
                  (first | rw [← Ny186.1] at ho21 | (simp only [Int.reduceToNat] at ho21; rw [← Ny186.1] at ho21))
                  replace HO_3 := za (qP63 HO_3.1); replace HO191 := za (qP63 HO191.1); replace HO197 := za (qP63 HO197.1); have HO188 := za (qP66 ho21); replace HK := za qP65; replace HB := za (zP (qP4) hb); replace HI0 := za qP71; clear hb ho21
                  refine hK.out _ _ trivial (fun hHeld => ?_)
                  clear hK K
                  refine norm_ (a' := ?_) ?_ ?_
                  rotate_left
                  ·exact qP7_c2
                  exact norm_ (qP8) (hJ2_5_6_8 (v187, v190, v196) _ ⟨(qP0 HO188.1), (qP0 HO191.1), (qP0 HO197.1), (qP0 HO_3.1), (qP2), (qP3), (qP4)⟩)
                 ·skip
                  obtain ⟨Ao20, co20, eo20⟩ := zC HO197.1
                  (first | subst eo20 | (injection eo20 with f1_ f2_ f3_; have f4_ := f1_.symm; have f5_ := f3_.symm; clear f1_ f2_ f3_; subst f4_; subst f5_))
                  refine goes_ Try.func59 (qP22) rfl #[.pointer (some ⟨g, 0, none⟩), .slice Ao20 y195.length co20] (by rfl) rfl rfl (qP5) ?_
                  with_reducible refine (spec_l1Cur_among.calls g s0_0 t193 t194 _ _ y195 t198 t199 t200 w0 _ ?s1 ?s2 ?s3 ?s4 ?s5 A8.1).mono ?_
                  (case s1 => exact (qP2))
                  (case s2 => exact (qP4))
                  (case s3 => exact (qP6 HO197.1))
                  (case s4 => exact (qP32 HO197.1))
                  (case s5 => exact (qP42 HO197.1))
                  rintro e w21 ⟨rfl, hi, hb, hk⟩
                  refine ⟨_, rfl, ?_⟩
                  replace HO_3 := za (qP62 HO_3.1); replace HO191 := za (qP62 HO191.1); replace HO197 := za (qP62 HO197.1); replace HK := za qP67; replace HB := za hb; replace HI0 := za hi
                  (try clear hb)
                  (try clear hb2)
                  (try clear hk)
                  (try clear hi)
                  refine hK.out _ _ trivial (fun hHeld => ?_)
                  clear hK K
                  refine norm_ (a' := ?_) ?_ ?_
                  rotate_left
                  ·exact qP7_c7
                  exact norm_ (qP8) (hJ5_6_8_9 (v190, .slice Ao20 y195.length co20) _ ⟨(qP0 HO191.1), (qP0 HO197.1), (qP0 HO_3.1), (qP2), (qP3), (qP4)⟩)
               ·skip
                rintro ⟨v187, v190, v196⟩ w19 ⟨h0_, h1_, h2_, h3_, h4_, h5_, h6_⟩
                have HO188 : Aside0 (Kd.R (Kd.int .u8) 5 w19 w.heap.size (fun _ => True) v187 y186) := ⟨h0_⟩; have HO191 : Aside0 (Kd.R (Kd.int .i64) 3 w19 w.heap.size (fun k_ => some k_ ≠ (v196 : Value).ownBlock) v190 y189) := ⟨h1_⟩; have HO197 : Aside0 (Kd.R (Kd.int .i64) 3 w19 w.heap.size (fun k_ => some k_ ≠ (v190 : Value).ownBlock) v196 y195) := ⟨h2_⟩; replace HO_3 : Aside0 (Kd.R k44 44 w19 w.heap.size (fun _ => True) (.slice Ao11 x3_1.length co11) x3_1) := ⟨h3_⟩; replace HI0 : Aside0 (IsS85 w0 w19 g s0_0 x1001_1 x1002_1) := ⟨h4_⟩; replace HK : Aside0 (KeepBut w w19 g none) := ⟨h5_⟩; replace HB : Aside0 (Below w0.heap.size w0 w19) := ⟨h6_⟩; clear h0_ h1_ h2_ h3_ h4_ h5_ h6_; have hHeld := trivial
                refine norm_ (a' := ?_) ?_ ?_
                rotate_left
                ·exact qP7_c0
                refine two_ (i := 3) (j := 6) (Ni := some 19) (Nj := some 22) qPb48 qPb49 rfl rfl rfl rfl (two_of HT_.1 (qP22)) (by decide) (by decide) (fun K hK => ?_) (fun K hK => ?_)
                ·skip
                 have hcv20 := own_string (P := Try.prog) Try.underlying36 Try.underlying5 Try.underlying9 (Kd.own_of_R HO188.1)
                 refine value_ (w1 := ?_) (v := ?_) (by rfl) rfl ?_ ?_
                 rotate_left 2
                 ·go_simp
                  constructor
                  ·rfl
                  ·rfl
                 clear hcv20
                 refine hK.out _ _ trivial (fun hHeld => ?_)
                 clear hK K
                 refine norm_ (a' := ?_) ?_ ?_
                 rotate_left
                 ·exact qP7_c3
                 exact norm_ (qP8) (hJ2_3_5_8 (v187, v190, v196) _ ⟨(qP0 HO188.1), (qP0 HO191.1), (qP0 HO197.1), (qP0 HO_3.1), (qP2), (qP3), (qP4)⟩)
                ·skip
                 obtain ⟨Ao20, co20, eo20⟩ := zC HO191.1
                 (first | subst eo20 | (injection eo20 with f1_ f2_ f3_; have f4_ := f1_.symm; have f5_ := f3_.symm; clear f1_ f2_ f3_; subst f4_; subst f5_))
                 refine goes_ Try.func59 (qP22) rfl #[.pointer (some ⟨g, 0, none⟩), .slice Ao20 y189.length co20] (by rfl) rfl rfl (qP5) ?_
                 with_reducible refine (spec_l1Cur_among.calls g s0_0 x1001_1 x1002_1 _ _ y189 t192 t193 t194 w0 _ ?s1 ?s2 ?s3 ?s4 ?s5 A7.1).mono ?_
                 (case s1 => exact (qP2))
                 (case s2 => exact (qP4))
                 (case s3 => exact (qP6 HO191.1))
                 (case s4 => exact (qP32 HO191.1))
                 (case s5 => exact (qP42 HO191.1))
                 rintro e w21 ⟨rfl, hi, hb, hk⟩
                 refine ⟨_, rfl, ?_⟩
                 replace HO_3 := za (qP62 HO_3.1); replace HO188 := za (qP62 HO188.1); replace HO191 := za (qP62 HO191.1); replace HO197 := za (qP62 HO197.1); replace HK := za qP67; replace HB := za hb; replace HI0 := za hi
                 (try clear hb)
                 (try clear hb2)
                 (try clear hk)
                 (try clear hi)
                 refine hK.out _ _ trivial (fun hHeld => ?_)
                 clear hK K
                 refine norm_ (a' := ?_) ?_ ?_
                 rotate_left
                 ·exact qP7_c5
                 exact norm_ (qP8) (hJ2_5_6_8 (v187, .slice Ao20 y189.length co20, v196) _ ⟨(qP0 HO188.1), (qP0 HO191.1), (qP0 HO197.1), (qP0 HO_3.1), (qP2), (qP3), (qP4)⟩)
              ·skip
               rintro ⟨v187, v190⟩ w19 ⟨h0_, h1_, h2_, h3_, h4_, h5_⟩
               have HO188 : Aside0 (Kd.R (Kd.int .u8) 5 w19 w.heap.size (fun _ => True) v187 y186) := ⟨h0_⟩; have HO191 : Aside0 (Kd.R (Kd.int .i64) 3 w19 w.heap.size (fun _ => True) v190 y189) := ⟨h1_⟩; replace HO_3 : Aside0 (Kd.R k44 44 w19 w.heap.size (fun _ => True) (.slice Ao11 x3_1.length co11) x3_1) := ⟨h2_⟩; replace HI0 : Aside0 (IsS85 w0 w19 g s0_0 t193 t194) := ⟨h3_⟩; replace HK : Aside0 (KeepBut w w19 g none) := ⟨h4_⟩; replace HB : Aside0 (Below w0.heap.size w0 w19) := ⟨h5_⟩; clear h0_ h1_ h2_ h3_ h4_ h5_; have hHeld := trivial
               refine norm_ (a' := ?_) ?_ ?_
               rotate_left
               ·exact qP7_c0
               refine two_ (i := 3) (j := 8) (Ni := some 19) (Nj := some 24) qPb47 qPb49 rfl rfl rfl rfl (two_of HT_.1 (qP22)) (by decide) (by decide) (fun K hK => ?_) (fun K hK => ?_)
               ·skip
                have hcv20 := own_string (P := Try.prog) Try.underlying36 Try.underlying5 Try.underlying9 (Kd.own_of_R HO188.1)
                refine value_ (w1 := ?_) (v := ?_) (by rfl) rfl ?_ ?_
                rotate_left 2
                ·go_simp
                 constructor
                 ·rfl
                 ·rfl
                clear hcv20
                refine hK.out _ _ trivial (fun hHeld => ?_)
                clear hK K
                refine norm_ (a' := ?_) ?_ ?_
                rotate_left
                ·exact qP7_c3
                exact norm_ (qP8) (hJ2_3_5_6 (v187, v190) _ ⟨(qP0 HO188.1), (qP0 HO191.1), (qP0 HO_3.1), (qP2), (qP3), (qP4)⟩)
               ·skip
                refine Kd.R_lit_step (Kd.int .i64) _ 3 ?hg (N := 24) ?hd (xs := ([(-25), (-10), 0, 1, 9, 20, (-1000)] : List Int)) (inner := [.int .i64 (-25), .int .i64 (-10), .int .i64 0, .int .i64 1, .int .i64 9, .int .i64 20, .int .i64 (-1000)]) (ok := fun _ => True) (okp := fun _ => True) ?hr ?hp (fun _ hk => hk) trivial (zp _ _) (zm _) (by simp) ?_; (case hd | hg => rfl); (case hr => exact (qP24)); (case hp => exact (qP18))
                intro v196 w20 ho21 hb hg_ hnew_; clear hg_ hnew_
                (first | rw [← Ny195.1] at ho21 | (simp only [Int.reduceToNat] at ho21; rw [← Ny195.1] at ho21))
                replace HO_3 := za (qP63 HO_3.1); replace HO188 := za (qP63 HO188.1); have HO197 := za (qP72 ho21 HO191.1); replace HO191 := za (qP73 HO191.1 ho21); replace HK := za qP65; replace HB := za (zP (qP4) hb); replace HI0 := za qP71; clear hb ho21
                refine hK.out _ _ trivial (fun hHeld => ?_)
                clear hK K
                refine norm_ (a' := ?_) ?_ ?_
                rotate_left
                ·exact qP7_c1
                exact norm_ (qP8) (hJ2_5_6_8 (v187, v190, v196) _ ⟨(qP0 HO188.1), (qP27 HO191.1), (qP27 HO197.1), (qP0 HO_3.1), (qP2), (qP3), (qP4)⟩)
             ·skip
              rintro ⟨v187, v196⟩ w18 ⟨h0_, h1_, h2_, h3_, h4_, h5_⟩
              have HO188 : Aside0 (Kd.R (Kd.int .u8) 5 w18 w.heap.size (fun _ => True) v187 y186) := ⟨h0_⟩; have HO197 : Aside0 (Kd.R (Kd.int .i64) 3 w18 w.heap.size (fun _ => True) v196 y195) := ⟨h1_⟩; replace HO_3 : Aside0 (Kd.R k44 44 w18 w.heap.size (fun _ => True) (.slice Ao11 x3_1.length co11) x3_1) := ⟨h2_⟩; replace HI0 : Aside0 (IsS85 w0 w18 g s0_0 x1001_1 x1002_1) := ⟨h3_⟩; replace HK : Aside0 (KeepBut w w18 g none) := ⟨h4_⟩; replace HB : Aside0 (Below w0.heap.size w0 w18) := ⟨h5_⟩; clear h0_ h1_ h2_ h3_ h4_ h5_; have hHeld := trivial
              refine norm_ (a' := ?_) ?_ ?_
              rotate_left
              ·exact qP7_c0
              refine one_ (i := 5) (N := some 21) qPb48 rfl rfl (qP70) (by decide) (fun K hK => ?_)
              refine Kd.R_lit_step (Kd.int .i64) _ 3 ?hg (N := 21) ?hd (xs := ([(-30), (-1), 0, 5, 9, 10, 40, 1000] : List Int)) (inner := [.int .i64 (-30), .int .i64 (-1), .int .i64 0, .int .i64 5, .int .i64 9, .int .i64 10, .int .i64 40, .int .i64 1000]) (ok := fun _ => True) (okp := fun _ => True) ?hr ?hp (fun _ hk => hk) trivial (zp _ _) (zm _) (by simp) ?_; (case hd | hg => rfl); (case hr => exact (qP24)); (case hp => exact (qP23))
              intro v190 w19 ho20 hb hg_ hnew_; clear hg_ hnew_
              (first | rw [← Ny189.1] at ho20 | (simp only [Int.reduceToNat] at ho20; rw [← Ny189.1] at ho20))
              replace HO_3 := za (qP63 HO_3.1); replace HO188 := za (qP63 HO188.1); have HO191 := za (qP72 ho20 HO197.1); replace HO197 := za (qP73 HO197.1 ho20); replace HK := za qP65; replace HB := za (zP (qP4) hb); replace HI0 := za qP71; clear hb ho20
              refine hK.out _ _ trivial (fun hHeld => ?_)
              clear hK K
              refine norm_ (a' := ?_) ?_ ?_
              rotate_left
              ·exact qP7_c4
              exact norm_ (qP8) (hJ2_3_5_8 (v187, v190, v196) _ ⟨(qP0 HO188.1), (qP27 HO191.1), (qP27 HO197.1), (qP0 HO_3.1), (qP2), (qP3), (qP4)⟩)
            ·skip
             rintro ⟨v187, v190⟩ w18 ⟨h0_, h1_, h2_, h3_, h4_, h5_⟩
             have HO188 : Aside0 (Kd.R (Kd.int .u8) 5 w18 w.heap.size (fun _ => True) v187 y186) := ⟨h0_⟩; have HO191 : Aside0 (Kd.R (Kd.int .i64) 3 w18 w.heap.size (fun _ => True) v190 y189) := ⟨h1_⟩; replace HO_3 : Aside0 (Kd.R k44 44 w18 w.heap.size (fun _ => True) (.slice Ao11 x3_1.length co11) x3_1) := ⟨h2_⟩; replace HI0 : Aside0 (IsS85 w0 w18 g s0_0 x1001_1 x1002_1) := ⟨h3_⟩; replace HK : Aside0 (KeepBut w w18 g none) := ⟨h4_⟩; replace HB : Aside0 (Below w0.heap.size w0 w18) := ⟨h5_⟩; clear h0_ h1_ h2_ h3_ h4_ h5_; have hHeld := trivial
             refine norm_ (a' := ?_) ?_ ?_
             rotate_left
             ·exact qP7_c0
             refine two_ (i := 6) (j := 8) (Ni := some 22) (Nj := some 24) qPb47 qPb48 rfl rfl rfl rfl (two_of HT_.1 (qP22)) (by decide) (by decide) (fun K hK => ?_) (fun K hK => ?_)
             ·skip
              obtain ⟨Ao19, co19, eo19⟩ := zC HO191.1
              (first | subst eo19 | (injection eo19 with f1_ f2_ f3_; have f4_ := f1_.symm; have f5_ := f3_.symm; clear f1_ f2_ f3_; subst f4_; subst f5_))
              refine goes_ Try.func59 (qP22) rfl #[.pointer (some ⟨g, 0, none⟩), .slice Ao19 y189.length co19] (by rfl) rfl rfl (qP5) ?_
              with_reducible refine (spec_l1Cur_among.calls g s0_0 x1001_1 x1002_1 _ _ y189 t192 t193 t194 w0 _ ?s1 ?s2 ?s3 ?s4 ?s5 A7.1).mono ?_
              (case s1 => exact (qP2))
              (case s2 => exact (qP4))
              (case s3 => exact (qP6 HO191.1))
              (case s4 => exact (qP32 HO191.1))
              (case s5 => exact (qP42 HO191.1))
              rintro e w20 ⟨rfl, hi, hb, hk⟩
              refine ⟨_, rfl, ?_⟩
              replace HO_3 := za (qP62 HO_3.1); replace HO188 := za (qP62 HO188.1); replace HO191 := za (qP62 HO191.1); replace HK := za qP67; replace HB := za hb; replace HI0 := za hi
              (try clear hb)
              (try clear hb2)
              (try clear hk)
              (try clear hi)
              refine hK.out _ _ trivial (fun hHeld => ?_)
              clear hK K
              refine norm_ (a' := ?_) ?_ ?_
              rotate_left
              ·exact qP7_c5
              exact norm_ (qP8) (hJ2_3_5_6 (v187, .slice Ao19 y189.length co19) _ ⟨(qP0 HO188.1), (qP0 HO191.1), (qP0 HO_3.1), (qP2), (qP3), (qP4)⟩)
             ·skip
              refine Kd.R_lit_step (Kd.int .i64) _ 3 ?hg (N := 24) ?hd (xs := ([(-25), (-10), 0, 1, 9, 20, (-1000)] : List Int)) (inner := [.int .i64 (-25), .int .i64 (-10), .int .i64 0, .int .i64 1, .int .i64 9, .int .i64 20, .int .i64 (-1000)]) (ok := fun _ => True) (okp := fun _ => True) ?hr ?hp (fun _ hk => hk) trivial (zp _ _) (zm _) (by simp) ?_; (case hd | hg => rfl); (case hr => exact (qP24)); (case hp => exact (qP18))
              intro v196 w19 ho20 hb hg_ hnew_; clear hg_ hnew_
              (first | rw [← Ny195.1] at ho20 | (simp only [Int.reduceToNat] at ho20; rw [← Ny195.1] at ho20))
              replace HO_3 := za (qP63 HO_3.1); replace HO188 := za (qP63 HO188.1); have HO197 := za (qP72 ho20 HO191.1); replace HO191 := za (qP73 HO191.1 ho20); replace HK := za qP65; replace HB := za (zP (qP4) hb); replace HI0 := za qP71; clear hb ho20
              refine hK.out _ _ trivial (fun hHeld => ?_)
              clear hK K
              refine norm_ (a' := ?_) ?_ ?_
              rotate_left
              ·exact qP7_c1
              exact norm_ (qP8) (hJ2_3_5_8 (v187, v190, v196) _ ⟨(qP0 HO188.1), (qP27 HO191.1), (qP27 HO197.1), (qP0 HO_3.1), (qP2), (qP3), (qP4)⟩)
           ·skip
            rintro ⟨v190, v196⟩ w21 ⟨h0_, h1_, h2_, h3_, h4_, h5_⟩
            have HO191 : Aside0 (Kd.R (Kd.int .i64) 3 w21 w.heap.size (fun k_ => some k_ ≠ (v196 : Value).ownBlock) v190 y189) := ⟨h0_⟩; have HO197 : Aside0 (Kd.R (Kd.int .i64) 3 w21 w.heap.size (fun k_ => some k_ ≠ (v190 : Value).ownBlock) v196 y195) := ⟨h1_⟩; replace HO_3 : Aside0 (Kd.R k44 44 w21 w.heap.size (fun _ => True) (.slice Ao11 x3_1.length co11) x3_1) := ⟨h2_⟩; replace HI0 : Aside0 (IsS85 w0 w21 g s0_0 t199 t200) := ⟨h3_⟩; replace HK : Aside0 (KeepBut w w21 g none) := ⟨h4_⟩; replace HB : Aside0 (Below w0.heap.size w0 w21) := ⟨h5_⟩; clear h0_ h1_ h2_ h3_ h4_ h5_; have hHeld := trivial
            refine norm_ (a' := ?_) ?_ ?_
            rotate_left
            ·exact qP7_c0
            refine one_ (i := 2) (N := some 18) qPb46 rfl rfl (qP70) (by decide) (fun K hK => ?_)
            refine Kd.R_lit_step (Kd.int .u8) _ 5 ?hg (N := 18) ?hd (xs := ([x4_1] : List Int)) (inner := [.int .u8 x4_1]) (ok := fun _ => True) (okp := fun _ => True) ?hr ?hp (fun _ hk => hk) trivial (zp _ _) (zm _) (by simp) ?_; (case hd | hg => rfl); (case hr => exact (qP24)); (case hp => exact (qP41))
            intro v187 w22 ho23 hb hg_ hnew_; clear hg_ hnew_
            (first | rw [← Ny186.1] at ho23 | (simp only [Int.reduceToNat] at ho23; rw [← Ny186.1] at ho23))
            replace HO_3 := za (qP63 HO_3.1); replace HO191 := za (qP63 HO191.1); replace HO197 := za (qP63 HO197.1); have HO188 := za (qP66 ho23); replace HK := za qP65; replace HB := za (zP (qP4) hb); replace HI0 := za qP71; clear hb ho23
            refine hK.out _ _ trivial (fun hHeld => ?_)
            clear hK K
            refine norm_ (a' := ?_) ?_ ?_
            rotate_left
            ·exact qP7_c2
            exact norm_ (qP8) (hJ2_5_6_8_9 (v187, v190, v196) _ ⟨(qP0 HO188.1), (qP0 HO191.1), (qP0 HO197.1), (qP0 HO_3.1), (qP2), (qP3), (qP4)⟩)
          ·skip
           rintro ⟨v187, v190, v196⟩ w21 ⟨h0_, h1_, h2_, h3_, h4_, h5_, h6_⟩
           have HO188 : Aside0 (Kd.R (Kd.int .u8) 5 w21 w.heap.size (fun _ => True) v187 y186) := ⟨h0_⟩; have HO191 : Aside0 (Kd.R (Kd.int .i64) 3 w21 w.heap.size (fun k_ => some k_ ≠ (v196 : Value).ownBlock) v190 y189) := ⟨h1_⟩; have HO197 : Aside0 (Kd.R (Kd.int .i64) 3 w21 w.heap.size (fun k_ => some k_ ≠ (v190 : Value).ownBlock) v196 y195) := ⟨h2_⟩; replace HO_3 : Aside0 (Kd.R k44 44 w21 w.heap.size (fun _ => True) (.slice Ao11 x3_1.length co11) x3_1) := ⟨h3_⟩; replace HI0 : Aside0 (IsS85 w0 w21 g s0_0 t193 t194) := ⟨h4_⟩; replace HK : Aside0 (KeepBut w w21 g none) := ⟨h5_⟩; replace HB : Aside0 (Below w0.heap.size w0 w21) := ⟨h6_⟩; clear h0_ h1_ h2_ h3_ h4_ h5_ h6_; have hHeld := trivial
           refine norm_ (a' := ?_) ?_ ?_
           rotate_left
           ·exact qP7_c0
           refine two_ (i := 3) (j := 9) (Ni := some 19) (Nj := some 25) qPb45 qPb46 rfl rfl rfl rfl (two_of HT_.1 (qP22)) (by decide) (by decide) (fun K hK => ?_) (fun K hK => ?_)
           ·skip
            have hcv22 := own_string (P := Try.prog) Try.underlying36 Try.underlying5 Try.underlying9 (Kd.own_of_R HO188.1)
            refine value_ (w1 := ?_) (v := ?_) (by rfl) rfl ?_ ?_
            rotate_left 2
            ·go_simp
             constructor
             ·rfl
             ·rfl
            clear hcv22
            refine hK.out _ _ trivial (fun hHeld => ?_)
            clear hK K
            refine norm_ (a' := ?_) ?_ ?_
            rotate_left
            ·exact qP7_c3
            exact norm_ (qP8) (hJ2_3_5_6_8 (v187, v190, v196) _ ⟨(qP0 HO188.1), (qP0 HO191.1), (qP0 HO197.1), (qP0 HO_3.1), (qP2), (qP3), (qP4)⟩)
           ·skip
            obtain ⟨Ao22, co22, eo22⟩ := zC HO197.1
            (first | subst eo22 | (injection eo22 with f1_ f2_ f3_; have f4_ := f1_.symm; have f5_ := f3_.symm; clear f1_ f2_ f3_; subst f4_; subst f5_))
            refine goes_ Try.func59 (qP22) rfl #[.pointer (some ⟨g, 0, none⟩), .slice Ao22 y195.length co22] (by rfl) rfl rfl (qP5) ?_
            with_reducible refine (spec_l1Cur_among.calls g s0_0 t193 t194 _ _ y195 t198 t199 t200 w0 _ ?s1 ?s2 ?s3 ?s4 ?s5 A8.1).mono ?_
            (case s1 => exact (qP2))
            (case s2 => exact (qP4))
            (case s3 => exact (qP6 HO197.1))
            (case s4 => exact (qP32 HO197.1))
            (case s5 => exact (qP42 HO197.1))
            rintro e w23 ⟨rfl, hi, hb, hk⟩
            refine ⟨_, rfl, ?_⟩
            replace HO_3 := za (qP62 HO_3.1); replace HO188 := za (qP62 HO188.1); replace HO191 := za (qP62 HO191.1); replace HO197 := za (qP62 HO197.1); replace HK := za qP67; replace HB := za hb; replace HI0 := za hi
            (try clear hb)
            (try clear hb2)
            (try clear hk)
            (try clear hi)
            refine hK.out _ _ trivial (fun hHeld => ?_)
            clear hK K
            refine norm_ (a' := ?_) ?_ ?_
            rotate_left
            ·exact qP7_c7
            exact norm_ (qP8) (hJ2_5_6_8_9 (v187, v190, .slice Ao22 y195.length co22) _ ⟨(qP0 HO188.1), (qP0 HO191.1), (qP0 HO197.1), (qP0 HO_3.1), (qP2), (qP3), (qP4)⟩)
         ·skip
          rintro ⟨v187, v190, v196⟩ w20 ⟨h0_, h1_, h2_, h3_, h4_, h5_, h6_⟩
          have HO188 : Aside0 (Kd.R (Kd.int .u8) 5 w20 w.heap.size (fun _ => True) v187 y186) := ⟨h0_⟩; have HO191 : Aside0 (Kd.R (Kd.int .i64) 3 w20 w.heap.size (fun k_ => some k_ ≠ (v196 : Value).ownBlock) v190 y189) := ⟨h1_⟩; have HO197 : Aside0 (Kd.R (Kd.int .i64) 3 w20 w.heap.size (fun k_ => some k_ ≠ (v190 : Value).ownBlock) v196 y195) := ⟨h2_⟩; replace HO_3 : Aside0 (Kd.R k44 44 w20 w.heap.size (fun _ => True) (.slice Ao11 x3_1.length co11) x3_1) := ⟨h3_⟩; replace HI0 : Aside0 (IsS85 w0 w20 g s0_0 x1001_1 x1002_1) := ⟨h4_⟩; replace HK : Aside0 (KeepBut w w20 g none) := ⟨h5_⟩; replace HB : Aside0 (Below w0.heap.size w0 w20) := ⟨h6_⟩; clear h0_ h1_ h2_ h3_ h4_ h5_ h6_; have hHeld := trivial; obtain ⟨Ao21, co21, eo21⟩ := zC HO191.1
          (first | subst eo21 | (injection eo21 with f1_ f2_ f3_; have f4_ := f1_.symm; have f5_ := f3_.symm; clear f1_ f2_ f3_; subst f4_; subst f5_))
          refine norm_ (a' := ?_) ?_ ?_
          rotate_left
          ·exact qP7_c0
          refine one_ (i := 6) (N := some 22) qPb45 rfl rfl (qP70) (by decide) (fun K hK => ?_)
          refine goes_ Try.func59 (qP22) rfl #[.pointer (some ⟨g, 0, none⟩), .slice Ao21 y189.length co21] (by rfl) rfl rfl (qP5) ?_
          with_reducible refine (spec_l1Cur_among.calls g s0_0 x1001_1 x1002_1 _ _ y189 t192 t193 t194 w0 _ ?s1 ?s2 ?s3 ?s4 ?s5 A7.1).mono ?_
          (case s1 => exact (qP2))
          (case s2 => exact (qP4))
          (case s3 => exact (qP6 HO191.1))
          (case s4 => exact (qP32 HO191.1))
          (case s5 => exact (qP42 HO191.1))
          rintro e w22 ⟨rfl, hi, hb, hk⟩
          refine ⟨_, rfl, ?_⟩
          replace HO_3 := za (qP62 HO_3.1); replace HO188 := za (qP62 HO188.1); replace HO191 := za (qP62 HO191.1); replace HO197 := za (qP62 HO197.1); replace HK := za qP67; replace HB := za hb; replace HI0 := za hi
          (try clear hb)
          (try clear hb2)
          (try clear hk)
          (try clear hi)
          refine hK.out _ _ trivial (fun hHeld => ?_)
          clear hK K
          refine norm_ (a' := ?_) ?_ ?_
          rotate_left
          ·exact qP7_c5
          exact norm_ (qP8) (hJ2_3_5_6_8 (v187, .slice Ao21 y189.length co21, v196) _ ⟨(qP0 HO188.1), (qP0 HO191.1), (qP0 HO197.1), (qP0 HO_3.1), (qP2), (qP3), (qP4)⟩)
        ·skip
         rintro ⟨v187, v190⟩ w20 ⟨h0_, h1_, h2_, h3_, h4_, h5_⟩
         have HO188 : Aside0 (Kd.R (Kd.int .u8) 5 w20 w.heap.size (fun _ => True) v187 y186) := ⟨h0_⟩; have HO191 : Aside0 (Kd.R (Kd.int .i64) 3 w20 w.heap.size (fun _ => True) v190 y189) := ⟨h1_⟩; replace HO_3 : Aside0 (Kd.R k44 44 w20 w.heap.size (fun _ => True) (.slice Ao11 x3_1.length co11) x3_1) := ⟨h2_⟩; replace HI0 : Aside0 (IsS85 w0 w20 g s0_0 t193 t194) := ⟨h3_⟩; replace HK : Aside0 (KeepBut w w20 g none) := ⟨h4_⟩; replace HB : Aside0 (Below w0.heap.size w0 w20) := ⟨h5_⟩; clear h0_ h1_ h2_ h3_ h4_ h5_; have hHeld := trivial
         refine norm_ (a' := ?_) ?_ ?_
         rotate_left
         ·exact qP7_c0
         refine one_ (i := 8) (N := some 24) qPb45 rfl rfl (qP70) (by decide) (fun K hK => ?_)
         refine Kd.R_lit_step (Kd.int .i64) _ 3 ?hg (N := 24) ?hd (xs := ([(-25), (-10), 0, 1, 9, 20, (-1000)] : List Int)) (inner := [.int .i64 (-25), .int .i64 (-10), .int .i64 0, .int .i64 1, .int .i64 9, .int .i64 20, .int .i64 (-1000)]) (ok := fun _ => True) (okp := fun _ => True) ?hr ?hp (fun _ hk => hk) trivial (zp _ _) (zm _) (by simp) ?_; (case hd | hg => rfl); (case hr => exact (qP24)); (case hp => exact (qP18))
         intro v196 w21 ho22 hb hg_ hnew_; clear hg_ hnew_
         (first | rw [← Ny195.1] at ho22 | (simp only [Int.reduceToNat] at ho22; rw [← Ny195.1] at ho22))
         replace HO_3 := za (qP63 HO_3.1); replace HO188 := za (qP63 HO188.1); have HO197 := za (qP72 ho22 HO191.1); replace HO191 := za (qP73 HO191.1 ho22); replace HK := za qP65; replace HB := za (zP (qP4) hb); replace HI0 := za qP71; clear hb ho22
         refine hK.out _ _ trivial (fun hHeld => ?_)
         clear hK K
         refine norm_ (a' := ?_) ?_ ?_
         rotate_left
         ·exact qP7_c1
         exact norm_ (qP8) (hJ2_3_5_6_8 (v187, v190, v196) _ ⟨(qP0 HO188.1), (qP27 HO191.1), (qP27 HO197.1), (qP0 HO_3.1), (qP2), (qP3), (qP4)⟩)
       ·skip
        rintro ⟨v187, v190, v196⟩ w23 ⟨h0_, h1_, h2_, h3_, h4_, h5_, h6_⟩
        have HO188 : Aside0 (Kd.R (Kd.int .u8) 5 w23 w.heap.size (fun _ => True) v187 y186) := ⟨h0_⟩; have HO191 : Aside0 (Kd.R (Kd.int .i64) 3 w23 w.heap.size (fun k_ => some k_ ≠ (v196 : Value).ownBlock) v190 y189) := ⟨h1_⟩; have HO197 : Aside0 (Kd.R (Kd.int .i64) 3 w23 w.heap.size (fun k_ => some k_ ≠ (v190 : Value).ownBlock) v196 y195) := ⟨h2_⟩; replace HO_3 : Aside0 (Kd.R k44 44 w23 w.heap.size (fun _ => True) (.slice Ao11 x3_1.length co11) x3_1) := ⟨h3_⟩; replace HI0 : Aside0 (IsS85 w0 w23 g s0_0 t199 t200) := ⟨h4_⟩; replace HK : Aside0 (KeepBut w w23 g none) := ⟨h5_⟩; replace HB : Aside0 (Below w0.heap.size w0 w23) := ⟨h6_⟩; clear h0_ h1_ h2_ h3_ h4_ h5_ h6_; have hHeld := trivial
        refine norm_ (a' := ?_) ?_ ?_
        rotate_left
        ·exact qP7_c0
        refine one_ (i := 3) (N := some 19) qPb44 rfl rfl (qP70) (by decide) (fun K hK => ?_)
        have hcv24 := own_string (P := Try.prog) Try.underlying36 Try.underlying5 Try.underlying9 (Kd.own_of_R HO188.1)
        refine value_ (w1 := ?_) (v := ?_) (by rfl) rfl ?_ ?_
        rotate_left 2
        ·go_simp
         constructor
         ·rfl
         ·rfl
        clear hcv24
        refine hK.out _ _ trivial (fun hHeld => ?_)
        clear hK K
        refine norm_ (a' := ?_) ?_ ?_
        rotate_left
        ·exact qP7_c3
        exact norm_ (qP8) (hJ2_3_5_6_8_9 (v187, v190, v196) _ ⟨(qP0 HO188.1), (qP0 HO191.1), (qP0 HO197.1), (qP0 HO_3.1), (qP2), (qP3), (qP4)⟩)
      ·skip
       rintro ⟨v187, v190, v196⟩ w22 ⟨h0_, h1_, h2_, h3_, h4_, h5_, h6_⟩
       have HO188 : Aside0 (Kd.R (Kd.int .u8) 5 w22 w.heap.size (fun _ => True) v187 y186) := ⟨h0_⟩; have HO191 : Aside0 (Kd.R (Kd.int .i64) 3 w22 w.heap.size (fun k_ => some k_ ≠ (v196 : Value).ownBlock) v190 y189) := ⟨h1_⟩; have HO197 : Aside0 (Kd.R (Kd.int .i64) 3 w22 w.heap.size (fun k_ => some k_ ≠ (v190 : Value).ownBlock) v196 y195) := ⟨h2_⟩; replace HO_3 : Aside0 (Kd.R k44 44 w22 w.heap.size (fun _ => True) (.slice Ao11 x3_1.length co11) x3_1) := ⟨h3_⟩; replace HI0 : Aside0 (IsS85 w0 w22 g s0_0 t193 t194) := ⟨h4_⟩; replace HK : Aside0 (KeepBut w w22 g none) := ⟨h5_⟩; replace HB : Aside0 (Below w0.heap.size w0 w22) := ⟨h6_⟩; clear h0_ h1_ h2_ h3_ h4_ h5_ h6_; have hHeld := trivial; obtain ⟨Ao23, co23, eo23⟩ := zC HO197.1
       (first | subst eo23 | (injection eo23 with f1_ f2_ f3_; have f4_ := f1_.symm; have f5_ := f3_.symm; clear f1_ f2_ f3_; subst f4_; subst f5_))
       refine norm_ (a' := ?_) ?_ ?_
       rotate_left
       ·exact qP7_c0
       refine one_ (i := 9) (N := some 25) qPb44 rfl rfl (qP70) (by decide) (fun K hK => ?_)
       refine goes_ Try.func59 (qP22) rfl #[.pointer (some ⟨g, 0, none⟩), .slice Ao23 y195.length co23] (by rfl) rfl rfl (qP5) ?_
       with_reducible refine (spec_l1Cur_among.calls g s0_0 t193 t194 _ _ y195 t198 t199 t200 w0 _ ?s1 ?s2 ?s3 ?s4 ?s5 A8.1).mono ?_
       (case s1 => exact (qP2))
       (case s2 => exact (qP4))
       (case s3 => exact (qP6 HO197.1))
       (case s4 => exact (qP32 HO197.1))
       (case s5 => exact (qP42 HO197.1))
       rintro e w24 ⟨rfl, hi, hb, hk⟩
       refine ⟨_, rfl, ?_⟩
       replace HO_3 := za (qP62 HO_3.1); replace HO188 := za (qP62 HO188.1); replace HO191 := za (qP62 HO191.1); replace HO197 := za (qP62 HO197.1); replace HK := za qP67; replace HB := za hb; replace HI0 := za hi
       (try clear hb)
       (try clear hb2)
       (try clear hk)
       (try clear hi)
       refine hK.out _ _ trivial (fun hHeld => ?_)
       clear hK K
       refine norm_ (a' := ?_) ?_ ?_
       rotate_left
       ·exact qP7_c7
       exact norm_ (qP8) (hJ2_3_5_6_8_9 (v187, v190, .slice Ao23 y195.length co23) _ ⟨(qP0 HO188.1), (qP0 HO191.1), (qP0 HO197.1), (qP0 HO_3.1), (qP2), (qP3), (qP4)⟩)
     rintro ⟨v187, v190, v196⟩ w24 ⟨h0_, h1_, h2_, h3_, h4_, h5_, h6_⟩
     have HO188 : Aside0 (Kd.R (Kd.int .u8) 5 w24 w.heap.size (fun _ => True) v187 y186) := ⟨h0_⟩; have HO191 : Aside0 (Kd.R (Kd.int .i64) 3 w24 w.heap.size (fun k_ => some k_ ≠ (v196 : Value).ownBlock) v190 y189) := ⟨h1_⟩; have HO197 : Aside0 (Kd.R (Kd.int .i64) 3 w24 w.heap.size (fun k_ => some k_ ≠ (v190 : Value).ownBlock) v196 y195) := ⟨h2_⟩; replace HO_3 : Aside0 (Kd.R k44 44 w24 w.heap.size (fun _ => True) (.slice Ao11 x3_1.length co11) x3_1) := ⟨h3_⟩; replace HI0 : Aside0 (IsS85 w0 w24 g s0_0 t199 t200) := ⟨h4_⟩; replace HK : Aside0 (KeepBut w w24 g none) := ⟨h5_⟩; replace HB : Aside0 (Below w0.heap.size w0 w24) := ⟨h6_⟩; clear h0_ h1_ h2_ h3_ h4_ h5_ h6_; have hHeld := trivial
     refine norm_ (a' := ?_) ?_ ?_
     rotate_left
     ·exact qP7_c0
     refine pure_ (i := 10) (N := some 26) (v := ?_) (a' := ?_) #[true, true, true, true, true, true, true, true, true, true, true, false, false, false] rfl rfl (qP10) (fun _ _ _ h => h) (zR ⟨by rfl, ?_⟩) ?_ ?_
     rotate_left
     ·intro w'
      go_simp
      with_reducible rfl
     rotate_left
     ·exact qP7_c6
     refine one_ (i := 11) (N := some 27) #[true, true, true, true, true, true, true, true, true, true, true, true, false, false] rfl rfl (qP70) (by decide) (fun K hK => ?_)
     refine value_ (w1 := ?_) (v := ?_) (by rfl) rfl ?_ ?_
     rotate_left 2
     ·go_simp
      constructor
      ·rfl
      ·rfl
     refine hK.out _ _ trivial (fun hHeld => ?_)
     clear hK K
     refine norm_ (a' := ?_) ?_ ?_
     rotate_left
     ·show Act.put _ (some 27) _ = _
      simp only [Act.put, zY, zZ, ya, i64_w, i32_w]
      rfl
     refine one_ (i := 12) (N := some 28) #[true, true, true, true, true, true, true, true, true, true, true, true, true, false] rfl rfl (qP70) (by decide) (fun K hK => ?_)
     refine Kd.R_append_step k44 w.heap.size (by rfl) (.tmp 16) (.tmp 27) 26 44 (.agg #[(.string ⟨#[]⟩), (.int .i64 0), (.int .i64 0)]) 32 rfl Try.underlying26 info44 rfl (by decide) (by omega) (.slice Ao11 x3_1.length co11) x3_1 (⟨strOfNums y186, t192, t198⟩ : S44) [.string (strOfNums y186), .int .i64 t192, .int .i64 t198] (fun _ => True) (fun _ => False) rfl rfl ?aP (fun _ hk => hk.elim) ?aF ?aO (zp _ _) ?aS ?aL ?_
     (case aP => exact (by exact k44_mkM _ _ _ (⟨strOfNums y186, t192, t198⟩ : S44)))
     (case aF => exact (fun _ _ => trivial))
     (case aO => exact (qP0 HO_3.1))
     (case aS => exact (by exact (keep_size (w := w) (g := g) (row := none) (qP3))))
     (case aL => have := LMc9.1; omega)
     intro v202 w25 ho hb hg hat; rw [← Ny201.1] at ho; replace HO188 := za (qP94 HO188.1 HO_3.1); replace HO191 := za (qP94 HO191.1 HO_3.1); replace HO197 := za (qP94 HO197.1 HO_3.1); replace HB := za (below_weaken (qP4) HL.1 hb); replace HI0 := za (by exact IsS85.grown (show IsS85 w0 _ g _ _ _ from (qP2)) hg (IsS85.own_ne HI0.1 HO_3.1 (by decide))); replace HK := za (by exact zx (qP3) (KeepBut.of_grown hg g) (Kd.R_base2 HO_3.1)); have HO203 := za ho; clear HO_3; clear ho hb hg hat
     refine hK.out _ _ trivial (fun hHeld => ?_)
     clear hK K
     refine norm_ (a' := ?_) ?_ ?_
     rotate_left
     ·show Act.put _ (some 28) _ = _
      simp only [Act.put, zY, zZ, ya, i64_w, i32_w]
      rfl
     refine pure_ (i := 13) (N := some 3) (v := ?_) (a' := ?_) #[true, true, true, true, true, true, true, true, true, true, true, true, true, true] rfl rfl (qP10) (fun _ _ _ h => h) (zR ⟨by rfl, ?_⟩) ?_ ?_
     rotate_left
     ·intro w'
      go_simp
      with_reducible rfl
     rotate_left
     ·exact qP7_c6
     refine done_ (qP85) ?_
     try go_wp2_with (first | ((with_reducible refine zn (f := 60) rfl ?_); refine zO (some 31) rfl rfl Try.func60 (qP22) rfl #[.pointer (some ⟨g, 0, none⟩), .int .i64 3] rfl (qP5) ?_; (with_reducible refine (spec_l1Cur_pick.calls g s0_0 t199 t200 3 t204 t205 t206 w0 _ ?s1 ?s2 A10.1).mono ?_); (case s1 => exact (qP2)); (case s2 => exact (qP4)); rintro e w26 ⟨rfl, hi, hb, hk⟩; refine ⟨_, rfl, ?_⟩; replace HO188 := za (qP62 HO188.1); replace HO191 := za (qP62 HO191.1); replace HO197 := za (qP62 HO197.1); replace HO203 := za (qP62 HO203.1); replace HK := za qP67; replace HB := za hb; replace HI0 := za hi; clear hb hk hi))
     go_roundg k1
     case measure => have := HK1.1; omega
     case rel => exact ⟨(y201), ((x4_1 + ((wrap64 (1 + t204)) % 256)) % 256), (wrap64 (x5_1 - 1)), (t205), (t206), (qP17), (qP17), H', ⟨by have := HK1.1; omega⟩, ⟨(qP0 HO203.1)⟩, ⟨(qP2)⟩, ⟨(qP3)⟩, ⟨(qP4)⟩⟩
    ·rw [zV c9] at H
     exact zJ H (by simp)
   ·rw [zV c6] at H; have c6b0 : decide (0 < x5_1) = false := zs c6; clear c6
    by_cases c27 : (x3_1.length : Int) = 0
    ·rw [zU c27] at H; have c27b0 : ((x3_1.length : Int) == 0) = true := zM c27; have c27b1 : ((x3_1.length : Int) != 0) = false := zv c27; clear c27; simp only [zW, zX] at H; obtain ⟨rfl, rfl, rfl⟩ := H; obtain ⟨Ao28, co28, eo28⟩ := zC HO_3.1; subst eo28
     go_wp2
     go_ret
     exact ⟨_, (qP19), (qP0 HO_3.1), (qP2), (qP4), (qP3)⟩
    ·rw [zV c27] at H; have c27b0 : ((x3_1.length : Int) == 0) = false := zu c27; have c27b1 : ((x3_1.length : Int) != 0) = true := zN c27; have c27b2 : ¬ (x3_1 = []) := fun h_ => c27 (by rw [h_]; rfl); replace H := bindA H; obtain ⟨⟨t207, t208, t209⟩, A29, H⟩ := H; (try dsimp only at H)
     by_cases c30 : 0 ≤ t207
     ·rw [zU c30] at H; have c30b0 : decide (0 ≤ t207) = true := zc c30; clear c30
      by_cases c31 : t207 < (x3_1.length : Int)
      ·rw [zU c31] at H; have c31b0 : decide (t207 < (x3_1.length : Int)) = true := zc c31; clear c31; replace H := bindA H; obtain ⟨⟨t212, t213, t214⟩, A32, H⟩ := H; (try dsimp only at H)
       by_cases c33 : t212 = 0
       ·rw [zU c33] at H; have c33b0 : (t212 == 0) = true := zM c33; have c33b1 : (t212 != 0) = false := zv c33; clear c33; obtain ⟨y215, hy215⟩ : ∃ y_ : List ByteArray, y_ = (([(⟨#[]⟩ : ByteArray), (⟨#[97]⟩ : ByteArray), (⟨#[65, 66]⟩ : ByteArray), (⟨#[65]⟩ : ByteArray)] : List ByteArray)) := ⟨_, rfl⟩; replace H : ((spec_l1Cur_of.f s0_0 t213 t214 y215).bind fun bt218 => (some ((x3_1.set (t207 : Int).toNat (⟨bt218.1, (rd_T44 x3_1 t207).f1, (rd_T44 x3_1 t207).f2⟩ : S44)), bt218.2.1, bt218.2.2))) = some (r1, r2, r3) := (qP13 hy215); have Ny215 := za hy215; clear hy215; replace H := bindA H; obtain ⟨⟨t218, t219, t220⟩, A34, H⟩ := H; (try dsimp only at H); obtain ⟨y221, hy221⟩ : ∃ y_ : List (S44), y_ = (x3_1.set (t207 : Int).toNat (⟨t218, (rd_T44 x3_1 t207).f1, (rd_T44 x3_1 t207).f2⟩ : S44)) := ⟨_, rfl⟩; replace H : (some (y221, t219, t220)) = some (r1, r2, r3) := (qP13 hy221); have Ny221 := za hy221; clear hy221; simp only [zW, zX] at H; obtain ⟨rfl, rfl, rfl⟩ := H; obtain ⟨Ao36, co36, eo36⟩ := zC HO_3.1; subst eo36
        go_wp2_with (first | ((with_reducible refine zn (f := 60) rfl ?_); refine zO (some 42) rfl rfl Try.func60 (qP22) rfl #[.pointer (some ⟨g, 0, none⟩), .int .i64 (x3_1.length : Int)] rfl (qP5) ?_; (with_reducible refine (spec_l1Cur_pick.calls g s0_0 x1001_1 x1002_1 (x3_1.length : Int) t207 t208 t209 w0 _ ?s1 ?s2 A29.1).mono ?_); (case s1 => exact (qP2)); (case s2 => exact (qP4)); rintro e w37 ⟨rfl, hi, hb, hk⟩; refine ⟨_, rfl, ?_⟩; replace HO_3 := za (qP62 HO_3.1); replace HK := za qP67; replace HB := za hb; replace HI0 := za hi; clear hb hk hi; have p210 : 0 ≤ (t207 : Int) := zb (qP9); have q210 : t207 < (x3_1.length : Int) := zb (qP9); obtain ⟨ad210, e210, hx210_0, hx210_1, hx210_2⟩ := at_T44 (zB HO_3.1).2.2 t207 p210 q210; cases e210; replace p210 := zt p210; replace q210 := zt q210) | ((with_reducible refine zo (N := 7) rfl ?_); refine zy ?hg (N := 7) ?hd (cs := #[.string (⟨#[]⟩ : ByteArray), .int .i64 0, .int .i64 0]) (t := 44) ?hr ?_; (case hd | hg => rfl); (case hr => exact (qP24)); intro gb211 hg w38 hbox hb; replace HO_3 := za qP81; replace HB := za (zP (qP4) hb); have BK211 := za hbox; have GW211 := za qP79; have GE211 := za qP74; replace HK := za qP65; have NB0_211 := za qP77; have NB211_0 := za qP78; replace HI0 := za qP71; clear hb hbox hg; have hnb39 := NB211_0.1; have hnc39 := NB0_211.1; have hcz40_0 : w38.cell? ⟨gb211, 0, none⟩ = some (.string (⟨#[]⟩ : ByteArray)) := (blk_cell BK211.1 0).trans rfl; have hcz40_1 : w38.cell? ⟨gb211, 1, none⟩ = some (.int .i64 0) := (blk_cell BK211.1 1).trans rfl; have hcz40_2 : w38.cell? ⟨gb211, 2, none⟩ = some (.int .i64 0) := (blk_cell BK211.1 2).trans rfl; have hfz40_0 := ze BK211.1 0; have hfz40_1 := ze BK211.1 1; have hfz40_2 := ze BK211.1 2) | ((with_reducible refine zn (f := 60) rfl ?_); refine zO (some 48) rfl rfl Try.func60 (qP22) rfl #[.pointer (some ⟨g, 0, none⟩), .int .i64 50] rfl (qP5) ?_; (with_reducible refine (spec_l1Cur_pick.calls g s0_0 t208 t209 50 t212 t213 t214 w0 _ ?s1 ?s2 A32.1).mono ?_); (case s1 => exact (qP7)); (case s2 => exact (qP15)); rintro e w41 ⟨rfl, hi, hb, hk⟩; refine ⟨_, rfl, ?_⟩; replace HO_3 := za (zD (zF (IsS85.apart (show IsS85 w0 _ g s0_0 t208 t209 from (qP7)) (qP28) (by decide)) hk (fun _ h => h.2)) (fun _ h => h.1)); replace BK211 := za (zw hk (g' := gb211) (o := .cells #[.string ((rd_T44 x3_1 t207).f0), .int .i64 ((rd_T44 x3_1 t207).f1), .int .i64 ((rd_T44 x3_1 t207).f2)] 44 (0, 0)) (qP25) NB211_0.1 (by simp)); replace HK := za (zx (qP12) hk (.inl rfl)); replace HB := za hb; replace HI0 := za hi; clear hb hk hi) | ((with_reducible refine zo (N := 52) rfl ?_); refine zI Kd.string _ 9 ?hg (N := 52) ?hd (xs := ([(⟨#[]⟩ : ByteArray), (⟨#[97]⟩ : ByteArray), (⟨#[65, 66]⟩ : ByteArray), (⟨#[65]⟩ : ByteArray)] : List ByteArray)) (inner := [.string (⟨#[]⟩ : ByteArray), .string (⟨#[97]⟩ : ByteArray), .string (⟨#[65, 66]⟩ : ByteArray), .string (⟨#[65]⟩ : ByteArray)]) (ok := fun _ => True) (okp := fun _ => True) ?hr ?hp (fun _ hk => hk) trivial (zp _ _) (zm _) (by simp) ?_; (case hd | hg => rfl); (case hr => exact (qP24)); (case hp => exact (by exact (zq (show Kd.M Kd.string _ _ _ (⟨#[]⟩ : ByteArray) [.string (⟨#[]⟩ : ByteArray)] from rfl) (zq (show Kd.M Kd.string _ _ _ (⟨#[97]⟩ : ByteArray) [.string (⟨#[97]⟩ : ByteArray)] from rfl) (zq (show Kd.M Kd.string _ _ _ (⟨#[65, 66]⟩ : ByteArray) [.string (⟨#[65, 66]⟩ : ByteArray)] from rfl) (zq (show Kd.M Kd.string _ _ _ (⟨#[65]⟩ : ByteArray) [.string (⟨#[65]⟩ : ByteArray)] from rfl) (zr _ _))))))); intro v216 w42 ho43 hb hg_ hnew_; clear hg_ hnew_; (first | rw [← Ny215.1] at ho43 | (simp only [Int.reduceToNat] at ho43; rw [← Ny215.1] at ho43)); replace HO_3 := za (qP63 HO_3.1); have HO217 := za (zH ho43 (keep_size (w := w) (g := g) (row := none) (qP12))); replace BK211 := za (zj (qB BK211.1) hb); replace HK := za (zx (qP12) (zK hb g none) (.inl rfl)); replace HB := za (zP (qP15) hb); replace HI0 := za (IsS85.below (qP7) hb); clear hb ho43; obtain ⟨Ao44, co44, eo44⟩ := zC HO217.1; subst eo44) | ((with_reducible refine zn (f := 66) rfl ?_); refine zO (some 53) rfl rfl Try.func66 (qP22) rfl #[.pointer (some ⟨g, 0, none⟩), .slice Ao44 y215.length co44] rfl (qP5) ?_; (with_reducible refine (spec_l1Cur_of.calls g s0_0 t213 t214 _ _ y215 t218 t219 t220 w0 _ ?s1 ?s2 ?s3 ?s4 ?s5 A34.1).mono ?_); (case s1 => exact (qP7)); (case s2 => exact (qP15)); (case s3 => exact (qP6 HO217.1)); (case s4 => exact (qP32 HO217.1)); (case s5 => exact (qP42 HO217.1)); rintro e w45 ⟨rfl, hi, hb, hk⟩; refine ⟨_, rfl, ?_⟩; replace HO_3 := za (zD (zF (IsS85.apart (show IsS85 w0 _ g s0_0 t213 t214 from (qP7)) (qP0 HO_3.1) (by decide)) hk (fun _ h => h.2)) (fun _ h => h.1)); replace BK211 := za qP52; replace HO217 := za (zD (zF (IsS85.apart (show IsS85 w0 _ g s0_0 t213 t214 from (qP7)) (qP0 HO217.1) (by decide)) hk (fun _ h => h.2)) (fun _ h => h.1)); replace HK := za (zx (qP12) hk (.inl rfl)); replace HB := za hb; replace HI0 := za hi; clear hb hk hi; have hcz46_0 : w45.cell? ⟨gb211, 0, none⟩ = some (.string ((rd_T44 x3_1 t207).f0)) := (blk_cell BK211.1 0).trans rfl; have hcz46_1 : w45.cell? ⟨gb211, 1, none⟩ = some (.int .i64 ((rd_T44 x3_1 t207).f1)) := (blk_cell BK211.1 1).trans rfl; have hcz46_2 : w45.cell? ⟨gb211, 2, none⟩ = some (.int .i64 ((rd_T44 x3_1 t207).f2)) := (blk_cell BK211.1 2).trans rfl; have hfz46_0 := ze BK211.1 0; have hfz46_1 := ze BK211.1 1; have hfz46_2 := ze BK211.1 2) | ((with_reducible refine gate_store (t := 9) (p := 54) rfl ?_); refine store_event (t := 9) (p := 54) (v := ?vo_w47) (w1 := (w45.setCell ⟨gb211, 0, none⟩ (.string t218))) ?hg ?ho ?hn ?hr ?_; (case ho => rfl); (case hg => rfl); (case hn => rfl); (case hr => exact (qP24)); intro w47 hw; replace HO_3 : Aside0 (Kd.R k44 44 w47 w.heap.size (fun k_ => k_ ≠ gb211) (.slice (some ad210) x3_1.length co36) x3_1) := ⟨(by rw [hw]; exact (by (with_reducible repeat (first | apply Kd.R_alloc | apply Kd.R_drewN | apply zG)); exact zD (zE (p := ⟨gb211, 0, none⟩) (zD HO_3.1 (fun k_ hk => (⟨hk, hk.2⟩ : _ ∧ k_ ≠ gb211))) (fun _ hk => hk.2) (.string t218)) (fun _ hk => hk.1.2)))⟩; replace HO217 : Aside0 (Kd.R Kd.string 9 w47 w.heap.size (fun _ => True) (.slice Ao44 y215.length co44) y215) := ⟨(by rw [hw]; exact (by (with_reducible repeat (first | apply Kd.R_alloc | apply Kd.R_drewN | apply zG)); exact zD (zE (p := ⟨gb211, 0, none⟩) (Kd.R_types HO217.1 BK211.1 (by decide)) (fun _ hk => hk.2) (.string t218)) (fun _ hk => trivial)))⟩; replace BK211 : Aside0 (w47.heap[gb211]? = some (.cells #[.string t218, .int .i64 ((rd_T44 x3_1 t207).f1), .int .i64 ((rd_T44 x3_1 t207).f2)] 44 (0, 0))) := ⟨(by rw [hw]; exact (by (with_reducible repeat (first | refine zg ?_ _ | refine zh ?_ | refine zf ?_ _)); refine zi (cs := #[.string ((rd_T44 x3_1 t207).f0), .int .i64 ((rd_T44 x3_1 t207).f1), .int .i64 ((rd_T44 x3_1 t207).f2)]) ?_ 0 _ rfl; (with_reducible repeat (first | refine zg ?_ _ | refine zh ?_ | refine zf ?_ _)); exact BK211.1))⟩; replace HK : Aside0 (KeepBut w w47 g none) := ⟨(by rw [hw]; exact (qP12))⟩; replace HB : Aside0 (Below w0.heap.size w0 w47) := ⟨(by rw [hw]; exact (qP15))⟩; replace HI0 : Aside0 (IsS85 w0 w47 g s0_0 t219 t220) := ⟨(by rw [hw]; exact (qP7))⟩; clear hw; have hcz48_0 : w47.cell? ⟨gb211, 0, none⟩ = some (.string t218) := (blk_cell BK211.1 0).trans rfl; have hcz48_1 : w47.cell? ⟨gb211, 1, none⟩ = some (.int .i64 ((rd_T44 x3_1 t207).f1)) := (blk_cell BK211.1 1).trans rfl; have hcz48_2 : w47.cell? ⟨gb211, 2, none⟩ = some (.int .i64 ((rd_T44 x3_1 t207).f2)) := (blk_cell BK211.1 2).trans rfl; have hfz48_0 := ze BK211.1 0; have hfz48_1 := ze BK211.1 1; have hfz48_2 := ze BK211.1 2; have p35 : 0 ≤ (t207 : Int) := zb (qP9); have q35 : (t207 : Int) < ((x3_1.length : Int) : Int) := zb (qP9); obtain ⟨go35, co35, eo35, gb35, gl35, cl35, HG35⟩ := Kd.R_form HO_3.1 (by omega); (first | cases eo35 | (injection eo35 with ea_ en_ ec_; (first | subst ea_ | (injection ea_ with ea_; subst ea_)); subst ec_; clear en_)); have GB35 := za gb35; have GG35 := za HG35; clear gb35 gl35 HG35; (first | simp only [add_plain] at hx210_0 | skip); (first | simp only [add_plain] at hx210_1 | skip); (first | simp only [add_plain] at hx210_2 | skip); obtain ⟨ce35, hcl35, hM35, hcc35, hfr35⟩ := Kd.R_elem HO_3.1 z44 (t207 : Int) p35 q35; obtain rfl := k44_openM hM35; have hx35_0 : w47.cell? ⟨go35, (t207 : Int).toNat * 3, none⟩ = some (.string ((rd_T44 x3_1 t207).f0)) := hcc35 0 _ rfl; have hx35_1 : w47.cell? ⟨go35, (t207 : Int).toNat * 3 + 1, none⟩ = some (.int .i64 ((rd_T44 x3_1 t207).f1)) := hcc35 1 _ rfl; have hx35_2 : w47.cell? ⟨go35, (t207 : Int).toNat * 3 + 2, none⟩ = some (.int .i64 ((rd_T44 x3_1 t207).f2)) := hcc35 2 _ rfl; have hf35_0 : w47.frozen? ⟨go35, (t207 : Int).toNat * 3, none⟩ = false := hfr35 0; have hf35_1 : w47.frozen? ⟨go35, (t207 : Int).toNat * 3 + 1, none⟩ = false := hfr35 1; have hf35_2 : w47.frozen? ⟨go35, (t207 : Int).toNat * 3 + 2, none⟩ = false := hfr35 2; clear hcl35 hcc35 hfr35 hM35; replace p35 := zt p35; replace q35 := zt q35; have HX49 := za (by exact show Kd.R k44 44 w47 w.heap.size (fun k_ => k_ ≠ gb211) (.slice (some ⟨go35, 0, none⟩) x3_1.length co36) x3_1 from (qP0 HO_3.1)); obtain ⟨ce49, hcl49, hM49, hcc49, hfr49⟩ := Kd.R_elem HX49.1 z44 (t207 : Int) (zb (qP9)) (by have h_ : (t207 : Int) < ((x3_1.length : Int) : Int) := zb (qP9); first | exact h_ | (have e_ := (zB HO_3.1).1; omega) | simpa using h_); obtain rfl := k44_openM hM49; have HP49 := Kd.R_seg HX49.1 (t207 : Int) (zb (qP9)) (by have h_ : (t207 : Int) < ((x3_1.length : Int) : Int) := zb (qP9); first | exact h_ | (have e_ := (zB HO_3.1).1; omega) | simpa using h_) (seg := [.string t218, .int .i64 ((rd_T44 x3_1 t207).f1), .int .i64 ((rd_T44 x3_1 t207).f2)]) (j := 0) hcl49 hcc49 (show 3 ≤ 3 from by decide) (x' := (⟨t218, (rd_T44 x3_1 t207).f1, (rd_T44 x3_1 t207).f2⟩ : S44)) (k44_mkM _ _ _ (⟨t218, (rd_T44 x3_1 t207).f1, (rd_T44 x3_1 t207).f2⟩ : S44) ) (fun _ hk => hk); have hx49_0 := hcc49 0 _ rfl; (try simp only [show (k44).sz = 3 from rfl, Nat.mul_one, Nat.add_zero] at hx49_0); have hf49_0 := hfr49 0; (try simp only [show (k44).sz = 3 from rfl, Nat.mul_one, Nat.add_zero] at hf49_0); have hx49_1 := hcc49 1 _ rfl; (try simp only [show (k44).sz = 3 from rfl, Nat.mul_one, Nat.add_zero] at hx49_1); have hf49_1 := hfr49 1; (try simp only [show (k44).sz = 3 from rfl, Nat.mul_one, Nat.add_zero] at hf49_1); have hx49_2 := hcc49 2 _ rfl; (try simp only [show (k44).sz = 3 from rfl, Nat.mul_one, Nat.add_zero] at hx49_2); have hf49_2 := hfr49 2; (try simp only [show (k44).sz = 3 from rfl, Nat.mul_one, Nat.add_zero] at hf49_2); clear hcl49 hcc49 hfr49 hM49) | ((with_reducible refine gate_store (t := 44) (p := 92) rfl ?_); refine store_event (t := 44) (p := 92) (v := ?vo_w50) (w1 := (((w47.setCell ⟨go35, (t207 : Int).toNat * 3, none⟩ (.string t218)).setCell ⟨go35, (t207 : Int).toNat * 3 + 1, none⟩ (.int .i64 ((rd_T44 x3_1 t207).f1))).setCell ⟨go35, (t207 : Int).toNat * 3 + 2, none⟩ (.int .i64 ((rd_T44 x3_1 t207).f2)))) ?hg ?ho ?hn ?hr ?_; (case ho => rfl); (case hg => rfl); (case hn => rfl); (case hr => exact (qP24)); intro w50 hw; have hg : w47.grownBy w50 (some go35) := (by rw [hw]; exact HP49.2); have hp_ : Kd.R k44 44 w50 w.heap.size (fun k_ => k_ ≠ gb211) (.slice (some ⟨go35, 0, none⟩) x3_1.length co36) y221 := (by rw [hw, Ny221.1]; exact HP49.1); clear HP49; replace HI0 := za (IsS85.grown (qP7) hg (IsS85.own_ne HI0.1 HO_3.1 (by decide))); replace BK211 := za qP49; replace HO217 := za (by exact Kd.R_over' (v := (.slice (some ⟨go35, 0, none⟩) x3_1.length co36)) (qP0 HO217.1) (Kd.R_typed HO_3.1) (by decide) hg); replace HB := za (by exact (by rw [hw]; exact zT (zT (zT (HB.1) (Nat.le_trans HL.1 GB35.1)) (Nat.le_trans HL.1 GB35.1)) (Nat.le_trans HL.1 GB35.1) : Below w0.heap.size w0 w50)); replace HK := za (zx (qP12) (KeepBut.of_grown hg g) (Kd.R_base2 HO_3.1)); replace HO_3 := za hp_; clear hg hw hp_))
        go_ret
        exact ⟨_, (qP19), (qP36 HO_3.1), (qP7), (qP15), (qP12)⟩
       ·rw [zV c33] at H; have c33b0 : (t212 == 0) = false := zu c33; have c33b1 : (t212 != 0) = true := zN c33
        by_cases c51 : t212 = 1
        ·rw [zU c51] at H; have c51b0 : (t212 == 1) = true := zM c51; have c51b1 : (t212 != 1) = false := zv c51; clear c51; obtain ⟨y222, hy222⟩ : ∃ y_ : List Int, y_ = (([(-1001), 1001] : List Int)) := ⟨_, rfl⟩; replace H : ((spec_l1Cur_among.f s0_0 t213 t214 y222).bind fun bt225 => (some ((x3_1.set (t207 : Int).toNat (⟨(rd_T44 x3_1 t207).f0, bt225.1, (rd_T44 x3_1 t207).f2⟩ : S44)), bt225.2.1, bt225.2.2))) = some (r1, r2, r3) := (qP13 hy222); have Ny222 := za hy222; clear hy222; replace H := bindA H; obtain ⟨⟨t225, t226, t227⟩, A52, H⟩ := H; (try dsimp only at H); obtain ⟨y228, hy228⟩ : ∃ y_ : List (S44), y_ = (x3_1.set (t207 : Int).toNat (⟨(rd_T44 x3_1 t207).f0, t225, (rd_T44 x3_1 t207).f2⟩ : S44)) := ⟨_, rfl⟩; replace H : (some (y228, t226, t227)) = some (r1, r2, r3) := (qP13 hy228); have Ny228 := za hy228; clear hy228; simp only [zW, zX] at H; obtain ⟨rfl, rfl, rfl⟩ := H; obtain ⟨Ao54, co54, eo54⟩ := zC HO_3.1; subst eo54
         go_wp2_with (first | ((with_reducible refine zn (f := 60) rfl ?_); refine zO (some 42) rfl rfl Try.func60 (qP22) rfl #[.pointer (some ⟨g, 0, none⟩), .int .i64 (x3_1.length : Int)] rfl (qP5) ?_; (with_reducible refine (spec_l1Cur_pick.calls g s0_0 x1001_1 x1002_1 (x3_1.length : Int) t207 t208 t209 w0 _ ?s1 ?s2 A29.1).mono ?_); (case s1 => exact (qP2)); (case s2 => exact (qP4)); rintro e w55 ⟨rfl, hi, hb, hk⟩; refine ⟨_, rfl, ?_⟩; replace HO_3 := za (qP62 HO_3.1); replace HK := za qP67; replace HB := za hb; replace HI0 := za hi; clear hb hk hi; have p210 : 0 ≤ (t207 : Int) := zb (qP9); have q210 : t207 < (x3_1.length : Int) := zb (qP9); obtain ⟨ad210, e210, hx210_0, hx210_1, hx210_2⟩ := at_T44 (zB HO_3.1).2.2 t207 p210 q210; cases e210; replace p210 := zt p210; replace q210 := zt q210) | ((with_reducible refine zo (N := 7) rfl ?_); refine zy ?hg (N := 7) ?hd (cs := #[.string (⟨#[]⟩ : ByteArray), .int .i64 0, .int .i64 0]) (t := 44) ?hr ?_; (case hd | hg => rfl); (case hr => exact (qP24)); intro gb211 hg w56 hbox hb; replace HO_3 := za qP81; replace HB := za (zP (qP4) hb); have BK211 := za hbox; have GW211 := za qP79; have GE211 := za qP74; replace HK := za qP65; have NB0_211 := za qP77; have NB211_0 := za qP78; replace HI0 := za qP71; clear hb hbox hg; have hnb57 := NB211_0.1; have hnc57 := NB0_211.1; have hcz58_0 : w56.cell? ⟨gb211, 0, none⟩ = some (.string (⟨#[]⟩ : ByteArray)) := (blk_cell BK211.1 0).trans rfl; have hcz58_1 : w56.cell? ⟨gb211, 1, none⟩ = some (.int .i64 0) := (blk_cell BK211.1 1).trans rfl; have hcz58_2 : w56.cell? ⟨gb211, 2, none⟩ = some (.int .i64 0) := (blk_cell BK211.1 2).trans rfl; have hfz58_0 := ze BK211.1 0; have hfz58_1 := ze BK211.1 1; have hfz58_2 := ze BK211.1 2) | ((with_reducible refine zn (f := 60) rfl ?_); refine zO (some 48) rfl rfl Try.func60 (qP22) rfl #[.pointer (some ⟨g, 0, none⟩), .int .i64 50] rfl (qP5) ?_; (with_reducible refine (spec_l1Cur_pick.calls g s0_0 t208 t209 50 t212 t213 t214 w0 _ ?s1 ?s2 A32.1).mono ?_); (case s1 => exact (qP7)); (case s2 => exact (qP15)); rintro e w59 ⟨rfl, hi, hb, hk⟩; refine ⟨_, rfl, ?_⟩; replace HO_3 := za (zD (zF (IsS85.apart (show IsS85 w0 _ g s0_0 t208 t209 from (qP7)) (qP28) (by decide)) hk (fun _ h => h.2)) (fun _ h => h.1)); replace BK211 := za (zw hk (g' := gb211) (o := .cells #[.string ((rd_T44 x3_1 t207).f0), .int .i64 ((rd_T44 x3_1 t207).f1), .int .i64 ((rd_T44 x3_1 t207).f2)] 44 (0, 0)) (qP25) NB211_0.1 (by simp)); replace HK := za (zx (qP12) hk (.inl rfl)); replace HB := za hb; replace HI0 := za hi; clear hb hk hi) | ((with_reducible refine zo (N := 58) rfl ?_); refine zI (Kd.int .i64) _ 3 ?hg (N := 58) ?hd (xs := ([(-1001), 1001] : List Int)) (inner := [.int .i64 (-1001), .int .i64 1001]) (ok := fun _ => True) (okp := fun _ => True) ?hr ?hp (fun _ hk => hk) trivial (zp _ _) (zm _) (by simp) ?_; (case hd | hg => rfl); (case hr => exact (qP24)); (case hp => exact (qP54)); intro v223 w60 ho61 hb hg_ hnew_; clear hg_ hnew_; (first | rw [← Ny222.1] at ho61 | (simp only [Int.reduceToNat] at ho61; rw [← Ny222.1] at ho61)); replace HO_3 := za (qP63 HO_3.1); have HO224 := za (zH ho61 (keep_size (w := w) (g := g) (row := none) (qP12))); replace BK211 := za (zj (qB BK211.1) hb); replace HK := za (zx (qP12) (zK hb g none) (.inl rfl)); replace HB := za (zP (qP15) hb); replace HI0 := za (IsS85.below (qP7) hb); clear hb ho61; obtain ⟨Ao62, co62, eo62⟩ := zC HO224.1; subst eo62) | ((with_reducible refine zn (f := 59) rfl ?_); refine zO (some 59) rfl rfl Try.func59 (qP22) rfl #[.pointer (some ⟨g, 0, none⟩), .slice Ao62 y222.length co62] rfl (qP5) ?_; (with_reducible refine (spec_l1Cur_among.calls g s0_0 t213 t214 _ _ y222 t225 t226 t227 w0 _ ?s1 ?s2 ?s3 ?s4 ?s5 A52.1).mono ?_); (case s1 => exact (qP7)); (case s2 => exact (qP15)); (case s3 => exact (qP6 HO224.1)); (case s4 => exact (qP32 HO224.1)); (case s5 => exact (qP42 HO224.1)); rintro e w63 ⟨rfl, hi, hb, hk⟩; refine ⟨_, rfl, ?_⟩; replace HO_3 := za (zD (zF (IsS85.apart (show IsS85 w0 _ g s0_0 t213 t214 from (qP7)) (qP0 HO_3.1) (by decide)) hk (fun _ h => h.2)) (fun _ h => h.1)); replace BK211 := za qP52; replace HO224 := za (zD (zF (IsS85.apart (show IsS85 w0 _ g s0_0 t213 t214 from (qP7)) (qP0 HO224.1) (by decide)) hk (fun _ h => h.2)) (fun _ h => h.1)); replace HK := za (zx (qP12) hk (.inl rfl)); replace HB := za hb; replace HI0 := za hi; clear hb hk hi; have hcz64_0 : w63.cell? ⟨gb211, 0, none⟩ = some (.string ((rd_T44 x3_1 t207).f0)) := (blk_cell BK211.1 0).trans rfl; have hcz64_1 : w63.cell? ⟨gb211, 1, none⟩ = some (.int .i64 ((rd_T44 x3_1 t207).f1)) := (blk_cell BK211.1 1).trans rfl; have hcz64_2 : w63.cell? ⟨gb211, 2, none⟩ = some (.int .i64 ((rd_T44 x3_1 t207).f2)) := (blk_cell BK211.1 2).trans rfl; have hfz64_0 := ze BK211.1 0; have hfz64_1 := ze BK211.1 1; have hfz64_2 := ze BK211.1 2) | ((with_reducible refine gate_store (t := 3) (p := 60) rfl ?_); refine store_event (t := 3) (p := 60) (v := ?vo_w65) (w1 := (w63.setCell ⟨gb211, 1, none⟩ (.int .i64 t225))) ?hg ?ho ?hn ?hr ?_; (case ho => rfl); (case hg => rfl); (case hn => rfl); (case hr => exact (qP24)); intro w65 hw; replace HO_3 : Aside0 (Kd.R k44 44 w65 w.heap.size (fun k_ => k_ ≠ gb211) (.slice (some ad210) x3_1.length co54) x3_1) := ⟨(by rw [hw]; exact (by (with_reducible repeat (first | apply Kd.R_alloc | apply Kd.R_drewN | apply zG)); exact zD (zE (p := ⟨gb211, 1, none⟩) (zD HO_3.1 (fun k_ hk => (⟨hk, hk.2⟩ : _ ∧ k_ ≠ gb211))) (fun _ hk => hk.2) (.int .i64 t225)) (fun _ hk => hk.1.2)))⟩; replace HO224 : Aside0 (Kd.R (Kd.int .i64) 3 w65 w.heap.size (fun _ => True) (.slice Ao62 y222.length co62) y222) := ⟨(by rw [hw]; exact (by (with_reducible repeat (first | apply Kd.R_alloc | apply Kd.R_drewN | apply zG)); exact zD (zE (p := ⟨gb211, 1, none⟩) (Kd.R_types HO224.1 BK211.1 (by decide)) (fun _ hk => hk.2) (.int .i64 t225)) (fun _ hk => trivial)))⟩; replace BK211 : Aside0 (w65.heap[gb211]? = some (.cells #[.string ((rd_T44 x3_1 t207).f0), .int .i64 t225, .int .i64 ((rd_T44 x3_1 t207).f2)] 44 (0, 0))) := ⟨(by rw [hw]; exact (by (with_reducible repeat (first | refine zg ?_ _ | refine zh ?_ | refine zf ?_ _)); refine zi (cs := #[.string ((rd_T44 x3_1 t207).f0), .int .i64 ((rd_T44 x3_1 t207).f1), .int .i64 ((rd_T44 x3_1 t207).f2)]) ?_ 1 _ rfl; (with_reducible repeat (first | refine zg ?_ _ | refine zh ?_ | refine zf ?_ _)); exact BK211.1))⟩; replace HK : Aside0 (KeepBut w w65 g none) := ⟨(by rw [hw]; exact (qP12))⟩; replace HB : Aside0 (Below w0.heap.size w0 w65) := ⟨(by rw [hw]; exact (qP15))⟩; replace HI0 : Aside0 (IsS85 w0 w65 g s0_0 t226 t227) := ⟨(by rw [hw]; exact (qP7))⟩; clear hw; have hcz66_0 : w65.cell? ⟨gb211, 0, none⟩ = some (.string ((rd_T44 x3_1 t207).f0)) := (blk_cell BK211.1 0).trans rfl; have hcz66_1 : w65.cell? ⟨gb211, 1, none⟩ = some (.int .i64 t225) := (blk_cell BK211.1 1).trans rfl; have hcz66_2 : w65.cell? ⟨gb211, 2, none⟩ = some (.int .i64 ((rd_T44 x3_1 t207).f2)) := (blk_cell BK211.1 2).trans rfl; have hfz66_0 := ze BK211.1 0; have hfz66_1 := ze BK211.1 1; have hfz66_2 := ze BK211.1 2; have p53 : 0 ≤ (t207 : Int) := zb (qP9); have q53 : (t207 : Int) < ((x3_1.length : Int) : Int) := zb (qP9); obtain ⟨go53, co53, eo53, gb53, gl53, cl53, HG53⟩ := Kd.R_form HO_3.1 (by omega); (first | cases eo53 | (injection eo53 with ea_ en_ ec_; (first | subst ea_ | (injection ea_ with ea_; subst ea_)); subst ec_; clear en_)); have GB53 := za gb53; have GG53 := za HG53; clear gb53 gl53 HG53; (first | simp only [add_plain] at hx210_0 | skip); (first | simp only [add_plain] at hx210_1 | skip); (first | simp only [add_plain] at hx210_2 | skip); obtain ⟨ce53, hcl53, hM53, hcc53, hfr53⟩ := Kd.R_elem HO_3.1 z44 (t207 : Int) p53 q53; obtain rfl := k44_openM hM53; have hx53_0 : w65.cell? ⟨go53, (t207 : Int).toNat * 3, none⟩ = some (.string ((rd_T44 x3_1 t207).f0)) := hcc53 0 _ rfl; have hx53_1 : w65.cell? ⟨go53, (t207 : Int).toNat * 3 + 1, none⟩ = some (.int .i64 ((rd_T44 x3_1 t207).f1)) := hcc53 1 _ rfl; have hx53_2 : w65.cell? ⟨go53, (t207 : Int).toNat * 3 + 2, none⟩ = some (.int .i64 ((rd_T44 x3_1 t207).f2)) := hcc53 2 _ rfl; have hf53_0 : w65.frozen? ⟨go53, (t207 : Int).toNat * 3, none⟩ = false := hfr53 0; have hf53_1 : w65.frozen? ⟨go53, (t207 : Int).toNat * 3 + 1, none⟩ = false := hfr53 1; have hf53_2 : w65.frozen? ⟨go53, (t207 : Int).toNat * 3 + 2, none⟩ = false := hfr53 2; clear hcl53 hcc53 hfr53 hM53; replace p53 := zt p53; replace q53 := zt q53; have HX67 := za (by exact show Kd.R k44 44 w65 w.heap.size (fun k_ => k_ ≠ gb211) (.slice (some ⟨go53, 0, none⟩) x3_1.length co54) x3_1 from (qP0 HO_3.1)); obtain ⟨ce67, hcl67, hM67, hcc67, hfr67⟩ := Kd.R_elem HX67.1 z44 (t207 : Int) (zb (qP9)) (by have h_ : (t207 : Int) < ((x3_1.length : Int) : Int) := zb (qP9); first | exact h_ | (have e_ := (zB HO_3.1).1; omega) | simpa using h_); obtain rfl := k44_openM hM67; have HP67 := Kd.R_seg HX67.1 (t207 : Int) (zb (qP9)) (by have h_ : (t207 : Int) < ((x3_1.length : Int) : Int) := zb (qP9); first | exact h_ | (have e_ := (zB HO_3.1).1; omega) | simpa using h_) (seg := [.string ((rd_T44 x3_1 t207).f0), .int .i64 t225, .int .i64 ((rd_T44 x3_1 t207).f2)]) (j := 0) hcl67 hcc67 (show 3 ≤ 3 from by decide) (x' := (⟨(rd_T44 x3_1 t207).f0, t225, (rd_T44 x3_1 t207).f2⟩ : S44)) (k44_mkM _ _ _ (⟨(rd_T44 x3_1 t207).f0, t225, (rd_T44 x3_1 t207).f2⟩ : S44) ) (fun _ hk => hk); have hx67_0 := hcc67 0 _ rfl; (try simp only [show (k44).sz = 3 from rfl, Nat.mul_one, Nat.add_zero] at hx67_0); have hf67_0 := hfr67 0; (try simp only [show (k44).sz = 3 from rfl, Nat.mul_one, Nat.add_zero] at hf67_0); have hx67_1 := hcc67 1 _ rfl; (try simp only [show (k44).sz = 3 from rfl, Nat.mul_one, Nat.add_zero] at hx67_1); have hf67_1 := hfr67 1; (try simp only [show (k44).sz = 3 from rfl, Nat.mul_one, Nat.add_zero] at hf67_1); have hx67_2 := hcc67 2 _ rfl; (try simp only [show (k44).sz = 3 from rfl, Nat.mul_one, Nat.add_zero] at hx67_2); have hf67_2 := hfr67 2; (try simp only [show (k44).sz = 3 from rfl, Nat.mul_one, Nat.add_zero] at hf67_2); clear hcl67 hcc67 hfr67 hM67) | ((with_reducible refine gate_store (t := 44) (p := 92) rfl ?_); refine store_event (t := 44) (p := 92) (v := ?vo_w68) (w1 := (((w65.setCell ⟨go53, (t207 : Int).toNat * 3, none⟩ (.string ((rd_T44 x3_1 t207).f0))).setCell ⟨go53, (t207 : Int).toNat * 3 + 1, none⟩ (.int .i64 t225)).setCell ⟨go53, (t207 : Int).toNat * 3 + 2, none⟩ (.int .i64 ((rd_T44 x3_1 t207).f2)))) ?hg ?ho ?hn ?hr ?_; (case ho => rfl); (case hg => rfl); (case hn => rfl); (case hr => exact (qP24)); intro w68 hw; have hg : w65.grownBy w68 (some go53) := (by rw [hw]; exact HP67.2); have hp_ : Kd.R k44 44 w68 w.heap.size (fun k_ => k_ ≠ gb211) (.slice (some ⟨go53, 0, none⟩) x3_1.length co54) y228 := (by rw [hw, Ny228.1]; exact HP67.1); clear HP67; replace HI0 := za (IsS85.grown (qP7) hg (IsS85.own_ne HI0.1 HO_3.1 (by decide))); replace BK211 := za qP49; replace HO224 := za (by exact Kd.R_over' (v := (.slice (some ⟨go53, 0, none⟩) x3_1.length co54)) (qP0 HO224.1) (Kd.R_typed HO_3.1) (by decide) hg); replace HB := za (by exact (by rw [hw]; exact zT (zT (zT (HB.1) (Nat.le_trans HL.1 GB53.1)) (Nat.le_trans HL.1 GB53.1)) (Nat.le_trans HL.1 GB53.1) : Below w0.heap.size w0 w68)); replace HK := za (zx (qP12) (KeepBut.of_grown hg g) (Kd.R_base2 HO_3.1)); replace HO_3 := za hp_; clear hg hw hp_))
         go_ret
         exact ⟨_, (qP19), (qP36 HO_3.1), (qP7), (qP15), (qP12)⟩
        ·rw [zV c51] at H; have c51b0 : (t212 == 1) = false := zu c51; have c51b1 : (t212 != 1) = true := zN c51
         by_cases c69 : t212 = 2
         ·rw [zU c69] at H; have c69b0 : (t212 == 2) = true := zM c69; have c69b1 : (t212 != 2) = false := zv c69; clear c69; obtain ⟨y229, hy229⟩ : ∃ y_ : List Int, y_ = (([(-1001), 1001] : List Int)) := ⟨_, rfl⟩; replace H : ((spec_l1Cur_among.f s0_0 t213 t214 y229).bind fun bt232 => (some ((x3_1.set (t207 : Int).toNat (⟨(rd_T44 x3_1 t207).f0, (rd_T44 x3_1 t207).f1, bt232.1⟩ : S44)), bt232.2.1, bt232.2.2))) = some (r1, r2, r3) := (qP13 hy229); have Ny229 := za hy229; clear hy229; replace H := bindA H; obtain ⟨⟨t232, t233, t234⟩, A70, H⟩ := H; (try dsimp only at H); obtain ⟨y235, hy235⟩ : ∃ y_ : List (S44), y_ = (x3_1.set (t207 : Int).toNat (⟨(rd_T44 x3_1 t207).f0, (rd_T44 x3_1 t207).f1, t232⟩ : S44)) := ⟨_, rfl⟩; replace H : (some (y235, t233, t234)) = some (r1, r2, r3) := (qP13 hy235); have Ny235 := za hy235; clear hy235; simp only [zW, zX] at H; obtain ⟨rfl, rfl, rfl⟩ := H; obtain ⟨Ao72, co72, eo72⟩ := zC HO_3.1; subst eo72
          go_wp2_with (first | ((with_reducible refine zn (f := 60) rfl ?_); refine zO (some 42) rfl rfl Try.func60 (qP22) rfl #[.pointer (some ⟨g, 0, none⟩), .int .i64 (x3_1.length : Int)] rfl (qP5) ?_; (with_reducible refine (spec_l1Cur_pick.calls g s0_0 x1001_1 x1002_1 (x3_1.length : Int) t207 t208 t209 w0 _ ?s1 ?s2 A29.1).mono ?_); (case s1 => exact (qP2)); (case s2 => exact (qP4)); rintro e w73 ⟨rfl, hi, hb, hk⟩; refine ⟨_, rfl, ?_⟩; replace HO_3 := za (qP62 HO_3.1); replace HK := za qP67; replace HB := za hb; replace HI0 := za hi; clear hb hk hi; have p210 : 0 ≤ (t207 : Int) := zb (qP9); have q210 : t207 < (x3_1.length : Int) := zb (qP9); obtain ⟨ad210, e210, hx210_0, hx210_1, hx210_2⟩ := at_T44 (zB HO_3.1).2.2 t207 p210 q210; cases e210; replace p210 := zt p210; replace q210 := zt q210) | ((with_reducible refine zo (N := 7) rfl ?_); refine zy ?hg (N := 7) ?hd (cs := #[.string (⟨#[]⟩ : ByteArray), .int .i64 0, .int .i64 0]) (t := 44) ?hr ?_; (case hd | hg => rfl); (case hr => exact (qP24)); intro gb211 hg w74 hbox hb; replace HO_3 := za qP81; replace HB := za (zP (qP4) hb); have BK211 := za hbox; have GW211 := za qP79; have GE211 := za qP74; replace HK := za qP65; have NB0_211 := za qP77; have NB211_0 := za qP78; replace HI0 := za qP71; clear hb hbox hg; have hnb75 := NB211_0.1; have hnc75 := NB0_211.1; have hcz76_0 : w74.cell? ⟨gb211, 0, none⟩ = some (.string (⟨#[]⟩ : ByteArray)) := (blk_cell BK211.1 0).trans rfl; have hcz76_1 : w74.cell? ⟨gb211, 1, none⟩ = some (.int .i64 0) := (blk_cell BK211.1 1).trans rfl; have hcz76_2 : w74.cell? ⟨gb211, 2, none⟩ = some (.int .i64 0) := (blk_cell BK211.1 2).trans rfl; have hfz76_0 := ze BK211.1 0; have hfz76_1 := ze BK211.1 1; have hfz76_2 := ze BK211.1 2) | ((with_reducible refine zn (f := 60) rfl ?_); refine zO (some 48) rfl rfl Try.func60 (qP22) rfl #[.pointer (some ⟨g, 0, none⟩), .int .i64 50] rfl (qP5) ?_; (with_reducible refine (spec_l1Cur_pick.calls g s0_0 t208 t209 50 t212 t213 t214 w0 _ ?s1 ?s2 A32.1).mono ?_); (case s1 => exact (qP7)); (case s2 => exact (qP15)); rintro e w77 ⟨rfl, hi, hb, hk⟩; refine ⟨_, rfl, ?_⟩; replace HO_3 := za (zD (zF (IsS85.apart (show IsS85 w0 _ g s0_0 t208 t209 from (qP7)) (qP28) (by decide)) hk (fun _ h => h.2)) (fun _ h => h.1)); replace BK211 := za (zw hk (g' := gb211) (o := .cells #[.string ((rd_T44 x3_1 t207).f0), .int .i64 ((rd_T44 x3_1 t207).f1), .int .i64 ((rd_T44 x3_1 t207).f2)] 44 (0, 0)) (qP25) NB211_0.1 (by simp)); replace HK := za (zx (qP12) hk (.inl rfl)); replace HB := za hb; replace HI0 := za hi; clear hb hk hi) | ((with_reducible refine zo (N := 64) rfl ?_); refine zI (Kd.int .i64) _ 3 ?hg (N := 64) ?hd (xs := ([(-1001), 1001] : List Int)) (inner := [.int .i64 (-1001), .int .i64 1001]) (ok := fun _ => True) (okp := fun _ => True) ?hr ?hp (fun _ hk => hk) trivial (zp _ _) (zm _) (by simp) ?_; (case hd | hg => rfl); (case hr => exact (qP24)); (case hp => exact (qP54)); intro v230 w78 ho79 hb hg_ hnew_; clear hg_ hnew_; (first | rw [← Ny229.1] at ho79 | (simp only [Int.reduceToNat] at ho79; rw [← Ny229.1] at ho79)); replace HO_3 := za (qP63 HO_3.1); have HO231 := za (zH ho79 (keep_size (w := w) (g := g) (row := none) (qP12))); replace BK211 := za (zj (qB BK211.1) hb); replace HK := za (zx (qP12) (zK hb g none) (.inl rfl)); replace HB := za (zP (qP15) hb); replace HI0 := za (IsS85.below (qP7) hb); clear hb ho79; obtain ⟨Ao80, co80, eo80⟩ := zC HO231.1; subst eo80) | ((with_reducible refine zn (f := 59) rfl ?_); refine zO (some 65) rfl rfl Try.func59 (qP22) rfl #[.pointer (some ⟨g, 0, none⟩), .slice Ao80 y229.length co80] rfl (qP5) ?_; (with_reducible refine (spec_l1Cur_among.calls g s0_0 t213 t214 _ _ y229 t232 t233 t234 w0 _ ?s1 ?s2 ?s3 ?s4 ?s5 A70.1).mono ?_); (case s1 => exact (qP7)); (case s2 => exact (qP15)); (case s3 => exact (qP6 HO231.1)); (case s4 => exact (qP32 HO231.1)); (case s5 => exact (qP42 HO231.1)); rintro e w81 ⟨rfl, hi, hb, hk⟩; refine ⟨_, rfl, ?_⟩; replace HO_3 := za (zD (zF (IsS85.apart (show IsS85 w0 _ g s0_0 t213 t214 from (qP7)) (qP0 HO_3.1) (by decide)) hk (fun _ h => h.2)) (fun _ h => h.1)); replace BK211 := za qP52; replace HO231 := za (zD (zF (IsS85.apart (show IsS85 w0 _ g s0_0 t213 t214 from (qP7)) (qP0 HO231.1) (by decide)) hk (fun _ h => h.2)) (fun _ h => h.1)); replace HK := za (zx (qP12) hk (.inl rfl)); replace HB := za hb; replace HI0 := za hi; clear hb hk hi; have hcz82_0 : w81.cell? ⟨gb211, 0, none⟩ = some (.string ((rd_T44 x3_1 t207).f0)) := (blk_cell BK211.1 0).trans rfl; have hcz82_1 : w81.cell? ⟨gb211, 1, none⟩ = some (.int .i64 ((rd_T44 x3_1 t207).f1)) := (blk_cell BK211.1 1).trans rfl; have hcz82_2 : w81.cell? ⟨gb211, 2, none⟩ = some (.int .i64 ((rd_T44 x3_1 t207).f2)) := (blk_cell BK211.1 2).trans rfl; have hfz82_0 := ze BK211.1 0; have hfz82_1 := ze BK211.1 1; have hfz82_2 := ze BK211.1 2) | ((with_reducible refine gate_store (t := 3) (p := 66) rfl ?_); refine store_event (t := 3) (p := 66) (v := ?vo_w83) (w1 := (w81.setCell ⟨gb211, 2, none⟩ (.int .i64 t232))) ?hg ?ho ?hn ?hr ?_; (case ho => rfl); (case hg => rfl); (case hn => rfl); (case hr => exact (qP24)); intro w83 hw; replace HO_3 : Aside0 (Kd.R k44 44 w83 w.heap.size (fun k_ => k_ ≠ gb211) (.slice (some ad210) x3_1.length co72) x3_1) := ⟨(by rw [hw]; exact (by (with_reducible repeat (first | apply Kd.R_alloc | apply Kd.R_drewN | apply zG)); exact zD (zE (p := ⟨gb211, 2, none⟩) (zD HO_3.1 (fun k_ hk => (⟨hk, hk.2⟩ : _ ∧ k_ ≠ gb211))) (fun _ hk => hk.2) (.int .i64 t232)) (fun _ hk => hk.1.2)))⟩; replace HO231 : Aside0 (Kd.R (Kd.int .i64) 3 w83 w.heap.size (fun _ => True) (.slice Ao80 y229.length co80) y229) := ⟨(by rw [hw]; exact (by (with_reducible repeat (first | apply Kd.R_alloc | apply Kd.R_drewN | apply zG)); exact zD (zE (p := ⟨gb211, 2, none⟩) (Kd.R_types HO231.1 BK211.1 (by decide)) (fun _ hk => hk.2) (.int .i64 t232)) (fun _ hk => trivial)))⟩; replace BK211 : Aside0 (w83.heap[gb211]? = some (.cells #[.string ((rd_T44 x3_1 t207).f0), .int .i64 ((rd_T44 x3_1 t207).f1), .int .i64 t232] 44 (0, 0))) := ⟨(by rw [hw]; exact (by (with_reducible repeat (first | refine zg ?_ _ | refine zh ?_ | refine zf ?_ _)); refine zi (cs := #[.string ((rd_T44 x3_1 t207).f0), .int .i64 ((rd_T44 x3_1 t207).f1), .int .i64 ((rd_T44 x3_1 t207).f2)]) ?_ 2 _ rfl; (with_reducible repeat (first | refine zg ?_ _ | refine zh ?_ | refine zf ?_ _)); exact BK211.1))⟩; replace HK : Aside0 (KeepBut w w83 g none) := ⟨(by rw [hw]; exact (qP12))⟩; replace HB : Aside0 (Below w0.heap.size w0 w83) := ⟨(by rw [hw]; exact (qP15))⟩; replace HI0 : Aside0 (IsS85 w0 w83 g s0_0 t233 t234) := ⟨(by rw [hw]; exact (qP7))⟩; clear hw; have hcz84_0 : w83.cell? ⟨gb211, 0, none⟩ = some (.string ((rd_T44 x3_1 t207).f0)) := (blk_cell BK211.1 0).trans rfl; have hcz84_1 : w83.cell? ⟨gb211, 1, none⟩ = some (.int .i64 ((rd_T44 x3_1 t207).f1)) := (blk_cell BK211.1 1).trans rfl; have hcz84_2 : w83.cell? ⟨gb211, 2, none⟩ = some (.int .i64 t232) := (blk_cell BK211.1 2).trans rfl; have hfz84_0 := ze BK211.1 0; have hfz84_1 := ze BK211.1 1; have hfz84_2 := ze BK211.1 2; have p71 : 0 ≤ (t207 : Int) := zb (qP9); have q71 : (t207 : Int) < ((x3_1.length : Int) : Int) := zb (qP9); obtain ⟨go71, co71, eo71, gb71, gl71, cl71, HG71⟩ := Kd.R_form HO_3.1 (by omega); (first | cases eo71 | (injection eo71 with ea_ en_ ec_; (first | subst ea_ | (injection ea_ with ea_; subst ea_)); subst ec_; clear en_)); have GB71 := za gb71; have GG71 := za HG71; clear gb71 gl71 HG71; (first | simp only [add_plain] at hx210_0 | skip); (first | simp only [add_plain] at hx210_1 | skip); (first | simp only [add_plain] at hx210_2 | skip); obtain ⟨ce71, hcl71, hM71, hcc71, hfr71⟩ := Kd.R_elem HO_3.1 z44 (t207 : Int) p71 q71; obtain rfl := k44_openM hM71; have hx71_0 : w83.cell? ⟨go71, (t207 : Int).toNat * 3, none⟩ = some (.string ((rd_T44 x3_1 t207).f0)) := hcc71 0 _ rfl; have hx71_1 : w83.cell? ⟨go71, (t207 : Int).toNat * 3 + 1, none⟩ = some (.int .i64 ((rd_T44 x3_1 t207).f1)) := hcc71 1 _ rfl; have hx71_2 : w83.cell? ⟨go71, (t207 : Int).toNat * 3 + 2, none⟩ = some (.int .i64 ((rd_T44 x3_1 t207).f2)) := hcc71 2 _ rfl; have hf71_0 : w83.frozen? ⟨go71, (t207 : Int).toNat * 3, none⟩ = false := hfr71 0; have hf71_1 : w83.frozen? ⟨go71, (t207 : Int).toNat * 3 + 1, none⟩ = false := hfr71 1; have hf71_2 : w83.frozen? ⟨go71, (t207 : Int).toNat * 3 + 2, none⟩ = false := hfr71 2; clear hcl71 hcc71 hfr71 hM71; replace p71 := zt p71; replace q71 := zt q71; have HX85 := za (by exact show Kd.R k44 44 w83 w.heap.size (fun k_ => k_ ≠ gb211) (.slice (some ⟨go71, 0, none⟩) x3_1.length co72) x3_1 from (qP0 HO_3.1)); obtain ⟨ce85, hcl85, hM85, hcc85, hfr85⟩ := Kd.R_elem HX85.1 z44 (t207 : Int) (zb (qP9)) (by have h_ : (t207 : Int) < ((x3_1.length : Int) : Int) := zb (qP9); first | exact h_ | (have e_ := (zB HO_3.1).1; omega) | simpa using h_); obtain rfl := k44_openM hM85; have HP85 := Kd.R_seg HX85.1 (t207 : Int) (zb (qP9)) (by have h_ : (t207 : Int) < ((x3_1.length : Int) : Int) := zb (qP9); first | exact h_ | (have e_ := (zB HO_3.1).1; omega) | simpa using h_) (seg := [.string ((rd_T44 x3_1 t207).f0), .int .i64 ((rd_T44 x3_1 t207).f1), .int .i64 t232]) (j := 0) hcl85 hcc85 (show 3 ≤ 3 from by decide) (x' := (⟨(rd_T44 x3_1 t207).f0, (rd_T44 x3_1 t207).f1, t232⟩ : S44)) (k44_mkM _ _ _ (⟨(rd_T44 x3_1 t207).f0, (rd_T44 x3_1 t207).f1, t232⟩ : S44) ) (fun _ hk => hk); have hx85_0 := hcc85 0 _ rfl; (try simp only [show (k44).sz = 3 from rfl, Nat.mul_one, Nat.add_zero] at hx85_0); have hf85_0 := hfr85 0; (try simp only [show (k44).sz = 3 from rfl, Nat.mul_one, Nat.add_zero] at hf85_0); have hx85_1 := hcc85 1 _ rfl; (try simp only [show (k44).sz = 3 from rfl, Nat.mul_one, Nat.add_zero] at hx85_1); have hf85_1 := hfr85 1; (try simp only [show (k44).sz = 3 from rfl, Nat.mul_one, Nat.add_zero] at hf85_1); have hx85_2 := hcc85 2 _ rfl; (try simp only [show (k44).sz = 3 from rfl, Nat.mul_one, Nat.add_zero] at hx85_2); have hf85_2 := hfr85 2; (try simp only [show (k44).sz = 3 from rfl, Nat.mul_one, Nat.add_zero] at hf85_2); clear hcl85 hcc85 hfr85 hM85) | ((with_reducible refine gate_store (t := 44) (p := 92) rfl ?_); refine store_event (t := 44) (p := 92) (v := ?vo_w86) (w1 := (((w83.setCell ⟨go71, (t207 : Int).toNat * 3, none⟩ (.string ((rd_T44 x3_1 t207).f0))).setCell ⟨go71, (t207 : Int).toNat * 3 + 1, none⟩ (.int .i64 ((rd_T44 x3_1 t207).f1))).setCell ⟨go71, (t207 : Int).toNat * 3 + 2, none⟩ (.int .i64 t232))) ?hg ?ho ?hn ?hr ?_; (case ho => rfl); (case hg => rfl); (case hn => rfl); (case hr => exact (qP24)); intro w86 hw; have hg : w83.grownBy w86 (some go71) := (by rw [hw]; exact HP85.2); have hp_ : Kd.R k44 44 w86 w.heap.size (fun k_ => k_ ≠ gb211) (.slice (some ⟨go71, 0, none⟩) x3_1.length co72) y235 := (by rw [hw, Ny235.1]; exact HP85.1); clear HP85; replace HI0 := za (IsS85.grown (qP7) hg (IsS85.own_ne HI0.1 HO_3.1 (by decide))); replace BK211 := za qP49; replace HO231 := za (by exact Kd.R_over' (v := (.slice (some ⟨go71, 0, none⟩) x3_1.length co72)) (qP0 HO231.1) (Kd.R_typed HO_3.1) (by decide) hg); replace HB := za (by exact (by rw [hw]; exact zT (zT (zT (HB.1) (Nat.le_trans HL.1 GB71.1)) (Nat.le_trans HL.1 GB71.1)) (Nat.le_trans HL.1 GB71.1) : Below w0.heap.size w0 w86)); replace HK := za (zx (qP12) (KeepBut.of_grown hg g) (Kd.R_base2 HO_3.1)); replace HO_3 := za hp_; clear hg hw hp_))
          go_ret
          exact ⟨_, (qP19), (qP36 HO_3.1), (qP7), (qP15), (qP12)⟩
         ·rw [zV c69] at H; have c69b0 : (t212 == 2) = false := zu c69; have c69b1 : (t212 != 2) = true := zN c69
          by_cases c87 : t212 = 3
          ·rw [zU c87] at H; have c87b0 : (t212 == 3) = true := zM c87; have c87b1 : (t212 != 3) = false := zv c87; clear c87; obtain ⟨y236, hy236⟩ : ∃ y_ : List (S44), y_ = (([] : List (S44))) := ⟨_, rfl⟩; replace H : (spec_l1Cur_marks13.l1 k1 y236 0 s0_0 t213 t214) = some (r1, r2, r3) := (qP13 hy236); have Ny236 := za hy236; clear hy236; have H' := za H; clear H; obtain ⟨Ao88, co88, eo88⟩ := zC HO_3.1; subst eo88
           go_wp2_with (first | ((with_reducible refine zn (f := 60) rfl ?_); refine zO (some 42) rfl rfl Try.func60 (qP22) rfl #[.pointer (some ⟨g, 0, none⟩), .int .i64 (x3_1.length : Int)] rfl (qP5) ?_; (with_reducible refine (spec_l1Cur_pick.calls g s0_0 x1001_1 x1002_1 (x3_1.length : Int) t207 t208 t209 w0 _ ?s1 ?s2 A29.1).mono ?_); (case s1 => exact (qP2)); (case s2 => exact (qP4)); rintro e w89 ⟨rfl, hi, hb, hk⟩; refine ⟨_, rfl, ?_⟩; replace HO_3 := za (qP62 HO_3.1); replace HK := za qP67; replace HB := za hb; replace HI0 := za hi; clear hb hk hi; have p210 : 0 ≤ (t207 : Int) := zb (qP9); have q210 : t207 < (x3_1.length : Int) := zb (qP9); obtain ⟨ad210, e210, hx210_0, hx210_1, hx210_2⟩ := at_T44 (zB HO_3.1).2.2 t207 p210 q210; cases e210; replace p210 := zt p210; replace q210 := zt q210) | ((with_reducible refine zo (N := 7) rfl ?_); refine zy ?hg (N := 7) ?hd (cs := #[.string (⟨#[]⟩ : ByteArray), .int .i64 0, .int .i64 0]) (t := 44) ?hr ?_; (case hd | hg => rfl); (case hr => exact (qP24)); intro gb211 hg w90 hbox hb; replace HO_3 := za qP81; replace HB := za (zP (qP4) hb); have BK211 := za hbox; have GW211 := za qP79; have GE211 := za qP74; replace HK := za qP65; have NB0_211 := za qP77; have NB211_0 := za qP78; replace HI0 := za qP71; clear hb hbox hg; have hnb91 := NB211_0.1; have hnc91 := NB0_211.1; have hcz92_0 : w90.cell? ⟨gb211, 0, none⟩ = some (.string (⟨#[]⟩ : ByteArray)) := (blk_cell BK211.1 0).trans rfl; have hcz92_1 : w90.cell? ⟨gb211, 1, none⟩ = some (.int .i64 0) := (blk_cell BK211.1 1).trans rfl; have hcz92_2 : w90.cell? ⟨gb211, 2, none⟩ = some (.int .i64 0) := (blk_cell BK211.1 2).trans rfl; have hfz92_0 := ze BK211.1 0; have hfz92_1 := ze BK211.1 1; have hfz92_2 := ze BK211.1 2) | ((with_reducible refine zn (f := 60) rfl ?_); refine zO (some 48) rfl rfl Try.func60 (qP22) rfl #[.pointer (some ⟨g, 0, none⟩), .int .i64 50] rfl (qP5) ?_; (with_reducible refine (spec_l1Cur_pick.calls g s0_0 t208 t209 50 t212 t213 t214 w0 _ ?s1 ?s2 A32.1).mono ?_); (case s1 => exact (qP7)); (case s2 => exact (qP15)); rintro e w93 ⟨rfl, hi, hb, hk⟩; refine ⟨_, rfl, ?_⟩; replace HO_3 := za (zD (zF (IsS85.apart (show IsS85 w0 _ g s0_0 t208 t209 from (qP7)) (qP28) (by decide)) hk (fun _ h => h.2)) (fun _ h => h.1)); replace BK211 := za (zw hk (g' := gb211) (o := .cells #[.string ((rd_T44 x3_1 t207).f0), .int .i64 ((rd_T44 x3_1 t207).f1), .int .i64 ((rd_T44 x3_1 t207).f2)] 44 (0, 0)) (qP25) NB211_0.1 (by simp)); replace HK := za (zx (qP12) hk (.inl rfl)); replace HB := za hb; replace HI0 := za hi; clear hb hk hi) | ((with_reducible refine zo (N := 69) rfl ?_); refine zI k44 _ 44 ?hg (N := 69) ?hd (xs := ([] : List (S44))) (inner := []) (ok := fun _ => True) (okp := fun _ => True) ?hr ?hp (fun _ hk => hk) trivial (zp _ _) (zm _) (by simp) ?_; (case hd | hg => rfl); (case hr => exact (qP24)); (case hp => exact (zr _ _)); intro v237 w94 ho95 hb hg_ hnew_; clear hg_ hnew_; (first | rw [← Ny236.1] at ho95 | (simp only [Int.reduceToNat] at ho95; rw [← Ny236.1] at ho95)); have HO238 := za (zH (Kd.R_newB (Kd.R_new' ho95 (Kd.R_lt (qP0 HO_3.1))) (qB BK211.1)) (keep_size (w := w) (g := g) (row := none) (qP12))); replace HO_3 := za (qP73 HO_3.1 ho95); replace BK211 := za (zj (qB BK211.1) hb); replace HK := za (zx (qP12) (zK hb g none) (.inl rfl)); replace HB := za (zP (qP15) hb); replace HI0 := za (IsS85.below (qP7) hb); clear hb ho95))
           go_loopg [3, 8] k1 (fun kq v3 v8 w' => ∃ (x3_2 : List (S44)) (x8_2 : Int) (x1001_2 : Int) (x1002_2 : Int), v8 = .int .i64 x8_2 ∧ Aside0 (spec_l1Cur_marks13.l1 kq x3_2 x8_2 s0_0 x1001_2 x1002_2 = some (r1, r2, r3)) ∧ Aside0 (kq ≤ k1) ∧ Aside0 (Kd.R k44 44 w' w.heap.size (fun k_ => k_ ≠ gb211) v3 x3_2) ∧ Aside0 (w'.heap[gb211]? = some (.cells #[.string ((rd_T44 x3_1 t207).f0), .int .i64 ((rd_T44 x3_1 t207).f1), .int .i64 ((rd_T44 x3_1 t207).f2)] 44 (0, 0))) ∧ Aside0 (IsS85 w0 w' g s0_0 x1001_2 x1002_2) ∧ Aside0 (KeepBut w w' g none) ∧ Aside0 (Below w0.heap.size w0 w'))
           case atStart => exact ⟨(y236), (0), (t213), (t214), (qP17), H', ⟨zm _⟩, ⟨(qP27 HO238.1)⟩, ⟨(qP56 BK211.1)⟩, ⟨(qP7)⟩, ⟨(qP12)⟩, ⟨(qP15)⟩⟩
           case round =>
            clear H'; (try clear c6b0); (try clear c27b0); (try clear c27b1); (try clear c27b2); (try clear c30b0); (try clear c31b0); (try clear c33b0); (try clear c33b1); (try clear c51b0); (try clear c51b1); (try clear c69b0); (try clear c69b1); (try clear c87b0); (try clear c87b1); (try clear hcz92_0); (try clear hcz92_1); (try clear hcz92_2); (try clear hfz92_0); (try clear hfz92_1); (try clear hfz92_2); (try clear hx210_0); (try clear hx210_1); (try clear hx210_2); (try clear p210); (try clear q210); obtain ⟨x3_2, x8_2, x1001_2, x1002_2, rfl, HA, HK2, HO_3, BK211, HI0, HK, HB⟩ := hrel
            cases gk with
            | zero => exact zJ HA.1 (by simp [spec_l1Cur_marks13.l1])
            | succ k2 =>
             have H := HA.1; clear HA; simp only [spec_l1Cur_marks13.l1] at H; replace H := bindA H; obtain ⟨⟨t239, t240, t241⟩, A96, H⟩ := H; (try dsimp only at H)
             by_cases c97 : x8_2 < (wrap64 (12 + t239))
             ·rw [zU c97] at H; have c97b0 : decide (x8_2 < (wrap64 (12 + t239))) = true := zc c97; clear c97; obtain ⟨y242, hy242⟩ : ∃ y_ : List Int, y_ = (([(wrap64 (65 + x8_2)) % 256] : List Int)) := ⟨_, rfl⟩; replace H : (if x3_2.length < 4398046511104 then (spec_l1Cur_marks13.l1 k2 (x3_2 ++ [(⟨strOfNums y242, x8_2, x8_2⟩ : S44)]) (wrap64 (x8_2 + 1)) s0_0 t240 t241) else (none)) = some (r1, r2, r3) := (qP13 hy242); have Ny242 := za hy242; clear hy242
              by_cases c98 : x3_2.length < 4398046511104
              ·rw [zU c98] at H; have LMc98 := za c98; clear c98; obtain ⟨y245, hy245⟩ : ∃ y_ : List (S44), y_ = (x3_2 ++ [(⟨strOfNums y242, x8_2, x8_2⟩ : S44)]) := ⟨_, rfl⟩; replace H : (spec_l1Cur_marks13.l1 k2 y245 (wrap64 (x8_2 + 1)) s0_0 t240 t241) = some (r1, r2, r3) := (qP13 hy245); have Ny245 := za hy245; clear hy245; have H' := za H; clear H
               go_wp2_with (first | ((with_reducible refine zn (f := 60) rfl ?_); refine zO (some 72) rfl rfl Try.func60 (qP22) rfl #[.pointer (some ⟨g, 0, none⟩), .int .i64 2] rfl (qP5) ?_; (with_reducible refine (spec_l1Cur_pick.calls g s0_0 x1001_2 x1002_2 2 t239 t240 t241 w0 _ ?s1 ?s2 A96.1).mono ?_); (case s1 => exact (qP7)); (case s2 => exact (qP15)); rintro e w99 ⟨rfl, hi, hb, hk⟩; refine ⟨_, rfl, ?_⟩; replace HO_3 := za (zD (zF (IsS85.apart (show IsS85 w0 _ g s0_0 x1001_2 x1002_2 from (qP7)) (qP0 HO_3.1) (by decide)) hk (fun _ h => h.2)) (fun _ h => h.1)); replace BK211 := za qP52; replace HK := za (zx (qP12) hk (.inl rfl)); replace HB := za hb; replace HI0 := za hi; clear hb hk hi) | ((with_reducible refine zo (N := 81) rfl ?_); refine zI (Kd.int .u8) _ 5 ?hg (N := 81) ?hd (xs := ([(wrap64 (65 + x8_2)) % 256] : List Int)) (inner := [.int .u8 ((wrap64 (65 + x8_2)) % 256)]) (ok := fun _ => True) (okp := fun _ => True) ?hr ?hp (fun _ hk => hk) trivial (zp _ _) (zm _) (by simp) ?_; (case hd | hg => rfl); (case hr => exact (qP24)); (case hp => exact (by exact (zq (show Kd.M (Kd.int .u8) _ _ _ ((wrap64 (65 + x8_2)) % 256) [.int .u8 ((wrap64 (65 + x8_2)) % 256)] from rfl) (zr _ _)))); intro v243 w100 ho101 hb hg_ hnew_; clear hg_ hnew_; (first | rw [← Ny242.1] at ho101 | (simp only [Int.reduceToNat] at ho101; rw [← Ny242.1] at ho101)); replace HO_3 := za (qP63 HO_3.1); have HO244 := za (zH ho101 (keep_size (w := w) (g := g) (row := none) (qP12))); replace BK211 := za (zj (qB BK211.1) hb); replace HK := za (zx (qP12) (zK hb g none) (.inl rfl)); replace HB := za (zP (qP15) hb); replace HI0 := za (IsS85.below (qP7) hb); clear hb ho101; have hcv102 := own_string (P := Try.prog) Try.underlying36 Try.underlying5 Try.underlying9 (Kd.own_of_R HO244.1)) | ((with_reducible refine gate_builtin (b := .append) (xs := #[.tmp 77, .tmp 86]) rfl ?_); at_builtin; refine Kd.R_append k44 w.heap.size rfl (.tmp 77) (.tmp 86) 26 44 (.agg #[(.string ⟨#[]⟩), (.int .i64 0), (.int .i64 0)]) 32 rfl Try.underlying26 info44 rfl (by decide) (by omega) u3 x3_2 (⟨strOfNums y242, x8_2, x8_2⟩ : S44) [.string (strOfNums y242), .int .i64 x8_2, .int .i64 x8_2] (fun k_ => k_ ≠ gb211) (fun _ => False) rfl rfl ?aP (fun _ hk => hk.elim) ?aF ?aO (zp _ _) ?aS ?aL ?_; (case aP => exact (by exact k44_mkM _ _ _ (⟨strOfNums y242, x8_2, x8_2⟩ : S44))); (case aF => exact (by exact (fun k_ hk => Kd.freshB (qB BK211.1) k_ hk))); (case aO => exact (qP0 HO_3.1)); (case aS => exact (by exact (keep_size (w := w) (g := g) (row := none) (qP12)))); (case aL => have := LMc98.1; omega); intro v246 w103 ho hb hg hat; rw [← Ny245.1] at ho; replace BK211 := za qP49; replace HO244 := za (qP94 HO244.1 HO_3.1); replace HB := za (below_weaken (qP15) HL.1 hb); replace HI0 := za (IsS85.grown (show IsS85 w0 _ g s0_0 t240 t241 from (qP7)) hg (IsS85.own_ne HI0.1 HO_3.1 (by decide))); replace HK := za (zx (qP12) (KeepBut.of_grown hg g) (Kd.R_base2 HO_3.1)); have HO247 := za ho; clear HO_3; clear ho hb hg hat))
               go_roundg k2
               case measure => have := HK1.1; have := HK2.1; omega
               case rel => exact ⟨(y245), (wrap64 (x8_2 + 1)), (t240), (t241), (qP17), H', ⟨by have := HK1.1; have := HK2.1; omega⟩, ⟨(qP0 HO247.1)⟩, ⟨(qP56 BK211.1)⟩, ⟨(qP7)⟩, ⟨(qP12)⟩, ⟨(qP15)⟩⟩
              ·rw [zV c98] at H
               exact zJ H (by simp)
             ·rw [zV c97] at H; have c97b0 : decide (x8_2 < (wrap64 (12 + t239))) = false := zs c97; clear c97; simp only [zW, zX] at H; obtain ⟨rfl, rfl, rfl⟩ := H
              go_wp2_with (first | ((with_reducible refine zn (f := 60) rfl ?_); refine zO (some 72) rfl rfl Try.func60 (qP22) rfl #[.pointer (some ⟨g, 0, none⟩), .int .i64 2] rfl (qP5) ?_; (with_reducible refine (spec_l1Cur_pick.calls g s0_0 x1001_2 x1002_2 2 t239 t240 t241 w0 _ ?s1 ?s2 A96.1).mono ?_); (case s1 => exact (qP7)); (case s2 => exact (qP15)); rintro e w104 ⟨rfl, hi, hb, hk⟩; refine ⟨_, rfl, ?_⟩; replace HO_3 := za (zD (zF (IsS85.apart (show IsS85 w0 _ g s0_0 x1001_2 x1002_2 from (qP7)) (qP0 HO_3.1) (by decide)) hk (fun _ h => h.2)) (fun _ h => h.1)); replace BK211 := za qP52; replace HK := za (zx (qP12) hk (.inl rfl)); replace HB := za hb; replace HI0 := za hi; clear hb hk hi))
              go_ret
              exact ⟨_, (qP19), (qP36 HO_3.1), (qP7), (qP15), (qP12)⟩
          ·rw [zV c87] at H; have c87b0 : (t212 == 3) = false := zu c87; have c87b1 : (t212 != 3) = true := zN c87; obtain ⟨y248, hy248⟩ : ∃ y_ : List (S44), y_ = (x3_1.set (t207 : Int).toNat (⟨(rd_T44 x3_1 t207).f0, (rd_T44 x3_1 t207).f1, (rd_T44 x3_1 t207).f2⟩ : S44)) := ⟨_, rfl⟩; replace H : (some (y248, t213, t214)) = some (r1, r2, r3) := (qP13 hy248); have Ny248 := za hy248; clear hy248; simp only [zW, zX] at H; obtain ⟨rfl, rfl, rfl⟩ := H; obtain ⟨Ao106, co106, eo106⟩ := zC HO_3.1; subst eo106
           go_wp2_with (first | ((with_reducible refine zn (f := 60) rfl ?_); refine zO (some 42) rfl rfl Try.func60 (qP22) rfl #[.pointer (some ⟨g, 0, none⟩), .int .i64 (x3_1.length : Int)] rfl (qP5) ?_; (with_reducible refine (spec_l1Cur_pick.calls g s0_0 x1001_1 x1002_1 (x3_1.length : Int) t207 t208 t209 w0 _ ?s1 ?s2 A29.1).mono ?_); (case s1 => exact (qP2)); (case s2 => exact (qP4)); rintro e w107 ⟨rfl, hi, hb, hk⟩; refine ⟨_, rfl, ?_⟩; replace HO_3 := za (qP62 HO_3.1); replace HK := za qP67; replace HB := za hb; replace HI0 := za hi; clear hb hk hi; have p210 : 0 ≤ (t207 : Int) := zb (qP9); have q210 : t207 < (x3_1.length : Int) := zb (qP9); obtain ⟨ad210, e210, hx210_0, hx210_1, hx210_2⟩ := at_T44 (zB HO_3.1).2.2 t207 p210 q210; cases e210; replace p210 := zt p210; replace q210 := zt q210) | ((with_reducible refine zo (N := 7) rfl ?_); refine zy ?hg (N := 7) ?hd (cs := #[.string (⟨#[]⟩ : ByteArray), .int .i64 0, .int .i64 0]) (t := 44) ?hr ?_; (case hd | hg => rfl); (case hr => exact (qP24)); intro gb211 hg w108 hbox hb; replace HO_3 := za qP81; replace HB := za (zP (qP4) hb); have BK211 := za hbox; have GW211 := za qP79; have GE211 := za qP74; replace HK := za qP65; have NB0_211 := za qP77; have NB211_0 := za qP78; replace HI0 := za qP71; clear hb hbox hg; have hnb109 := NB211_0.1; have hnc109 := NB0_211.1; have hcz110_0 : w108.cell? ⟨gb211, 0, none⟩ = some (.string (⟨#[]⟩ : ByteArray)) := (blk_cell BK211.1 0).trans rfl; have hcz110_1 : w108.cell? ⟨gb211, 1, none⟩ = some (.int .i64 0) := (blk_cell BK211.1 1).trans rfl; have hcz110_2 : w108.cell? ⟨gb211, 2, none⟩ = some (.int .i64 0) := (blk_cell BK211.1 2).trans rfl; have hfz110_0 := ze BK211.1 0; have hfz110_1 := ze BK211.1 1; have hfz110_2 := ze BK211.1 2) | ((with_reducible refine zn (f := 60) rfl ?_); refine zO (some 48) rfl rfl Try.func60 (qP22) rfl #[.pointer (some ⟨g, 0, none⟩), .int .i64 50] rfl (qP5) ?_; (with_reducible refine (spec_l1Cur_pick.calls g s0_0 t208 t209 50 t212 t213 t214 w0 _ ?s1 ?s2 A32.1).mono ?_); (case s1 => exact (qP7)); (case s2 => exact (qP15)); rintro e w111 ⟨rfl, hi, hb, hk⟩; refine ⟨_, rfl, ?_⟩; replace HO_3 := za (zD (zF (IsS85.apart (show IsS85 w0 _ g s0_0 t208 t209 from (qP7)) (qP28) (by decide)) hk (fun _ h => h.2)) (fun _ h => h.1)); replace BK211 := za (zw hk (g' := gb211) (o := .cells #[.string ((rd_T44 x3_1 t207).f0), .int .i64 ((rd_T44 x3_1 t207).f1), .int .i64 ((rd_T44 x3_1 t207).f2)] 44 (0, 0)) (qP25) NB211_0.1 (by simp)); replace HK := za (zx (qP12) hk (.inl rfl)); replace HB := za hb; replace HI0 := za hi; clear hb hk hi; have hcz112_0 : w111.cell? ⟨gb211, 0, none⟩ = some (.string ((rd_T44 x3_1 t207).f0)) := (blk_cell BK211.1 0).trans rfl; have hcz112_1 : w111.cell? ⟨gb211, 1, none⟩ = some (.int .i64 ((rd_T44 x3_1 t207).f1)) := (blk_cell BK211.1 1).trans rfl; have hcz112_2 : w111.cell? ⟨gb211, 2, none⟩ = some (.int .i64 ((rd_T44 x3_1 t207).f2)) := (blk_cell BK211.1 2).trans rfl; have hfz112_0 := ze BK211.1 0; have hfz112_1 := ze BK211.1 1; have hfz112_2 := ze BK211.1 2; have p105 : 0 ≤ (t207 : Int) := zb (qP9); have q105 : (t207 : Int) < ((x3_1.length : Int) : Int) := zb (qP9); obtain ⟨go105, co105, eo105, gb105, gl105, cl105, HG105⟩ := Kd.R_form HO_3.1 (by omega); (first | cases eo105 | (injection eo105 with ea_ en_ ec_; (first | subst ea_ | (injection ea_ with ea_; subst ea_)); subst ec_; clear en_)); have GB105 := za gb105; have GG105 := za HG105; clear gb105 gl105 HG105; (first | simp only [add_plain] at hx210_0 | skip); (first | simp only [add_plain] at hx210_1 | skip); (first | simp only [add_plain] at hx210_2 | skip); obtain ⟨ce105, hcl105, hM105, hcc105, hfr105⟩ := Kd.R_elem HO_3.1 z44 (t207 : Int) p105 q105; obtain rfl := k44_openM hM105; have hx105_0 : w111.cell? ⟨go105, (t207 : Int).toNat * 3, none⟩ = some (.string ((rd_T44 x3_1 t207).f0)) := hcc105 0 _ rfl; have hx105_1 : w111.cell? ⟨go105, (t207 : Int).toNat * 3 + 1, none⟩ = some (.int .i64 ((rd_T44 x3_1 t207).f1)) := hcc105 1 _ rfl; have hx105_2 : w111.cell? ⟨go105, (t207 : Int).toNat * 3 + 2, none⟩ = some (.int .i64 ((rd_T44 x3_1 t207).f2)) := hcc105 2 _ rfl; have hf105_0 : w111.frozen? ⟨go105, (t207 : Int).toNat * 3, none⟩ = false := hfr105 0; have hf105_1 : w111.frozen? ⟨go105, (t207 : Int).toNat * 3 + 1, none⟩ = false := hfr105 1; have hf105_2 : w111.frozen? ⟨go105, (t207 : Int).toNat * 3 + 2, none⟩ = false := hfr105 2; clear hcl105 hcc105 hfr105 hM105; replace p105 := zt p105; replace q105 := zt q105; have n_ := za (zD (ok' := (fun k_ => k_ ≠ gb211)) HO_3.1 (fun k_ hk => hk.2)); clear HO_3; have HO_3 := n_; clear n_; have HX113 := za (by exact show Kd.R k44 44 w111 w.heap.size (fun k_ => k_ ≠ gb211) (.slice (some ⟨go105, 0, none⟩) x3_1.length co106) x3_1 from (qP0 HO_3.1)); obtain ⟨ce113, hcl113, hM113, hcc113, hfr113⟩ := Kd.R_elem HX113.1 z44 (t207 : Int) (zb (qP9)) (by have h_ : (t207 : Int) < ((x3_1.length : Int) : Int) := zb (qP9); first | exact h_ | (have e_ := (zB HO_3.1).1; omega) | simpa using h_); obtain rfl := k44_openM hM113; have HP113 := Kd.R_seg HX113.1 (t207 : Int) (zb (qP9)) (by have h_ : (t207 : Int) < ((x3_1.length : Int) : Int) := zb (qP9); first | exact h_ | (have e_ := (zB HO_3.1).1; omega) | simpa using h_) (seg := [.string ((rd_T44 x3_1 t207).f0), .int .i64 ((rd_T44 x3_1 t207).f1), .int .i64 ((rd_T44 x3_1 t207).f2)]) (j := 0) hcl113 hcc113 (show 3 ≤ 3 from by decide) (x' := (⟨(rd_T44 x3_1 t207).f0, (rd_T44 x3_1 t207).f1, (rd_T44 x3_1 t207).f2⟩ : S44)) (k44_mkM _ _ _ (⟨(rd_T44 x3_1 t207).f0, (rd_T44 x3_1 t207).f1, (rd_T44 x3_1 t207).f2⟩ : S44) ) (fun _ hk => hk); have hx113_0 := hcc113 0 _ rfl; (try simp only [show (k44).sz = 3 from rfl, Nat.mul_one, Nat.add_zero] at hx113_0); have hf113_0 := hfr113 0; (try simp only [show (k44).sz = 3 from rfl, Nat.mul_one, Nat.add_zero] at hf113_0); have hx113_1 := hcc113 1 _ rfl; (try simp only [show (k44).sz = 3 from rfl, Nat.mul_one, Nat.add_zero] at hx113_1); have hf113_1 := hfr113 1; (try simp only [show (k44).sz = 3 from rfl, Nat.mul_one, Nat.add_zero] at hf113_1); have hx113_2 := hcc113 2 _ rfl; (try simp only [show (k44).sz = 3 from rfl, Nat.mul_one, Nat.add_zero] at hx113_2); have hf113_2 := hfr113 2; (try simp only [show (k44).sz = 3 from rfl, Nat.mul_one, Nat.add_zero] at hf113_2); clear hcl113 hcc113 hfr113 hM113) | ((with_reducible refine gate_store (t := 44) (p := 92) rfl ?_); refine store_event (t := 44) (p := 92) (v := ?vo_w114) (w1 := (((w111.setCell ⟨go105, (t207 : Int).toNat * 3, none⟩ (.string ((rd_T44 x3_1 t207).f0))).setCell ⟨go105, (t207 : Int).toNat * 3 + 1, none⟩ (.int .i64 ((rd_T44 x3_1 t207).f1))).setCell ⟨go105, (t207 : Int).toNat * 3 + 2, none⟩ (.int .i64 ((rd_T44 x3_1 t207).f2)))) ?hg ?ho ?hn ?hr ?_; (case ho => rfl); (case hg => rfl); (case hn => rfl); (case hr => exact (qP24)); intro w114 hw; have hg : w111.grownBy w114 (some go105) := (by rw [hw]; exact HP113.2); have hp_ : Kd.R k44 44 w114 w.heap.size (fun k_ => k_ ≠ gb211) (.slice (some ⟨go105, 0, none⟩) x3_1.length co106) y248 := (by rw [hw, Ny248.1]; exact HP113.1); clear HP113; replace HI0 := za (IsS85.grown (qP7) hg (IsS85.own_ne HI0.1 HO_3.1 (by decide))); replace BK211 := za qP49; replace HB := za (by exact (by rw [hw]; exact zT (zT (zT (HB.1) (Nat.le_trans HL.1 GB105.1)) (Nat.le_trans HL.1 GB105.1)) (Nat.le_trans HL.1 GB105.1) : Below w0.heap.size w0 w114)); replace HK := za (zx (qP12) (KeepBut.of_grown hg g) (Kd.R_base2 HO_3.1)); replace HO_3 := za hp_; clear hg hw hp_))
           go_ret
           exact ⟨_, (qP19), (qP36 HO_3.1), (qP7), (qP15), (qP12)⟩
      ·rw [zV c31] at H
       exact zJ H (by simp)
     ·rw [zV c30] at H
      exact zJ H (by simp)

end Go.Proofs.Ytckidmhkhlbkeaa.MP
