-- tight2 (a walk)
import Derived.Test.YtoljdjgndogegaaMSx0
import Derived.Test.YtoljdjgndogegaaMSx7
namespace Go.Proofs.Ytoljdjgndogegaa.MS
open Go.RowKit Go.Proofs.YtoljdjgndogegaaW.PrintWords Go.Proofs.YtoljdjgndogegaaW.PrintLast
set_option maxHeartbeats 8000000
set_option maxRecDepth 100000
theorem qS8_c0 {p : Prop} (h : p := by
  simp only [Act.put, yf, yg, yh, i64_w, i32_w]
  rfl) : p := h
theorem qS8_c1 {p : Prop} (h : p := by
  show Act.put _ (some 37) _ = _
  simp only [Act.put, yf, yg, yh, i64_w, i32_w]
  rfl) : p := h
theorem qS8_c2 {p : Prop} (h : p := by
  show Act.put _ (some 39) _ = _
  simp only [Act.put, yf, yg, yh, i64_w, i32_w]
  rfl) : p := h
theorem qS8_c3 {p : Prop} (h : p := by
  intro w'
  go_simp
  with_reducible rfl) : p := h
theorem qS8_c4 {p : Prop} (h : p := by
  show Act.put _ (some 33) _ = _
  simp only [Act.put, yf, yg, yh, i64_w, i32_w]
  rfl) : p := h
attribute [local go_sem] max2_int min2_int max_two min_two
set_option linter.unusedVariables false
set_option linter.unusedSimpArgs false

def spec_l1PutNew.l0 : Nat → List Int → Int → Int → Option (List Int)
 | 0, _, _, _ => none
 | k + 1, x0, x1, x5 => if x5 < (x0.length : Int) then (if 0 ≤ x5 then (if (rd x0 x5) < x1 then (spec_l1PutNew.l0 k x0 x1 (wrap64 (x5 + 1))) else (if (rd x0 x5) = x1 then (none) else ((some (([] : List Int) : List Int)).bind fun y471 => (if x5 ≤ (x0.length : Int) then (if y471.length + (x0.take (x5 : Int).toNat).length < 17592186044416 then ((some (y471 ++ (x0.take (x5 : Int).toNat) : List Int)).bind fun y475 => ((some (([x1] : List Int) : List Int)).bind fun y478 => (if y475.length + y478.length < 17592186044416 then ((some (y475 ++ y478 : List Int)).bind fun y481 => (if y481.length + (x0.drop (x5 : Int).toNat).length < 17592186044416 then (some (y481 ++ (x0.drop (x5 : Int).toNat))) else (none))) else (none)))) else (none)) else (none))))) else (none)) else ((some (([] : List Int) : List Int)).bind fun y488 => (if 0 ≤ x5 then (if x5 ≤ (x0.length : Int) then (if y488.length + (x0.take (x5 : Int).toNat).length < 17592186044416 then ((some (y488 ++ (x0.take (x5 : Int).toNat) : List Int)).bind fun y492 => ((some (([x1] : List Int) : List Int)).bind fun y495 => (if y492.length + y495.length < 17592186044416 then ((some (y492 ++ y495 : List Int)).bind fun y498 => (if y498.length + (x0.drop (x5 : Int).toNat).length < 17592186044416 then (some (y498 ++ (x0.drop (x5 : Int).toNat))) else (none))) else (none)))) else (none)) else (none)) else (none)))
def spec_l1PutNew.f (k : Nat) (l0 : List Int) (a1 : Int) : Option (List Int) := spec_l1PutNew.l0 k l0 a1 0
def spec_l1PutNew.T6 : Bool × List (List Nat × List Nat) := (true, [([], []), ([], []), ([], []), ([1, 2], [1, 2]), ([0, 3], [0, 3]), ([], []), ([5], [5]), ([4, 6, 4], [4, 6]), ([], []), ([], []), ([8, 9], [8, 9]), ([7, 10, 7], [7, 10]), ([11, 11, 0, 1, 2, 3, 4, 5, 6, 7, 8, 9, 10, 11], [11])])
def spec_l1PutNew.B6 : List Nat := [0, 0, 0, 6, 15, 0, 32, 127, 0, 0, 768, 2047, 4095]
theorem spec_l1PutNew.tab6 : rtab .any (opsOf Try.f82 6) = spec_l1PutNew.T6 := by kernel_rfl
theorem spec_l1PutNew.bits6 : waitsOk spec_l1PutNew.T6.2 spec_l1PutNew.B6 = true := by kernel_rfl
theorem spec_l1PutNew.calls (k : Nat) (A0 : Option Addr) (c0 : Nat) (l0 : List Int) (a1 : Int) (r : List Int) (w : World) (hr0 : Kd.C (Kd.int .i64) w A0 l0.length l0) (hc0 : l0.length ≤ c0) (h : spec_l1PutNew.f k l0 a1 = some r) :
  Calls Try.prog 82 #[.slice A0 l0.length c0, .int .i64 a1] w fun e w' => ∃ v0_ : Value, e = .returned (v0_) ∧ Kd.R (Kd.int .i64) 3 w' w.heap.size (fun _ => True) v0_ r ∧ Below w.heap.size w w' := by
 have HR0 := za hr0; have HC0 := za hc0; clear hr0 hc0; have HB := za (zs w.heap.size w); have H : (spec_l1PutNew.l0 k l0 a1 0) = some r := h; clear h; have H' := za H; clear H
 go_enter Try.func82, Try.ntmps82
 go_wp2
 go_loopg [5] k (fun kq v5 w' => ∃ (x5_1 : Int), v5 = .int .i64 x5_1 ∧ Aside0 (spec_l1PutNew.l0 kq l0 a1 x5_1 = some r) ∧ Aside0 (kq ≤ k) ∧ Aside0 (Below w.heap.size w w'))
 case atStart => exact ⟨(0), (qS16), H', ⟨zo _⟩, ⟨(qS0)⟩⟩
 case round =>
  clear H'; (try clear p2); obtain ⟨x5_1, rfl, HA, HK1, HB⟩ := hrel
  cases gk with
  | zero => exact absurd HA.1 (by simp [spec_l1PutNew.l0])
  | succ k1 =>
   have H := HA.1; clear HA; simp only [spec_l1PutNew.l0] at H
   by_cases c3 : x5_1 < (l0.length : Int)
   ·rw [yb c3] at H; have c3b0 : decide (x5_1 < (l0.length : Int)) = true := zc c3; clear c3
    by_cases c4 : 0 ≤ x5_1
    ·rw [yb c4] at H; have c4b0 : decide (0 ≤ x5_1) = true := zc c4; clear c4
     by_cases c5 : (rd l0 x5_1) < a1
     ·rw [yb c5] at H; have c5b0 : decide ((rd l0 x5_1) < a1) = true := zc c5; clear c5; have H' := za H; clear H; have p469 : 0 ≤ (x5_1 : Int) := zb (qS8); have q469 : x5_1 < (l0.length : Int) := zb (qS8); obtain ⟨ad469, e469, hx469_0⟩ := zJ HR0.1 x5_1 p469 q469; cases e469; replace hx469_0 := (HB.1.cell (zd w _ hx469_0)).trans hx469_0; replace p469 := zw p469; replace q469 := zw q469
      go_wp2
      go_roundg k1
      case measure => have := HK1.1; omega
      case rel => exact ⟨(wrap64 (x5_1 + 1)), (qS16), H', ⟨by have := HK1.1; omega⟩, ⟨(qS0)⟩⟩
     ·rw [yc c5] at H; have c5b0 : decide ((rd l0 x5_1) < a1) = false := zv c5; clear c5
      by_cases c6 : (rd l0 x5_1) = a1
      ·rw [yb c6] at H
       exact absurd H (by simp)
      ·rw [yc c6] at H; have c6b0 : ((rd l0 x5_1) == a1) = false := zx c6; have c6b1 : ((rd l0 x5_1) != a1) = true := zU c6; obtain ⟨y471, hy471⟩ : ∃ y_ : List Int, y_ = (([] : List Int)) := ⟨_, rfl⟩; replace H : (if x5_1 ≤ (l0.length : Int) then (if y471.length + (l0.take (x5_1 : Int).toNat).length < 17592186044416 then ((some (y471 ++ (l0.take (x5_1 : Int).toNat) : List Int)).bind fun y475 => ((some (([a1] : List Int) : List Int)).bind fun y478 => (if y475.length + y478.length < 17592186044416 then ((some (y475 ++ y478 : List Int)).bind fun y481 => (if y481.length + (l0.drop (x5_1 : Int).toNat).length < 17592186044416 then (some (y481 ++ (l0.drop (x5_1 : Int).toNat))) else (none))) else (none)))) else (none)) else (none)) = some r := (qS4 hy471); have Ny471 := za hy471; clear hy471; have c7b0 := zw (zb (qS8) : 0 ≤ x5_1)
       by_cases c8 : x5_1 ≤ (l0.length : Int)
       ·rw [yb c8] at H; have c8b0 := zw c8; have c8b1 : decide (x5_1 ≤ (l0.length : Int)) = true := zc c8; clear c8
        by_cases c9 : y471.length + (l0.take (x5_1 : Int).toNat).length < 17592186044416
        ·rw [yb c9] at H; have LMc9 := za c9; clear c9; obtain ⟨y475, hy475⟩ : ∃ y_ : List Int, y_ = (y471 ++ (l0.take (x5_1 : Int).toNat)) := ⟨_, rfl⟩; replace H : ((some (([a1] : List Int) : List Int)).bind fun y478 => (if y475.length + y478.length < 17592186044416 then ((some (y475 ++ y478 : List Int)).bind fun y481 => (if y481.length + (l0.drop (x5_1 : Int).toNat).length < 17592186044416 then (some (y481 ++ (l0.drop (x5_1 : Int).toNat))) else (none))) else (none))) = some r := (qS4 hy475); have Ny475 := za hy475; clear hy475; obtain ⟨y478, hy478⟩ : ∃ y_ : List Int, y_ = (([a1] : List Int)) := ⟨_, rfl⟩; replace H : (if y475.length + y478.length < 17592186044416 then ((some (y475 ++ y478 : List Int)).bind fun y481 => (if y481.length + (l0.drop (x5_1 : Int).toNat).length < 17592186044416 then (some (y481 ++ (l0.drop (x5_1 : Int).toNat))) else (none))) else (none)) = some r := (qS4 hy478); have Ny478 := za hy478; clear hy478
         by_cases c10 : y475.length + y478.length < 17592186044416
         ·rw [yb c10] at H; have LMc10 := za c10; clear c10; obtain ⟨y481, hy481⟩ : ∃ y_ : List Int, y_ = (y475 ++ y478) := ⟨_, rfl⟩; replace H : (if y481.length + (l0.drop (x5_1 : Int).toNat).length < 17592186044416 then (some (y481 ++ (l0.drop (x5_1 : Int).toNat))) else (none)) = some r := (qS4 hy481); have Ny481 := za hy481; clear hy481; have c11b0 := zw (zb (qS8) : 0 ≤ x5_1); have c12b0 := zw (zb (qS8) : x5_1 ≤ (l0.length : Int))
          by_cases c13 : y481.length + (l0.drop (x5_1 : Int).toNat).length < 17592186044416
          ·rw [yb c13] at H; have LMc13 := za c13; clear c13; obtain ⟨y485, hy485⟩ : ∃ y_ : List Int, y_ = (y481 ++ (l0.drop (x5_1 : Int).toNat)) := ⟨_, rfl⟩; replace H : (some y485) = some r := (qS4 hy485); have Ny485 := za hy485; clear hy485; obtain rfl := zm H; have p469 : 0 ≤ (x5_1 : Int) := zb (qS8); have q469 : x5_1 < (l0.length : Int) := zb (qS8); obtain ⟨ad469, e469, hx469_0⟩ := zJ HR0.1 x5_1 p469 q469; cases e469; replace hx469_0 := (HB.1.cell (zd w _ hx469_0)).trans hx469_0; replace p469 := zw p469; replace q469 := zw q469; have p470 : 0 ≤ (x5_1 : Int) := zb (qS8); have q470 : x5_1 < (l0.length : Int) := zb (qS8); obtain ⟨ad470, e470, hx470_0⟩ := zJ HR0.1 x5_1 p470 q470; obtain rfl : ad469 = ad470 := (by injection e470); replace hx470_0 := (HB.1.cell (zd w _ hx470_0)).trans hx470_0; replace p470 := zw p470; replace q470 := zw q470
           try go_wp2
           replace HB := za (below_drew1 HB.1); obtain ⟨i015, hi015, _, hsz15, _⟩ := info_parts info3; obtain ⟨hcut15, hA15, hC15⟩ := print_take_of (P := Try.prog) (Value.int .i64) 0 25 3 .i64 Try.underlying25 hi015 hsz15 (some ad469) c0 l0 x5_1 (zb (qS8)) (zb (qS8)) HC0.1; have HR474 := za (by exact Kd.C_of_reads (h1 := fun _ => rfl) (hA15 _ (Kd.reads_of_C HR0.1))); have HC474 := za hC15; clear hA15 hC15 hi015 hsz15; obtain ⟨i016, hi016, _, hsz16, _⟩ := info_parts info3; obtain ⟨A16, hcut16, hA16, hC16⟩ := print_drop_of (P := Try.prog) (Value.int .i64) 0 25 3 .i64 Try.underlying25 hi016 hsz16 (some ad469) c0 l0 x5_1 (zb (qS8)) (zb (qS8)) HC0.1; have HR484 := za (by exact Kd.C_of_reads (h1 := fun _ => rfl) (hA16 _ (Kd.reads_of_C HR0.1))); have HC484 := za hC16; clear hA16 hC16 hi016 hsz16
           refine start_ (n := 13) (S := fun w' => True) (ds := []) qSb4 (qS27) rfl rfl trivial (fun hHeld => ?_); refine with_tabW spec_l1PutNew.tab6 spec_l1PutNew.bits6 (fun HT_ HW_ => ?_)
           generalize wr.drew = w14 at HB HR474 HR484 hHeld ⊢
           refine pure_ (i := 1) (N := some 34) (v := ?_) (a' := ?_) qSb5 rfl rfl (qS24) (fun _ _ _ h => h) (zY ⟨by rfl, ?_⟩) ?_ ?_
           rotate_left; exact qS8_c3; rotate_left; exact qS8_c0
           refine pure_ (i := 2) (N := some 35) (v := ?_) (a' := ?_) qSb6 rfl rfl (qS24) (fun _ _ _ h => h) (zY ⟨by rfl, ?_⟩) ?_ ?_
           rotate_left; exact qS8_c3; rotate_left; exact qS8_c0
           refine pure_ (i := 3) (N := some 36) (v := ?_) (a' := ?_) qSb7 rfl rfl (qS24) (fun _ _ _ h => h) (zY ⟨by rfl, ?_⟩) ?_ ?_
           rotate_left; exact qS8_c3; rotate_left; exact qS8_c0
           refine pure_ (i := 5) (N := some 38) (v := ?_) (a' := ?_) qSb8 rfl rfl (qS24) (fun _ _ _ h => h) (zY ⟨by rfl, ?_⟩) ?_ ?_
           rotate_left; exact qS8_c3; rotate_left; exact qS8_c0
           refine pure_ (i := 8) (N := some 41) (v := ?_) (a' := ?_) qSb9 rfl rfl (qS24) (fun _ _ _ h => h) (zY ⟨by rfl, ?_⟩) ?_ ?_
           rotate_left; exact qS8_c3; rotate_left; exact qS8_c0
           refine pure_ (i := 9) (N := some 42) (v := ?_) (a' := ?_) qSb10 rfl rfl (qS24) (fun _ _ _ h => h) (zY ⟨by rfl, ?_⟩) ?_ ?_
           rotate_left; exact qS8_c3; rotate_left; exact qS8_c0
           refine pure_ (i := 10) (N := some 43) (v := ?_) (a' := ?_) qSb11 rfl rfl (qS24) (fun _ _ _ h => h) (zY ⟨by rfl, ?_⟩) ?_ ?_
           rotate_left; exact qS8_c3; rotate_left; exact qS8_c0
           refine join_ (σ := Value × Value × Value) 3 qSb12 (fun s_ => [(33, s_.1), (37, s_.2.1), (39, s_.2.2)]) (fun s_ w' => (Kd.R (Kd.int .i64) 3 w' w.heap.size (fun k_ => some k_ ≠ (s_.2.2 : Value).ownBlock) s_.2.1 y475) ∧ (Kd.R (Kd.int .i64) 3 w' w.heap.size (fun k_ => some k_ ≠ (s_.2.1 : Value).ownBlock) s_.2.2 y478) ∧ (Below w.heap.size w w')) ?_ ?_
           rotate_left
           ·intro hCont
            refine two_ (i := 0) (j := 6) (Ni := some 33) (Nj := some 39) qSb13 qSb14 rfl rfl rfl rfl (two_of HT_.1 (qS27)) (by decide) (by decide) (fun K hK => ?_) (fun K hK => ?_)
            ·skip
             refine Kd.R_lit_step (Kd.int .i64) _ 3 ?hg (N := 33) ?hd (xs := ([] : List Int)) (inner := []) (ok := fun _ => True) (okp := fun _ => True) ?hr ?hp (fun _ hk => hk) trivial (zs _ _) (zo _) (by simp) ?_; (case hd | hg => rfl); (case hr => exact (qS26)); (case hp => exact (zu _ _))
             intro v472 w17 ho18 hb hg_ hnew_; clear hg_ hnew_
             (first | rw [← Ny471.1] at ho18 | (simp only [Int.reduceToNat] at ho18; rw [← Ny471.1] at ho18))
             have HO473 := za (qS77 ho18); replace HB := za qS64; clear hb ho18
             refine hK.out _ _ trivial (fun hHeld => ?_)
             clear hK K
             refine norm_ (a' := ?_) ?_ ?_
             rotate_left
             ·exact qS8_c4
             refine two_ (i := 4) (j := 6) (Ni := some 37) (Nj := some 39) qSb15 qSb16 rfl rfl rfl rfl (two_of HT_.1 (qS27)) (by decide) (by decide) (fun K hK => ?_) (fun K hK => ?_)
             ·skip
              refine zM (Kd.int .i64) (w0 := w) w.heap.size (by rfl) (.tmp 33) (.tmp 36) 25 3 (.int .i64 0) 8 rfl Try.underlying25 info3 rfl (by decide) (by omega) v472 y471 (l0.take (x5_1 : Int).toNat) _ _ _ (fun _ => True) (fun _ => False) rfl rfl ?aO ?aR (fun _ _ h => h) (fun _ h => h.elim) ?aF ?aB ?aS ?aL ?_
              (case aR => exact (qS65 HR474.1))
              (case aB => exact (qS0))
              (case aF => exact (fun _ _ => trivial))
              (case aO => exact (qS1 HO473.1))
              (case aS => exact (qS82))
              (case aL => exact (qS76 LMc9.1))
              intro v476 w19 ho hb hg hat; rw [← Ny475.1] at ho; replace HB := za hb; have HO477 := za ho; clear HO473; clear ho hb hg hat
              refine hK.out _ _ trivial (fun hHeld => ?_)
              clear hK K
              refine norm_ (a' := ?_) ?_ ?_
              rotate_left
              ·exact qS8_c1
              refine one_ (i := 6) (N := some 39) qSb12 rfl rfl (qS70) (by decide) (fun K hK => ?_)
              refine Kd.R_lit_step (Kd.int .i64) _ 3 ?hg (N := 39) ?hd (xs := ([a1] : List Int)) (inner := [.int .i64 a1]) (ok := fun _ => True) (okp := fun _ => True) ?hr ?hp (fun _ hk => hk) trivial (zs _ _) (zo _) (by simp) ?_; (case hd | hg => rfl); (case hr => exact (qS26)); (case hp => exact (qS50))
              intro v479 w20 ho21 hb hg_ hnew_; clear hg_ hnew_
              (first | rw [← Ny478.1] at ho21 | (simp only [Int.reduceToNat] at ho21; rw [← Ny478.1] at ho21))
              have HO480 := za (qS75 ho21 HO477.1); replace HO477 := za (qS67 HO477.1 ho21); replace HB := za qS64; clear hb ho21
              refine hK.out _ _ trivial (fun hHeld => ?_)
              clear hK K
              refine norm_ (a' := ?_) ?_ ?_
              rotate_left
              ·exact qS8_c2
              exact norm_ (qS37) (hCont (v472, v476, v479) _ ⟨(qS29 HO477.1), (qS29 HO480.1), (qS0)⟩)
             ·skip
              refine Kd.R_lit_step (Kd.int .i64) _ 3 ?hg (N := 39) ?hd (xs := ([a1] : List Int)) (inner := [.int .i64 a1]) (ok := fun _ => True) (okp := fun _ => True) ?hr ?hp (fun _ hk => hk) trivial (zs _ _) (zo _) (by simp) ?_; (case hd | hg => rfl); (case hr => exact (qS26)); (case hp => exact (qS50))
              intro v479 w19 ho20 hb hg_ hnew_; clear hg_ hnew_
              (first | rw [← Ny478.1] at ho20 | (simp only [Int.reduceToNat] at ho20; rw [← Ny478.1] at ho20))
              have HO480 := za (qS75 ho20 HO473.1); replace HO473 := za (qS67 HO473.1 ho20); replace HB := za qS64; clear hb ho20
              refine hK.out _ _ trivial (fun hHeld => ?_)
              clear hK K
              refine norm_ (a' := ?_) ?_ ?_
              rotate_left
              ·exact qS8_c2
              refine one_ (i := 4) (N := some 37) qSb12 rfl rfl (qS70) (by decide) (fun K hK => ?_)
              refine zM (Kd.int .i64) (w0 := w) w.heap.size (by rfl) (.tmp 33) (.tmp 36) 25 3 (.int .i64 0) 8 rfl Try.underlying25 info3 rfl (by decide) (by omega) v472 y471 (l0.take (x5_1 : Int).toNat) _ _ _ (fun k_ => some k_ ≠ (v479 : Value).ownBlock) (fun _ => False) rfl rfl ?aO ?aR (fun _ _ h => h) (fun _ h => h.elim) ?aF ?aB ?aS ?aL ?_
              (case aR => exact (qS65 HR474.1))
              (case aB => exact (qS0))
              (case aF => exact (qS73 HO480.1))
              (case aO => exact (qS29 HO473.1))
              (case aS => exact (qS82))
              (case aL => exact (qS76 LMc9.1))
              intro v476 w21 ho hb hg hat; rw [← Ny475.1] at ho; replace HO480 := za (qS79 HO480.1); replace HB := za hb; have HO477 := za ho; clear HO473; clear ho hb hg hat
              refine hK.out _ _ trivial (fun hHeld => ?_)
              clear hK K
              refine norm_ (a' := ?_) ?_ ?_
              rotate_left
              ·exact qS8_c1
              exact norm_ (qS37) (hCont (v472, v476, v479) _ ⟨(qS1 HO477.1), (qS29 HO480.1), (qS0)⟩)
            ·skip
             refine Kd.R_lit_step (Kd.int .i64) _ 3 ?hg (N := 39) ?hd (xs := ([a1] : List Int)) (inner := [.int .i64 a1]) (ok := fun _ => True) (okp := fun _ => True) ?hr ?hp (fun _ hk => hk) trivial (zs _ _) (zo _) (by simp) ?_; (case hd | hg => rfl); (case hr => exact (qS26)); (case hp => exact (qS50))
             intro v479 w17 ho18 hb hg_ hnew_; clear hg_ hnew_
             (first | rw [← Ny478.1] at ho18 | (simp only [Int.reduceToNat] at ho18; rw [← Ny478.1] at ho18))
             have HO480 := za (qS77 ho18); replace HB := za qS64; clear hb ho18
             refine hK.out _ _ trivial (fun hHeld => ?_)
             clear hK K
             refine norm_ (a' := ?_) ?_ ?_
             rotate_left
             ·exact qS8_c2
             refine one_ (i := 0) (N := some 33) qSb16 rfl rfl (qS70) (by decide) (fun K hK => ?_)
             refine Kd.R_lit_step (Kd.int .i64) _ 3 ?hg (N := 33) ?hd (xs := ([] : List Int)) (inner := []) (ok := fun _ => True) (okp := fun _ => True) ?hr ?hp (fun _ hk => hk) trivial (zs _ _) (zo _) (by simp) ?_; (case hd | hg => rfl); (case hr => exact (qS26)); (case hp => exact (zu _ _))
             intro v472 w19 ho20 hb hg_ hnew_; clear hg_ hnew_
             (first | rw [← Ny471.1] at ho20 | (simp only [Int.reduceToNat] at ho20; rw [← Ny471.1] at ho20))
             have HO473 := za (qS75 ho20 HO480.1); replace HO480 := za (qS67 HO480.1 ho20); replace HB := za qS64; clear hb ho20
             refine hK.out _ _ trivial (fun hHeld => ?_)
             clear hK K
             refine norm_ (a' := ?_) ?_ ?_
             rotate_left
             ·exact qS8_c4
             refine one_ (i := 4) (N := some 37) qSb12 rfl rfl (qS70) (by decide) (fun K hK => ?_)
             refine zM (Kd.int .i64) (w0 := w) w.heap.size (by rfl) (.tmp 33) (.tmp 36) 25 3 (.int .i64 0) 8 rfl Try.underlying25 info3 rfl (by decide) (by omega) v472 y471 (l0.take (x5_1 : Int).toNat) _ _ _ (fun k_ => some k_ ≠ (v479 : Value).ownBlock) (fun _ => False) rfl rfl ?aO ?aR (fun _ _ h => h) (fun _ h => h.elim) ?aF ?aB ?aS ?aL ?_
             (case aR => exact (qS65 HR474.1))
             (case aB => exact (qS0))
             (case aF => exact (qS73 HO480.1))
             (case aO => exact (qS29 HO473.1))
             (case aS => exact (qS82))
             (case aL => exact (qS76 LMc9.1))
             intro v476 w21 ho hb hg hat; rw [← Ny475.1] at ho; replace HO480 := za (qS79 HO480.1); replace HB := za hb; have HO477 := za ho; clear HO473; clear ho hb hg hat
             refine hK.out _ _ trivial (fun hHeld => ?_)
             clear hK K
             refine norm_ (a' := ?_) ?_ ?_
             rotate_left
             ·exact qS8_c1
             exact norm_ (qS37) (hCont (v472, v476, v479) _ ⟨(qS1 HO477.1), (qS29 HO480.1), (qS0)⟩)
           rintro ⟨v472, v476, v479⟩ w22 ⟨h0_, h1_, h2_⟩
           have HO477 : Aside0 (Kd.R (Kd.int .i64) 3 w22 w.heap.size (fun k_ => some k_ ≠ (v479 : Value).ownBlock) v476 y475) := ⟨h0_⟩; have HO480 : Aside0 (Kd.R (Kd.int .i64) 3 w22 w.heap.size (fun k_ => some k_ ≠ (v476 : Value).ownBlock) v479 y478) := ⟨h1_⟩; replace HB : Aside0 (Below w.heap.size w w22) := ⟨h2_⟩; clear h0_ h1_ h2_; have hHeld := trivial; obtain ⟨Ao24, co24, eo24⟩ := zI HO480.1
           (first | subst eo24 | (injection eo24 with f1_ f2_ f3_; have f4_ := f1_.symm; have f5_ := f3_.symm; clear f1_ f2_ f3_; subst f4_; subst f5_))
           refine norm_ (a' := ?_) ?_ ?_
           rotate_left
           ·simp only [putAll, Act.put, yf, yg, yh]
            rfl
           refine one_ (i := 7) (N := some 40) qSb17 rfl rfl (qS70) (by decide) (fun K hK => ?_)
           refine zM (Kd.int .i64) (w0 := w) w.heap.size (by rfl) (.tmp 37) (.tmp 39) 25 3 (.int .i64 0) 8 rfl Try.underlying25 info3 rfl (by decide) (by omega) v476 y475 y478 _ _ _ (fun k_ => some k_ ≠ (.slice Ao24 y478.length co24 : Value).ownBlock) (fun _ => False) rfl rfl ?aO ?aR (fun _ _ h => h) (fun _ h => h.elim) ?aF ?aB ?aS ?aL ?_
           (case aR => exact (qS7 HO480.1))
           (case aB => exact (qS0))
           (case aF => exact (qS73 HO480.1))
           (case aO => exact (qS1 HO477.1))
           (case aS => exact (qS82))
           (case aL => have := LMc10.1; omega)
           intro v482 w23 ho hb hg hat; rw [← Ny481.1] at ho; replace HO480 := za (qS46 HO480.1); replace HB := za hb; have HO483 := za ho; clear HO477; clear ho hb hg hat
           refine hK.out _ _ trivial (fun hHeld => ?_)
           clear hK K
           refine norm_ (a' := ?_) ?_ ?_
           rotate_left
           ·show Act.put _ (some 40) _ = _
            simp only [Act.put, yf, yg, yh, i64_w, i32_w]
            rfl
           refine one_ (i := 11) (N := some 44) qSb18 rfl rfl (qS70) (by decide) (fun K hK => ?_)
           refine zM (Kd.int .i64) (w0 := w) w.heap.size (by rfl) (.tmp 40) (.tmp 43) 25 3 (.int .i64 0) 8 rfl Try.underlying25 info3 rfl (by decide) (by omega) v482 y481 (l0.drop (x5_1 : Int).toNat) _ _ _ (fun k_ => some k_ ≠ (.slice Ao24 y478.length co24 : Value).ownBlock) (fun _ => False) rfl rfl ?aO ?aR (fun _ _ h => h) (fun _ h => h.elim) ?aF ?aB ?aS ?aL ?_
           (case aR => exact (qS51 HR484.1))
           (case aB => exact (qS0))
           (case aF => exact (qS73 HO480.1))
           (case aO => exact (qS1 HO483.1))
           (case aS => exact (qS82))
           (case aL => exact (by have := LMc13.1; have hlx_ := (show (l0.drop (x5_1 : Int).toNat).length = (l0.length - x5_1.toNat) from List.length_drop); omega))
           intro v486 w25 ho hb hg hat; rw [← Ny485.1] at ho; replace HO480 := za (qS79 HO480.1); replace HB := za hb; have HO487 := za ho; clear HO483; clear ho hb hg hat
           refine hK.out _ _ trivial (fun hHeld => ?_)
           clear hK K
           refine norm_ (a' := ?_) ?_ ?_
           rotate_left
           ·show Act.put _ (some 44) _ = _
            simp only [Act.put, yf, yg, yh, i64_w, i32_w]
            rfl
           refine pure_ (i := 12) (N := some 4) (v := ?_) (a' := ?_) qSb19 rfl rfl (qS24) (fun _ _ _ h => h) (zY ⟨by rfl, ?_⟩) ?_ ?_
           rotate_left; exact qS8_c3; rotate_left; exact qS8_c0
           refine done_ (qS88) ?_
           try go_wp2
           go_ret
           exact ⟨_, (qS11), (qS32 HO487.1), (qS0)⟩
          ·rw [yc c13] at H
           exact absurd H (by simp)
         ·rw [yc c10] at H
          exact absurd H (by simp)
        ·rw [yc c9] at H
         exact absurd H (by simp)
       ·rw [yc c8] at H
        exact absurd H (by simp)
    ·rw [yc c4] at H
     exact absurd H (by simp)
   ·rw [yc c3] at H; have c3b0 : decide (x5_1 < (l0.length : Int)) = false := zv c3; clear c3; obtain ⟨y488, hy488⟩ : ∃ y_ : List Int, y_ = (([] : List Int)) := ⟨_, rfl⟩; replace H : (if 0 ≤ x5_1 then (if x5_1 ≤ (l0.length : Int) then (if y488.length + (l0.take (x5_1 : Int).toNat).length < 17592186044416 then ((some (y488 ++ (l0.take (x5_1 : Int).toNat) : List Int)).bind fun y492 => ((some (([a1] : List Int) : List Int)).bind fun y495 => (if y492.length + y495.length < 17592186044416 then ((some (y492 ++ y495 : List Int)).bind fun y498 => (if y498.length + (l0.drop (x5_1 : Int).toNat).length < 17592186044416 then (some (y498 ++ (l0.drop (x5_1 : Int).toNat))) else (none))) else (none)))) else (none)) else (none)) else (none)) = some r := (qS4 hy488); have Ny488 := za hy488; clear hy488
    by_cases c26 : 0 ≤ x5_1
    ·rw [yb c26] at H; have c26b0 := zw c26; have c26b1 : decide (0 ≤ x5_1) = true := zc c26; clear c26
     by_cases c27 : x5_1 ≤ (l0.length : Int)
     ·rw [yb c27] at H; have c27b0 := zw c27; have c27b1 : decide (x5_1 ≤ (l0.length : Int)) = true := zc c27; clear c27
      by_cases c28 : y488.length + (l0.take (x5_1 : Int).toNat).length < 17592186044416
      ·rw [yb c28] at H; have LMc28 := za c28; clear c28; obtain ⟨y492, hy492⟩ : ∃ y_ : List Int, y_ = (y488 ++ (l0.take (x5_1 : Int).toNat)) := ⟨_, rfl⟩; replace H : ((some (([a1] : List Int) : List Int)).bind fun y495 => (if y492.length + y495.length < 17592186044416 then ((some (y492 ++ y495 : List Int)).bind fun y498 => (if y498.length + (l0.drop (x5_1 : Int).toNat).length < 17592186044416 then (some (y498 ++ (l0.drop (x5_1 : Int).toNat))) else (none))) else (none))) = some r := (qS4 hy492); have Ny492 := za hy492; clear hy492; obtain ⟨y495, hy495⟩ : ∃ y_ : List Int, y_ = (([a1] : List Int)) := ⟨_, rfl⟩; replace H : (if y492.length + y495.length < 17592186044416 then ((some (y492 ++ y495 : List Int)).bind fun y498 => (if y498.length + (l0.drop (x5_1 : Int).toNat).length < 17592186044416 then (some (y498 ++ (l0.drop (x5_1 : Int).toNat))) else (none))) else (none)) = some r := (qS4 hy495); have Ny495 := za hy495; clear hy495
       by_cases c29 : y492.length + y495.length < 17592186044416
       ·rw [yb c29] at H; have LMc29 := za c29; clear c29; obtain ⟨y498, hy498⟩ : ∃ y_ : List Int, y_ = (y492 ++ y495) := ⟨_, rfl⟩; replace H : (if y498.length + (l0.drop (x5_1 : Int).toNat).length < 17592186044416 then (some (y498 ++ (l0.drop (x5_1 : Int).toNat))) else (none)) = some r := (qS4 hy498); have Ny498 := za hy498; clear hy498; have c30b0 := zw (zb (qS8) : 0 ≤ x5_1); have c31b0 := zw (zb (qS8) : x5_1 ≤ (l0.length : Int))
        by_cases c32 : y498.length + (l0.drop (x5_1 : Int).toNat).length < 17592186044416
        ·rw [yb c32] at H; have LMc32 := za c32; clear c32; obtain ⟨y502, hy502⟩ : ∃ y_ : List Int, y_ = (y498 ++ (l0.drop (x5_1 : Int).toNat)) := ⟨_, rfl⟩; replace H : (some y502) = some r := (qS4 hy502); have Ny502 := za hy502; clear hy502; obtain rfl := zm H
         try go_wp2
         replace HB := za (below_drew1 HB.1); obtain ⟨i034, hi034, _, hsz34, _⟩ := info_parts info3; obtain ⟨hcut34, hA34, hC34⟩ := print_take_of (P := Try.prog) (Value.int .i64) 0 25 3 .i64 Try.underlying25 hi034 hsz34 A0 c0 l0 x5_1 (zb (qS8)) (zb (qS8)) HC0.1; have HR491 := za (by exact Kd.C_of_reads (h1 := fun _ => rfl) (hA34 _ (Kd.reads_of_C HR0.1))); have HC491 := za hC34; clear hA34 hC34 hi034 hsz34; obtain ⟨i035, hi035, _, hsz35, _⟩ := info_parts info3; obtain ⟨A35, hcut35, hA35, hC35⟩ := print_drop_of (P := Try.prog) (Value.int .i64) 0 25 3 .i64 Try.underlying25 hi035 hsz35 A0 c0 l0 x5_1 (zb (qS8)) (zb (qS8)) HC0.1; have HR501 := za (by exact Kd.C_of_reads (h1 := fun _ => rfl) (hA35 _ (Kd.reads_of_C HR0.1))); have HC501 := za hC35; clear hA35 hC35 hi035 hsz35
         refine start_ (n := 13) (S := fun w' => True) (ds := []) qSb4 (qS27) rfl rfl trivial (fun hHeld => ?_); refine with_tabW spec_l1PutNew.tab6 spec_l1PutNew.bits6 (fun HT_ HW_ => ?_)
         generalize wr.drew = w33 at HB HR491 HR501 hHeld ⊢
         refine pure_ (i := 1) (N := some 34) (v := ?_) (a' := ?_) qSb5 rfl rfl (qS24) (fun _ _ _ h => h) (zY ⟨by rfl, ?_⟩) ?_ ?_
         rotate_left; exact qS8_c3; rotate_left; exact qS8_c0
         refine pure_ (i := 2) (N := some 35) (v := ?_) (a' := ?_) qSb6 rfl rfl (qS24) (fun _ _ _ h => h) (zY ⟨by rfl, ?_⟩) ?_ ?_
         rotate_left; exact qS8_c3; rotate_left; exact qS8_c0
         refine pure_ (i := 3) (N := some 36) (v := ?_) (a' := ?_) qSb7 rfl rfl (qS24) (fun _ _ _ h => h) (zY ⟨by rfl, ?_⟩) ?_ ?_
         rotate_left; exact qS8_c3; rotate_left; exact qS8_c0
         refine pure_ (i := 5) (N := some 38) (v := ?_) (a' := ?_) qSb8 rfl rfl (qS24) (fun _ _ _ h => h) (zY ⟨by rfl, ?_⟩) ?_ ?_
         rotate_left; exact qS8_c3; rotate_left; exact qS8_c0
         refine pure_ (i := 8) (N := some 41) (v := ?_) (a' := ?_) qSb9 rfl rfl (qS24) (fun _ _ _ h => h) (zY ⟨by rfl, ?_⟩) ?_ ?_
         rotate_left; exact qS8_c3; rotate_left; exact qS8_c0
         refine pure_ (i := 9) (N := some 42) (v := ?_) (a' := ?_) qSb10 rfl rfl (qS24) (fun _ _ _ h => h) (zY ⟨by rfl, ?_⟩) ?_ ?_
         rotate_left; exact qS8_c3; rotate_left; exact qS8_c0
         refine pure_ (i := 10) (N := some 43) (v := ?_) (a' := ?_) qSb11 rfl rfl (qS24) (fun _ _ _ h => h) (zY ⟨by rfl, ?_⟩) ?_ ?_
         rotate_left; exact qS8_c3; rotate_left; exact qS8_c0
         refine join_ (σ := Value × Value × Value) 3 qSb12 (fun s_ => [(33, s_.1), (37, s_.2.1), (39, s_.2.2)]) (fun s_ w' => (Kd.R (Kd.int .i64) 3 w' w.heap.size (fun k_ => some k_ ≠ (s_.2.2 : Value).ownBlock) s_.2.1 y492) ∧ (Kd.R (Kd.int .i64) 3 w' w.heap.size (fun k_ => some k_ ≠ (s_.2.1 : Value).ownBlock) s_.2.2 y495) ∧ (Below w.heap.size w w')) ?_ ?_
         rotate_left
         ·intro hCont
          refine two_ (i := 0) (j := 6) (Ni := some 33) (Nj := some 39) qSb13 qSb14 rfl rfl rfl rfl (two_of HT_.1 (qS27)) (by decide) (by decide) (fun K hK => ?_) (fun K hK => ?_)
          ·skip
           refine Kd.R_lit_step (Kd.int .i64) _ 3 ?hg (N := 33) ?hd (xs := ([] : List Int)) (inner := []) (ok := fun _ => True) (okp := fun _ => True) ?hr ?hp (fun _ hk => hk) trivial (zs _ _) (zo _) (by simp) ?_; (case hd | hg => rfl); (case hr => exact (qS26)); (case hp => exact (zu _ _))
           intro v489 w36 ho37 hb hg_ hnew_; clear hg_ hnew_
           (first | rw [← Ny488.1] at ho37 | (simp only [Int.reduceToNat] at ho37; rw [← Ny488.1] at ho37))
           have HO490 := za (qS77 ho37); replace HB := za qS64; clear hb ho37
           refine hK.out _ _ trivial (fun hHeld => ?_)
           clear hK K
           refine norm_ (a' := ?_) ?_ ?_
           rotate_left
           ·exact qS8_c4
           refine two_ (i := 4) (j := 6) (Ni := some 37) (Nj := some 39) qSb15 qSb16 rfl rfl rfl rfl (two_of HT_.1 (qS27)) (by decide) (by decide) (fun K hK => ?_) (fun K hK => ?_)
           ·skip
            refine zM (Kd.int .i64) (w0 := w) w.heap.size (by rfl) (.tmp 33) (.tmp 36) 25 3 (.int .i64 0) 8 rfl Try.underlying25 info3 rfl (by decide) (by omega) v489 y488 (l0.take (x5_1 : Int).toNat) _ _ _ (fun _ => True) (fun _ => False) rfl rfl ?aO ?aR (fun _ _ h => h) (fun _ h => h.elim) ?aF ?aB ?aS ?aL ?_
            (case aR => exact (qS65 HR491.1))
            (case aB => exact (qS0))
            (case aF => exact (fun _ _ => trivial))
            (case aO => exact (qS1 HO490.1))
            (case aS => exact (qS82))
            (case aL => exact (qS76 LMc28.1))
            intro v493 w38 ho hb hg hat; rw [← Ny492.1] at ho; replace HB := za hb; have HO494 := za ho; clear HO490; clear ho hb hg hat
            refine hK.out _ _ trivial (fun hHeld => ?_)
            clear hK K
            refine norm_ (a' := ?_) ?_ ?_
            rotate_left
            ·exact qS8_c1
            refine one_ (i := 6) (N := some 39) qSb12 rfl rfl (qS70) (by decide) (fun K hK => ?_)
            refine Kd.R_lit_step (Kd.int .i64) _ 3 ?hg (N := 39) ?hd (xs := ([a1] : List Int)) (inner := [.int .i64 a1]) (ok := fun _ => True) (okp := fun _ => True) ?hr ?hp (fun _ hk => hk) trivial (zs _ _) (zo _) (by simp) ?_; (case hd | hg => rfl); (case hr => exact (qS26)); (case hp => exact (qS50))
            intro v496 w39 ho40 hb hg_ hnew_; clear hg_ hnew_
            (first | rw [← Ny495.1] at ho40 | (simp only [Int.reduceToNat] at ho40; rw [← Ny495.1] at ho40))
            have HO497 := za (qS75 ho40 HO494.1); replace HO494 := za (qS67 HO494.1 ho40); replace HB := za qS64; clear hb ho40
            refine hK.out _ _ trivial (fun hHeld => ?_)
            clear hK K
            refine norm_ (a' := ?_) ?_ ?_
            rotate_left
            ·exact qS8_c2
            exact norm_ (qS37) (hCont (v489, v493, v496) _ ⟨(qS29 HO494.1), (qS29 HO497.1), (qS0)⟩)
           ·skip
            refine Kd.R_lit_step (Kd.int .i64) _ 3 ?hg (N := 39) ?hd (xs := ([a1] : List Int)) (inner := [.int .i64 a1]) (ok := fun _ => True) (okp := fun _ => True) ?hr ?hp (fun _ hk => hk) trivial (zs _ _) (zo _) (by simp) ?_; (case hd | hg => rfl); (case hr => exact (qS26)); (case hp => exact (qS50))
            intro v496 w38 ho39 hb hg_ hnew_; clear hg_ hnew_
            (first | rw [← Ny495.1] at ho39 | (simp only [Int.reduceToNat] at ho39; rw [← Ny495.1] at ho39))
            have HO497 := za (qS75 ho39 HO490.1); replace HO490 := za (qS67 HO490.1 ho39); replace HB := za qS64; clear hb ho39
            refine hK.out _ _ trivial (fun hHeld => ?_)
            clear hK K
            refine norm_ (a' := ?_) ?_ ?_
            rotate_left
            ·exact qS8_c2
            refine one_ (i := 4) (N := some 37) qSb12 rfl rfl (qS70) (by decide) (fun K hK => ?_)
            refine zM (Kd.int .i64) (w0 := w) w.heap.size (by rfl) (.tmp 33) (.tmp 36) 25 3 (.int .i64 0) 8 rfl Try.underlying25 info3 rfl (by decide) (by omega) v489 y488 (l0.take (x5_1 : Int).toNat) _ _ _ (fun k_ => some k_ ≠ (v496 : Value).ownBlock) (fun _ => False) rfl rfl ?aO ?aR (fun _ _ h => h) (fun _ h => h.elim) ?aF ?aB ?aS ?aL ?_
            (case aR => exact (qS65 HR491.1))
            (case aB => exact (qS0))
            (case aF => exact (qS73 HO497.1))
            (case aO => exact (qS29 HO490.1))
            (case aS => exact (qS82))
            (case aL => exact (qS76 LMc28.1))
            intro v493 w40 ho hb hg hat; rw [← Ny492.1] at ho; replace HO497 := za (qS79 HO497.1); replace HB := za hb; have HO494 := za ho; clear HO490; clear ho hb hg hat
            refine hK.out _ _ trivial (fun hHeld => ?_)
            clear hK K
            refine norm_ (a' := ?_) ?_ ?_
            rotate_left
            ·exact qS8_c1
            exact norm_ (qS37) (hCont (v489, v493, v496) _ ⟨(qS1 HO494.1), (qS29 HO497.1), (qS0)⟩)
          ·skip
           refine Kd.R_lit_step (Kd.int .i64) _ 3 ?hg (N := 39) ?hd (xs := ([a1] : List Int)) (inner := [.int .i64 a1]) (ok := fun _ => True) (okp := fun _ => True) ?hr ?hp (fun _ hk => hk) trivial (zs _ _) (zo _) (by simp) ?_; (case hd | hg => rfl); (case hr => exact (qS26)); (case hp => exact (qS50))
           intro v496 w36 ho37 hb hg_ hnew_; clear hg_ hnew_
           (first | rw [← Ny495.1] at ho37 | (simp only [Int.reduceToNat] at ho37; rw [← Ny495.1] at ho37))
           have HO497 := za (qS77 ho37); replace HB := za qS64; clear hb ho37
           refine hK.out _ _ trivial (fun hHeld => ?_)
           clear hK K
           refine norm_ (a' := ?_) ?_ ?_
           rotate_left
           ·exact qS8_c2
           refine one_ (i := 0) (N := some 33) qSb16 rfl rfl (qS70) (by decide) (fun K hK => ?_)
           refine Kd.R_lit_step (Kd.int .i64) _ 3 ?hg (N := 33) ?hd (xs := ([] : List Int)) (inner := []) (ok := fun _ => True) (okp := fun _ => True) ?hr ?hp (fun _ hk => hk) trivial (zs _ _) (zo _) (by simp) ?_; (case hd | hg => rfl); (case hr => exact (qS26)); (case hp => exact (zu _ _))
           intro v489 w38 ho39 hb hg_ hnew_; clear hg_ hnew_
           (first | rw [← Ny488.1] at ho39 | (simp only [Int.reduceToNat] at ho39; rw [← Ny488.1] at ho39))
           have HO490 := za (qS75 ho39 HO497.1); replace HO497 := za (qS67 HO497.1 ho39); replace HB := za qS64; clear hb ho39
           refine hK.out _ _ trivial (fun hHeld => ?_)
           clear hK K
           refine norm_ (a' := ?_) ?_ ?_
           rotate_left
           ·exact qS8_c4
           refine one_ (i := 4) (N := some 37) qSb12 rfl rfl (qS70) (by decide) (fun K hK => ?_)
           refine zM (Kd.int .i64) (w0 := w) w.heap.size (by rfl) (.tmp 33) (.tmp 36) 25 3 (.int .i64 0) 8 rfl Try.underlying25 info3 rfl (by decide) (by omega) v489 y488 (l0.take (x5_1 : Int).toNat) _ _ _ (fun k_ => some k_ ≠ (v496 : Value).ownBlock) (fun _ => False) rfl rfl ?aO ?aR (fun _ _ h => h) (fun _ h => h.elim) ?aF ?aB ?aS ?aL ?_
           (case aR => exact (qS65 HR491.1))
           (case aB => exact (qS0))
           (case aF => exact (qS73 HO497.1))
           (case aO => exact (qS29 HO490.1))
           (case aS => exact (qS82))
           (case aL => exact (qS76 LMc28.1))
           intro v493 w40 ho hb hg hat; rw [← Ny492.1] at ho; replace HO497 := za (qS79 HO497.1); replace HB := za hb; have HO494 := za ho; clear HO490; clear ho hb hg hat
           refine hK.out _ _ trivial (fun hHeld => ?_)
           clear hK K
           refine norm_ (a' := ?_) ?_ ?_
           rotate_left
           ·exact qS8_c1
           exact norm_ (qS37) (hCont (v489, v493, v496) _ ⟨(qS1 HO494.1), (qS29 HO497.1), (qS0)⟩)
         rintro ⟨v489, v493, v496⟩ w41 ⟨h0_, h1_, h2_⟩
         have HO494 : Aside0 (Kd.R (Kd.int .i64) 3 w41 w.heap.size (fun k_ => some k_ ≠ (v496 : Value).ownBlock) v493 y492) := ⟨h0_⟩; have HO497 : Aside0 (Kd.R (Kd.int .i64) 3 w41 w.heap.size (fun k_ => some k_ ≠ (v493 : Value).ownBlock) v496 y495) := ⟨h1_⟩; replace HB : Aside0 (Below w.heap.size w w41) := ⟨h2_⟩; clear h0_ h1_ h2_; have hHeld := trivial; obtain ⟨Ao43, co43, eo43⟩ := zI HO497.1
         (first | subst eo43 | (injection eo43 with f1_ f2_ f3_; have f4_ := f1_.symm; have f5_ := f3_.symm; clear f1_ f2_ f3_; subst f4_; subst f5_))
         refine norm_ (a' := ?_) ?_ ?_
         rotate_left
         ·simp only [putAll, Act.put, yf, yg, yh]
          rfl
         refine one_ (i := 7) (N := some 40) qSb17 rfl rfl (qS70) (by decide) (fun K hK => ?_)
         refine zM (Kd.int .i64) (w0 := w) w.heap.size (by rfl) (.tmp 37) (.tmp 39) 25 3 (.int .i64 0) 8 rfl Try.underlying25 info3 rfl (by decide) (by omega) v493 y492 y495 _ _ _ (fun k_ => some k_ ≠ (.slice Ao43 y495.length co43 : Value).ownBlock) (fun _ => False) rfl rfl ?aO ?aR (fun _ _ h => h) (fun _ h => h.elim) ?aF ?aB ?aS ?aL ?_
         (case aR => exact (qS7 HO497.1))
         (case aB => exact (qS0))
         (case aF => exact (qS73 HO497.1))
         (case aO => exact (qS1 HO494.1))
         (case aS => exact (qS82))
         (case aL => have := LMc29.1; omega)
         intro v499 w42 ho hb hg hat; rw [← Ny498.1] at ho; replace HO497 := za (qS46 HO497.1); replace HB := za hb; have HO500 := za ho; clear HO494; clear ho hb hg hat
         refine hK.out _ _ trivial (fun hHeld => ?_)
         clear hK K
         refine norm_ (a' := ?_) ?_ ?_
         rotate_left
         ·show Act.put _ (some 40) _ = _
          simp only [Act.put, yf, yg, yh, i64_w, i32_w]
          rfl
         refine one_ (i := 11) (N := some 44) qSb18 rfl rfl (qS70) (by decide) (fun K hK => ?_)
         refine zM (Kd.int .i64) (w0 := w) w.heap.size (by rfl) (.tmp 40) (.tmp 43) 25 3 (.int .i64 0) 8 rfl Try.underlying25 info3 rfl (by decide) (by omega) v499 y498 (l0.drop (x5_1 : Int).toNat) _ _ _ (fun k_ => some k_ ≠ (.slice Ao43 y495.length co43 : Value).ownBlock) (fun _ => False) rfl rfl ?aO ?aR (fun _ _ h => h) (fun _ h => h.elim) ?aF ?aB ?aS ?aL ?_
         (case aR => exact (qS51 HR501.1))
         (case aB => exact (qS0))
         (case aF => exact (qS73 HO497.1))
         (case aO => exact (qS1 HO500.1))
         (case aS => exact (qS82))
         (case aL => exact (by have := LMc32.1; have hlx_ := (show (l0.drop (x5_1 : Int).toNat).length = (l0.length - x5_1.toNat) from List.length_drop); omega))
         intro v503 w44 ho hb hg hat; rw [← Ny502.1] at ho; replace HO497 := za (qS79 HO497.1); replace HB := za hb; have HO504 := za ho; clear HO500; clear ho hb hg hat
         refine hK.out _ _ trivial (fun hHeld => ?_)
         clear hK K
         refine norm_ (a' := ?_) ?_ ?_
         rotate_left
         ·show Act.put _ (some 44) _ = _
          simp only [Act.put, yf, yg, yh, i64_w, i32_w]
          rfl
         refine pure_ (i := 12) (N := some 4) (v := ?_) (a' := ?_) qSb19 rfl rfl (qS24) (fun _ _ _ h => h) (zY ⟨by rfl, ?_⟩) ?_ ?_
         rotate_left; exact qS8_c3; rotate_left; exact qS8_c0
         refine done_ (qS88) ?_
         try go_wp2
         go_ret
         exact ⟨_, (qS11), (qS32 HO504.1), (qS0)⟩
        ·rw [yc c32] at H
         exact absurd H (by simp)
       ·rw [yc c29] at H
        exact absurd H (by simp)
      ·rw [yc c28] at H
       exact absurd H (by simp)
     ·rw [yc c27] at H
      exact absurd H (by simp)
    ·rw [yc c26] at H
     exact absurd H (by simp)
def putHit : List Int → Int → Bool
 | [], _ => false
 | x :: l, n => if x < n then putHit l n else x == n
theorem putHit_at : ∀ {l : List Int} {n : Int}, putHit l n = true → ∃ K, K < l.length ∧ l.getD K 0 = n ∧ ∀ j, j < K → l.getD j 0 < n
 | [], n, h => by simp [putHit] at h
 | x :: l, n, h => by
  simp only [putHit] at h
  split at h
  ·rename_i hlt
   obtain ⟨K, h1, h2, h3⟩ := putHit_at h
   refine ⟨K + 1, by simpa using h1, by simpa using h2, fun j hj => ?_⟩
   cases j with
   | zero => simpa using hlt
   | succ j => simpa using h3 j (by omega)
  ·exact ⟨0, by simp, by simpa using h, fun j hj => by omega⟩
def spec_l1Put.f (k : Nat) (l0 : List Int) (a1 : Int) : Option (List Int) := if putHit l0 a1 = true then some l0 else spec_l1PutNew.f k l0 a1
theorem spec_l1Put.calls (k : Nat) (P0_ : Nat → Prop) (u9000_ : Value) (l0 : List Int) (a1 : Int) (r : List Int) (w0 w : World) (hB : Below w0.heap.size w0 w) (ho0 : Kd.R (Kd.int .i64) 3 w w0.heap.size P0_ u9000_ l0) (h : spec_l1Put.f k l0 a1 = some r) :
  Calls Try.prog 82 #[u9000_, .int .i64 a1] w fun e w' => ∃ v0_ : Value, e = .returned v0_ ∧ Kd.R (Kd.int .i64) 3 w' w0.heap.size (fun k_ => (P0_ k_ ∨ w.heap.size ≤ k_)) v0_ r ∧ Below w0.heap.size w0 w' ∧ Kept w w' (fun k_ => P0_ k_) := by
 obtain ⟨A0, c0, hu, hc0, hr0⟩ := Kd.R_reads ho0
 unfold spec_l1Put.f at h
 by_cases hh : putHit l0 a1 = true
 ·rw [yb hh] at h; obtain rfl := zm h; clear h; obtain ⟨K, hK1, hK2, hK3⟩ := putHit_at hh; have HO := za ho0; have HK := za (And.intro hK1 (And.intro hK2 hK3)); have HR0 := za hr0; have HM := za hr0.2.1; have HBB := za hB; have HU := za hu; clear ho0 hh hK1 hK2 hK3 hr0 hB; rw [hu]; clear hu
  go_enter Try.func82, Try.ntmps82
  go_wp2
  go_loopg [5] (K + 1) (fun kq v5 w' => ∃ x : Int, v5 = .int .i64 x ∧ Aside0 (0 ≤ x ∧ kq + x.toNat = K + 1 ∧ x ≤ (K : Int)) ∧ Aside0 (Below w.heap.size w w'))
  case atStart => exact ⟨0, rfl, ⟨by omega, by simp, by omega⟩, ⟨zs _ _⟩⟩
  case round =>
   obtain ⟨x, rfl, HA, HB⟩ := hrel
   have hlt : x < (l0.length : Int) := by have := HA.1; have := HK.1.1; omega
   have d0 : decide (x < (l0.length : Int)) = true := zc hlt; obtain ⟨ad, e, hx⟩ := zJ (zG HR0.1 HB.1) x HA.1.1 hlt; cases e; have p1 := zw HA.1.1; have q1 := zw hlt; clear hlt
   by_cases hxk : x = (K : Int)
   ·have hrd : rd l0 x = a1 := by rw [hxk]; exact HK.1.2.1
    have d1 : decide (rd l0 x < a1) = false := zv (by omega); have d2 : (rd l0 x == a1) = true := beq_iff_eq.2 hrd; clear hxk hrd
    go_wp2
    go_ret
    exact ⟨_, rfl, by rw [← HU.1]; exact zK (Kd.R_below HO.1 HB.1) (fun _ hk => .inl hk), HBB.1.trans (HB.1.mono HBB.1.size), Kept.of_below HB.1 _⟩
   ·have hrd : rd l0 x < a1 := HK.1.2.2 x.toNat (by have := HA.1; omega); have d1 : decide (rd l0 x < a1) = true := zc hrd; have HX := za hxk; have HRD := za hrd; clear hrd hxk; obtain ⟨k1, rfl⟩ : ∃ k1, gk = k1 + 1 := ⟨gk - 1, by have := HA.1; omega⟩
    go_wp2
    go_roundg k1
    case measure => omega
    case rel => exact ⟨wrap64 (x + 1), rfl, ⟨by have := HA.1; have := HK.1.1; have := HM.1; unfold wrap64; omega, by have := HA.1; have := HK.1.1; have := HM.1; unfold wrap64; omega, by have := HA.1; have := HK.1.1; have := HM.1; have := HX.1; unfold wrap64; omega⟩, HB⟩
 ·rw [yc hh] at h; rw [hu]
  refine (spec_l1PutNew.calls k A0 c0 l0 a1 r w hr0 hc0 h).mono ?_
  rintro e w' ⟨v0_, he, hR, hb⟩
  exact ⟨v0_, he, zK (zP (Kd.R_bound hR) hB.size) (fun _ hk => .inr hk.2.1), hB.trans (hb.mono hB.size), Kept.of_below hb _⟩


mutual
def spec_l15Reach.l0 : Nat → List (S58) → List Int → Int → List Int → Bool → Option (List Int)
 | 0, _, _, _, _, _ => none
 | k + 1, x0, x1, x3, x9, x10 => if x10 = true then (spec_l15Reach.l1 k x0 x1 x3 x9 false 0) else (some x9)
def spec_l15Reach.l1 : Nat → List (S58) → List Int → Int → List Int → Bool → Int → Option (List Int)
 | 0, _, _, _, _, _, _ => none
 | k + 1, x0, x1, x3, x9, x10, x11 => if x11 < (x0.length : Int) then (if 0 ≤ x11 then (if x11 < (x1.length : Int) then (if (rd x1 x11) < x3 then (spec_l15Reach.j2 k x0 x1 x3 x9 x10 x11 ((rd_T58 x0 x11).f0) ((rd_T58 x0 x11).f1) true) else ((spec_l1Has.f k x9 ((rd_T58 x0 x11).f0)).bind fun t511 => ((spec_l1Has.f k x9 ((rd_T58 x0 x11).f1)).bind fun t512 => (spec_l15Reach.j2 k x0 x1 x3 x9 x10 x11 ((rd_T58 x0 x11).f0) ((rd_T58 x0 x11).f1) (t511 == t512))))) else (none)) else (none)) else (spec_l15Reach.l0 k x0 x1 x3 x9 x10)
def spec_l15Reach.j2 : Nat → List (S58) → List Int → Int → List Int → Bool → Int → Int → Int → Bool → Option (List Int)
 | 0, _, _, _, _, _, _, _, _, _ => none
 | k + 1, x0, x1, x3, x9, x10, x11, x12, x13, x47 => if x47 = true then (spec_l15Reach.l1 k x0 x1 x3 x9 x10 (wrap64 (x11 + 1))) else ((spec_l1Put.f k x9 x12).bind fun t513 => ((spec_l1Put.f k t513 x13).bind fun t516 => (spec_l15Reach.l1 k x0 x1 x3 t516 true (wrap64 (x11 + 1)))))
end
def spec_l15Reach.f (k : Nat) (l0 : List (S58)) (l1 : List Int) (a2 : Int) (a3 : Int) : Option (List Int) := spec_l15Reach.l0 k l0 l1 a3 (([a2] : List Int)) true
theorem spec_l15Reach.calls (k : Nat) (A0 : Option Addr) (c0 : Nat) (l0 : List (S58)) (A1 : Option Addr) (c1 : Nat) (l1 : List Int) (a2 : Int) (a3 : Int) (r : List Int) (w : World) (hr0 : Kd.C k58 w A0 l0.length l0) (hc0 : l0.length ≤ c0) (hr1 : Kd.C (Kd.int .i64) w A1 l1.length l1) (hc1 : l1.length ≤ c1) (h : spec_l15Reach.f k l0 l1 a2 a3 = some r) :
  Calls Try.prog 63 #[.slice A0 l0.length c0, .slice A1 l1.length c1, .int .i64 a2, .int .i64 a3] w fun e w' => ∃ v0_ : Value, e = .returned (v0_) ∧ Kd.R (Kd.int .i64) 3 w' w.heap.size (fun _ => True) v0_ r ∧ Below w.heap.size w w' := by
 have HR0 := za hr0; have HC0 := za hc0; clear hr0 hc0; have HR1 := za hr1; have HC1 := za hc1; clear hr1 hc1; have HB := za (zs w.heap.size w); have H : (spec_l15Reach.l0 k l0 l1 a3 (([a2] : List Int)) true) = some r := h; clear h; obtain ⟨y505, hy505⟩ : ∃ y_ : List Int, y_ = (([a2] : List Int)) := ⟨_, rfl⟩; replace H : (spec_l15Reach.l0 k l0 l1 a3 y505 true) = some r := (qS4 hy505); have Ny505 := za hy505; clear hy505; have H' := za H; clear H
 go_enter Try.func63, Try.ntmps63
 go_wp2_with (first | ((with_reducible refine zq (N := 15) rfl ?_); refine zQ (Kd.int .i64) _ 3 ?hg (N := 15) ?hd (xs := ([a2] : List Int)) (inner := [.int .i64 a2]) (ok := fun _ => True) (okp := fun _ => True) ?hr ?hp (fun _ hk => hk) trivial (zs _ _) (zo _) (by simp) ?_; (case hd | hg => rfl); (case hr => exact (qS26)); (case hp => exact (by exact (zt (show Kd.M (Kd.int .i64) _ _ _ a2 [.int .i64 a2] from rfl) (zu _ _)))); intro v506 w5 ho6 hb hg_ hnew_; clear hg_ hnew_; (first | rw [← Ny505.1] at ho6 | (simp only [Int.reduceToNat] at ho6; rw [← Ny505.1] at ho6)); have HO507 := za (qS77 ho6); replace HB := za qS64; clear hb ho6))
 go_loopg [9, 10] k (fun kq v9 v10 w' => ∃ (x9_1 : List Int) (x10_1 : Bool), v10 = .bool x10_1 ∧ Aside0 (spec_l15Reach.l0 kq l0 l1 a3 x9_1 x10_1 = some r) ∧ Aside0 (kq ≤ k) ∧ Aside0 (Kd.R (Kd.int .i64) 3 w' w.heap.size (fun _ => True) v9 x9_1) ∧ Aside0 (Below w.heap.size w w'))
 case atStart => exact ⟨(y505), (true), (qS16), H', ⟨zo _⟩, ⟨(qS1 HO507.1)⟩, ⟨(qS0)⟩⟩
 case round =>
  clear H'; (try clear c1); (try clear p2); (try clear c6); obtain ⟨x9_1, x10_1, rfl, HA, HK1, HO_9, HB⟩ := hrel
  cases gk with
  | zero => exact absurd HA.1 (by simp [spec_l15Reach.l0])
  | succ k1 =>
   have H := HA.1; clear HA; simp only [spec_l15Reach.l0] at H
   by_cases c7 : x10_1 = true
   ·subst c7; rw [yb rfl] at H; have H' := za H; clear H
    go_wp2
    repeat (go_quiet (fail); try go_wp2)
    go_loopg [9, 10, 11] k1 (fun kq v9 v10 v11 w' => ∃ (x9_2 : List Int) (x10_2 : Bool) (x11_2 : Int), v10 = .bool x10_2 ∧ v11 = .int .i64 x11_2 ∧ Aside0 (spec_l15Reach.l1 kq l0 l1 a3 x9_2 x10_2 x11_2 = some r) ∧ Aside0 (kq ≤ k1) ∧ Aside0 (Kd.R (Kd.int .i64) 3 w' w.heap.size (fun _ => True) v9 x9_2) ∧ Aside0 (Below w.heap.size w w'))
    case atStart => exact ⟨(x9_1), (false), (0), (qS16), (qS16), H', ⟨zo _⟩, ⟨(qS1 HO_9.1)⟩, ⟨(qS0)⟩⟩
    case round =>
     clear H'; (try clear c1); (try clear p2); (try clear c6); (try clear c7); (try clear p2); obtain ⟨x9_2, x10_2, x11_2, rfl, rfl, HA, HK2, HO_9, HB⟩ := hrel
     cases gk with
     | zero => exact absurd HA.1 (by simp [spec_l15Reach.l1])
     | succ k2 =>
      have H := HA.1; clear HA; simp only [spec_l15Reach.l1] at H
      by_cases c8 : x11_2 < (l0.length : Int)
      ·rw [yb c8] at H; have c8b0 : decide (x11_2 < (l0.length : Int)) = true := zc c8; clear c8
       by_cases c9 : 0 ≤ x11_2
       ·rw [yb c9] at H; have c9b0 : decide (0 ≤ x11_2) = true := zc c9; clear c9; have HC10 := za H; clear H; have p508 : 0 ≤ (x11_2 : Int) := zb (qS8); have q508 : x11_2 < (l0.length : Int) := zb (qS8); obtain ⟨ad508, e508, hx508_0, hx508_1, hx508_2, hx508_3, hx508_4⟩ := at_T58 HR0.1 x11_2 p508 q508; cases e508; replace hx508_0 := (HB.1.cell (zd w _ hx508_0)).trans hx508_0; replace hx508_1 := (HB.1.cell (zd w _ hx508_1)).trans hx508_1; replace hx508_2 := (HB.1.cell (zd w _ hx508_2)).trans hx508_2; replace hx508_3 := (HB.1.cell (zd w _ hx508_3)).trans hx508_3; replace hx508_4 := (HB.1.cell (zd w _ hx508_4)).trans hx508_4; replace p508 := zw p508; replace q508 := zw q508; have p509 : 0 ≤ (x11_2 : Int) := zb (qS8); have q509 : x11_2 < (l0.length : Int) := zb (qS8); obtain ⟨ad509, e509, hx509_0, hx509_1, hx509_2, hx509_3, hx509_4⟩ := at_T58 HR0.1 x11_2 p509 q509; obtain rfl : ad508 = ad509 := (by injection e509); replace hx509_0 := (HB.1.cell (zd w _ hx509_0)).trans hx509_0; replace hx509_1 := (HB.1.cell (zd w _ hx509_1)).trans hx509_1; replace hx509_2 := (HB.1.cell (zd w _ hx509_2)).trans hx509_2; replace hx509_3 := (HB.1.cell (zd w _ hx509_3)).trans hx509_3; replace hx509_4 := (HB.1.cell (zd w _ hx509_4)).trans hx509_4
        replace p509 := zw p509; replace q509 := zw q509
        go_upto_region 9 with (fail)
        repeat (go_quiet (fail); go_upto_region 9 with (fail))
        go_cut [47] (fun v47 wc => ∃ (kq : Nat) (x47_9 : Bool), v47 = .bool x47_9 ∧ Aside0 (spec_l15Reach.j2 kq l0 l1 a3 x9_2 x10_2 x11_2 ((rd_T58 l0 x11_2).f0) ((rd_T58 l0 x11_2).f1) x47_9 = some r) ∧ Aside0 (kq ≤ k2) ∧ Aside0 (Kd.R (Kd.int .i64) 3 wc w.heap.size (fun _ => True) u9 x9_2) ∧ Aside0 (Below w.heap.size w wc))
        case first =>
         have H := HC10.1; clear HC10
         by_cases c11 : x11_2 < (l1.length : Int)
         ·rw [yb c11] at H; have c11b0 : decide (x11_2 < (l1.length : Int)) = true := zc c11; clear c11
          (first | rw [c11b0] | (simp only [i64_w, i32_w]; rw [c11b0]) | skip)
          by_cases c12 : (rd l1 x11_2) < a3
          ·rw [yb c12] at H; have c12b0 : decide ((rd l1 x11_2) < a3) = true := zc c12; clear c12; have H' := za H; clear H; have p510 : 0 ≤ (x11_2 : Int) := zb (qS8); have q510 : x11_2 < (l1.length : Int) := zb (qS8); obtain ⟨ad510, e510, hx510_0⟩ := zJ HR1.1 x11_2 p510 q510; cases e510; replace hx510_0 := (HB.1.cell (zd w _ hx510_0)).trans hx510_0; replace p510 := zw p510; replace q510 := zw q510
           go_wp2
           repeat (go_quiet (fail); try go_wp2)
           go_meet
           case rel => exact ⟨_, (true), (qS16), H', ⟨by have := HK1.1; have := HK2.1; first | omega | exact zo _⟩, ⟨(qS1 HO_9.1)⟩, ⟨(qS0)⟩⟩
          ·rw [yc c12] at H; have c12b0 : decide ((rd l1 x11_2) < a3) = false := zv c12; clear c12; replace H := bindA H; obtain ⟨t511, A13, H⟩ := H; (try dsimp only at H); replace H := bindA H; obtain ⟨t512, A14, H⟩ := H; (try dsimp only at H); have H' := za H; clear H; have p510 : 0 ≤ (x11_2 : Int) := zb (qS8); have q510 : x11_2 < (l1.length : Int) := zb (qS8); obtain ⟨ad510, e510, hx510_0⟩ := zJ HR1.1 x11_2 p510 q510; cases e510; replace hx510_0 := (HB.1.cell (zd w _ hx510_0)).trans hx510_0; replace p510 := zw p510; replace q510 := zw q510; obtain ⟨Ao15, co15, eo15⟩ := zI HO_9.1; subst eo15
           go_wp2_with (first | (go_at_call 71; (with_reducible refine (spec_l1Has.calls k2 _ _ x9_2 ((rd_T58 l0 x11_2).f0) t511 _ ?s1 ?s2 A13.1).mono ?_); (case s1 => exact (qS7 HO_9.1)); (case s2 => exact (qS38 HO_9.1)); rintro e w' ⟨rfl, ⟨nd, rfl⟩⟩; (try first | exact ⟨rfl, _, zS _ _ _⟩ | exact ⟨rfl, _, Eq.trans (zS _ _ _) (congrArg (World.drewN _) (Nat.add_assoc _ _ _))⟩)) | (go_at_call 71; (with_reducible refine (spec_l1Has.calls k2 _ _ x9_2 ((rd_T58 l0 x11_2).f1) t512 _ ?s1 ?s2 A14.1).mono ?_); (case s1 => exact (qS7 HO_9.1)); (case s2 => exact (qS38 HO_9.1)); rintro e w' ⟨rfl, ⟨nd, rfl⟩⟩; (try first | exact ⟨rfl, _, zS _ _ _⟩ | exact ⟨rfl, _, Eq.trans (zS _ _ _) (congrArg (World.drewN _) (Nat.add_assoc _ _ _))⟩)))
           go_meet
           case rel => exact ⟨_, ((t511 == t512)), (qS16), H', ⟨by have := HK1.1; have := HK2.1; first | omega | exact zo _⟩, ⟨(qS1 HO_9.1)⟩, ⟨(qS0)⟩⟩
         ·rw [yc c11] at H
          exact absurd H (by simp)
        case rest =>
         clear HC10; (try clear c1); (try clear p2); (try clear p5); (try clear q5); (try clear hx5); (try clear c6); (try clear c7); (try clear c8); (try clear c8b0); (try clear c9); (try clear c9b0); (try clear c11); (try clear c11b0); (try clear c12); (try clear c12b0); (try clear hx508_0); (try clear hx508_1); (try clear hx508_2); (try clear hx508_3); (try clear hx508_4); (try clear hx509_0); (try clear hx509_1); (try clear hx509_2); (try clear hx509_3); (try clear hx509_4); (try clear hx510_0); (try clear p2); (try clear p508); (try clear p509); (try clear p510); (try clear q508); (try clear q509); (try clear q510); obtain ⟨kq, x47_9, rfl, HA, HJ9, HO_9, HB⟩ := hcut
         cases kq with
         | zero => exact absurd HA.1 (by simp [spec_l15Reach.j2])
         | succ kj9 =>
          have H := HA.1; clear HA; simp only [spec_l15Reach.j2] at H
          by_cases c16 : x47_9 = true
          ·subst c16; rw [yb rfl] at H; have H' := za H; clear H
           go_wp2
           repeat (go_quiet (fail); try go_wp2)
           go_roundg kj9
           case measure => have := HK1.1; have := HK2.1; have := HJ9.1; omega
           case rel => exact ⟨(x9_2), (x10_2), (wrap64 (x11_2 + 1)), (qS16), (qS16), H', ⟨by have := HK1.1; have := HK2.1; have := HJ9.1; omega⟩, ⟨(qS1 HO_9.1)⟩, ⟨(qS0)⟩⟩
          ·replace c16 := zn c16; subst c16; rw [yc (show ¬ (false = true) by decide)] at H; replace H := bindA H; obtain ⟨t513, A17, H⟩ := H; (try dsimp only at H); replace H := bindA H; obtain ⟨t516, A18, H⟩ := H; (try dsimp only at H); have H' := za H; clear H; obtain ⟨Ao19, co19, eo19⟩ := zI HO_9.1; subst eo19
           go_wp2_with (first | (go_at_call 82; (with_reducible refine (spec_l1Put.calls kj9 (fun k_ => some k_ = (.slice Ao19 x9_2.length co19 : Value).ownBlock) (.slice Ao19 x9_2.length co19) x9_2 ((rd_T58 l0 x11_2).f0) t513 w _ ?s1 ?s2 A17.1).mono ?_); (case s1 => exact (qS0)); (case s2 => exact Kd.R_tight rfl HO_9.1); rintro e w20 ⟨v514, rfl, ho0, hb, hkp⟩; have HO515 := za (zK (ok' := fun k_ => True) ho0 (fun k_ hk_ => trivial)); replace HB := za hb; clear HO_9; (try clear hb); (try clear hkp); (try clear ho0); obtain ⟨Ao21, co21, eo21⟩ := zI HO515.1; subst eo21) | (go_at_call 82; (with_reducible refine (spec_l1Put.calls kj9 (fun k_ => some k_ = (.slice Ao21 t513.length co21 : Value).ownBlock) (.slice Ao21 t513.length co21) t513 ((rd_T58 l0 x11_2).f1) t516 w _ ?s1 ?s2 A18.1).mono ?_); (case s1 => exact (qS0)); (case s2 => exact (by exact Kd.R_tight rfl HO515.1)); rintro e w22 ⟨v517, rfl, ho0, hb, hkp⟩; have HO518 := za (zK (ok' := fun k_ => True) ho0 (fun k_ hk_ => trivial)); replace HB := za hb; clear HO515; (try clear hb); (try clear hkp); (try clear ho0)))
           go_roundg kj9
           case measure => have := HK1.1; have := HK2.1; have := HJ9.1; omega
           case rel => exact ⟨(t516), (true), (wrap64 (x11_2 + 1)), (qS16), (qS16), H', ⟨by have := HK1.1; have := HK2.1; have := HJ9.1; omega⟩, ⟨(qS1 HO518.1)⟩, ⟨(qS0)⟩⟩
       ·rw [yc c9] at H
        exact absurd H (by simp)
      ·rw [yc c8] at H; have c8b0 : decide (x11_2 < (l0.length : Int)) = false := zv c8; clear c8; have H' := za H; clear H
       go_wp2
       repeat (go_quiet (fail); try go_wp2)
       go_roundg k2
       case measure => have := HK1.1; have := HK2.1; omega
       case rel => exact ⟨(x9_2), (x10_2), (qS16), H', ⟨by have := HK1.1; have := HK2.1; omega⟩, ⟨(qS1 HO_9.1)⟩, ⟨(qS0)⟩⟩
   ·replace c7 := zn c7; subst c7; rw [yc (show ¬ (false = true) by decide)] at H; obtain rfl := zm H
    go_wp2
    repeat (go_quiet (fail); try go_wp2)
    go_ret
    exact ⟨_, (qS11), (qS1 HO_9.1), (qS0)⟩

def spec_l15Greatest.l0 : Nat → List (S58) → List Int → Int → Int → Int → Option (Int)
 | 0, _, _, _, _, _ => none
 | k + 1, x0, x1, x2, x3, x9 => if x9 ≥ 0 then ((spec_l15Reach.f k x0 x1 x2 x9).bind fun t519 => ((spec_l1Has.f k t519 x3).bind fun t522 => (if t522 = true then (some x9) else (spec_l15Greatest.l0 k x0 x1 x2 x3 (wrap64 (x9 - 1)))))) else (some (-1))
def spec_l15Greatest.f (k : Nat) (l0 : List (S58)) (l1 : List Int) (a2 : Int) (a3 : Int) : Option (Int) := spec_l15Greatest.l0 k l0 l1 a2 a3 200
theorem spec_l15Greatest.calls (k : Nat) (A0 : Option Addr) (c0 : Nat) (l0 : List (S58)) (A1 : Option Addr) (c1 : Nat) (l1 : List Int) (a2 : Int) (a3 : Int) (r : Int) (w : World) (hr0 : Kd.C k58 w A0 l0.length l0) (hc0 : l0.length ≤ c0) (hr1 : Kd.C (Kd.int .i64) w A1 l1.length l1) (hc1 : l1.length ≤ c1) (h : spec_l15Greatest.f k l0 l1 a2 a3 = some r) :
  Calls Try.prog 47 #[.slice A0 l0.length c0, .slice A1 l1.length c1, .int .i64 a2, .int .i64 a3] w fun e w' => e = .returned (.int .i64 r) ∧ Below w.heap.size w w' := by
 have HR0 := za hr0; have HC0 := za hc0; clear hr0 hc0; have HR1 := za hr1; have HC1 := za hc1; clear hr1 hc1; have HB := za (zs w.heap.size w); have H : (spec_l15Greatest.l0 k l0 l1 a2 a3 200) = some r := h; clear h; have H' := za H; clear H
 go_enter Try.func47, Try.ntmps47
 go_wp2
 go_loopg [9] k (fun kq v9 w' => ∃ (x9_1 : Int), v9 = .int .i64 x9_1 ∧ Aside0 (spec_l15Greatest.l0 kq l0 l1 a2 a3 x9_1 = some r) ∧ Aside0 (kq ≤ k) ∧ Aside0 (Below w.heap.size w w'))
 case atStart => exact ⟨(200), (qS16), H', ⟨zo _⟩, ⟨(qS0)⟩⟩
 case round =>
  clear H'; (try clear c1); (try clear p2); (try clear c4); obtain ⟨x9_1, rfl, HA, HK1, HB⟩ := hrel
  cases gk with
  | zero => exact absurd HA.1 (by simp [spec_l15Greatest.l0])
  | succ k1 =>
   have H := HA.1; clear HA; simp only [spec_l15Greatest.l0] at H
   by_cases c5 : x9_1 ≥ 0
   ·rw [yb c5] at H; have c5b0 : decide (0 ≤ x9_1) = true := zc c5; clear c5; replace H := bindA H; obtain ⟨t519, A6, H⟩ := H; (try dsimp only at H); replace H := bindA H; obtain ⟨t522, A7, H⟩ := H; (try dsimp only at H)
    by_cases c8 : t522 = true
    ·subst c8; rw [yb rfl] at H; obtain rfl := zm H
     go_wp2_with (first | ((with_reducible refine zp (f := 63) rfl ?_); refine zV (some 18) rfl rfl Try.func63 (qS27) rfl #[.slice A0 l0.length c0, .slice A1 l1.length c1, .int .i64 a2, .int .i64 x9_1] rfl (qS2) ?_; (with_reducible refine (spec_l15Reach.calls k1 _ _ l0 _ _ l1 a2 x9_1 t519 _ ?s1 ?s2 ?s3 ?s4 A6.1).mono ?_); (case s1 => exact (qS13 HR0.1)); (case s2 => exact HC0.1); (case s3 => exact (qS13 HR1.1)); (case s4 => exact HC1.1); rintro e w9 ⟨v520, rfl, ho0, hb⟩; refine ⟨_, rfl, ?_⟩; have HO521 := za (qS77 ho0); replace HB := za qS64; clear hb ho0; obtain ⟨Ao10, co10, eo10⟩ := zI HO521.1; subst eo10) | ((with_reducible refine zp (f := 71) rfl ?_); refine zV (some 20) rfl rfl Try.func71 (qS27) rfl #[.slice Ao10 t519.length co10, .int .i64 a3] rfl (qS2) ?_; (with_reducible refine (spec_l1Has.calls k1 _ _ t519 a3 true _ ?s1 ?s2 A7.1).mono ?_); (case s1 => exact (qS7 HO521.1)); (case s2 => exact (qS38 HO521.1)); rintro e w' ⟨rfl, ⟨nd, rfl⟩⟩; refine ⟨_, rfl, ?_⟩))
     go_ret
     exact ⟨(qS11), (qS0)⟩
    ·replace c8 := zn c8; subst c8; rw [yc (show ¬ (false = true) by decide)] at H; have H' := za H; clear H
     go_wp2_with (first | ((with_reducible refine zp (f := 63) rfl ?_); refine zV (some 18) rfl rfl Try.func63 (qS27) rfl #[.slice A0 l0.length c0, .slice A1 l1.length c1, .int .i64 a2, .int .i64 x9_1] rfl (qS2) ?_; (with_reducible refine (spec_l15Reach.calls k1 _ _ l0 _ _ l1 a2 x9_1 t519 _ ?s1 ?s2 ?s3 ?s4 A6.1).mono ?_); (case s1 => exact (qS13 HR0.1)); (case s2 => exact HC0.1); (case s3 => exact (qS13 HR1.1)); (case s4 => exact HC1.1); rintro e w11 ⟨v520, rfl, ho0, hb⟩; refine ⟨_, rfl, ?_⟩; have HO521 := za (qS77 ho0); replace HB := za qS64; clear hb ho0; obtain ⟨Ao12, co12, eo12⟩ := zI HO521.1; subst eo12) | ((with_reducible refine zp (f := 71) rfl ?_); refine zV (some 20) rfl rfl Try.func71 (qS27) rfl #[.slice Ao12 t519.length co12, .int .i64 a3] rfl (qS2) ?_; (with_reducible refine (spec_l1Has.calls k1 _ _ t519 a3 false _ ?s1 ?s2 A7.1).mono ?_); (case s1 => exact (qS7 HO521.1)); (case s2 => exact (qS38 HO521.1)); rintro e w' ⟨rfl, ⟨nd, rfl⟩⟩; refine ⟨_, rfl, ?_⟩))
     go_roundg k1
     case measure => have := HK1.1; omega
     case rel => exact ⟨(wrap64 (x9_1 - 1)), (qS16), H', ⟨by have := HK1.1; omega⟩, ⟨(qS0)⟩⟩
   ·rw [yc c5] at H; have c5b0 : decide (0 ≤ x9_1) = false := zv c5; clear c5; obtain rfl := zm H
    go_wp2
    go_ret
    exact ⟨(qS11), (qS0)⟩

end Go.Proofs.Ytoljdjgndogegaa.MS
