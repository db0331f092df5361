-- Written by a program of this session (wip/drv.py, wip/tight2.py). -- tight2
import Derived.Test.YtoljdjgndogegaaMRx0
import Derived.Test.YtoljdjgndogegaaMRx7
namespace Go.Proofs.Ytoljdjgndogegaa.MR
open Go.RowKit Go.Proofs.YtoljdjgndogegaaW.PrintWords Go.Proofs.YtoljdjgndogegaaW.PrintLast
set_option maxHeartbeats 8000000
set_option maxRecDepth 100000
theorem qR9_c0 {p : Prop} (h : p := by
  simp only [Act.put, List.setIfInBounds_toArray, List.set_cons_zero, List.set_cons_succ, i64_w, i32_w]
  rfl) : p := h
theorem qR9_c1 {p : Prop} (h : p := by
  show Act.put _ (some 37) _ = _
  simp only [Act.put, List.setIfInBounds_toArray, List.set_cons_zero, List.set_cons_succ, i64_w, i32_w]
  rfl) : p := h
theorem qR9_c2 {p : Prop} (h : p := by
  show Act.put _ (some 39) _ = _
  simp only [Act.put, List.setIfInBounds_toArray, List.set_cons_zero, List.set_cons_succ, i64_w, i32_w]
  rfl) : p := h
theorem qR9_c3 {p : Prop} (h : p := by
  intro w'
  go_simp
  with_reducible rfl) : p := h
theorem qR9_c4 {p : Prop} (h : p := by
  show Act.put _ (some 33) _ = _
  simp only [Act.put, List.setIfInBounds_toArray, List.set_cons_zero, List.set_cons_succ, i64_w, i32_w]
  rfl) : p := h
attribute [local go_sem] max2_int min2_int max_two min_two   -- for this text's walks alone
set_option linter.unusedVariables false
set_option linter.unusedSimpArgs false

/-! ### spec_l1Put: function 82 (by hand: wip/inj) -/
/-! ### spec_l1PutNew: function 82 -/
def spec_l1PutNew.l0 : Nat → List Int → Int → Int → Option (List Int)
 | 0, _, _, _ => none
 | k + 1, x0, x1, x5 => if x5 < (x0.length : Int) then (if 0 ≤ x5 then (if (rd x0 x5) < x1 then (spec_l1PutNew.l0 k x0 x1 (wrap64 (x5 + 1))) else (if (rd x0 x5) = x1 then (none) else ((some (([] : List Int) : List Int)).bind fun y516 => (if x5 ≤ (x0.length : Int) then (if y516.length + (x0.take (x5 : Int).toNat).length < 17592186044416 then ((some (y516 ++ (x0.take (x5 : Int).toNat) : List Int)).bind fun y520 => ((some (([x1] : List Int) : List Int)).bind fun y523 => (if y520.length + y523.length < 17592186044416 then ((some (y520 ++ y523 : List Int)).bind fun y526 => (if y526.length + (x0.drop (x5 : Int).toNat).length < 17592186044416 then (some (y526 ++ (x0.drop (x5 : Int).toNat))) else (none))) else (none)))) else (none)) else (none))))) else (none)) else ((some (([] : List Int) : List Int)).bind fun y533 => (if 0 ≤ x5 then (if x5 ≤ (x0.length : Int) then (if y533.length + (x0.take (x5 : Int).toNat).length < 17592186044416 then ((some (y533 ++ (x0.take (x5 : Int).toNat) : List Int)).bind fun y537 => ((some (([x1] : List Int) : List Int)).bind fun y540 => (if y537.length + y540.length < 17592186044416 then ((some (y537 ++ y540 : List Int)).bind fun y543 => (if y543.length + (x0.drop (x5 : Int).toNat).length < 17592186044416 then (some (y543 ++ (x0.drop (x5 : Int).toNat))) else (none))) else (none)))) else (none)) else (none)) else (none)))
def spec_l1PutNew.f (k : Nat) (l0 : List Int) (a1 : Int) : Option (List Int) := spec_l1PutNew.l0 k l0 a1 0
theorem spec_l1PutNew.mono_l : ∀ k, (∀ y0 y1 y2, LeO (spec_l1PutNew.l0 k y0 y1 y2) (spec_l1PutNew.l0 (k + 1) y0 y1 y2))
 | 0 => fun _ _ _ r h => by simp [spec_l1PutNew.l0] at h
 | k + 1 => by
  have ih0 := spec_l1PutNew.mono_l k
  ·intro y0 y1 y2
   unfold spec_l1PutNew.l0
   exact qmono
theorem spec_l1PutNew.mono : ∀ a0 a1 k, LeO (spec_l1PutNew.f k a0 a1) (spec_l1PutNew.f (k + 1) a0 a1) := by
 intro a0 a1 k; have ih0 := spec_l1PutNew.mono_l k
 unfold spec_l1PutNew.f
 exact qmono
def spec_l1PutNew.T6 : Bool × List (List Nat × List Nat) := (true, [([], []), ([], []), ([], []), ([1, 2], [1, 2]), ([0, 3], [0, 3]), ([], []), ([5], [5]), ([4, 6, 4], [4, 6]), ([], []), ([], []), ([8, 9], [8, 9]), ([7, 10, 7], [7, 10]), ([11, 11, 0, 1, 2, 3, 4, 5, 6, 7, 8, 9, 10, 11], [11])])
def spec_l1PutNew.B6 : List Nat := [0, 0, 0, 6, 15, 0, 32, 127, 0, 0, 768, 2047, 4095]
theorem spec_l1PutNew.tab6 : rtab .any (opsOf Try.f82 6) = spec_l1PutNew.T6 := by kernel_rfl
theorem spec_l1PutNew.bits6 : waitsOk spec_l1PutNew.T6.2 spec_l1PutNew.B6 = true := by kernel_rfl
theorem spec_l1PutNew.calls (k : Nat) (A0 : Option Addr) (c0 : Nat) (l0 : List Int) (a1 : Int) (r : List Int) (w : World) (hr0 : Kd.C (Kd.int .i64) w A0 l0.length l0) (hc0 : l0.length ≤ c0) (h : spec_l1PutNew.f k l0 a1 = some r) :
  Calls Try.prog 82 #[.slice A0 l0.length c0, .int .i64 a1] w fun e w' => ∃ v0_ : Value, e = .returned (v0_) ∧ Kd.R (Kd.int .i64) 3 w' w.heap.size (fun _ => True) v0_ r ∧ Below w.heap.size w w' := by
 have HR0 := Aside0.mk hr0; have HC0 := Aside0.mk hc0; clear hr0 hc0; have HB := Aside0.mk (Below.refl w.heap.size w); have H : (spec_l1PutNew.l0 k l0 a1 0) = some r := h; clear h; have H' := Aside0.mk H; clear H
 go_enter Try.func82, Try.ntmps82
 go_wp2
 go_loopg [5] k (fun kq v5 w' => ∃ (x5_1 : Int), v5 = .int .i64 x5_1 ∧ Aside0 (spec_l1PutNew.l0 kq l0 a1 x5_1 = some r) ∧ Aside0 (kq ≤ k) ∧ Aside0 (Below w.heap.size w w'))
 case atStart => exact ⟨(0), (qR12), H', ⟨Nat.le_refl _⟩, ⟨(qR0)⟩⟩
 case round =>
  clear H'; (try clear p2); obtain ⟨x5_1, rfl, HA, HK1, HB⟩ := hrel
  cases gk with
  | zero => exact absurd HA.out (by simp [spec_l1PutNew.l0])
  | succ k1 =>
   have H := HA.out; clear HA; simp only [spec_l1PutNew.l0] at H
   by_cases c3 : x5_1 < (l0.length : Int)
   ·rw [if_pos c3] at H; have c3b0 : decide (x5_1 < (l0.length : Int)) = true := decide_eq_true c3; clear c3
    by_cases c4 : 0 ≤ x5_1
    ·rw [if_pos c4] at H; have c4b0 : decide (0 ≤ x5_1) = true := decide_eq_true c4; clear c4
     by_cases c5 : (rd l0 x5_1) < a1
     ·rw [if_pos c5] at H; have c5b0 : decide ((rd l0 x5_1) < a1) = true := decide_eq_true c5; clear c5; have H' := Aside0.mk H; clear H; have p514 : 0 ≤ (x5_1 : Int) := of_decide_eq_true (qR8); have q514 : x5_1 < (l0.length : Int) := of_decide_eq_true (qR8); obtain ⟨ad514, e514, hx514_0⟩ := Kd.at_int HR0.out x5_1 p514 q514; cases e514; replace hx514_0 := (HB.out.cell (World.block_lt_of_cell? w _ hx514_0)).trans hx514_0; replace p514 := eq_true p514; replace q514 := eq_true q514
      go_wp2
      go_roundg k1
      case measure => have := HK1.out; omega
      case rel => exact ⟨(wrap64 (x5_1 + 1)), (qR12), H', ⟨by have := HK1.out; omega⟩, ⟨(qR0)⟩⟩
     ·rw [if_neg c5] at H; have c5b0 : decide ((rd l0 x5_1) < a1) = false := decide_eq_false c5; clear c5
      by_cases c6 : (rd l0 x5_1) = a1
      ·rw [if_pos c6] at H
       exact absurd H (by simp)
      ·rw [if_neg c6] at H; have c6b0 : ((rd l0 x5_1) == a1) = false := beq_eq_false_iff_ne.mpr c6; have c6b1 : ((rd l0 x5_1) != a1) = true := bne_iff_ne.mpr c6; obtain ⟨y516, hy516⟩ : ∃ y_ : List Int, y_ = (([] : List Int)) := ⟨_, rfl⟩; replace H : (if x5_1 ≤ (l0.length : Int) then (if y516.length + (l0.take (x5_1 : Int).toNat).length < 17592186044416 then ((some (y516 ++ (l0.take (x5_1 : Int).toNat) : List Int)).bind fun y520 => ((some (([a1] : List Int) : List Int)).bind fun y523 => (if y520.length + y523.length < 17592186044416 then ((some (y520 ++ y523 : List Int)).bind fun y526 => (if y526.length + (l0.drop (x5_1 : Int).toNat).length < 17592186044416 then (some (y526 ++ (l0.drop (x5_1 : Int).toNat))) else (none))) else (none)))) else (none)) else (none)) = some r := (qR6 hy516); have Ny516 := Aside0.mk hy516; clear hy516; have c7b0 := eq_true (of_decide_eq_true (qR8) : 0 ≤ x5_1)
       by_cases c8 : x5_1 ≤ (l0.length : Int)
       ·rw [if_pos c8] at H; have c8b0 := eq_true c8; have c8b1 : decide (x5_1 ≤ (l0.length : Int)) = true := decide_eq_true c8; clear c8
        by_cases c9 : y516.length + (l0.take (x5_1 : Int).toNat).length < 17592186044416
        ·rw [if_pos c9] at H; have LMc9 := Aside0.mk c9; clear c9; obtain ⟨y520, hy520⟩ : ∃ y_ : List Int, y_ = (y516 ++ (l0.take (x5_1 : Int).toNat)) := ⟨_, rfl⟩; replace H : ((some (([a1] : List Int) : List Int)).bind fun y523 => (if y520.length + y523.length < 17592186044416 then ((some (y520 ++ y523 : List Int)).bind fun y526 => (if y526.length + (l0.drop (x5_1 : Int).toNat).length < 17592186044416 then (some (y526 ++ (l0.drop (x5_1 : Int).toNat))) else (none))) else (none))) = some r := (qR6 hy520); have Ny520 := Aside0.mk hy520; clear hy520; obtain ⟨y523, hy523⟩ : ∃ y_ : List Int, y_ = (([a1] : List Int)) := ⟨_, rfl⟩; replace H : (if y520.length + y523.length < 17592186044416 then ((some (y520 ++ y523 : List Int)).bind fun y526 => (if y526.length + (l0.drop (x5_1 : Int).toNat).length < 17592186044416 then (some (y526 ++ (l0.drop (x5_1 : Int).toNat))) else (none))) else (none)) = some r := (qR6 hy523); have Ny523 := Aside0.mk hy523; clear hy523
         by_cases c10 : y520.length + y523.length < 17592186044416
         ·rw [if_pos c10] at H; have LMc10 := Aside0.mk c10; clear c10; obtain ⟨y526, hy526⟩ : ∃ y_ : List Int, y_ = (y520 ++ y523) := ⟨_, rfl⟩; replace H : (if y526.length + (l0.drop (x5_1 : Int).toNat).length < 17592186044416 then (some (y526 ++ (l0.drop (x5_1 : Int).toNat))) else (none)) = some r := (qR6 hy526); have Ny526 := Aside0.mk hy526; clear hy526; have c11b0 := eq_true (of_decide_eq_true (qR8) : 0 ≤ x5_1); have c12b0 := eq_true (of_decide_eq_true (qR8) : x5_1 ≤ (l0.length : Int))
          by_cases c13 : y526.length + (l0.drop (x5_1 : Int).toNat).length < 17592186044416
          ·rw [if_pos c13] at H; have LMc13 := Aside0.mk c13; clear c13; obtain ⟨y530, hy530⟩ : ∃ y_ : List Int, y_ = (y526 ++ (l0.drop (x5_1 : Int).toNat)) := ⟨_, rfl⟩; replace H : (some y530) = some r := (qR6 hy530); have Ny530 := Aside0.mk hy530; clear hy530; obtain rfl := Option.some.inj H; have p514 : 0 ≤ (x5_1 : Int) := of_decide_eq_true (qR8); have q514 : x5_1 < (l0.length : Int) := of_decide_eq_true (qR8); obtain ⟨ad514, e514, hx514_0⟩ := Kd.at_int HR0.out x5_1 p514 q514; cases e514; replace hx514_0 := (HB.out.cell (World.block_lt_of_cell? w _ hx514_0)).trans hx514_0; replace p514 := eq_true p514; replace q514 := eq_true q514; have p515 : 0 ≤ (x5_1 : Int) := of_decide_eq_true (qR8); have q515 : x5_1 < (l0.length : Int) := of_decide_eq_true (qR8); obtain ⟨ad515, e515, hx515_0⟩ := Kd.at_int HR0.out x5_1 p515 q515; obtain rfl : ad514 = ad515 := (by injection e515); replace hx515_0 := (HB.out.cell (World.block_lt_of_cell? w _ hx515_0)).trans hx515_0; replace p515 := eq_true p515; replace q515 := eq_true q515
           try go_wp2
           replace HB := Aside0.mk (below_drew1 HB.out); obtain ⟨i015, hi015, _, hsz15, _⟩ := info_parts info3; obtain ⟨hcut15, hA15, hC15⟩ := print_take_of (P := Try.prog) (Value.int .i64) 0 25 3 .i64 Try.underlying25 hi015 hsz15 (some ad514) c0 l0 x5_1 (of_decide_eq_true (qR8)) (of_decide_eq_true (qR8)) HC0.out; have HR519 := Aside0.mk (by exact Kd.C_of_reads (h1 := fun _ => rfl) (hA15 _ (Kd.reads_of_C HR0.out))); have HC519 := Aside0.mk hC15; clear hA15 hC15 hi015 hsz15; obtain ⟨i016, hi016, _, hsz16, _⟩ := info_parts info3; obtain ⟨A16, hcut16, hA16, hC16⟩ := print_drop_of (P := Try.prog) (Value.int .i64) 0 25 3 .i64 Try.underlying25 hi016 hsz16 (some ad514) c0 l0 x5_1 (of_decide_eq_true (qR8)) (of_decide_eq_true (qR8)) HC0.out; have HR529 := Aside0.mk (by exact Kd.C_of_reads (h1 := fun _ => rfl) (hA16 _ (Kd.reads_of_C HR0.out))); have HC529 := Aside0.mk hC16; clear hA16 hC16 hi016 hsz16
           refine start_ (n := 13) (S := fun w' => True) (ds := []) qRb1 (by kernel_rfl) rfl rfl trivial (fun hHeld => ?_); refine with_tabW spec_l1PutNew.tab6 spec_l1PutNew.bits6 (fun HT_ HW_ => ?_)
           generalize wr.drew = w14 at HB HR519 HR529 hHeld ⊢
           refine pure_ (i := 1) (N := some 34) (v := ?_) (a' := ?_) qRb2 rfl rfl (qR28) (fun _ _ _ h => h) (Or.inl ⟨by rfl, ?_⟩) ?_ ?_
           rotate_left; exact qR9_c3; rotate_left; exact qR9_c0
           refine pure_ (i := 2) (N := some 35) (v := ?_) (a' := ?_) qRb3 rfl rfl (qR28) (fun _ _ _ h => h) (Or.inl ⟨by rfl, ?_⟩) ?_ ?_
           rotate_left; exact qR9_c3; rotate_left; exact qR9_c0
           refine pure_ (i := 3) (N := some 36) (v := ?_) (a' := ?_) qRb4 rfl rfl (qR28) (fun _ _ _ h => h) (Or.inl ⟨by rfl, ?_⟩) ?_ ?_
           rotate_left; exact qR9_c3; rotate_left; exact qR9_c0
           refine pure_ (i := 5) (N := some 38) (v := ?_) (a' := ?_) qRb5 rfl rfl (qR28) (fun _ _ _ h => h) (Or.inl ⟨by rfl, ?_⟩) ?_ ?_
           rotate_left; exact qR9_c3; rotate_left; exact qR9_c0
           refine pure_ (i := 8) (N := some 41) (v := ?_) (a' := ?_) qRb6 rfl rfl (qR28) (fun _ _ _ h => h) (Or.inl ⟨by rfl, ?_⟩) ?_ ?_
           rotate_left; exact qR9_c3; rotate_left; exact qR9_c0
           refine pure_ (i := 9) (N := some 42) (v := ?_) (a' := ?_) qRb7 rfl rfl (qR28) (fun _ _ _ h => h) (Or.inl ⟨by rfl, ?_⟩) ?_ ?_
           rotate_left; exact qR9_c3; rotate_left; exact qR9_c0
           refine pure_ (i := 10) (N := some 43) (v := ?_) (a' := ?_) qRb8 rfl rfl (qR28) (fun _ _ _ h => h) (Or.inl ⟨by rfl, ?_⟩) ?_ ?_
           rotate_left; exact qR9_c3; rotate_left; exact qR9_c0
           refine join_ (σ := Value × Value × Value) 3 qRb9 (fun s_ => [(33, s_.1), (37, s_.2.1), (39, s_.2.2)]) (fun s_ w' => (Kd.R (Kd.int .i64) 3 w' w.heap.size (fun k_ => some k_ ≠ (s_.2.2 : Value).ownBlock) s_.2.1 y520) ∧ (Kd.R (Kd.int .i64) 3 w' w.heap.size (fun k_ => some k_ ≠ (s_.2.1 : Value).ownBlock) s_.2.2 y523) ∧ (Below w.heap.size w w')) ?_ ?_
           rotate_left
           ·intro hCont
            refine two_ (i := 0) (j := 6) (Ni := some 33) (Nj := some 39) qRb10 qRb11 rfl rfl rfl rfl (two_of HT_.out (by kernel_rfl)) (by decide) (by decide) (fun K hK => ?_) (fun K hK => ?_)
            ·skip
             refine Kd.R_lit_step (Kd.int .i64) _ 3 ?hg (N := 33) ?hd (xs := ([] : List Int)) (inner := []) (ok := fun _ => True) (okp := fun _ => True) ?hr ?hp (fun _ hk => hk) trivial (Below.refl _ _) (Nat.le_refl _) (by simp) ?_; (case hd => rfl); (case hg => rfl); (case hr => exact (qR25)); (case hp => exact (Reps.none _ _))
             intro v517 w17 ho18 hb hg_ hnew_; clear hg_ hnew_
             (first | rw [← Ny516.out] at ho18 | (simp only [Int.reduceToNat] at ho18; rw [← Ny516.out] at ho18))
             have HO518 := Aside0.mk (qR70 ho18); replace HB := Aside0.mk (qR62); clear hb ho18
             refine hK.out _ _ trivial (fun hHeld => ?_)
             clear hK K
             refine norm_ (a' := ?_) ?_ ?_
             rotate_left
             ·exact qR9_c4
             refine two_ (i := 4) (j := 6) (Ni := some 37) (Nj := some 39) qRb12 qRb13 rfl rfl rfl rfl (two_of HT_.out (by kernel_rfl)) (by decide) (by decide) (fun K hK => ?_) (fun K hK => ?_)
             ·skip
              refine Kd.R_append_rows_step (Kd.int .i64) (w0 := w) w.heap.size (by rfl) (.tmp 33) (.tmp 36) 25 3 (.int .i64 0) 8 rfl Try.underlying25 info3 rfl (by decide) (by omega) v517 y516 (l0.take (x5_1 : Int).toNat) _ _ _ (fun _ => True) (fun _ => False) rfl rfl ?aO ?aR (fun _ _ h => h) (fun _ h => h.elim) ?aF ?aB ?aS ?aL ?_
              (case aR => exact (qR63 HR519.out))
              (case aB => exact (qR0))
              (case aF => exact (fun _ _ => trivial))
              (case aO => exact (qR1 HO518.out))
              (case aS => exact (qR84))
              (case aL => exact (qR68 LMc9.out))
              intro v521 w19 ho hb hg hat; rw [← Ny520.out] at ho; replace HB := Aside0.mk (hb); have HO522 := Aside0.mk (ho); clear HO518; clear ho hb hg hat
              refine hK.out _ _ trivial (fun hHeld => ?_)
              clear hK K
              refine norm_ (a' := ?_) ?_ ?_
              rotate_left
              ·exact qR9_c1
              refine one_ (i := 6) (N := some 39) qRb9 rfl rfl (qR36) (by decide) (fun K hK => ?_)
              refine Kd.R_lit_step (Kd.int .i64) _ 3 ?hg (N := 39) ?hd (xs := ([a1] : List Int)) (inner := [.int .i64 a1]) (ok := fun _ => True) (okp := fun _ => True) ?hr ?hp (fun _ hk => hk) trivial (Below.refl _ _) (Nat.le_refl _) (by simp) ?_; (case hd => rfl); (case hg => rfl); (case hr => exact (qR25)); (case hp => exact (qR45))
              intro v524 w20 ho21 hb hg_ hnew_; clear hg_ hnew_
              (first | rw [← Ny523.out] at ho21 | (simp only [Int.reduceToNat] at ho21; rw [← Ny523.out] at ho21))
              have HO525 := Aside0.mk (qR73 ho21 HO522.out); replace HO522 := Aside0.mk (qR65 HO522.out ho21); replace HB := Aside0.mk (qR62); clear hb ho21
              refine hK.out _ _ trivial (fun hHeld => ?_)
              clear hK K
              refine norm_ (a' := ?_) ?_ ?_
              rotate_left
              ·exact qR9_c2
              exact norm_ (qR40) (hCont (v517, v521, v524) _ ⟨(qR29 HO522.out), (qR29 HO525.out), (qR0)⟩)
             ·skip
              refine Kd.R_lit_step (Kd.int .i64) _ 3 ?hg (N := 39) ?hd (xs := ([a1] : List Int)) (inner := [.int .i64 a1]) (ok := fun _ => True) (okp := fun _ => True) ?hr ?hp (fun _ hk => hk) trivial (Below.refl _ _) (Nat.le_refl _) (by simp) ?_; (case hd => rfl); (case hg => rfl); (case hr => exact (qR25)); (case hp => exact (qR45))
              intro v524 w19 ho20 hb hg_ hnew_; clear hg_ hnew_
              (first | rw [← Ny523.out] at ho20 | (simp only [Int.reduceToNat] at ho20; rw [← Ny523.out] at ho20))
              have HO525 := Aside0.mk (qR73 ho20 HO518.out); replace HO518 := Aside0.mk (qR65 HO518.out ho20); replace HB := Aside0.mk (qR62); clear hb ho20
              refine hK.out _ _ trivial (fun hHeld => ?_)
              clear hK K
              refine norm_ (a' := ?_) ?_ ?_
              rotate_left
              ·exact qR9_c2
              refine one_ (i := 4) (N := some 37) qRb9 rfl rfl (qR36) (by decide) (fun K hK => ?_)
              refine Kd.R_append_rows_step (Kd.int .i64) (w0 := w) w.heap.size (by rfl) (.tmp 33) (.tmp 36) 25 3 (.int .i64 0) 8 rfl Try.underlying25 info3 rfl (by decide) (by omega) v517 y516 (l0.take (x5_1 : Int).toNat) _ _ _ (fun k_ => some k_ ≠ (v524 : Value).ownBlock) (fun _ => False) rfl rfl ?aO ?aR (fun _ _ h => h) (fun _ h => h.elim) ?aF ?aB ?aS ?aL ?_
              (case aR => exact (qR63 HR519.out))
              (case aB => exact (qR0))
              (case aF => exact (qR76 HO525.out))
              (case aO => exact (qR29 HO518.out))
              (case aS => exact (qR84))
              (case aL => exact (qR68 LMc9.out))
              intro v521 w21 ho hb hg hat; rw [← Ny520.out] at ho; replace HO525 := Aside0.mk (qR88 HO525.out); replace HB := Aside0.mk (hb); have HO522 := Aside0.mk (ho); clear HO518; clear ho hb hg hat
              refine hK.out _ _ trivial (fun hHeld => ?_)
              clear hK K
              refine norm_ (a' := ?_) ?_ ?_
              rotate_left
              ·exact qR9_c1
              exact norm_ (qR40) (hCont (v517, v521, v524) _ ⟨(qR1 HO522.out), (qR29 HO525.out), (qR0)⟩)
            ·skip
             refine Kd.R_lit_step (Kd.int .i64) _ 3 ?hg (N := 39) ?hd (xs := ([a1] : List Int)) (inner := [.int .i64 a1]) (ok := fun _ => True) (okp := fun _ => True) ?hr ?hp (fun _ hk => hk) trivial (Below.refl _ _) (Nat.le_refl _) (by simp) ?_; (case hd => rfl); (case hg => rfl); (case hr => exact (qR25)); (case hp => exact (qR45))
             intro v524 w17 ho18 hb hg_ hnew_; clear hg_ hnew_
             (first | rw [← Ny523.out] at ho18 | (simp only [Int.reduceToNat] at ho18; rw [← Ny523.out] at ho18))
             have HO525 := Aside0.mk (qR70 ho18); replace HB := Aside0.mk (qR62); clear hb ho18
             refine hK.out _ _ trivial (fun hHeld => ?_)
             clear hK K
             refine norm_ (a' := ?_) ?_ ?_
             rotate_left
             ·exact qR9_c2
             refine one_ (i := 0) (N := some 33) qRb13 rfl rfl (qR36) (by decide) (fun K hK => ?_)
             refine Kd.R_lit_step (Kd.int .i64) _ 3 ?hg (N := 33) ?hd (xs := ([] : List Int)) (inner := []) (ok := fun _ => True) (okp := fun _ => True) ?hr ?hp (fun _ hk => hk) trivial (Below.refl _ _) (Nat.le_refl _) (by simp) ?_; (case hd => rfl); (case hg => rfl); (case hr => exact (qR25)); (case hp => exact (Reps.none _ _))
             intro v517 w19 ho20 hb hg_ hnew_; clear hg_ hnew_
             (first | rw [← Ny516.out] at ho20 | (simp only [Int.reduceToNat] at ho20; rw [← Ny516.out] at ho20))
             have HO518 := Aside0.mk (qR73 ho20 HO525.out); replace HO525 := Aside0.mk (qR65 HO525.out ho20); replace HB := Aside0.mk (qR62); clear hb ho20
             refine hK.out _ _ trivial (fun hHeld => ?_)
             clear hK K
             refine norm_ (a' := ?_) ?_ ?_
             rotate_left
             ·exact qR9_c4
             refine one_ (i := 4) (N := some 37) qRb9 rfl rfl (qR36) (by decide) (fun K hK => ?_)
             refine Kd.R_append_rows_step (Kd.int .i64) (w0 := w) w.heap.size (by rfl) (.tmp 33) (.tmp 36) 25 3 (.int .i64 0) 8 rfl Try.underlying25 info3 rfl (by decide) (by omega) v517 y516 (l0.take (x5_1 : Int).toNat) _ _ _ (fun k_ => some k_ ≠ (v524 : Value).ownBlock) (fun _ => False) rfl rfl ?aO ?aR (fun _ _ h => h) (fun _ h => h.elim) ?aF ?aB ?aS ?aL ?_
             (case aR => exact (qR63 HR519.out))
             (case aB => exact (qR0))
             (case aF => exact (qR76 HO525.out))
             (case aO => exact (qR29 HO518.out))
             (case aS => exact (qR84))
             (case aL => exact (qR68 LMc9.out))
             intro v521 w21 ho hb hg hat; rw [← Ny520.out] at ho; replace HO525 := Aside0.mk (qR88 HO525.out); replace HB := Aside0.mk (hb); have HO522 := Aside0.mk (ho); clear HO518; clear ho hb hg hat
             refine hK.out _ _ trivial (fun hHeld => ?_)
             clear hK K
             refine norm_ (a' := ?_) ?_ ?_
             rotate_left
             ·exact qR9_c1
             exact norm_ (qR40) (hCont (v517, v521, v524) _ ⟨(qR1 HO522.out), (qR29 HO525.out), (qR0)⟩)
           rintro ⟨v517, v521, v524⟩ w22 ⟨h0_, h1_, h2_⟩
           have HO522 : Aside0 (Kd.R (Kd.int .i64) 3 w22 w.heap.size (fun k_ => some k_ ≠ (v524 : Value).ownBlock) v521 y520) := ⟨h0_⟩; have HO525 : Aside0 (Kd.R (Kd.int .i64) 3 w22 w.heap.size (fun k_ => some k_ ≠ (v521 : Value).ownBlock) v524 y523) := ⟨h1_⟩; replace HB : Aside0 (Below w.heap.size w w22) := ⟨h2_⟩; clear h0_ h1_ h2_; have hHeld := trivial; obtain ⟨Ao24, co24, eo24⟩ := Kd.R_slice HO525.out
           (first | subst eo24 | (injection eo24 with f1_ f2_ f3_; have f4_ := f1_.symm; have f5_ := f3_.symm; clear f1_ f2_ f3_; subst f4_; subst f5_))
           refine norm_ (a' := ?_) ?_ ?_
           rotate_left
           ·simp only [putAll, Act.put, List.setIfInBounds_toArray, List.set_cons_zero, List.set_cons_succ]
            rfl
           refine one_ (i := 7) (N := some 40) qRb14 rfl rfl (qR36) (by decide) (fun K hK => ?_)
           refine Kd.R_append_rows_step (Kd.int .i64) (w0 := w) w.heap.size (by rfl) (.tmp 37) (.tmp 39) 25 3 (.int .i64 0) 8 rfl Try.underlying25 info3 rfl (by decide) (by omega) v521 y520 y523 _ _ _ (fun k_ => some k_ ≠ (.slice Ao24 y523.length co24 : Value).ownBlock) (fun _ => False) rfl rfl ?aO ?aR (fun _ _ h => h) (fun _ h => h.elim) ?aF ?aB ?aS ?aL ?_
           (case aR => exact (qR5 HO525.out))
           (case aB => exact (qR0))
           (case aF => exact (qR76 HO525.out))
           (case aO => exact (qR1 HO522.out))
           (case aS => exact (qR84))
           (case aL => have := LMc10.out; omega)
           intro v527 w23 ho hb hg hat; rw [← Ny526.out] at ho; replace HO525 := Aside0.mk (qR51 HO525.out); replace HB := Aside0.mk (hb); have HO528 := Aside0.mk (ho); clear HO522; clear ho hb hg hat
           refine hK.out _ _ trivial (fun hHeld => ?_)
           clear hK K
           refine norm_ (a' := ?_) ?_ ?_
           rotate_left
           ·show Act.put _ (some 40) _ = _
            simp only [Act.put, List.setIfInBounds_toArray, List.set_cons_zero, List.set_cons_succ, i64_w, i32_w]
            rfl
           refine one_ (i := 11) (N := some 44) qRb15 rfl rfl (qR36) (by decide) (fun K hK => ?_)
           refine Kd.R_append_rows_step (Kd.int .i64) (w0 := w) w.heap.size (by rfl) (.tmp 40) (.tmp 43) 25 3 (.int .i64 0) 8 rfl Try.underlying25 info3 rfl (by decide) (by omega) v527 y526 (l0.drop (x5_1 : Int).toNat) _ _ _ (fun k_ => some k_ ≠ (.slice Ao24 y523.length co24 : Value).ownBlock) (fun _ => False) rfl rfl ?aO ?aR (fun _ _ h => h) (fun _ h => h.elim) ?aF ?aB ?aS ?aL ?_
           (case aR => exact (qR47 HR529.out))
           (case aB => exact (qR0))
           (case aF => exact (qR76 HO525.out))
           (case aO => exact (qR1 HO528.out))
           (case aS => exact (qR84))
           (case aL => exact (by have := LMc13.out; have hlx_ := (show (l0.drop (x5_1 : Int).toNat).length = (l0.length - x5_1.toNat) from List.length_drop); omega))
           intro v531 w25 ho hb hg hat; rw [← Ny530.out] at ho; replace HO525 := Aside0.mk (qR88 HO525.out); replace HB := Aside0.mk (hb); have HO532 := Aside0.mk (ho); clear HO528; clear ho hb hg hat
           refine hK.out _ _ trivial (fun hHeld => ?_)
           clear hK K
           refine norm_ (a' := ?_) ?_ ?_
           rotate_left
           ·show Act.put _ (some 44) _ = _
            simp only [Act.put, List.setIfInBounds_toArray, List.set_cons_zero, List.set_cons_succ, i64_w, i32_w]
            rfl
           refine pure_ (i := 12) (N := some 4) (v := ?_) (a' := ?_) qRb16 rfl rfl (qR28) (fun _ _ _ h => h) (Or.inl ⟨by rfl, ?_⟩) ?_ ?_
           rotate_left; exact qR9_c3; rotate_left; exact qR9_c0
           refine done_ (qR52) ?_
           try go_wp2
           go_ret
           exact ⟨_, (qR10), (qR31 HO532.out), (qR0)⟩
          ·rw [if_neg c13] at H
           exact absurd H (by simp)
         ·rw [if_neg c10] at H
          exact absurd H (by simp)
        ·rw [if_neg c9] at H
         exact absurd H (by simp)
       ·rw [if_neg c8] at H
        exact absurd H (by simp)
    ·rw [if_neg c4] at H
     exact absurd H (by simp)
   ·rw [if_neg c3] at H; have c3b0 : decide (x5_1 < (l0.length : Int)) = false := decide_eq_false c3; clear c3; obtain ⟨y533, hy533⟩ : ∃ y_ : List Int, y_ = (([] : List Int)) := ⟨_, rfl⟩; replace H : (if 0 ≤ x5_1 then (if x5_1 ≤ (l0.length : Int) then (if y533.length + (l0.take (x5_1 : Int).toNat).length < 17592186044416 then ((some (y533 ++ (l0.take (x5_1 : Int).toNat) : List Int)).bind fun y537 => ((some (([a1] : List Int) : List Int)).bind fun y540 => (if y537.length + y540.length < 17592186044416 then ((some (y537 ++ y540 : List Int)).bind fun y543 => (if y543.length + (l0.drop (x5_1 : Int).toNat).length < 17592186044416 then (some (y543 ++ (l0.drop (x5_1 : Int).toNat))) else (none))) else (none)))) else (none)) else (none)) else (none)) = some r := (qR6 hy533); have Ny533 := Aside0.mk hy533; clear hy533
    by_cases c26 : 0 ≤ x5_1
    ·rw [if_pos c26] at H; have c26b0 := eq_true c26; have c26b1 : decide (0 ≤ x5_1) = true := decide_eq_true c26; clear c26
     by_cases c27 : x5_1 ≤ (l0.length : Int)
     ·rw [if_pos c27] at H; have c27b0 := eq_true c27; have c27b1 : decide (x5_1 ≤ (l0.length : Int)) = true := decide_eq_true c27; clear c27
      by_cases c28 : y533.length + (l0.take (x5_1 : Int).toNat).length < 17592186044416
      ·rw [if_pos c28] at H; have LMc28 := Aside0.mk c28; clear c28; obtain ⟨y537, hy537⟩ : ∃ y_ : List Int, y_ = (y533 ++ (l0.take (x5_1 : Int).toNat)) := ⟨_, rfl⟩; replace H : ((some (([a1] : List Int) : List Int)).bind fun y540 => (if y537.length + y540.length < 17592186044416 then ((some (y537 ++ y540 : List Int)).bind fun y543 => (if y543.length + (l0.drop (x5_1 : Int).toNat).length < 17592186044416 then (some (y543 ++ (l0.drop (x5_1 : Int).toNat))) else (none))) else (none))) = some r := (qR6 hy537); have Ny537 := Aside0.mk hy537; clear hy537; obtain ⟨y540, hy540⟩ : ∃ y_ : List Int, y_ = (([a1] : List Int)) := ⟨_, rfl⟩; replace H : (if y537.length + y540.length < 17592186044416 then ((some (y537 ++ y540 : List Int)).bind fun y543 => (if y543.length + (l0.drop (x5_1 : Int).toNat).length < 17592186044416 then (some (y543 ++ (l0.drop (x5_1 : Int).toNat))) else (none))) else (none)) = some r := (qR6 hy540); have Ny540 := Aside0.mk hy540; clear hy540
       by_cases c29 : y537.length + y540.length < 17592186044416
       ·rw [if_pos c29] at H; have LMc29 := Aside0.mk c29; clear c29; obtain ⟨y543, hy543⟩ : ∃ y_ : List Int, y_ = (y537 ++ y540) := ⟨_, rfl⟩; replace H : (if y543.length + (l0.drop (x5_1 : Int).toNat).length < 17592186044416 then (some (y543 ++ (l0.drop (x5_1 : Int).toNat))) else (none)) = some r := (qR6 hy543); have Ny543 := Aside0.mk hy543; clear hy543; have c30b0 := eq_true (of_decide_eq_true (qR8) : 0 ≤ x5_1); have c31b0 := eq_true (of_decide_eq_true (qR8) : x5_1 ≤ (l0.length : Int))
        by_cases c32 : y543.length + (l0.drop (x5_1 : Int).toNat).length < 17592186044416
        ·rw [if_pos c32] at H; have LMc32 := Aside0.mk c32; clear c32; obtain ⟨y547, hy547⟩ : ∃ y_ : List Int, y_ = (y543 ++ (l0.drop (x5_1 : Int).toNat)) := ⟨_, rfl⟩; replace H : (some y547) = some r := (qR6 hy547); have Ny547 := Aside0.mk hy547; clear hy547; obtain rfl := Option.some.inj H
         try go_wp2
         replace HB := Aside0.mk (below_drew1 HB.out); obtain ⟨i034, hi034, _, hsz34, _⟩ := info_parts info3; obtain ⟨hcut34, hA34, hC34⟩ := print_take_of (P := Try.prog) (Value.int .i64) 0 25 3 .i64 Try.underlying25 hi034 hsz34 A0 c0 l0 x5_1 (of_decide_eq_true (qR8)) (of_decide_eq_true (qR8)) HC0.out; have HR536 := Aside0.mk (by exact Kd.C_of_reads (h1 := fun _ => rfl) (hA34 _ (Kd.reads_of_C HR0.out))); have HC536 := Aside0.mk hC34; clear hA34 hC34 hi034 hsz34; obtain ⟨i035, hi035, _, hsz35, _⟩ := info_parts info3; obtain ⟨A35, hcut35, hA35, hC35⟩ := print_drop_of (P := Try.prog) (Value.int .i64) 0 25 3 .i64 Try.underlying25 hi035 hsz35 A0 c0 l0 x5_1 (of_decide_eq_true (qR8)) (of_decide_eq_true (qR8)) HC0.out; have HR546 := Aside0.mk (by exact Kd.C_of_reads (h1 := fun _ => rfl) (hA35 _ (Kd.reads_of_C HR0.out))); have HC546 := Aside0.mk hC35; clear hA35 hC35 hi035 hsz35
         refine start_ (n := 13) (S := fun w' => True) (ds := []) qRb1 (by kernel_rfl) rfl rfl trivial (fun hHeld => ?_); refine with_tabW spec_l1PutNew.tab6 spec_l1PutNew.bits6 (fun HT_ HW_ => ?_)
         generalize wr.drew = w33 at HB HR536 HR546 hHeld ⊢
         refine pure_ (i := 1) (N := some 34) (v := ?_) (a' := ?_) qRb2 rfl rfl (qR28) (fun _ _ _ h => h) (Or.inl ⟨by rfl, ?_⟩) ?_ ?_
         rotate_left; exact qR9_c3; rotate_left; exact qR9_c0
         refine pure_ (i := 2) (N := some 35) (v := ?_) (a' := ?_) qRb3 rfl rfl (qR28) (fun _ _ _ h => h) (Or.inl ⟨by rfl, ?_⟩) ?_ ?_
         rotate_left; exact qR9_c3; rotate_left; exact qR9_c0
         refine pure_ (i := 3) (N := some 36) (v := ?_) (a' := ?_) qRb4 rfl rfl (qR28) (fun _ _ _ h => h) (Or.inl ⟨by rfl, ?_⟩) ?_ ?_
         rotate_left; exact qR9_c3; rotate_left; exact qR9_c0
         refine pure_ (i := 5) (N := some 38) (v := ?_) (a' := ?_) qRb5 rfl rfl (qR28) (fun _ _ _ h => h) (Or.inl ⟨by rfl, ?_⟩) ?_ ?_
         rotate_left; exact qR9_c3; rotate_left; exact qR9_c0
         refine pure_ (i := 8) (N := some 41) (v := ?_) (a' := ?_) qRb6 rfl rfl (qR28) (fun _ _ _ h => h) (Or.inl ⟨by rfl, ?_⟩) ?_ ?_
         rotate_left; exact qR9_c3; rotate_left; exact qR9_c0
         refine pure_ (i := 9) (N := some 42) (v := ?_) (a' := ?_) qRb7 rfl rfl (qR28) (fun _ _ _ h => h) (Or.inl ⟨by rfl, ?_⟩) ?_ ?_
         rotate_left; exact qR9_c3; rotate_left; exact qR9_c0
         refine pure_ (i := 10) (N := some 43) (v := ?_) (a' := ?_) qRb8 rfl rfl (qR28) (fun _ _ _ h => h) (Or.inl ⟨by rfl, ?_⟩) ?_ ?_
         rotate_left; exact qR9_c3; rotate_left; exact qR9_c0
         refine join_ (σ := Value × Value × Value) 3 qRb9 (fun s_ => [(33, s_.1), (37, s_.2.1), (39, s_.2.2)]) (fun s_ w' => (Kd.R (Kd.int .i64) 3 w' w.heap.size (fun k_ => some k_ ≠ (s_.2.2 : Value).ownBlock) s_.2.1 y537) ∧ (Kd.R (Kd.int .i64) 3 w' w.heap.size (fun k_ => some k_ ≠ (s_.2.1 : Value).ownBlock) s_.2.2 y540) ∧ (Below w.heap.size w w')) ?_ ?_
         rotate_left
         ·intro hCont
          refine two_ (i := 0) (j := 6) (Ni := some 33) (Nj := some 39) qRb10 qRb11 rfl rfl rfl rfl (two_of HT_.out (by kernel_rfl)) (by decide) (by decide) (fun K hK => ?_) (fun K hK => ?_)
          ·skip
           refine Kd.R_lit_step (Kd.int .i64) _ 3 ?hg (N := 33) ?hd (xs := ([] : List Int)) (inner := []) (ok := fun _ => True) (okp := fun _ => True) ?hr ?hp (fun _ hk => hk) trivial (Below.refl _ _) (Nat.le_refl _) (by simp) ?_; (case hd => rfl); (case hg => rfl); (case hr => exact (qR25)); (case hp => exact (Reps.none _ _))
           intro v534 w36 ho37 hb hg_ hnew_; clear hg_ hnew_
           (first | rw [← Ny533.out] at ho37 | (simp only [Int.reduceToNat] at ho37; rw [← Ny533.out] at ho37))
           have HO535 := Aside0.mk (qR70 ho37); replace HB := Aside0.mk (qR62); clear hb ho37
           refine hK.out _ _ trivial (fun hHeld => ?_)
           clear hK K
           refine norm_ (a' := ?_) ?_ ?_
           rotate_left
           ·exact qR9_c4
           refine two_ (i := 4) (j := 6) (Ni := some 37) (Nj := some 39) qRb12 qRb13 rfl rfl rfl rfl (two_of HT_.out (by kernel_rfl)) (by decide) (by decide) (fun K hK => ?_) (fun K hK => ?_)
           ·skip
            refine Kd.R_append_rows_step (Kd.int .i64) (w0 := w) w.heap.size (by rfl) (.tmp 33) (.tmp 36) 25 3 (.int .i64 0) 8 rfl Try.underlying25 info3 rfl (by decide) (by omega) v534 y533 (l0.take (x5_1 : Int).toNat) _ _ _ (fun _ => True) (fun _ => False) rfl rfl ?aO ?aR (fun _ _ h => h) (fun _ h => h.elim) ?aF ?aB ?aS ?aL ?_
            (case aR => exact (qR63 HR536.out))
            (case aB => exact (qR0))
            (case aF => exact (fun _ _ => trivial))
            (case aO => exact (qR1 HO535.out))
            (case aS => exact (qR84))
            (case aL => exact (qR68 LMc28.out))
            intro v538 w38 ho hb hg hat; rw [← Ny537.out] at ho; replace HB := Aside0.mk (hb); have HO539 := Aside0.mk (ho); clear HO535; clear ho hb hg hat
            refine hK.out _ _ trivial (fun hHeld => ?_)
            clear hK K
            refine norm_ (a' := ?_) ?_ ?_
            rotate_left
            ·exact qR9_c1
            refine one_ (i := 6) (N := some 39) qRb9 rfl rfl (qR36) (by decide) (fun K hK => ?_)
            refine Kd.R_lit_step (Kd.int .i64) _ 3 ?hg (N := 39) ?hd (xs := ([a1] : List Int)) (inner := [.int .i64 a1]) (ok := fun _ => True) (okp := fun _ => True) ?hr ?hp (fun _ hk => hk) trivial (Below.refl _ _) (Nat.le_refl _) (by simp) ?_; (case hd => rfl); (case hg => rfl); (case hr => exact (qR25)); (case hp => exact (qR45))
            intro v541 w39 ho40 hb hg_ hnew_; clear hg_ hnew_
            (first | rw [← Ny540.out] at ho40 | (simp only [Int.reduceToNat] at ho40; rw [← Ny540.out] at ho40))
            have HO542 := Aside0.mk (qR73 ho40 HO539.out); replace HO539 := Aside0.mk (qR65 HO539.out ho40); replace HB := Aside0.mk (qR62); clear hb ho40
            refine hK.out _ _ trivial (fun hHeld => ?_)
            clear hK K
            refine norm_ (a' := ?_) ?_ ?_
            rotate_left
            ·exact qR9_c2
            exact norm_ (qR40) (hCont (v534, v538, v541) _ ⟨(qR29 HO539.out), (qR29 HO542.out), (qR0)⟩)
           ·skip
            refine Kd.R_lit_step (Kd.int .i64) _ 3 ?hg (N := 39) ?hd (xs := ([a1] : List Int)) (inner := [.int .i64 a1]) (ok := fun _ => True) (okp := fun _ => True) ?hr ?hp (fun _ hk => hk) trivial (Below.refl _ _) (Nat.le_refl _) (by simp) ?_; (case hd => rfl); (case hg => rfl); (case hr => exact (qR25)); (case hp => exact (qR45))
            intro v541 w38 ho39 hb hg_ hnew_; clear hg_ hnew_
            (first | rw [← Ny540.out] at ho39 | (simp only [Int.reduceToNat] at ho39; rw [← Ny540.out] at ho39))
            have HO542 := Aside0.mk (qR73 ho39 HO535.out); replace HO535 := Aside0.mk (qR65 HO535.out ho39); replace HB := Aside0.mk (qR62); clear hb ho39
            refine hK.out _ _ trivial (fun hHeld => ?_)
            clear hK K
            refine norm_ (a' := ?_) ?_ ?_
            rotate_left
            ·exact qR9_c2
            refine one_ (i := 4) (N := some 37) qRb9 rfl rfl (qR36) (by decide) (fun K hK => ?_)
            refine Kd.R_append_rows_step (Kd.int .i64) (w0 := w) w.heap.size (by rfl) (.tmp 33) (.tmp 36) 25 3 (.int .i64 0) 8 rfl Try.underlying25 info3 rfl (by decide) (by omega) v534 y533 (l0.take (x5_1 : Int).toNat) _ _ _ (fun k_ => some k_ ≠ (v541 : Value).ownBlock) (fun _ => False) rfl rfl ?aO ?aR (fun _ _ h => h) (fun _ h => h.elim) ?aF ?aB ?aS ?aL ?_
            (case aR => exact (qR63 HR536.out))
            (case aB => exact (qR0))
            (case aF => exact (qR76 HO542.out))
            (case aO => exact (qR29 HO535.out))
            (case aS => exact (qR84))
            (case aL => exact (qR68 LMc28.out))
            intro v538 w40 ho hb hg hat; rw [← Ny537.out] at ho; replace HO542 := Aside0.mk (qR88 HO542.out); replace HB := Aside0.mk (hb); have HO539 := Aside0.mk (ho); clear HO535; clear ho hb hg hat
            refine hK.out _ _ trivial (fun hHeld => ?_)
            clear hK K
            refine norm_ (a' := ?_) ?_ ?_
            rotate_left
            ·exact qR9_c1
            exact norm_ (qR40) (hCont (v534, v538, v541) _ ⟨(qR1 HO539.out), (qR29 HO542.out), (qR0)⟩)
          ·skip
           refine Kd.R_lit_step (Kd.int .i64) _ 3 ?hg (N := 39) ?hd (xs := ([a1] : List Int)) (inner := [.int .i64 a1]) (ok := fun _ => True) (okp := fun _ => True) ?hr ?hp (fun _ hk => hk) trivial (Below.refl _ _) (Nat.le_refl _) (by simp) ?_; (case hd => rfl); (case hg => rfl); (case hr => exact (qR25)); (case hp => exact (qR45))
           intro v541 w36 ho37 hb hg_ hnew_; clear hg_ hnew_
           (first | rw [← Ny540.out] at ho37 | (simp only [Int.reduceToNat] at ho37; rw [← Ny540.out] at ho37))
           have HO542 := Aside0.mk (qR70 ho37); replace HB := Aside0.mk (qR62); clear hb ho37
           refine hK.out _ _ trivial (fun hHeld => ?_)
           clear hK K
           refine norm_ (a' := ?_) ?_ ?_
           rotate_left
           ·exact qR9_c2
           refine one_ (i := 0) (N := some 33) qRb13 rfl rfl (qR36) (by decide) (fun K hK => ?_)
           refine Kd.R_lit_step (Kd.int .i64) _ 3 ?hg (N := 33) ?hd (xs := ([] : List Int)) (inner := []) (ok := fun _ => True) (okp := fun _ => True) ?hr ?hp (fun _ hk => hk) trivial (Below.refl _ _) (Nat.le_refl _) (by simp) ?_; (case hd => rfl); (case hg => rfl); (case hr => exact (qR25)); (case hp => exact (Reps.none _ _))
           intro v534 w38 ho39 hb hg_ hnew_; clear hg_ hnew_
           (first | rw [← Ny533.out] at ho39 | (simp only [Int.reduceToNat] at ho39; rw [← Ny533.out] at ho39))
           have HO535 := Aside0.mk (qR73 ho39 HO542.out); replace HO542 := Aside0.mk (qR65 HO542.out ho39); replace HB := Aside0.mk (qR62); clear hb ho39
           refine hK.out _ _ trivial (fun hHeld => ?_)
           clear hK K
           refine norm_ (a' := ?_) ?_ ?_
           rotate_left
           ·exact qR9_c4
           refine one_ (i := 4) (N := some 37) qRb9 rfl rfl (qR36) (by decide) (fun K hK => ?_)
           refine Kd.R_append_rows_step (Kd.int .i64) (w0 := w) w.heap.size (by rfl) (.tmp 33) (.tmp 36) 25 3 (.int .i64 0) 8 rfl Try.underlying25 info3 rfl (by decide) (by omega) v534 y533 (l0.take (x5_1 : Int).toNat) _ _ _ (fun k_ => some k_ ≠ (v541 : Value).ownBlock) (fun _ => False) rfl rfl ?aO ?aR (fun _ _ h => h) (fun _ h => h.elim) ?aF ?aB ?aS ?aL ?_
           (case aR => exact (qR63 HR536.out))
           (case aB => exact (qR0))
           (case aF => exact (qR76 HO542.out))
           (case aO => exact (qR29 HO535.out))
           (case aS => exact (qR84))
           (case aL => exact (qR68 LMc28.out))
           intro v538 w40 ho hb hg hat; rw [← Ny537.out] at ho; replace HO542 := Aside0.mk (qR88 HO542.out); replace HB := Aside0.mk (hb); have HO539 := Aside0.mk (ho); clear HO535; clear ho hb hg hat
           refine hK.out _ _ trivial (fun hHeld => ?_)
           clear hK K
           refine norm_ (a' := ?_) ?_ ?_
           rotate_left
           ·exact qR9_c1
           exact norm_ (qR40) (hCont (v534, v538, v541) _ ⟨(qR1 HO539.out), (qR29 HO542.out), (qR0)⟩)
         rintro ⟨v534, v538, v541⟩ w41 ⟨h0_, h1_, h2_⟩
         have HO539 : Aside0 (Kd.R (Kd.int .i64) 3 w41 w.heap.size (fun k_ => some k_ ≠ (v541 : Value).ownBlock) v538 y537) := ⟨h0_⟩; have HO542 : Aside0 (Kd.R (Kd.int .i64) 3 w41 w.heap.size (fun k_ => some k_ ≠ (v538 : Value).ownBlock) v541 y540) := ⟨h1_⟩; replace HB : Aside0 (Below w.heap.size w w41) := ⟨h2_⟩; clear h0_ h1_ h2_; have hHeld := trivial; obtain ⟨Ao43, co43, eo43⟩ := Kd.R_slice HO542.out
         (first | subst eo43 | (injection eo43 with f1_ f2_ f3_; have f4_ := f1_.symm; have f5_ := f3_.symm; clear f1_ f2_ f3_; subst f4_; subst f5_))
         refine norm_ (a' := ?_) ?_ ?_
         rotate_left
         ·simp only [putAll, Act.put, List.setIfInBounds_toArray, List.set_cons_zero, List.set_cons_succ]
          rfl
         refine one_ (i := 7) (N := some 40) qRb14 rfl rfl (qR36) (by decide) (fun K hK => ?_)
         refine Kd.R_append_rows_step (Kd.int .i64) (w0 := w) w.heap.size (by rfl) (.tmp 37) (.tmp 39) 25 3 (.int .i64 0) 8 rfl Try.underlying25 info3 rfl (by decide) (by omega) v538 y537 y540 _ _ _ (fun k_ => some k_ ≠ (.slice Ao43 y540.length co43 : Value).ownBlock) (fun _ => False) rfl rfl ?aO ?aR (fun _ _ h => h) (fun _ h => h.elim) ?aF ?aB ?aS ?aL ?_
         (case aR => exact (qR5 HO542.out))
         (case aB => exact (qR0))
         (case aF => exact (qR76 HO542.out))
         (case aO => exact (qR1 HO539.out))
         (case aS => exact (qR84))
         (case aL => have := LMc29.out; omega)
         intro v544 w42 ho hb hg hat; rw [← Ny543.out] at ho; replace HO542 := Aside0.mk (qR51 HO542.out); replace HB := Aside0.mk (hb); have HO545 := Aside0.mk (ho); clear HO539; clear ho hb hg hat
         refine hK.out _ _ trivial (fun hHeld => ?_)
         clear hK K
         refine norm_ (a' := ?_) ?_ ?_
         rotate_left
         ·show Act.put _ (some 40) _ = _
          simp only [Act.put, List.setIfInBounds_toArray, List.set_cons_zero, List.set_cons_succ, i64_w, i32_w]
          rfl
         refine one_ (i := 11) (N := some 44) qRb15 rfl rfl (qR36) (by decide) (fun K hK => ?_)
         refine Kd.R_append_rows_step (Kd.int .i64) (w0 := w) w.heap.size (by rfl) (.tmp 40) (.tmp 43) 25 3 (.int .i64 0) 8 rfl Try.underlying25 info3 rfl (by decide) (by omega) v544 y543 (l0.drop (x5_1 : Int).toNat) _ _ _ (fun k_ => some k_ ≠ (.slice Ao43 y540.length co43 : Value).ownBlock) (fun _ => False) rfl rfl ?aO ?aR (fun _ _ h => h) (fun _ h => h.elim) ?aF ?aB ?aS ?aL ?_
         (case aR => exact (qR47 HR546.out))
         (case aB => exact (qR0))
         (case aF => exact (qR76 HO542.out))
         (case aO => exact (qR1 HO545.out))
         (case aS => exact (qR84))
         (case aL => exact (by have := LMc32.out; have hlx_ := (show (l0.drop (x5_1 : Int).toNat).length = (l0.length - x5_1.toNat) from List.length_drop); omega))
         intro v548 w44 ho hb hg hat; rw [← Ny547.out] at ho; replace HO542 := Aside0.mk (qR88 HO542.out); replace HB := Aside0.mk (hb); have HO549 := Aside0.mk (ho); clear HO545; clear ho hb hg hat
         refine hK.out _ _ trivial (fun hHeld => ?_)
         clear hK K
         refine norm_ (a' := ?_) ?_ ?_
         rotate_left
         ·show Act.put _ (some 44) _ = _
          simp only [Act.put, List.setIfInBounds_toArray, List.set_cons_zero, List.set_cons_succ, i64_w, i32_w]
          rfl
         refine pure_ (i := 12) (N := some 4) (v := ?_) (a' := ?_) qRb16 rfl rfl (qR28) (fun _ _ _ h => h) (Or.inl ⟨by rfl, ?_⟩) ?_ ?_
         rotate_left; exact qR9_c3; rotate_left; exact qR9_c0
         refine done_ (qR52) ?_
         try go_wp2
         go_ret
         exact ⟨_, (qR10), (qR31 HO549.out), (qR0)⟩
        ·rw [if_neg c32] at H
         exact absurd H (by simp)
       ·rw [if_neg c29] at H
        exact absurd H (by simp)
      ·rw [if_neg c28] at H
       exact absurd H (by simp)
     ·rw [if_neg c27] at H
      exact absurd H (by simp)
    ·rw [if_neg c26] at H
     exact absurd H (by simp)
def putHit : List Int → Int → Bool
 | [], _ => false
 | x :: l, n => if x < n then putHit l n else x == n
theorem putHit_at : ∀ {l : List Int} {n : Int}, putHit l n = true → ∃ K, K < l.length ∧ l.getD K 0 = n ∧ ∀ j, j < K → l.getD j 0 < n
 | [], n, h => by simp [putHit] at h
 | x :: l, n, h => by
  simp only [putHit] at h
  split at h
  ·rename_i hlt
   obtain ⟨K, h1, h2, h3⟩ := putHit_at h
   refine ⟨K + 1, by simpa using h1, by simpa using h2, fun j hj => ?_⟩
   cases j with
   | zero => simpa using hlt
   | succ j => simpa using h3 j (by omega)
  ·exact ⟨0, by simp, by simpa using h, fun j hj => by omega⟩
def spec_l1Put.f (k : Nat) (l0 : List Int) (a1 : Int) : Option (List Int) := if putHit l0 a1 = true then some l0 else spec_l1PutNew.f k l0 a1
theorem spec_l1Put.mono : ∀ a0 a1 k, LeO (spec_l1Put.f k a0 a1) (spec_l1Put.f (k + 1) a0 a1) := by
 intro a0 a1 k
 unfold spec_l1Put.f
 exact LeO.ite (LeO.refl _) (spec_l1PutNew.mono _ _ _)
theorem spec_l1Put.calls (k : Nat) (P0_ : Nat → Prop) (u9000_ : Value) (l0 : List Int) (a1 : Int) (r : List Int) (w0 w : World) (hB : Below w0.heap.size w0 w) (ho0 : Kd.R (Kd.int .i64) 3 w w0.heap.size P0_ u9000_ l0) (h : spec_l1Put.f k l0 a1 = some r) :
  Calls Try.prog 82 #[u9000_, .int .i64 a1] w fun e w' => ∃ v0_ : Value, e = .returned v0_ ∧ Kd.R (Kd.int .i64) 3 w' w0.heap.size (fun k_ => (P0_ k_ ∨ w.heap.size ≤ k_)) v0_ r ∧ Below w0.heap.size w0 w' ∧ Kept w w' (fun k_ => P0_ k_) := by
 obtain ⟨A0, c0, hu, hc0, hr0⟩ := Kd.R_reads ho0
 unfold spec_l1Put.f at h
 by_cases hh : putHit l0 a1 = true
 ·rw [if_pos hh] at h; obtain rfl := Option.some.inj h; clear h; obtain ⟨K, hK1, hK2, hK3⟩ := putHit_at hh; have HO := Aside0.mk ho0; have HK := Aside0.mk (And.intro hK1 (And.intro hK2 hK3)); have HR0 := Aside0.mk hr0; have HM := Aside0.mk hr0.2.1; have HBB := Aside0.mk hB; have HU := Aside0.mk hu; clear ho0 hh hK1 hK2 hK3 hr0 hB; rw [hu]; clear hu
  go_enter Try.func82, Try.ntmps82
  go_wp2
  go_loopg [5] (K + 1) (fun kq v5 w' => ∃ x : Int, v5 = .int .i64 x ∧ Aside0 (0 ≤ x ∧ kq + x.toNat = K + 1 ∧ x ≤ (K : Int)) ∧ Aside0 (Below w.heap.size w w'))
  case atStart => exact ⟨0, rfl, ⟨by omega, by simp, by omega⟩, ⟨Below.refl _ _⟩⟩
  case round =>
   obtain ⟨x, rfl, HA, HB⟩ := hrel
   have hlt : x < (l0.length : Int) := by have := HA.out; have := HK.out.1; omega
   have d0 : decide (x < (l0.length : Int)) = true := decide_eq_true hlt; obtain ⟨ad, e, hx⟩ := Kd.at_int (Kd.C_below HR0.out HB.out) x HA.out.1 hlt; cases e; have p1 := eq_true HA.out.1; have q1 := eq_true hlt; clear hlt
   by_cases hxk : x = (K : Int)
   ·have hrd : rd l0 x = a1 := by rw [hxk]; exact HK.out.2.1
    have d1 : decide (rd l0 x < a1) = false := decide_eq_false (by omega); have d2 : (rd l0 x == a1) = true := beq_iff_eq.2 hrd; clear hxk hrd
    go_wp2
    go_ret
    exact ⟨_, rfl, by rw [← HU.out]; exact Kd.R_mono (Kd.R_below HO.out HB.out) (fun _ hk => .inl hk), HBB.out.trans (HB.out.mono HBB.out.size), Kept.of_below HB.out _⟩
   ·have hrd : rd l0 x < a1 := HK.out.2.2 x.toNat (by have := HA.out; omega); have d1 : decide (rd l0 x < a1) = true := decide_eq_true hrd; have HX := Aside0.mk hxk; have HRD := Aside0.mk hrd; clear hrd hxk; obtain ⟨k1, rfl⟩ : ∃ k1, gk = k1 + 1 := ⟨gk - 1, by have := HA.out; omega⟩
    go_wp2
    go_roundg k1
    case measure => omega
    case rel => exact ⟨wrap64 (x + 1), rfl, ⟨by have := HA.out; have := HK.out.1; have := HM.out; unfold wrap64; omega, by have := HA.out; have := HK.out.1; have := HM.out; unfold wrap64; omega, by have := HA.out; have := HK.out.1; have := HM.out; have := HX.out; unfold wrap64; omega⟩, HB⟩
 ·rw [if_neg hh] at h; rw [hu]
  refine (spec_l1PutNew.calls k A0 c0 l0 a1 r w hr0 hc0 h).mono ?_
  rintro e w' ⟨v0_, he, hR, hb⟩
  exact ⟨v0_, he, Kd.R_mono (Kd.R_lower (Kd.R_bound hR) hB.size) (fun _ hk => .inr hk.2.1), hB.trans (hb.mono hB.size), Kept.of_below hb _⟩


/-! ### spec_l15Reach: function 63 -/
mutual
def spec_l15Reach.l0 : Nat → List (S58) → List Int → Int → List Int → Bool → Option (List Int)
 | 0, _, _, _, _, _ => none
 | k + 1, x0, x1, x3, x9, x10 => if x10 = true then (spec_l15Reach.l1 k x0 x1 x3 x9 false 0) else (some x9)
def spec_l15Reach.l1 : Nat → List (S58) → List Int → Int → List Int → Bool → Int → Option (List Int)
 | 0, _, _, _, _, _, _ => none
 | k + 1, x0, x1, x3, x9, x10, x11 => if x11 < (x0.length : Int) then (if 0 ≤ x11 then (if x11 < (x1.length : Int) then (if (rd x1 x11) < x3 then (spec_l15Reach.j2 k x0 x1 x3 x9 x10 x11 ((rd_T58 x0 x11).f0) ((rd_T58 x0 x11).f1) true) else ((spec_l1Has.f k x9 ((rd_T58 x0 x11).f0)).bind fun t556 => ((spec_l1Has.f k x9 ((rd_T58 x0 x11).f1)).bind fun t557 => (spec_l15Reach.j2 k x0 x1 x3 x9 x10 x11 ((rd_T58 x0 x11).f0) ((rd_T58 x0 x11).f1) (t556 == t557))))) else (none)) else (none)) else (spec_l15Reach.l0 k x0 x1 x3 x9 x10)
def spec_l15Reach.j2 : Nat → List (S58) → List Int → Int → List Int → Bool → Int → Int → Int → Bool → Option (List Int)
 | 0, _, _, _, _, _, _, _, _, _ => none
 | k + 1, x0, x1, x3, x9, x10, x11, x12, x13, x47 => if x47 = true then (spec_l15Reach.l1 k x0 x1 x3 x9 x10 (wrap64 (x11 + 1))) else ((spec_l1Put.f k x9 x12).bind fun t558 => ((spec_l1Put.f k t558 x13).bind fun t561 => (spec_l15Reach.l1 k x0 x1 x3 t561 true (wrap64 (x11 + 1)))))
end
def spec_l15Reach.f (k : Nat) (l0 : List (S58)) (l1 : List Int) (a2 : Int) (a3 : Int) : Option (List Int) := spec_l15Reach.l0 k l0 l1 a3 (([a2] : List Int)) true
theorem spec_l15Reach.mono_l : ∀ k, (∀ y0 y1 y2 y3 y4, LeO (spec_l15Reach.l0 k y0 y1 y2 y3 y4) (spec_l15Reach.l0 (k + 1) y0 y1 y2 y3 y4)) ∧ (∀ y0 y1 y2 y3 y4 y5, LeO (spec_l15Reach.l1 k y0 y1 y2 y3 y4 y5) (spec_l15Reach.l1 (k + 1) y0 y1 y2 y3 y4 y5)) ∧ (∀ y0 y1 y2 y3 y4 y5 y6 y7 y8, LeO (spec_l15Reach.j2 k y0 y1 y2 y3 y4 y5 y6 y7 y8) (spec_l15Reach.j2 (k + 1) y0 y1 y2 y3 y4 y5 y6 y7 y8))
 | 0 => ⟨fun _ _ _ _ _ r h => by simp [spec_l15Reach.l0] at h, fun _ _ _ _ _ _ r h => by simp [spec_l15Reach.l1] at h, fun _ _ _ _ _ _ _ _ _ r h => by simp [spec_l15Reach.j2] at h⟩
 | k + 1 => by
  obtain ⟨ih0, ih1, ih2⟩ := spec_l15Reach.mono_l k
  refine ⟨?_, ?_, ?_⟩
  ·intro y0 y1 y2 y3 y4
   unfold spec_l15Reach.l0
   have m0 := @spec_l1Has.mono; have m1 := @spec_l1Put.mono
   exact qmono
  ·intro y0 y1 y2 y3 y4 y5
   unfold spec_l15Reach.l1
   have m0 := @spec_l1Has.mono; have m1 := @spec_l1Put.mono
   exact qmono
  ·intro y0 y1 y2 y3 y4 y5 y6 y7 y8
   unfold spec_l15Reach.j2
   have m0 := @spec_l1Has.mono; have m1 := @spec_l1Put.mono
   exact qmono
theorem spec_l15Reach.mono : ∀ a0 a1 a2 a3 k, LeO (spec_l15Reach.f k a0 a1 a2 a3) (spec_l15Reach.f (k + 1) a0 a1 a2 a3) := by
 intro a0 a1 a2 a3 k; obtain ⟨ih0, ih1, ih2⟩ := spec_l15Reach.mono_l k
 unfold spec_l15Reach.f
 have m0 := @spec_l1Has.mono; have m1 := @spec_l1Put.mono
 exact qmono
theorem spec_l15Reach.calls (k : Nat) (A0 : Option Addr) (c0 : Nat) (l0 : List (S58)) (A1 : Option Addr) (c1 : Nat) (l1 : List Int) (a2 : Int) (a3 : Int) (r : List Int) (w : World) (hr0 : Kd.C k58 w A0 l0.length l0) (hc0 : l0.length ≤ c0) (hr1 : Kd.C (Kd.int .i64) w A1 l1.length l1) (hc1 : l1.length ≤ c1) (h : spec_l15Reach.f k l0 l1 a2 a3 = some r) :
  Calls Try.prog 63 #[.slice A0 l0.length c0, .slice A1 l1.length c1, .int .i64 a2, .int .i64 a3] w fun e w' => ∃ v0_ : Value, e = .returned (v0_) ∧ Kd.R (Kd.int .i64) 3 w' w.heap.size (fun _ => True) v0_ r ∧ Below w.heap.size w w' := by
 have HR0 := Aside0.mk hr0; have HC0 := Aside0.mk hc0; clear hr0 hc0; have HR1 := Aside0.mk hr1; have HC1 := Aside0.mk hc1; clear hr1 hc1; have HB := Aside0.mk (Below.refl w.heap.size w); have H : (spec_l15Reach.l0 k l0 l1 a3 (([a2] : List Int)) true) = some r := h; clear h; obtain ⟨y550, hy550⟩ : ∃ y_ : List Int, y_ = (([a2] : List Int)) := ⟨_, rfl⟩; replace H : (spec_l15Reach.l0 k l0 l1 a3 y550 true) = some r := (qR6 hy550); have Ny550 := Aside0.mk hy550; clear hy550; have H' := Aside0.mk H; clear H
 go_enter Try.func63, Try.ntmps63
 go_wp2_with (first | ((with_reducible refine gate_dst (N := 15) rfl ?_); refine Kd.R_lit (Kd.int .i64) _ 3 ?hg (N := 15) ?hd (xs := ([a2] : List Int)) (inner := [.int .i64 a2]) (ok := fun _ => True) (okp := fun _ => True) ?hr ?hp (fun _ hk => hk) trivial (Below.refl _ _) (Nat.le_refl _) (by simp) ?_; (case hd => rfl); (case hg => rfl); (case hr => exact (qR25)); (case hp => exact (qR50)); intro v551 w5 ho6 hb hg_ hnew_; clear hg_ hnew_; (first | rw [← Ny550.out] at ho6 | (simp only [Int.reduceToNat] at ho6; rw [← Ny550.out] at ho6)); have HO552 := Aside0.mk (qR70 ho6); replace HB := Aside0.mk (qR62); clear hb ho6))
 repeat (go_quiet (first | ((with_reducible refine gate_dst (N := 15) rfl ?_); refine Kd.R_lit (Kd.int .i64) _ 3 ?hg (N := 15) ?hd (xs := ([a2] : List Int)) (inner := [.int .i64 a2]) (ok := fun _ => True) (okp := fun _ => True) ?hr ?hp (fun _ hk => hk) trivial (Below.refl _ _) (Nat.le_refl _) (by simp) ?_; (case hd => rfl); (case hg => rfl); (case hr => exact (qR25)); (case hp => exact (qR50)); intro v551 w5 ho6 hb hg_ hnew_; clear hg_ hnew_; (first | rw [← Ny550.out] at ho6 | (simp only [Int.reduceToNat] at ho6; rw [← Ny550.out] at ho6)); have HO552 := Aside0.mk (qR70 ho6); replace HB := Aside0.mk (qR62); clear hb ho6)); try go_wp2_with (first | ((with_reducible refine gate_dst (N := 15) rfl ?_); refine Kd.R_lit (Kd.int .i64) _ 3 ?hg (N := 15) ?hd (xs := ([a2] : List Int)) (inner := [.int .i64 a2]) (ok := fun _ => True) (okp := fun _ => True) ?hr ?hp (fun _ hk => hk) trivial (Below.refl _ _) (Nat.le_refl _) (by simp) ?_; (case hd => rfl); (case hg => rfl); (case hr => exact (qR25)); (case hp => exact (qR50)); intro v551 w5 ho6 hb hg_ hnew_; clear hg_ hnew_; (first | rw [← Ny550.out] at ho6 | (simp only [Int.reduceToNat] at ho6; rw [← Ny550.out] at ho6)); have HO552 := Aside0.mk (qR70 ho6); replace HB := Aside0.mk (qR62); clear hb ho6)))
 go_loopg [9, 10] k (fun kq v9 v10 w' => ∃ (x9_1 : List Int) (x10_1 : Bool), v10 = .bool x10_1 ∧ Aside0 (spec_l15Reach.l0 kq l0 l1 a3 x9_1 x10_1 = some r) ∧ Aside0 (kq ≤ k) ∧ Aside0 (Kd.R (Kd.int .i64) 3 w' w.heap.size (fun _ => True) v9 x9_1) ∧ Aside0 (Below w.heap.size w w'))
 case atStart => exact ⟨(y550), (true), (qR12), H', ⟨Nat.le_refl _⟩, ⟨(qR1 HO552.out)⟩, ⟨(qR0)⟩⟩
 case round =>
  clear H'; (try clear c1); (try clear p2); (try clear c6); obtain ⟨x9_1, x10_1, rfl, HA, HK1, HO_9, HB⟩ := hrel
  cases gk with
  | zero => exact absurd HA.out (by simp [spec_l15Reach.l0])
  | succ k1 =>
   have H := HA.out; clear HA; simp only [spec_l15Reach.l0] at H
   by_cases c7 : x10_1 = true
   ·subst c7; rw [if_pos rfl] at H; have H' := Aside0.mk H; clear H
    go_wp2
    repeat (go_quiet (fail); try go_wp2)
    go_loopg [9, 10, 11] k1 (fun kq v9 v10 v11 w' => ∃ (x9_2 : List Int) (x10_2 : Bool) (x11_2 : Int), v10 = .bool x10_2 ∧ v11 = .int .i64 x11_2 ∧ Aside0 (spec_l15Reach.l1 kq l0 l1 a3 x9_2 x10_2 x11_2 = some r) ∧ Aside0 (kq ≤ k1) ∧ Aside0 (Kd.R (Kd.int .i64) 3 w' w.heap.size (fun _ => True) v9 x9_2) ∧ Aside0 (Below w.heap.size w w'))
    case atStart => exact ⟨(x9_1), (false), (0), (qR12), (qR12), H', ⟨Nat.le_refl _⟩, ⟨(qR1 HO_9.out)⟩, ⟨(qR0)⟩⟩
    case round =>
     clear H'; (try clear c1); (try clear p2); (try clear c6); (try clear c7); (try clear p2); obtain ⟨x9_2, x10_2, x11_2, rfl, rfl, HA, HK2, HO_9, HB⟩ := hrel
     cases gk with
     | zero => exact absurd HA.out (by simp [spec_l15Reach.l1])
     | succ k2 =>
      have H := HA.out; clear HA; simp only [spec_l15Reach.l1] at H
      by_cases c8 : x11_2 < (l0.length : Int)
      ·rw [if_pos c8] at H; have c8b0 : decide (x11_2 < (l0.length : Int)) = true := decide_eq_true c8; clear c8
       by_cases c9 : 0 ≤ x11_2
       ·rw [if_pos c9] at H; have c9b0 : decide (0 ≤ x11_2) = true := decide_eq_true c9; clear c9; have HC10 := Aside0.mk H; clear H; have p553 : 0 ≤ (x11_2 : Int) := of_decide_eq_true (qR8); have q553 : x11_2 < (l0.length : Int) := of_decide_eq_true (qR8); obtain ⟨ad553, e553, hx553_0, hx553_1, hx553_2, hx553_3, hx553_4⟩ := at_T58 HR0.out x11_2 p553 q553; cases e553; replace hx553_0 := (HB.out.cell (World.block_lt_of_cell? w _ hx553_0)).trans hx553_0; replace hx553_1 := (HB.out.cell (World.block_lt_of_cell? w _ hx553_1)).trans hx553_1; replace hx553_2 := (HB.out.cell (World.block_lt_of_cell? w _ hx553_2)).trans hx553_2; replace hx553_3 := (HB.out.cell (World.block_lt_of_cell? w _ hx553_3)).trans hx553_3; replace hx553_4 := (HB.out.cell (World.block_lt_of_cell? w _ hx553_4)).trans hx553_4; replace p553 := eq_true p553; replace q553 := eq_true q553; have p554 : 0 ≤ (x11_2 : Int) := of_decide_eq_true (qR8); have q554 : x11_2 < (l0.length : Int) := of_decide_eq_true (qR8); obtain ⟨ad554, e554, hx554_0, hx554_1, hx554_2, hx554_3, hx554_4⟩ := at_T58 HR0.out x11_2 p554 q554; obtain rfl : ad553 = ad554 := (by injection e554); replace hx554_0 := (HB.out.cell (World.block_lt_of_cell? w _ hx554_0)).trans hx554_0; replace hx554_1 := (HB.out.cell (World.block_lt_of_cell? w _ hx554_1)).trans hx554_1; replace hx554_2 := (HB.out.cell (World.block_lt_of_cell? w _ hx554_2)).trans hx554_2; replace hx554_3 := (HB.out.cell (World.block_lt_of_cell? w _ hx554_3)).trans hx554_3; replace hx554_4 := (HB.out.cell (World.block_lt_of_cell? w _ hx554_4)).trans hx554_4
        replace p554 := eq_true p554; replace q554 := eq_true q554
        go_upto_region 9 with (fail)
        repeat (go_quiet (fail); go_upto_region 9 with (fail))
        go_cut [47] (fun v47 wc => ∃ (kq : Nat) (x47_9 : Bool), v47 = .bool x47_9 ∧ Aside0 (spec_l15Reach.j2 kq l0 l1 a3 x9_2 x10_2 x11_2 ((rd_T58 l0 x11_2).f0) ((rd_T58 l0 x11_2).f1) x47_9 = some r) ∧ Aside0 (kq ≤ k2) ∧ Aside0 (Kd.R (Kd.int .i64) 3 wc w.heap.size (fun _ => True) u9 x9_2) ∧ Aside0 (Below w.heap.size w wc))
        case first =>
         have H := HC10.out; clear HC10
         by_cases c11 : x11_2 < (l1.length : Int)
         ·rw [if_pos c11] at H; have c11b0 : decide (x11_2 < (l1.length : Int)) = true := decide_eq_true c11; clear c11
          (first | rw [c11b0] | (simp only [i64_w, i32_w]; rw [c11b0]) | skip)
          by_cases c12 : (rd l1 x11_2) < a3
          ·rw [if_pos c12] at H; have c12b0 : decide ((rd l1 x11_2) < a3) = true := decide_eq_true c12; clear c12; have H' := Aside0.mk H; clear H; have p555 : 0 ≤ (x11_2 : Int) := of_decide_eq_true (qR8); have q555 : x11_2 < (l1.length : Int) := of_decide_eq_true (qR8); obtain ⟨ad555, e555, hx555_0⟩ := Kd.at_int HR1.out x11_2 p555 q555; cases e555; replace hx555_0 := (HB.out.cell (World.block_lt_of_cell? w _ hx555_0)).trans hx555_0; replace p555 := eq_true p555; replace q555 := eq_true q555
           go_wp2
           repeat (go_quiet (fail); try go_wp2)
           go_meet
           case rel => exact ⟨_, (true), (qR12), H', ⟨by have := HK1.out; have := HK2.out; first | omega | exact Nat.le_refl _⟩, ⟨(qR1 HO_9.out)⟩, ⟨(qR0)⟩⟩
          ·rw [if_neg c12] at H; have c12b0 : decide ((rd l1 x11_2) < a3) = false := decide_eq_false c12; clear c12; replace H := bindA H; obtain ⟨t556, A13, H⟩ := H; (try dsimp only at H); replace H := bindA H; obtain ⟨t557, A14, H⟩ := H; (try dsimp only at H); have H' := Aside0.mk H; clear H; have p555 : 0 ≤ (x11_2 : Int) := of_decide_eq_true (qR8); have q555 : x11_2 < (l1.length : Int) := of_decide_eq_true (qR8); obtain ⟨ad555, e555, hx555_0⟩ := Kd.at_int HR1.out x11_2 p555 q555; cases e555; replace hx555_0 := (HB.out.cell (World.block_lt_of_cell? w _ hx555_0)).trans hx555_0; replace p555 := eq_true p555; replace q555 := eq_true q555; obtain ⟨Ao15, co15, eo15⟩ := Kd.R_slice HO_9.out; subst eo15
           go_wp2_with (first | (go_at_call 71; (with_reducible refine (spec_l1Has.calls k2 _ _ x9_2 ((rd_T58 l0 x11_2).f0) t556 _ ?s1 ?s2 A13.out).mono ?_); (case s1 => exact (qR5 HO_9.out)); (case s2 => exact (qR32 HO_9.out)); rintro e w' ⟨rfl, ⟨nd, rfl⟩⟩; (try first | exact ⟨rfl, _, World.drewN_drewN _ _ _⟩ | exact ⟨rfl, _, Eq.trans (World.drewN_drewN _ _ _) (congrArg (World.drewN _) (Nat.add_assoc _ _ _))⟩)) | (go_at_call 71; (with_reducible refine (spec_l1Has.calls k2 _ _ x9_2 ((rd_T58 l0 x11_2).f1) t557 _ ?s1 ?s2 A14.out).mono ?_); (case s1 => exact (qR5 HO_9.out)); (case s2 => exact (qR32 HO_9.out)); rintro e w' ⟨rfl, ⟨nd, rfl⟩⟩; (try first | exact ⟨rfl, _, World.drewN_drewN _ _ _⟩ | exact ⟨rfl, _, Eq.trans (World.drewN_drewN _ _ _) (congrArg (World.drewN _) (Nat.add_assoc _ _ _))⟩)))
           repeat (go_quiet (first | (go_at_call 71; (with_reducible refine (spec_l1Has.calls k2 _ _ x9_2 ((rd_T58 l0 x11_2).f0) t556 _ ?s1 ?s2 A13.out).mono ?_); (case s1 => exact (qR5 HO_9.out)); (case s2 => exact (qR32 HO_9.out)); rintro e w' ⟨rfl, ⟨nd, rfl⟩⟩; (try first | exact ⟨rfl, _, World.drewN_drewN _ _ _⟩ | exact ⟨rfl, _, Eq.trans (World.drewN_drewN _ _ _) (congrArg (World.drewN _) (Nat.add_assoc _ _ _))⟩)) | (go_at_call 71; (with_reducible refine (spec_l1Has.calls k2 _ _ x9_2 ((rd_T58 l0 x11_2).f1) t557 _ ?s1 ?s2 A14.out).mono ?_); (case s1 => exact (qR5 HO_9.out)); (case s2 => exact (qR32 HO_9.out)); rintro e w' ⟨rfl, ⟨nd, rfl⟩⟩; (try first | exact ⟨rfl, _, World.drewN_drewN _ _ _⟩ | exact ⟨rfl, _, Eq.trans (World.drewN_drewN _ _ _) (congrArg (World.drewN _) (Nat.add_assoc _ _ _))⟩))); try go_wp2_with (first | (go_at_call 71; (with_reducible refine (spec_l1Has.calls k2 _ _ x9_2 ((rd_T58 l0 x11_2).f0) t556 _ ?s1 ?s2 A13.out).mono ?_); (case s1 => exact (qR5 HO_9.out)); (case s2 => exact (qR32 HO_9.out)); rintro e w' ⟨rfl, ⟨nd, rfl⟩⟩; (try first | exact ⟨rfl, _, World.drewN_drewN _ _ _⟩ | exact ⟨rfl, _, Eq.trans (World.drewN_drewN _ _ _) (congrArg (World.drewN _) (Nat.add_assoc _ _ _))⟩)) | (go_at_call 71; (with_reducible refine (spec_l1Has.calls k2 _ _ x9_2 ((rd_T58 l0 x11_2).f1) t557 _ ?s1 ?s2 A14.out).mono ?_); (case s1 => exact (qR5 HO_9.out)); (case s2 => exact (qR32 HO_9.out)); rintro e w' ⟨rfl, ⟨nd, rfl⟩⟩; (try first | exact ⟨rfl, _, World.drewN_drewN _ _ _⟩ | exact ⟨rfl, _, Eq.trans (World.drewN_drewN _ _ _) (congrArg (World.drewN _) (Nat.add_assoc _ _ _))⟩))))
           go_meet
           case rel => exact ⟨_, ((t556 == t557)), (qR12), H', ⟨by have := HK1.out; have := HK2.out; first | omega | exact Nat.le_refl _⟩, ⟨(qR1 HO_9.out)⟩, ⟨(qR0)⟩⟩
         ·rw [if_neg c11] at H
          exact absurd H (by simp)
        case rest =>
         clear HC10; (try clear c1); (try clear p2); (try clear p5); (try clear q5); (try clear hx5); (try clear c6); (try clear c7); (try clear c8); (try clear c8b0); (try clear c9); (try clear c9b0); (try clear c11); (try clear c11b0); (try clear c12); (try clear c12b0); (try clear hx553_0); (try clear hx553_1); (try clear hx553_2); (try clear hx553_3); (try clear hx553_4); (try clear hx554_0); (try clear hx554_1); (try clear hx554_2); (try clear hx554_3); (try clear hx554_4); (try clear hx555_0); (try clear p2); (try clear p553); (try clear p554); (try clear p555); (try clear q553); (try clear q554); (try clear q555); obtain ⟨kq, x47_9, rfl, HA, HJ9, HO_9, HB⟩ := hcut
         cases kq with
         | zero => exact absurd HA.out (by simp [spec_l15Reach.j2])
         | succ kj9 =>
          have H := HA.out; clear HA; simp only [spec_l15Reach.j2] at H
          by_cases c16 : x47_9 = true
          ·subst c16; rw [if_pos rfl] at H; have H' := Aside0.mk H; clear H
           go_wp2
           repeat (go_quiet (fail); try go_wp2)
           go_roundg kj9
           case measure => have := HK1.out; have := HK2.out; have := HJ9.out; omega
           case rel => exact ⟨(x9_2), (x10_2), (wrap64 (x11_2 + 1)), (qR12), (qR12), H', ⟨by have := HK1.out; have := HK2.out; have := HJ9.out; omega⟩, ⟨(qR1 HO_9.out)⟩, ⟨(qR0)⟩⟩
          ·replace c16 := Bool.eq_false_iff.mpr c16; subst c16; rw [if_neg (show ¬ (false = true) by decide)] at H; replace H := bindA H; obtain ⟨t558, A17, H⟩ := H; (try dsimp only at H); replace H := bindA H; obtain ⟨t561, A18, H⟩ := H; (try dsimp only at H); have H' := Aside0.mk H; clear H; obtain ⟨Ao19, co19, eo19⟩ := Kd.R_slice HO_9.out; subst eo19
           go_wp2_with (first | (go_at_call 82; (with_reducible refine (spec_l1Put.calls kj9 (fun k_ => some k_ = (.slice Ao19 x9_2.length co19 : Value).ownBlock) (.slice Ao19 x9_2.length co19) x9_2 ((rd_T58 l0 x11_2).f0) t558 w _ ?s1 ?s2 A17.out).mono ?_); (case s1 => exact (qR0)); (case s2 => exact Kd.R_tight rfl HO_9.out); rintro e w20 ⟨v559, rfl, ho0, hb, hkp⟩; have HO560 := Aside0.mk (Kd.R_mono (ok' := fun k_ => True) ho0 (fun k_ hk_ => trivial)); replace HB := Aside0.mk (hb); clear HO_9; (try clear hb); (try clear hkp); (try clear ho0); obtain ⟨Ao21, co21, eo21⟩ := Kd.R_slice HO560.out; subst eo21) | (go_at_call 82; (with_reducible refine (spec_l1Put.calls kj9 (fun k_ => some k_ = (.slice Ao21 t558.length co21 : Value).ownBlock) (.slice Ao21 t558.length co21) t558 ((rd_T58 l0 x11_2).f1) t561 w _ ?s1 ?s2 A18.out).mono ?_); (case s1 => exact (qR0)); (case s2 => exact (by exact Kd.R_tight rfl HO560.out)); rintro e w22 ⟨v562, rfl, ho0, hb, hkp⟩; have HO563 := Aside0.mk (Kd.R_mono (ok' := fun k_ => True) ho0 (fun k_ hk_ => trivial)); replace HB := Aside0.mk (hb); clear HO560; (try clear hb); (try clear hkp); (try clear ho0)))
           repeat (go_quiet (first | (go_at_call 82; (with_reducible refine (spec_l1Put.calls kj9 (fun k_ => some k_ = (.slice Ao19 x9_2.length co19 : Value).ownBlock) (.slice Ao19 x9_2.length co19) x9_2 ((rd_T58 l0 x11_2).f0) t558 w _ ?s1 ?s2 A17.out).mono ?_); (case s1 => exact (qR0)); (case s2 => exact Kd.R_tight rfl HO_9.out); rintro e w20 ⟨v559, rfl, ho0, hb, hkp⟩; have HO560 := Aside0.mk (Kd.R_mono (ok' := fun k_ => True) ho0 (fun k_ hk_ => trivial)); replace HB := Aside0.mk (hb); clear HO_9; (try clear hb); (try clear hkp); (try clear ho0); obtain ⟨Ao21, co21, eo21⟩ := Kd.R_slice HO560.out; subst eo21) | (go_at_call 82; (with_reducible refine (spec_l1Put.calls kj9 (fun k_ => some k_ = (.slice Ao21 t558.length co21 : Value).ownBlock) (.slice Ao21 t558.length co21) t558 ((rd_T58 l0 x11_2).f1) t561 w _ ?s1 ?s2 A18.out).mono ?_); (case s1 => exact (qR0)); (case s2 => exact (by exact Kd.R_tight rfl HO560.out)); rintro e w22 ⟨v562, rfl, ho0, hb, hkp⟩; have HO563 := Aside0.mk (Kd.R_mono (ok' := fun k_ => True) ho0 (fun k_ hk_ => trivial)); replace HB := Aside0.mk (hb); clear HO560; (try clear hb); (try clear hkp); (try clear ho0))); try go_wp2_with (first | (go_at_call 82; (with_reducible refine (spec_l1Put.calls kj9 (fun k_ => some k_ = (.slice Ao19 x9_2.length co19 : Value).ownBlock) (.slice Ao19 x9_2.length co19) x9_2 ((rd_T58 l0 x11_2).f0) t558 w _ ?s1 ?s2 A17.out).mono ?_); (case s1 => exact (qR0)); (case s2 => exact Kd.R_tight rfl HO_9.out); rintro e w20 ⟨v559, rfl, ho0, hb, hkp⟩; have HO560 := Aside0.mk (Kd.R_mono (ok' := fun k_ => True) ho0 (fun k_ hk_ => trivial)); replace HB := Aside0.mk (hb); clear HO_9; (try clear hb); (try clear hkp); (try clear ho0); obtain ⟨Ao21, co21, eo21⟩ := Kd.R_slice HO560.out; subst eo21) | (go_at_call 82; (with_reducible refine (spec_l1Put.calls kj9 (fun k_ => some k_ = (.slice Ao21 t558.length co21 : Value).ownBlock) (.slice Ao21 t558.length co21) t558 ((rd_T58 l0 x11_2).f1) t561 w _ ?s1 ?s2 A18.out).mono ?_); (case s1 => exact (qR0)); (case s2 => exact (by exact Kd.R_tight rfl HO560.out)); rintro e w22 ⟨v562, rfl, ho0, hb, hkp⟩; have HO563 := Aside0.mk (Kd.R_mono (ok' := fun k_ => True) ho0 (fun k_ hk_ => trivial)); replace HB := Aside0.mk (hb); clear HO560; (try clear hb); (try clear hkp); (try clear ho0))))
           go_roundg kj9
           case measure => have := HK1.out; have := HK2.out; have := HJ9.out; omega
           case rel => exact ⟨(t561), (true), (wrap64 (x11_2 + 1)), (qR12), (qR12), H', ⟨by have := HK1.out; have := HK2.out; have := HJ9.out; omega⟩, ⟨(qR1 HO563.out)⟩, ⟨(qR0)⟩⟩
       ·rw [if_neg c9] at H
        exact absurd H (by simp)
      ·rw [if_neg c8] at H; have c8b0 : decide (x11_2 < (l0.length : Int)) = false := decide_eq_false c8; clear c8; have H' := Aside0.mk H; clear H
       go_wp2
       repeat (go_quiet (fail); try go_wp2)
       go_roundg k2
       case measure => have := HK1.out; have := HK2.out; omega
       case rel => exact ⟨(x9_2), (x10_2), (qR12), H', ⟨by have := HK1.out; have := HK2.out; omega⟩, ⟨(qR1 HO_9.out)⟩, ⟨(qR0)⟩⟩
   ·replace c7 := Bool.eq_false_iff.mpr c7; subst c7; rw [if_neg (show ¬ (false = true) by decide)] at H; obtain rfl := Option.some.inj H
    go_wp2
    repeat (go_quiet (fail); try go_wp2)
    go_ret
    exact ⟨_, (qR10), (qR1 HO_9.out), (qR0)⟩

/-! ### spec_l15Greatest: function 47 -/
def spec_l15Greatest.l0 : Nat → List (S58) → List Int → Int → Int → Int → Option (Int)
 | 0, _, _, _, _, _ => none
 | k + 1, x0, x1, x2, x3, x9 => if x9 ≥ 0 then ((spec_l15Reach.f k x0 x1 x2 x9).bind fun t564 => ((spec_l1Has.f k t564 x3).bind fun t567 => (if t567 = true then (some x9) else (spec_l15Greatest.l0 k x0 x1 x2 x3 (wrap64 (x9 - 1)))))) else (some (-1))
def spec_l15Greatest.f (k : Nat) (l0 : List (S58)) (l1 : List Int) (a2 : Int) (a3 : Int) : Option (Int) := spec_l15Greatest.l0 k l0 l1 a2 a3 200
theorem spec_l15Greatest.mono_l : ∀ k, (∀ y0 y1 y2 y3 y4, LeO (spec_l15Greatest.l0 k y0 y1 y2 y3 y4) (spec_l15Greatest.l0 (k + 1) y0 y1 y2 y3 y4))
 | 0 => fun _ _ _ _ _ r h => by simp [spec_l15Greatest.l0] at h
 | k + 1 => by
  have ih0 := spec_l15Greatest.mono_l k
  ·intro y0 y1 y2 y3 y4
   unfold spec_l15Greatest.l0
   have m0 := @spec_l15Reach.mono; have m1 := @spec_l1Has.mono
   exact qmono
theorem spec_l15Greatest.mono : ∀ a0 a1 a2 a3 k, LeO (spec_l15Greatest.f k a0 a1 a2 a3) (spec_l15Greatest.f (k + 1) a0 a1 a2 a3) := by
 intro a0 a1 a2 a3 k; have ih0 := spec_l15Greatest.mono_l k
 unfold spec_l15Greatest.f
 have m0 := @spec_l15Reach.mono; have m1 := @spec_l1Has.mono
 exact qmono
theorem spec_l15Greatest.calls (k : Nat) (A0 : Option Addr) (c0 : Nat) (l0 : List (S58)) (A1 : Option Addr) (c1 : Nat) (l1 : List Int) (a2 : Int) (a3 : Int) (r : Int) (w : World) (hr0 : Kd.C k58 w A0 l0.length l0) (hc0 : l0.length ≤ c0) (hr1 : Kd.C (Kd.int .i64) w A1 l1.length l1) (hc1 : l1.length ≤ c1) (h : spec_l15Greatest.f k l0 l1 a2 a3 = some r) :
  Calls Try.prog 47 #[.slice A0 l0.length c0, .slice A1 l1.length c1, .int .i64 a2, .int .i64 a3] w fun e w' => e = .returned (.int .i64 r) ∧ Below w.heap.size w w' := by
 have HR0 := Aside0.mk hr0; have HC0 := Aside0.mk hc0; clear hr0 hc0; have HR1 := Aside0.mk hr1; have HC1 := Aside0.mk hc1; clear hr1 hc1; have HB := Aside0.mk (Below.refl w.heap.size w); have H : (spec_l15Greatest.l0 k l0 l1 a2 a3 200) = some r := h; clear h; have H' := Aside0.mk H; clear H
 go_enter Try.func47, Try.ntmps47
 go_wp2
 go_loopg [9] k (fun kq v9 w' => ∃ (x9_1 : Int), v9 = .int .i64 x9_1 ∧ Aside0 (spec_l15Greatest.l0 kq l0 l1 a2 a3 x9_1 = some r) ∧ Aside0 (kq ≤ k) ∧ Aside0 (Below w.heap.size w w'))
 case atStart => exact ⟨(200), (qR12), H', ⟨Nat.le_refl _⟩, ⟨(qR0)⟩⟩
 case round =>
  clear H'; (try clear c1); (try clear p2); (try clear c4); obtain ⟨x9_1, rfl, HA, HK1, HB⟩ := hrel
  cases gk with
  | zero => exact absurd HA.out (by simp [spec_l15Greatest.l0])
  | succ k1 =>
   have H := HA.out; clear HA; simp only [spec_l15Greatest.l0] at H
   by_cases c5 : x9_1 ≥ 0
   ·rw [if_pos c5] at H; have c5b0 : decide (0 ≤ x9_1) = true := decide_eq_true c5; clear c5; replace H := bindA H; obtain ⟨t564, A6, H⟩ := H; (try dsimp only at H); replace H := bindA H; obtain ⟨t567, A7, H⟩ := H; (try dsimp only at H)
    by_cases c8 : t567 = true
    ·subst c8; rw [if_pos rfl] at H; obtain rfl := Option.some.inj H
     go_wp2_with (first | ((with_reducible refine gate_callee (f := 63) rfl ?_); refine goesL_ (some 18) rfl rfl Try.func63 (by kernel_rfl) rfl #[.slice A0 l0.length c0, .slice A1 l1.length c1, .int .i64 a2, .int .i64 x9_1] rfl (qR2) ?_; (with_reducible refine (spec_l15Reach.calls k1 _ _ l0 _ _ l1 a2 x9_1 t564 _ ?s1 ?s2 ?s3 ?s4 A6.out).mono ?_); (case s1 => exact (qR14 HR0.out)); (case s2 => exact HC0.out); (case s3 => exact (qR14 HR1.out)); (case s4 => exact HC1.out); rintro e w9 ⟨v565, rfl, ho0, hb⟩; refine ⟨_, rfl, ?_⟩; have HO566 := Aside0.mk (qR70 ho0); replace HB := Aside0.mk (qR62); clear hb ho0; obtain ⟨Ao10, co10, eo10⟩ := Kd.R_slice HO566.out; subst eo10) | ((with_reducible refine gate_callee (f := 71) rfl ?_); refine goesL_ (some 20) rfl rfl Try.func71 (by kernel_rfl) rfl #[.slice Ao10 t564.length co10, .int .i64 a3] rfl (qR2) ?_; (with_reducible refine (spec_l1Has.calls k1 _ _ t564 a3 true _ ?s1 ?s2 A7.out).mono ?_); (case s1 => exact (qR5 HO566.out)); (case s2 => exact (qR32 HO566.out)); rintro e w' ⟨rfl, ⟨nd, rfl⟩⟩; refine ⟨_, rfl, ?_⟩))
     go_ret
     exact ⟨(qR10), (qR0)⟩
    ·replace c8 := Bool.eq_false_iff.mpr c8; subst c8; rw [if_neg (show ¬ (false = true) by decide)] at H; have H' := Aside0.mk H; clear H
     go_wp2_with (first | ((with_reducible refine gate_callee (f := 63) rfl ?_); refine goesL_ (some 18) rfl rfl Try.func63 (by kernel_rfl) rfl #[.slice A0 l0.length c0, .slice A1 l1.length c1, .int .i64 a2, .int .i64 x9_1] rfl (qR2) ?_; (with_reducible refine (spec_l15Reach.calls k1 _ _ l0 _ _ l1 a2 x9_1 t564 _ ?s1 ?s2 ?s3 ?s4 A6.out).mono ?_); (case s1 => exact (qR14 HR0.out)); (case s2 => exact HC0.out); (case s3 => exact (qR14 HR1.out)); (case s4 => exact HC1.out); rintro e w11 ⟨v565, rfl, ho0, hb⟩; refine ⟨_, rfl, ?_⟩; have HO566 := Aside0.mk (qR70 ho0); replace HB := Aside0.mk (qR62); clear hb ho0; obtain ⟨Ao12, co12, eo12⟩ := Kd.R_slice HO566.out; subst eo12) | ((with_reducible refine gate_callee (f := 71) rfl ?_); refine goesL_ (some 20) rfl rfl Try.func71 (by kernel_rfl) rfl #[.slice Ao12 t564.length co12, .int .i64 a3] rfl (qR2) ?_; (with_reducible refine (spec_l1Has.calls k1 _ _ t564 a3 false _ ?s1 ?s2 A7.out).mono ?_); (case s1 => exact (qR5 HO566.out)); (case s2 => exact (qR32 HO566.out)); rintro e w' ⟨rfl, ⟨nd, rfl⟩⟩; refine ⟨_, rfl, ?_⟩))
     go_roundg k1
     case measure => have := HK1.out; omega
     case rel => exact ⟨(wrap64 (x9_1 - 1)), (qR12), H', ⟨by have := HK1.out; omega⟩, ⟨(qR0)⟩⟩
   ·rw [if_neg c5] at H; have c5b0 : decide (0 ≤ x9_1) = false := decide_eq_false c5; clear c5; obtain rfl := Option.some.inj H
    go_wp2
    go_ret
    exact ⟨(qR10), (qR0)⟩

end Go.Proofs.Ytoljdjgndogegaa.MR
