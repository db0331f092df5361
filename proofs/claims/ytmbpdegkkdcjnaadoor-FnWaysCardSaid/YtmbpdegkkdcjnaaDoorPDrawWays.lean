/- The draws of ways come to an end. -/
import Derived.Test.YtmbpdegkkdcjnaaDoorMWx2
import Derived.Test.YtmbpdegkkdcjnaaDoorPDr
namespace Go.Proofs.YtmbpdegkkdcjnaaDoor.Pure
open Go.RowKit Go.Proofs.YtmbpdegkkdcjnaaDoor.MW Go.Proofs.YtmbpdegkkdcjnaaDoorW.PrintWords Go.Proofs.YtmbpdegkkdcjnaaDoorW.PrintLast Go.Proofs.YtmbpdegkkdcjnaaDoorW.PrintMore
set_option linter.unusedVariables false
set_option linter.unusedSimpArgs false
theorem dr_way1 {l : List Int} (hb : Bytes l) : ∀ (d : Nat) (xs : List S44) (i s : Int), 13 ≤ xs.length + d → xs.length ≤ 13 → 0 ≤ i → i + 2 * d ≤ 999990000 → Dr (fun k => spec_l1Cur_way14.l1 k xs l i s) (fun r => r.1.length ≤ 13 ∧ i ≤ r.2.1 ∧ r.2.1 ≤ i + 2 * d + 2) := by
 intro d
 induction d with
 | zero =>
  intro xs i s hd hx h0 h1
  refine Dr.step (fun k => by rw [spec_l1Cur_way14.l1]) ?_
  refine Dr.pick hb (by omega) (by omega) (by omega) (fun v j t g0 g1 g2 g3 => ?_)
  dsimp only
  rw [wrap_id (x := 12 + v) (by omega) (by omega)]
  refine Dr.ite (fun c => ?_) (fun c => Dr.now _ ⟨hx, by dsimp only; omega, by dsimp only; omega⟩)
  omega
 | succ d ih =>
  intro xs i s hd hx h0 h1
  refine Dr.step (fun k => by rw [spec_l1Cur_way14.l1]) ?_
  refine Dr.pick hb (by omega) (by omega) (by omega) (fun v j t g0 g1 g2 g3 => ?_)
  dsimp only
  rw [wrap_id (x := 12 + v) (by omega) (by omega)]
  refine Dr.ite (fun c => ?_) (fun c => Dr.now _ ⟨hx, by dsimp only; omega, by dsimp only; omega⟩)
  refine Dr.ite (fun _ => ?_) (fun _ => Dr.none (by omega))
  exact (ih _ j t (by rw [snoc_len]; omega) (by rw [snoc_len]; omega) (by omega) (by omega)).mono (fun r hr => ⟨hr.1, by omega, by omega⟩)
theorem dr_way0 {l : List Int} (hb : Bytes l) : ∀ (d : Nat) (xs : List S44) (i s : Int), xs.length + d ≤ 6 → 0 ≤ i → i + 8 * d ≤ 999900000 → Dr (fun k => spec_l1Cur_way14.l0 k xs (d : Int) l i s) (fun r => r.1.length ≤ 13 ∧ i ≤ r.2.1 ∧ r.2.1 ≤ i + 8 * d + 100) := by
 intro d
 induction d with
 | zero =>
  intro xs i s hd h0 h1
  refine Dr.step (fun k => by rw [spec_l1Cur_way14.l0]) ?_
  refine Dr.ite (fun c => by omega) (fun _ => ?_)
  refine Dr.pick hb (by omega) (by omega) (by omega) (fun v j t g0 g1 g2 g3 => ?_)
  dsimp only
  refine Dr.ite (fun _ => ?_) (fun _ => Dr.ite (fun _ => ?_) (fun _ => Dr.ite (fun _ => ?_) (fun _ => ?_)))
  ·refine Dr.among hb (by omega) (by omega) (by decide) (by decide) (fun v2 j2 t2 g4 g5 g6 => ?_)
   dsimp only
   refine Dr.ite (fun _ => Dr.now _ ⟨by dsimp only; rw [snoc_len]; omega, by dsimp only; omega, by dsimp only; omega⟩) (fun _ => Dr.none (by omega))
  ·refine Dr.among hb (by omega) (by omega) (by decide) (by decide) (fun v2 j2 t2 g4 g5 g6 => ?_)
   dsimp only
   refine Dr.ite (fun _ => Dr.now _ ⟨by dsimp only; rw [snoc_len]; omega, by dsimp only; omega, by dsimp only; omega⟩) (fun _ => Dr.none (by omega))
  ·exact (dr_way1 hb 13 xs j t (by omega) (by omega) (by omega) (by omega)).mono (fun r hr => ⟨hr.1, by omega, by omega⟩)
  ·exact Dr.now _ ⟨by dsimp only; omega, by dsimp only; omega, by dsimp only; omega⟩
 | succ d ih =>
  intro xs i s hd h0 h1
  refine Dr.step (fun k => by rw [spec_l1Cur_way14.l0]) ?_
  refine Dr.ite (fun _ => ?_) (fun c => by omega)
  refine Dr.among hb (by omega) (by omega) (by decide) (by decide) (fun v j t g0 g1 g2 => ?_)
  dsimp only
  refine Dr.among hb (by omega) (by omega) (by decide) (by decide) (fun v2 j2 t2 g3 g4 g5 => ?_)
  dsimp only
  rw [wrap_pred d (by omega)]
  have go : ∀ (x : S44) (j3 t3 : Int), i ≤ j3 → j3 ≤ i + 6 → Dr (fun k => if xs.length < 8796093022208 then spec_l1Cur_way14.l0 k (xs ++ [x]) (d : Int) l j3 t3 else none) (fun r => r.1.length ≤ 13 ∧ i ≤ r.2.1 ∧ r.2.1 ≤ i + 8 * ((d + 1 : Nat) : Int) + 100) := fun x j3 t3 a b =>
   Dr.ite (fun _ => (ih _ j3 t3 (by rw [snoc_len]; omega) (by omega) (by omega)).mono (fun r hr => ⟨hr.1, by omega, by omega⟩)) (fun _ => Dr.none (by omega))
  refine Dr.ite (fun _ => Dr.ite (fun _ => ?_) (fun _ => go _ _ _ (by omega) (by omega))) (fun _ => go _ _ _ (by omega) (by omega))
  refine Dr.one hb (by omega) (by omega) (by omega) (fun b j3 t3 g6 g7 => ?_)
  dsimp only
  exact Dr.ite (fun _ => go _ _ _ (by omega) (by omega)) (fun _ => go _ _ _ (by omega) (by omega))
theorem dr_way {l : List Int} (hb : Bytes l) {i s : Int} (h0 : 0 ≤ i) (h1 : i ≤ 100000000) : Dr (fun k => spec_l1Cur_way14.f k l i s) (fun r => r.1.length ≤ 13 ∧ i ≤ r.2.1 ∧ r.2.1 ≤ i + 1000) := by
 simp only [spec_l1Cur_way14.f]
 refine Dr.pick hb (by omega) (by omega) (by omega) (fun v j t g0 g1 g2 g3 => ?_)
 dsimp only
 rw [show v = (v.toNat : Int) by omega]
 exact (dr_way0 hb v.toNat [] j t (by simp; omega) (by omega) (by omega)).mono (fun r hr => ⟨hr.1, by omega, by omega⟩)
end Go.Proofs.YtmbpdegkkdcjnaaDoor.Pure
