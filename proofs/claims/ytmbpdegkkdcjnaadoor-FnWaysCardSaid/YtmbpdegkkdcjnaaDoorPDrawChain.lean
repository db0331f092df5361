/- The draw of a chain of legs comes to an end. -/
import Derived.Test.YtmbpdegkkdcjnaaDoorMWx8
import Derived.Test.YtmbpdegkkdcjnaaDoorPDrawLeg
namespace Go.Proofs.YtmbpdegkkdcjnaaDoor.Pure
open Go.RowKit Go.Proofs.YtmbpdegkkdcjnaaDoor.MW Go.Proofs.YtmbpdegkkdcjnaaDoorW.PrintWords Go.Proofs.YtmbpdegkkdcjnaaDoorW.PrintLast Go.Proofs.YtmbpdegkkdcjnaaDoorW.PrintMore
set_option linter.unusedVariables false
set_option linter.unusedSimpArgs false
theorem dr_chain1 {l : List Int} (hb : Bytes l) : ∀ (d : Nat) (xs : List S59) (i s : Int), 13 ≤ xs.length + d → xs.length ≤ 13 → 0 ≤ i → i + 2 * d ≤ 999000000 → Dr (fun k => spec_DrawWayOfLegs.l1 k xs l i s) (fun r => r.length ≤ 13) := by
 intro d
 induction d with
 | zero =>
  intro xs i s hd hx h0 h1
  refine Dr.step (fun k => by rw [spec_DrawWayOfLegs.l1]) ?_
  refine Dr.pick hb (by omega) (by omega) (by omega) (fun v j t g0 g1 g2 g3 => ?_)
  dsimp only
  rw [wrap_id (x := 12 + v) (by omega) (by omega)]
  exact Dr.ite (fun c => by omega) (fun c => Dr.now _ hx)
 | succ d ih =>
  intro xs i s hd hx h0 h1
  refine Dr.step (fun k => by rw [spec_DrawWayOfLegs.l1]) ?_
  refine Dr.pick hb (by omega) (by omega) (by omega) (fun v j t g0 g1 g2 g3 => ?_)
  dsimp only
  rw [wrap_id (x := 12 + v) (by omega) (by omega)]
  refine Dr.ite (fun c => ?_) (fun c => Dr.now _ hx)
  refine Dr.ite (fun _ => ?_) (fun _ => Dr.none (by omega))
  exact ih _ j t (by rw [snoc_len]; omega) (by rw [snoc_len]; omega) (by omega) (by omega)
theorem dr_chain0 {l : List Int} (hb : Bytes l) : ∀ (d : Nat) (xs : List S59) (i s : Int), xs.length + d ≤ 6 → 0 ≤ i → i + 20 * d ≤ 990000000 → Dr (fun k => spec_DrawWayOfLegs.l0 k xs (d : Int) l i s) (fun r => r.length ≤ 13) := by
 intro d
 induction d with
 | zero =>
  intro xs i s hd h0 h1
  refine Dr.step (fun k => by rw [spec_DrawWayOfLegs.l0]) ?_
  refine Dr.ite (fun c => by omega) (fun _ => ?_)
  refine Dr.one hb (by omega) (by omega) (by omega) (fun b j t g0 g1 => ?_)
  dsimp only
  exact Dr.ite (fun _ => dr_chain1 hb 13 xs j t (by omega) (by omega) (by omega) (by omega)) (fun _ => Dr.now _ (by omega))
 | succ d ih =>
  intro xs i s hd h0 h1
  refine Dr.step (fun k => by rw [spec_DrawWayOfLegs.l0]) ?_
  refine Dr.ite (fun _ => ?_) (fun c => by omega)
  have go : ∀ (x : S59) (j3 t3 : Int), i ≤ j3 → j3 ≤ i + 20 → Dr (fun k => if xs.length < 3518437208883 then spec_DrawWayOfLegs.l0 k (xs ++ [x]) (wrap64 (((d + 1 : Nat) : Int) - 1)) l j3 t3 else none) (fun r => r.length ≤ 13) := fun x j3 t3 a b => by
   rw [wrap_pred d (by omega)]
   exact Dr.ite (fun _ => ih _ j3 t3 (by rw [snoc_len]; omega) (by omega) (by omega)) (fun _ => Dr.none (by omega))
  refine Dr.bind (dr_leg hb h0 (by omega)) (fun r hr => ?_)
  refine Dr.ite (fun hx => ?_) (fun _ => ?_)
  ·refine Dr.one hb (by omega) (by omega) (by omega) (fun b j t g0 g1 => ?_)
   dsimp only
   refine Dr.step (fun k => by rw [spec_DrawWayOfLegs.j1]) ?_
   refine Dr.ite (fun _ => ?_) (fun _ => go _ _ _ (by omega) (by omega))
   have hw : wrap64 ((xs.length : Int) - 1) = (xs.length : Int) - 1 := wrap_id (by omega) (by omega)
   rw [hw]
   refine Dr.ite (fun _ => Dr.ite (fun _ => Dr.ite (fun _ => go _ _ _ (by omega) (by omega)) (fun _ => go _ _ _ (by omega) (by omega))) (fun _ => Dr.none (by omega))) (fun _ => Dr.none (by omega))
  ·refine Dr.step (fun k => by rw [spec_DrawWayOfLegs.j1]) ?_
   exact Dr.ite (fun c => by cases c) (fun _ => go _ _ _ (by omega) (by omega))
theorem dr_chain {l : List Int} (hb : Bytes l) : Dr (fun k => spec_DrawWayOfLegs.f k l) (fun r => r.length ≤ 13) := by
 simp only [spec_DrawWayOfLegs.f]
 refine Dr.pick hb (by omega) (by omega) (by omega) (fun v j t g0 g1 g2 g3 => ?_)
 dsimp only
 obtain ⟨n, hn⟩ : ∃ n : Nat, v = (n : Int) := ⟨v.toNat, by omega⟩
 rw [hn]
 exact dr_chain0 hb n [] j t (by simp; omega) (by omega) (by omega)
end Go.Proofs.YtmbpdegkkdcjnaaDoor.Pure
