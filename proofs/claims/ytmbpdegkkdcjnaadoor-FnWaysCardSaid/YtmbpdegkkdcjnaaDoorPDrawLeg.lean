/- The draw of a leg comes to an end. -/
import Derived.Test.YtmbpdegkkdcjnaaDoorMWx8
import Derived.Test.YtmbpdegkkdcjnaaDoorPDr
namespace Go.Proofs.YtmbpdegkkdcjnaaDoor.Pure
open Go.RowKit Go.Proofs.YtmbpdegkkdcjnaaDoor.MW Go.Proofs.YtmbpdegkkdcjnaaDoorW.PrintWords Go.Proofs.YtmbpdegkkdcjnaaDoorW.PrintLast Go.Proofs.YtmbpdegkkdcjnaaDoorW.PrintMore
set_option linter.unusedVariables false
set_option linter.unusedSimpArgs false
theorem dr_leg0 {l : List Int} (hb : Bytes l) (a b c d e : Int) {i s : Int} (h0 : 0 ≤ i) (h1 : i ≤ 999000000) : Dr (fun k => spec_l1Cur_leg.j0 k l i s a b c d e) (fun r => i ≤ r.2.2.2.2.2.1 ∧ r.2.2.2.2.2.1 ≤ i + 4) := by
 refine Dr.step (fun k => by rw [spec_l1Cur_leg.j0]) ?_
 refine Dr.pick hb (by omega) (by omega) (by omega) (fun v j t g0 g1 g2 g3 => ?_)
 dsimp only
 refine Dr.ite (fun _ => ?_) (fun _ => Dr.ite (fun _ => ?_) (fun _ => Dr.ite (fun _ => ?_) (fun _ => Dr.ite (fun _ => ?_) (fun _ => Dr.now _ ⟨by dsimp only; omega, by dsimp only; omega⟩))))
 all_goals
  refine Dr.among hb (by omega) (by omega) (by simp) (by simp) (fun v2 j2 t2 g4 g5 g6 => ?_)
  exact Dr.now _ ⟨by dsimp only; omega, by dsimp only; omega⟩
theorem dr_leg {l : List Int} (hb : Bytes l) {i s : Int} (h0 : 0 ≤ i) (h1 : i ≤ 998000000) : Dr (fun k => spec_l1Cur_leg.f k l i s) (fun r => i ≤ r.2.2.2.2.2.1 ∧ r.2.2.2.2.2.1 ≤ i + 14) := by
 simp only [spec_l1Cur_leg.f]
 refine Dr.pick hb (by omega) (by omega) (by omega) (fun v j t g0 g1 g2 g3 => ?_)
 dsimp only
 refine Dr.pick hb (by omega) (by omega) (by omega) (fun v2 j2 t2 g4 g5 g6 g7 => ?_)
 dsimp only
 refine Dr.among hb (by omega) (by omega) (by decide) (by decide) (fun v3 j3 t3 g8 g9 _ => ?_)
 dsimp only
 refine Dr.among hb (by omega) (by omega) (by decide) (by decide) (fun v4 j4 t4 g10 g11 _ => ?_)
 dsimp only
 refine Dr.among hb (by omega) (by omega) (by decide) (by decide) (fun v5 j5 t5 g12 g13 _ => ?_)
 dsimp only
 exact Dr.ite (fun _ => (dr_leg0 hb _ _ _ _ _ (by omega) (by omega)).mono (fun r hr => ⟨by omega, by omega⟩)) (fun _ => (dr_leg0 hb _ _ _ _ _ (by omega) (by omega)).mono (fun r hr => ⟨by omega, by omega⟩))
end Go.Proofs.YtmbpdegkkdcjnaaDoor.Pure
