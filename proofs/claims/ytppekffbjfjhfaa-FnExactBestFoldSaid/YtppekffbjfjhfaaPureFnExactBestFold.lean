/- The law FnExactBestFold's pure statement: the program's BestFold is the reference's. -/
import Derived.Test.YtppekffbjfjhfaaMAx21
import Derived.Test.YtppekffbjfjhfaaMAx20
import Derived.Test.YtppekffbjfjhfaaPInts
import Derived.Test.YtppekffbjfjhfaaPMInts
import Derived.Test.YtppekffbjfjhfaaPWRun
import Derived.Test.YtppekffbjfjhfaaPMRun
import Derived.Test.YtppekffbjfjhfaaPBestFold
import Derived.Test.YtppekffbjfjhfaaDecA
namespace Go.Proofs.Ytppekffbjfjhfaa.Pure
open Go.RowKit Go.Proofs.Ytppekffbjfjhfaa.MA Go.Proofs.YtppekffbjfjhfaaW.PrintWords Go.Proofs.YtppekffbjfjhfaaW.PrintLast Go.Proofs.YtppekffbjfjhfaaW.PrintMore
theorem FnExactBestFold (l0 : List S59) (hm0 : l0.length ≤ 9223372036854775807) (_hw0 : ∀ x ∈ l0, OK59 x) : ∃ k, laws_FnExactBestFold.f k l0 = some true := by
  apply Ev.rounds
  have hm : (l0.map convRun).length ≤ 9223372036854775807 := by rw [List.length_map]; exact hm0
  simp only [laws_FnExactBestFold.f]
  rcases Nat.lt_or_ge 1048576 l0.length with hb | hb
  · exact Ev.bindc (szRunS_big l0 hm0 (by omega)) (Ev.ite_pos (by omega) (Ev.now true))
  have t0 := toRunS_ev l0 hb
  have hs := specBest_ev (l0.map convRun) hm
  have hi := implBest_ev (l0.map convRun) hm
  have hlen := bestAnswer_len (l0.map convRun)
  generalize bestAnswer (l0.map convRun) = a at hs hi hlen
  have he := eqIntS_refl a.1 (by omega)
  refine Ev.bindc (szRunS_small l0 hb) (Ev.ite_neg (by omega) (Ev.bind t0 (Ev.bind hs (Ev.bind t0 (Ev.bind hi (Ev.bind he (Ev.ite_pos rfl (Ev.ite_pos rfl ?_))))))))
  have hheld := heldIntS_ev a.1.length 1 (by omega) (by omega) (by omega)
  have hj2 : Ev (fun k => laws_FnExactBestFold.j2 k (marked a.1.length 1) (1 + (a.1.length : Int)) (a.2.2 != a.2.2)) true := by
    refine Ev.step (f := fun k => (laws_heldIntS.f k (marked a.1.length 1) 1).bind fun t => if t < 0 then some false else if t = 1 + (a.1.length : Int) then some true else some false) (fun k => by simp [laws_FnExactBestFold.j2]) ?_
    exact Ev.bind hheld (Ev.ite_neg (by omega) (Ev.ite_pos rfl (Ev.now true)))
  have hj1 : Ev (fun k => laws_FnExactBestFold.j1 k l0 a.1 a.2.1 a.2.2 a.1 (a.2.2 != a.2.2)) true := by
    refine Ev.step (f := fun k => (laws_markIntS.f k a.1 1).bind fun b => (laws_heldIntS.f k b.2 1).bind fun t => if t < 0 then some false else if t = b.1 then ((laws_toRunS.f k l0).bind fun t => (impl_BestFold.f k t).bind fun c => (laws_eqIntS.f k c.1 a.1).bind fun t => if t = true then (if c.2.1 = a.2.1 then laws_FnExactBestFold.j2 k b.2 b.1 (c.2.2 != a.2.2) else laws_FnExactBestFold.j2 k b.2 b.1 true) else laws_FnExactBestFold.j2 k b.2 b.1 true) else some false) (fun k => by simp [laws_FnExactBestFold.j1]) ?_
    exact Ev.bind (markIntS_ev a.1 1 (by omega) (by omega) (by omega)) (Ev.bind hheld (Ev.ite_neg (by omega) (Ev.ite_pos rfl (Ev.bind t0 (Ev.bind hi (Ev.bind he (Ev.ite_pos rfl (Ev.ite_pos rfl hj2))))))))
  refine Ev.step (f := fun k => (laws_toRunS.f k l0).bind fun t => (laws_eqRunS.f k (l0.map convRun) t).bind fun b => if b = true then ((laws_markRunS.f k (l0.map convRun) 1).bind fun b => if b.1 < 0 then laws_FnExactBestFold.j1 k l0 a.1 a.2.1 a.2.2 a.1 true else (laws_eqIntS.f k a.1 a.1).bind fun t => if t = true then (if a.2.1 = a.2.1 then laws_FnExactBestFold.j1 k l0 a.1 a.2.1 a.2.2 a.1 (a.2.2 != a.2.2) else laws_FnExactBestFold.j1 k l0 a.1 a.2.1 a.2.2 a.1 true) else laws_FnExactBestFold.j1 k l0 a.1 a.2.1 a.2.2 a.1 true) else some false) (fun k => by simp [laws_FnExactBestFold.j0]) ?_
  exact Ev.bind t0 (Ev.bind (eqRunS_refl _ hm) (Ev.ite_pos rfl (Ev.bind (markRunS_ev _ 1 (by omega) (by omega) (by rw [List.length_map]; omega)) (Ev.ite_neg (by omega) (Ev.bind he (Ev.ite_pos rfl (Ev.ite_pos rfl hj1)))))))
end Go.Proofs.Ytppekffbjfjhfaa.Pure
