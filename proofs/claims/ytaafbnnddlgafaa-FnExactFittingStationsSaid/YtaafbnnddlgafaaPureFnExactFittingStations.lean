/- The law FnExactFittingStations' pure statement: the program's FittingStations is the reference's. -/
import Derived.Test.YtaafbnnddlgafaaMAx14
import Derived.Test.YtaafbnnddlgafaaPEqInts
import Derived.Test.YtaafbnnddlgafaaPMInts
import Derived.Test.YtaafbnnddlgafaaPWPassage
import Derived.Test.YtaafbnnddlgafaaPMPassage
import Derived.Test.YtaafbnnddlgafaaPFitting
import Derived.Test.YtaafbnnddlgafaaDecA
namespace Go.Proofs.Ytaafbnnddlgafaa.Pure
open Go.RowKit Go.Proofs.Ytaafbnnddlgafaa.MA Go.Proofs.YtaafbnnddlgafaaW.PrintWords Go.Proofs.YtaafbnnddlgafaaW.PrintLast Go.Proofs.YtaafbnnddlgafaaW.PrintMore
theorem FnExactFittingStations (l0 : List S65) (hm0 : l0.length ≤ 9223372036854775807) (_hw0 : ∀ x ∈ l0, OK65 x) (a1 : Int) (_h1 : (Lit.int .i64 a1).wf = true) (a2 : Int) (_h2 : (Lit.int .i64 a2).wf = true) : ∃ k, laws_FnExactFittingStations.f k l0 a1 a2 = some true := by
  apply Ev.rounds
  have hm : (l0.map convPassage).length ≤ 9223372036854775807 := by rw [List.length_map]; exact hm0
  simp only [laws_FnExactFittingStations.f]
  rcases Nat.lt_or_ge 1048576 l0.length with hb | hb
  · exact Ev.bindc (szPassageS_big l0 hm0 (by omega)) (Ev.ite_pos (by omega) (Ev.now true))
  have t0 := toPassageS_ev l0 hb
  have hs := specFitting_ev (l0.map convPassage) a1 a2 hm
  have hi := implFitting_ev (l0.map convPassage) a1 a2 hm
  have hlen := fitAnswer_len (l0.map convPassage) a1 a2
  generalize fitAnswer (l0.map convPassage) a1 a2 = a at hs hi hlen
  have he := eqIntS_same a.1 (by omega)
  have hheld := heldIntS_ev a.1.length 1 (by omega) (by omega) (by omega)
  refine Ev.bindc (szPassageS_small l0 hb) (Ev.ite_neg (by omega) (Ev.bind t0 (Ev.bind hs (Ev.bind t0 (Ev.bind hi (Ev.bind he (Ev.ite_pos rfl ?_)))))))
  have hj2 : Ev (fun k => laws_FnExactFittingStations.j2 k (marked a.1.length 1) (1 + (a.1.length : Int)) (a.2 != a.2)) true := by
    refine Ev.step (f := fun k => (laws_heldIntS.f k (marked a.1.length 1) 1).bind fun t => if t < 0 then some false else if t = 1 + (a.1.length : Int) then some true else some false) (fun k => by simp [laws_FnExactFittingStations.j2]) ?_
    exact Ev.bind hheld (Ev.ite_neg (by omega) (Ev.ite_pos rfl (Ev.now true)))
  have hj1 : Ev (fun k => laws_FnExactFittingStations.j1 k l0 a1 a2 a.1 a.2 a.1 (a.2 != a.2)) true := by
    refine Ev.step (f := fun k => (laws_markIntS.f k a.1 1).bind fun b => (laws_heldIntS.f k b.2 1).bind fun t => if t < 0 then some false else if t = b.1 then ((laws_toPassageS.f k l0).bind fun t => (impl_FittingStations.f k t a1 a2).bind fun c => (laws_eqIntS.f k c.1 a.1).bind fun t => if t = true then laws_FnExactFittingStations.j2 k b.2 b.1 (c.2 != a.2) else laws_FnExactFittingStations.j2 k b.2 b.1 true) else some false) (fun k => by simp [laws_FnExactFittingStations.j1]) ?_
    exact Ev.bind (markIntS_ev a.1 1 (by omega) (by omega) (by omega)) (Ev.bind hheld (Ev.ite_neg (by omega) (Ev.ite_pos rfl (Ev.bind t0 (Ev.bind hi (Ev.bind he (Ev.ite_pos rfl hj2)))))))
  refine Ev.step (f := fun k => (laws_toPassageS.f k l0).bind fun t => (laws_eqPassageS.f k (l0.map convPassage) t).bind fun b => if b = true then ((laws_markPassageS.f k (l0.map convPassage) 1).bind fun b => if b.1 < 0 then laws_FnExactFittingStations.j1 k l0 a1 a2 a.1 a.2 a.1 true else (laws_eqIntS.f k a.1 a.1).bind fun t => if t = true then laws_FnExactFittingStations.j1 k l0 a1 a2 a.1 a.2 a.1 (a.2 != a.2) else laws_FnExactFittingStations.j1 k l0 a1 a2 a.1 a.2 a.1 true) else some false) (fun k => by simp [laws_FnExactFittingStations.j0]) ?_
  exact Ev.bind t0 (Ev.bind (eqPassageS_refl _ hm) (Ev.ite_pos rfl (Ev.bind (markPassageS_ev _ 1 (by omega) (by omega) (by rw [List.length_map]; omega)) (Ev.ite_neg (by omega) (Ev.bind he (Ev.ite_pos rfl hj1))))))
end Go.Proofs.Ytaafbnnddlgafaa.Pure
