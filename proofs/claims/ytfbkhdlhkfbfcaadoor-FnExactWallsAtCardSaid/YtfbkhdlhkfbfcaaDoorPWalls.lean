/- The walls of a leg: the program's and the reference's answer. -/
import Derived.Test.YtfbkhdlhkfbfcaaDoorMAx9
import Derived.Test.YtfbkhdlhkfbfcaaDoorMAx5
import Derived.Test.YtfbkhdlhkfbfcaaDoorMAx8
import Derived.Test.YtfbkhdlhkfbfcaaDoorMAx4
import Derived.Test.YtfbkhdlhkfbfcaaDoorMAx3
import Derived.Test.YtfbkhdlhkfbfcaaDoorPSine
import Derived.Test.YtfbkhdlhkfbfcaaDoorPFindI
namespace Go.Proofs.YtfbkhdlhkfbfcaaDoor.Pure
open Go.RowKit Go.Proofs.YtfbkhdlhkfbfcaaDoor.MA Go.Proofs.YtfbkhdlhkfbfcaaDoorW.PrintWords Go.Proofs.YtfbkhdlhkfbfcaaDoorW.PrintLast Go.Proofs.YtfbkhdlhkfbfcaaDoorW.PrintMore
set_option linter.unusedVariables false
set_option linter.unusedSimpArgs false
def okLegV (a b t c d : Int) : Bool := decide (0 ≤ a ∧ a ≤ 7) && (decide (0 ≤ b ∧ b ≤ 7) && (decide (a ≠ b) && (decide (1 ≤ t ∧ t ≤ 500) && (decide (0 ≤ c ∧ c ≤ 359) && decide (-90 ≤ d ∧ d ≤ 90)))))
theorem l4LegV_eq (a b t c d : Int) : spec_l4Leg.f a b t c d = some (okLegV a b t c d) := by
 simp only [spec_l4Leg.f, spec_l4Station.f, spec_l2Bearing.f, l1In_eq, Option.bind_some, okLegV]
 by_cases h0 : 0 ≤ a ∧ a ≤ 7 <;> by_cases h1 : 0 ≤ b ∧ b ≤ 7 <;> by_cases h2 : a = b <;> by_cases h3 : 1 ≤ t ∧ t ≤ 500 <;> by_cases h4 : 0 ≤ c ∧ c ≤ 359 <;> simp [h0, h1, h2, h3, h4]
theorem isLegV_eq (a b t c d : Int) : impl_IsLeg.f a b t c d = some (okLegV a b t c d) := by
 simp only [impl_IsLeg.f, impl_isStation.f, impl_isBearing.f, within_eq, Option.bind_some, okLegV]
 by_cases h0 : 0 ≤ a ∧ a ≤ 7 <;> by_cases h1 : 0 ≤ b ∧ b ≤ 7 <;> by_cases h2 : a = b <;> by_cases h3 : 1 ≤ t ∧ t ≤ 500 <;> by_cases h4 : 0 ≤ c ∧ c ≤ 359 <;> simp [h0, h1, h2, h3, h4]
theorem wall_ev (t d : Int) (ht : -500 ≤ t ∧ t ≤ 500) : Ev (fun k => impl_wall.f k t d) (upOf t d, levelOf t d, 0) := by
 simp only [impl_wall.f]
 exact Ev.bind (partOf_ev t d ht) (Ev.now _)
theorem l12Wall_eq (t d : Int) (ht : -500 ≤ t ∧ t ≤ 500) : spec_l12Wall.f t d = some (upOf t d, levelOf t d, 0) := by
 simp only [spec_l12Wall.f, spec_l2Cosine.f, l2Sine_eq, Option.bind_some, wmul ht (sin_in _), l2Div_eq _ (mul_in ht (sin_in _))]
 rfl
abbrev W12 := Int × Int × Int × Int × Int × Int × Int × Int × Int × Int × Int × Int × Bool
def noWalls : W12 := (0, 0, 0, 0, 0, 0, 0, 0, 0, 0, 0, 0, false)
def wallsOf (p q : S43) (t c d : Int) : W12 :=
 (upOf p.f1 (wrap64 (c - 90)), levelOf p.f1 (wrap64 (c - 90)), 0, upOf p.f2 (wrap64 (c + 90)), levelOf p.f2 (wrap64 (c + 90)), 0,
  wrap64 (upOf (levelOf t d) c + wrap64 (1 * upOf q.f1 (wrap64 (c - 90)))), wrap64 (levelOf (levelOf t d) c + wrap64 (1 * levelOf q.f1 (wrap64 (c - 90)))), wrap64 (upOf t d + wrap64 (1 * 0)),
  wrap64 (upOf (levelOf t d) c + wrap64 (1 * upOf q.f2 (wrap64 (c + 90)))), wrap64 (levelOf (levelOf t d) c + wrap64 (1 * levelOf q.f2 (wrap64 (c + 90)))), wrap64 (upOf t d + wrap64 (1 * 0)), true)
def wallsAns (l : List S43) (a b t c d : Int) : W12 := if okPasses l = true ∧ okLegV a b t c d = true ∧ ¬ impl_passageAt.at l a < 0 ∧ ¬ impl_passageAt.at l b < 0 then wallsOf (rd_T43 l (impl_passageAt.at l a)) (rd_T43 l (impl_passageAt.at l b)) t c d else noWalls
theorem pass_in {l : List S43} (h : okPasses l = true) {i : Int} (h0 : 0 ≤ i) (h1 : i < (l.length : Int)) : (-500 ≤ (rd_T43 l i).f1 ∧ (rd_T43 l i).f1 ≤ 500) ∧ (-500 ≤ (rd_T43 l i).f2 ∧ (rd_T43 l i).f2 ≤ 500) := by
 have hk := okPasses_one h (i := i.toNat) (by omega)
 have e : rd_T43 l i = l.getD i.toNat z43 := rfl
 rw [e]
 simp only [okPass, Bool.and_eq_true, decide_eq_true_eq] at hk
 omega
theorem legV_tape {a b t c d : Int} (h : okLegV a b t c d = true) : -500 ≤ t ∧ t ≤ 500 := by
 simp only [okLegV, Bool.and_eq_true, decide_eq_true_eq] at h
 omega
theorem implWalls_ev (l : List S43) (a b t c d : Int) (hm : l.length ≤ 9223372036854775807) : Ev (fun k => impl_WallsAt.f k l a b t c d) (wallsAns l a b t c d) := by
 have hno : Ev (fun k => impl_WallsAt.j0 k l true a b t c d) noWalls := Ev.step (f := fun _ => some noWalls) (fun k => by simp only [impl_WallsAt.j0]; rfl) (Ev.now _)
 simp only [impl_WallsAt.f]
 refine Ev.bind (arePasses_ev l hm) ?_
 by_cases h : okPasses l = true
 case neg =>
  rw [show wallsAns l a b t c d = noWalls from if_neg (fun hh => h hh.1)]
  exact Ev.ite_neg h hno
 refine Ev.ite_pos h (Ev.bindc (isLegV_eq a b t c d) ?_)
 by_cases h2 : okLegV a b t c d = true
 case neg =>
  rw [show wallsAns l a b t c d = noWalls from if_neg (fun hh => h2 hh.2.1), show (!okLegV a b t c d) = true by simpa using h2]
  exact hno
 rw [h2]
 have ra := at_range l a
 have rb := at_range l b
 have hbad : ∀ x0 x1 x2 x3 x4 y0 y1 y2 y3 y4 : Int, Ev (fun k => impl_WallsAt.j1 k true a b t c d x0 x1 x2 x3 x4 y0 y1 y2 y3 y4) noWalls := fun _ _ _ _ _ _ _ _ _ _ => Ev.step (f := fun _ => some noWalls) (fun k => by simp only [impl_WallsAt.j1]; rfl) (Ev.now _)
 by_cases h3 : impl_passageAt.at l a < 0
 ·rw [show wallsAns l a b t c d = noWalls from if_neg (fun hh => hh.2.2.1 h3)]
  by_cases h4 : impl_passageAt.at l b < 0
  ·refine Ev.step (fun k => ?_) (hbad 0 0 0 0 0 0 0 0 0 0)
   simp only [impl_WallsAt.j0, impl_passageAt.f, if_pos h3, if_pos h4, Option.bind_some]
   rfl
  ·refine Ev.step (fun k => ?_) (hbad 0 0 0 0 0 (rd_T43 l (impl_passageAt.at l b)).f0 (rd_T43 l (impl_passageAt.at l b)).f1 (rd_T43 l (impl_passageAt.at l b)).f2 (rd_T43 l (impl_passageAt.at l b)).f3 (rd_T43 l (impl_passageAt.at l b)).f4)
   simp only [impl_WallsAt.j0, impl_passageAt.f, if_pos h3, if_neg h4, Option.bind_some]
   rfl
 ·by_cases h4 : impl_passageAt.at l b < 0
  ·rw [show wallsAns l a b t c d = noWalls from if_neg (fun hh => hh.2.2.2 h4)]
   refine Ev.step (fun k => ?_) (hbad (rd_T43 l (impl_passageAt.at l a)).f0 (rd_T43 l (impl_passageAt.at l a)).f1 (rd_T43 l (impl_passageAt.at l a)).f2 (rd_T43 l (impl_passageAt.at l a)).f3 (rd_T43 l (impl_passageAt.at l a)).f4 0 0 0 0 0)
   simp only [impl_WallsAt.j0, impl_passageAt.f, if_neg h3, if_pos h4, Option.bind_some]
   rfl
  ·rw [show wallsAns l a b t c d = _ from if_pos ⟨h, h2, h3, h4⟩]
   have pa := pass_in h (i := impl_passageAt.at l a) (by omega) (by omega)
   have pb := pass_in h (i := impl_passageAt.at l b) (by omega) (by omega)
   have hs := shift_ev a b t c d (legV_tape h2)
   have hgo : ∀ p q : S43, (-500 ≤ p.f1 ∧ p.f1 ≤ 500) → (-500 ≤ p.f2 ∧ p.f2 ≤ 500) → (-500 ≤ q.f1 ∧ q.f1 ≤ 500) → (-500 ≤ q.f2 ∧ q.f2 ≤ 500) → Ev (fun k => impl_WallsAt.j1 k false a b t c d p.f0 p.f1 p.f2 p.f3 p.f4 q.f0 q.f1 q.f2 q.f3 q.f4) (wallsOf p q t c d) := by
    intro p q h1 h2 h3 h4
    refine Ev.step (fun k => by rw [impl_WallsAt.j1, if_neg (by decide)]) ?_
    exact Ev.bind (wall_ev _ _ h1) (Ev.bind (wall_ev _ _ h2) (Ev.bind hs (Ev.bind (wall_ev _ _ h3) (Ev.bindc rfl (Ev.bind hs (Ev.bind (wall_ev _ _ h4) (Ev.bindc rfl (Ev.now _))))))))
   refine Ev.step (fun k => ?_) (hgo (rd_T43 l (impl_passageAt.at l a)) (rd_T43 l (impl_passageAt.at l b)) pa.1 pa.2 pb.1 pb.2)
   simp only [impl_WallsAt.j0, impl_passageAt.f, if_neg h3, if_neg h4, Option.bind_some]
   rfl
theorem specWalls_ev (l : List S43) (a b t c d : Int) (hm : l.length ≤ 9223372036854775807) : Ev (fun k => spec_WallsAt.f k l a b t c d) (wallsAns l a b t c d) := by
 have hno : Ev (fun k => spec_WallsAt.j0 k l true a b t c d) noWalls := Ev.step (f := fun _ => some noWalls) (fun k => by simp only [spec_WallsAt.j0]; rfl) (Ev.now _)
 simp only [spec_WallsAt.f]
 refine Ev.bind (l12Good_ev l hm) ?_
 by_cases h : okPasses l = true
 case neg =>
  rw [show wallsAns l a b t c d = noWalls from if_neg (fun hh => h hh.1)]
  exact Ev.ite_neg h hno
 refine Ev.ite_pos h (Ev.bindc (l4LegV_eq a b t c d) ?_)
 by_cases h2 : okLegV a b t c d = true
 case neg =>
  rw [show wallsAns l a b t c d = noWalls from if_neg (fun hh => h2 hh.2.1), show (!okLegV a b t c d) = true by simpa using h2]
  exact hno
 rw [h2]
 have ra := at_range l a
 have rb := at_range l b
 have hbad : ∀ x y : Int, Ev (fun k => spec_WallsAt.j1 k l x y true a b t c d) noWalls := fun _ _ => Ev.step (f := fun _ => some noWalls) (fun k => by simp only [spec_WallsAt.j1]; rfl) (Ev.now _)
 refine Ev.step (f := fun k => (spec_l12Find.f k l a).bind fun x => (spec_l12Find.f k l b).bind fun y => if x < 0 then spec_WallsAt.j1 k l x y true a b t c d else spec_WallsAt.j1 k l x y (decide (y < 0)) a b t c d) (fun k => by rw [show (!true) = false from rfl, spec_WallsAt.j0, if_neg (by decide)]) (Ev.bind (specFind_ev l a hm) (Ev.bind (specFind_ev l b hm) ?_))
 by_cases h3 : impl_passageAt.at l a < 0
 ·rw [show wallsAns l a b t c d = noWalls from if_neg (fun hh => hh.2.2.1 h3)]
  exact Ev.ite_pos h3 (hbad _ _)
 ·refine Ev.ite_neg h3 ?_
  by_cases h4 : impl_passageAt.at l b < 0
  ·rw [show wallsAns l a b t c d = noWalls from if_neg (fun hh => hh.2.2.2 h4), decide_eq_true h4]
   exact hbad _ _
  ·rw [show wallsAns l a b t c d = _ from if_pos ⟨h, h2, h3, h4⟩, decide_eq_false h4]
   have pa := pass_in h (i := impl_passageAt.at l a) (by omega) (by omega)
   have pb := pass_in h (i := impl_passageAt.at l b) (by omega) (by omega)
   refine Ev.step (f := fun _ => some (wallsOf (rd_T43 l (impl_passageAt.at l a)) (rd_T43 l (impl_passageAt.at l b)) t c d)) (fun k => ?_) (Ev.now _)
   simp only [spec_WallsAt.j1, l4Shift_eq a b t c d (legV_tape h2), l12Wall_eq _ _ pa.1, l12Wall_eq _ _ pa.2, l12Wall_eq _ _ pb.1, l12Wall_eq _ _ pb.2, spec_l4Plus.f, Option.bind_some]
   rw [if_neg (by decide), if_pos (by omega), if_pos (by omega), if_pos (by omega), if_pos (by omega)]
   rfl
end Go.Proofs.YtfbkhdlhkfbfcaaDoor.Pure
