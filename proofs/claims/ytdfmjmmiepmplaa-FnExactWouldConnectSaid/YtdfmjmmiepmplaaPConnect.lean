/- Would two caves connect: the program's and the reference's answer. -/
import Derived.Test.YtdfmjmmiepmplaaMGx5
import Derived.Test.YtdfmjmmiepmplaaMGx6
import Derived.Test.YtdfmjmmiepmplaaPCave
namespace Go.Proofs.Ytdfmjmmiepmplaa.Pure
open Go.RowKit Go.Proofs.Ytdfmjmmiepmplaa.MG Go.Proofs.YtdfmjmmiepmplaaW.PrintWords Go.Proofs.YtdfmjmmiepmplaaW.PrintLast Go.Proofs.YtdfmjmmiepmplaaW.PrintMore
theorem together_eq {l : List S69} (hl : okLegs l = true) {a b : Int} (ha : 0 ≤ a ∧ a < 8) (hb : 0 ≤ b ∧ b < 8) : impl_together.f l a b = some (decide (b ∈ caveOf l a)) := by
  unfold impl_together.f
  rw [if_pos ⟨hangOk_of hl ha, hb.1, by omega⟩, hangOf_arr hl ha, arrL_get hb]
def connectAns (l : List S69) (a b : Int) : Int × Bool := if okLegs l = true ∧ (0 ≤ a ∧ a ≤ 7) ∧ (0 ≤ b ∧ b ≤ 7) ∧ a ≠ b then (if decide (b ∈ caveOf l a) = true then (0, true) else (lengthOf l b, true)) else (0, false)
theorem specConnect_ev (l : List S69) (a b : Int) (hm : l.length ≤ 9223372036854775807) : Ev (fun k => spec_WouldConnect.f k l a b) (connectAns l a b) := by
  have hno : Ev (fun k => spec_WouldConnect.j0 k l a b true) (0, false) := Ev.step (f := fun _ => some (0, false)) (fun k => by rw [spec_WouldConnect.j0, if_pos rfl]) (Ev.now _)
  simp only [spec_WouldConnect.f, spec_l4Station.f, l1In_eq, Option.bind_some]
  refine Ev.bind (l4Legs_ev l hm) ?_
  by_cases h : okLegs l = true
  · refine Ev.ite_pos h ?_
    by_cases h1 : 0 ≤ a ∧ a ≤ 7
    · refine Ev.ite_pos (decide_eq_true h1) ?_
      by_cases h2 : 0 ≤ b ∧ b ≤ 7
      · refine Ev.ite_pos (decide_eq_true h2) ?_
        by_cases h3 : a = b
        · rw [show connectAns l a b = (0, false) from if_neg (fun hh => hh.2.2.2 h3), show (a == b) = true from beq_iff_eq.2 h3]
          exact hno
        · rw [show connectAns l a b = _ from if_pos ⟨h, h1, h2, h3⟩, show (a == b) = false from beq_eq_false_iff_ne.2 h3]
          have h8 := (caveOf_good h (a := a) (by omega)).len
          refine Ev.step (f := fun k => (spec_l17Cave.f k l a (-1)).bind fun t => (spec_l1Has.f k t b).bind fun t2 => if t2 = true then some (0, true) else (spec_l17Length.f k l b).bind fun t3 => some (t3, true)) (fun k => by rw [spec_WouldConnect.j0, if_neg (by decide)]) (Ev.bind (specCave_ev h (by omega)) (Ev.bind (l1Has_ev (by omega)) ?_))
          by_cases h4 : decide (b ∈ caveOf l a) = true
          · rw [if_pos h4]
            exact Ev.ite_pos h4 (Ev.now _)
          · rw [if_neg h4]
            exact Ev.ite_neg h4 (Ev.bind (specLength_ev h (by omega)) (Ev.now _))
      · rw [show connectAns l a b = (0, false) from if_neg (fun hh => h2 hh.2.2.1)]
        exact Ev.ite_neg (by simpa using h2) hno
    · rw [show connectAns l a b = (0, false) from if_neg (fun hh => h1 hh.2.1)]
      exact Ev.ite_neg (by simpa using h1) hno
  · rw [show connectAns l a b = (0, false) from if_neg (fun hh => h hh.1)]
    exact Ev.ite_neg h hno
theorem implConnect_ev (l : List S69) (a b : Int) (hm : l.length ≤ 9223372036854775807) : Ev (fun k => impl_WouldConnect.f k l a b) (connectAns l a b) := by
  have hno : Ev (fun k => impl_WouldConnect.j0 k l a b true) (0, false) := Ev.step (f := fun _ => some (0, false)) (fun k => by rw [impl_WouldConnect.j0, if_pos rfl]) (Ev.now _)
  simp only [impl_WouldConnect.f, impl_isStation.f, within_eq, Option.bind_some]
  refine Ev.bind (areLegs_ev l hm) ?_
  by_cases h : okLegs l = true
  · refine Ev.ite_pos h ?_
    by_cases h1 : 0 ≤ a ∧ a ≤ 7
    · refine Ev.ite_pos (decide_eq_true h1) ?_
      by_cases h2 : 0 ≤ b ∧ b ≤ 7
      · refine Ev.ite_pos (decide_eq_true h2) ?_
        by_cases h3 : a = b
        · rw [show connectAns l a b = (0, false) from if_neg (fun hh => hh.2.2.2 h3), show (a == b) = true from beq_iff_eq.2 h3]
          exact hno
        · rw [show connectAns l a b = (if decide (b ∈ caveOf l a) = true then (0, true) else (lengthOf l b, true)) from if_pos ⟨h, h1, h2, h3⟩, show (a == b) = false from beq_eq_false_iff_ne.2 h3]
          refine Ev.step (f := fun _ => (impl_together.f l a b).bind fun t => if t = true then some (0, true) else (impl_caveLength.f l b).bind fun t3 => some (t3, true)) (fun k => by rw [impl_WouldConnect.j0, if_neg (by decide)]) ?_
          refine Ev.bindc (f := fun _ t => if t = true then some (0, true) else (impl_caveLength.f l b).bind fun t3 => some (t3, true)) (together_eq h (by omega) (by omega)) ?_
          by_cases h4 : decide (b ∈ caveOf l a) = true
          · simp only [h4, if_true]
            exact Ev.now _
          · simp only [h4, Bool.false_eq_true, if_false, implLength_eq h (a := b) (by omega), Option.bind_some]
            exact Ev.now _
      · rw [show connectAns l a b = (0, false) from if_neg (fun hh => h2 hh.2.2.1)]
        exact Ev.ite_neg (by simpa using h2) hno
    · rw [show connectAns l a b = (0, false) from if_neg (fun hh => h1 hh.2.1)]
      exact Ev.ite_neg (by simpa using h1) hno
  · rw [show connectAns l a b = (0, false) from if_neg (fun hh => h hh.1)]
    exact Ev.ite_neg h hno
end Go.Proofs.Ytdfmjmmiepmplaa.Pure
