/- The greatest width and the stations of a width: the program's and the reference's answers. -/
import Derived.Test.YtkjjnfjmnifoiaaMGx4
import Derived.Test.YtkjjnfjmnifoiaaMGx2
import Derived.Test.YtkjjnfjmnifoiaaMGx1
import Derived.Test.YtkjjnfjmnifoiaaMGx6
import Derived.Test.YtkjjnfjmnifoiaaPReached
namespace Go.Proofs.Ytkjjnfjmnifoiaa.Pure
open Go.RowKit Go.Proofs.Ytkjjnfjmnifoiaa.MG Go.Proofs.YtkjjnfjmnifoiaaW.PrintWords Go.Proofs.YtkjjnfjmnifoiaaW.PrintLast Go.Proofs.YtkjjnfjmnifoiaaW.PrintMore
def okAsked (l : List S69) (ws : List Int) (a b : Int) : Bool := okWidths l ws && (decide (0 ≤ a ∧ a ≤ 7) && decide (0 ≤ b ∧ b ≤ 7))
theorem areEnds_ev (l : List S69) (ws : List Int) (a b : Int) (hm : l.length ≤ 9223372036854775807) : Ev (fun k => impl_areEnds.f k l ws a b) (okAsked l ws a b) := by
  simp only [impl_areEnds.f, impl_isStation.f, within_eq, Option.bind_some]
  refine Ev.bind (areWidths_ev l ws hm) ?_
  unfold okAsked
  cases okWidths l ws with
  | false => exact Ev.ite_neg (by decide) (Ev.now _)
  | true =>
    refine Ev.ite_pos rfl ?_
    cases decide (0 ≤ a ∧ a ≤ 7) with
    | false => exact Ev.ite_neg (by decide) (Ev.now _)
    | true => exact Ev.ite_pos rfl (Ev.now _)
theorem l15Asked_ev (l : List S69) (ws : List Int) (a b : Int) (hm : l.length ≤ 9223372036854775807) (hw : ws.length ≤ 9223372036854775807) : Ev (fun k => spec_l15Asked.f k l ws a b) (okAsked l ws a b) := by
  simp only [spec_l15Asked.f, spec_l4Station.f, l1In_eq, Option.bind_some]
  refine Ev.bind (l15Good_ev l ws hm hw) ?_
  unfold okAsked
  cases okWidths l ws with
  | false => exact Ev.ite_neg (by decide) (Ev.now _)
  | true =>
    refine Ev.ite_pos rfl ?_
    cases decide (0 ≤ a ∧ a ≤ 7) with
    | false => exact Ev.ite_neg (by decide) (Ev.now _)
    | true => exact Ev.ite_pos rfl (Ev.now _)
theorem okAsked_says {l : List S69} {ws : List Int} {a b : Int} (h : okAsked l ws a b = true) : okWidths l ws = true ∧ (0 ≤ a ∧ a ≤ 7) ∧ (0 ≤ b ∧ b ≤ 7) := by
  simpa only [okAsked, Bool.and_eq_true, decide_eq_true_eq] using h
theorem reach_has {l : List S69} (ws : List Int) (hl : okLegs l = true) {a b : Int} (ha : 0 ≤ a ∧ a ≤ 7) (hb : 0 ≤ b ∧ b ≤ 7) (width : Int) : (reachOf l ws a width).getD b.toNat false = decide (b ∈ stationsOf l ws a width) := by
  rw [reachOf_arr ws hl (by omega), arrL_get (by omega)]
theorem specGreatest_ev {l : List S69} {ws : List Int} (hl : okLegs l = true) (hw : l.length ≤ ws.length) (hm : ws.length ≤ 1048576) {a b : Int} (ha : 0 ≤ a ∧ a ≤ 7) (hb : 0 ≤ b ∧ b ≤ 7) : Ev (fun k => spec_l15Greatest.f k l ws a b) (greatestDown l ws a b 201) := by
  have key : ∀ n : Nat, n ≤ 201 → Ev (fun k => spec_l15Greatest.l0 k l ws a b ((n : Int) - 1)) (greatestDown l ws a b n) := by
    intro n
    induction n with
    | zero =>
      intro _
      refine Ev.step (f := fun _ => some (-1)) (fun k => ?_) (Ev.now _)
      simp only [spec_l15Greatest.l0]
      rw [if_neg (by omega)]
    | succ n ih =>
      intro hn
      have hx : (((n + 1 : Nat) : Int) - 1) = (n : Int) := by omega
      have hwr : wrap64 ((n : Int) - 1) = (n : Int) - 1 := wrap_id (by omega) (by omega)
      rw [hx]
      have hg := (stationsOf_good ws hl (from_ := a) (by omega) (n : Int)).len
      refine Ev.step (f := fun k => (spec_l15Reach.f k l ws a (n : Int)).bind fun t => (spec_l1Has.f k t b).bind fun t2 => if t2 = true then some (n : Int) else spec_l15Greatest.l0 k l ws a b ((n : Int) - 1)) (fun k => ?_) (Ev.bind (specReach_ev hl hw hm (by omega) (n : Int)) (Ev.bind (l1Has_ev (by omega)) ?_))
      · simp only [spec_l15Greatest.l0, hwr]
        rw [if_pos (by omega)]
      · simp only [greatestDown, reach_has ws hl ha hb]
        by_cases h : decide (b ∈ stationsOf l ws a (n : Int)) = true
        · rw [if_pos h]
          exact Ev.ite_pos h (Ev.now _)
        · rw [if_neg h]
          exact Ev.ite_neg h (ih (by omega))
  simp only [spec_l15Greatest.f]
  exact key 201 (by omega)
def greatAns (l : List S69) (ws : List Int) (a b : Int) : Int × Bool := if okAsked l ws a b = true then (greatestDown l ws a b 201, true) else (0, false)
theorem specGreat_ev (l : List S69) (ws : List Int) (a b : Int) (hm : l.length ≤ 9223372036854775807) (hw : ws.length ≤ 9223372036854775807) : Ev (fun k => spec_GreatestWidth.f k l ws a b) (greatAns l ws a b) := by
  simp only [spec_GreatestWidth.f]
  refine Ev.bind (l15Asked_ev l ws a b hm hw) ?_
  unfold greatAns
  by_cases h : okAsked l ws a b = true
  · have hs := okAsked_says h
    have hn := okWidths_len hs.1
    have hl := okWidths_legs hs.1
    have h12 := okLegs_len hl
    rw [if_pos h]
    exact Ev.ite_pos h (Ev.bind (specGreatest_ev hl (by omega) (by omega) hs.2.1 hs.2.2) (Ev.now _))
  · rw [if_neg h]
    exact Ev.ite_neg h (Ev.now _)
theorem implGreatest_eq {l : List S69} {ws : List Int} (hl : okLegs l = true) (hw : l.length ≤ ws.length) {a b : Int} (ha : 0 ≤ a ∧ a ≤ 7) (hb : 0 ≤ b ∧ b ≤ 7) : impl_greatest.f l ws a b = some (greatestDown l ws a b 201) := by
  unfold impl_greatest.f
  rw [if_pos ⟨reachOk_of hl hw (by omega), hb.1, hb.2⟩]
theorem implGreat_ev (l : List S69) (ws : List Int) (a b : Int) (hm : l.length ≤ 9223372036854775807) : Ev (fun k => impl_GreatestWidth.f k l ws a b) (greatAns l ws a b) := by
  simp only [impl_GreatestWidth.f]
  refine Ev.bind (areEnds_ev l ws a b hm) ?_
  by_cases h : okAsked l ws a b = true
  · have hs := okAsked_says h
    have hn := okWidths_len hs.1
    have hl := okWidths_legs hs.1
    rw [show greatAns l ws a b = (greatestDown l ws a b 201, true) from if_pos h]
    exact Ev.ite_pos h (Ev.bindc (implGreatest_eq hl (by omega) hs.2.1 hs.2.2) (Ev.now _))
  · rw [show greatAns l ws a b = (0, false) from if_neg h]
    exact Ev.ite_neg h (Ev.now _)
def stationsAns (l : List S69) (ws : List Int) (a width : Int) : List Int × Bool := if okAsked l ws a 0 = true ∧ (0 ≤ width ∧ width ≤ 200) then (stationsOf l ws a width, true) else ([], false)
theorem okAsked_same (l : List S69) (ws : List Int) (a : Int) : okAsked l ws a a = okAsked l ws a 0 := by
  unfold okAsked
  cases decide (0 ≤ a ∧ a ≤ 7) <;> simp
theorem stationsAns_len (l : List S69) (ws : List Int) (a width : Int) : (stationsAns l ws a width).1.length ≤ 8 := by
  unfold stationsAns
  split
  · rename_i h
    have hs := okAsked_says h.1
    exact (stationsOf_good ws (okWidths_legs hs.1) (by omega) width).len
  · simp
theorem specStations_ev (l : List S69) (ws : List Int) (a width : Int) (hm : l.length ≤ 9223372036854775807) (hw : ws.length ≤ 9223372036854775807) : Ev (fun k => spec_StationsFor.f k l ws a width) (stationsAns l ws a width) := by
  simp only [spec_StationsFor.f, spec_l12Far.f, l1In_eq, Option.bind_some]
  refine Ev.bind (l15Asked_ev l ws a 0 hm hw) ?_
  unfold stationsAns
  by_cases h : okAsked l ws a 0 = true
  · refine Ev.ite_pos h ?_
    have hs := okAsked_says h
    have hn := okWidths_len hs.1
    have hl := okWidths_legs hs.1
    have h12 := okLegs_len hl
    by_cases h2 : 0 ≤ width ∧ width ≤ 200
    · rw [if_pos ⟨h, h2⟩]
      exact Ev.ite_pos (decide_eq_true h2) (Ev.bind (specReach_ev hl (by omega) (by omega) (by omega) width) (Ev.now _))
    · rw [if_neg (fun hh => h2 hh.2)]
      exact Ev.ite_neg (by simpa using h2) (Ev.now _)
  · rw [if_neg (fun hh => h hh.1)]
    exact Ev.ite_neg h (Ev.now _)
theorem implStations_ev (l : List S69) (ws : List Int) (a width : Int) (hm : l.length ≤ 9223372036854775807) : Ev (fun k => impl_StationsFor.f k l ws a width) (stationsAns l ws a width) := by
  simp only [impl_StationsFor.f]
  refine Ev.bind (areEnds_ev l ws a a hm) ?_
  rw [okAsked_same]
  by_cases h : okAsked l ws a 0 = true ∧ (0 ≤ width ∧ width ≤ 200)
  · rw [show stationsAns l ws a width = (stationsOf l ws a width, true) from if_pos h]
    have hs := okAsked_says h.1
    have hn := okWidths_len hs.1
    have hl := okWidths_legs hs.1
    refine Ev.ite_pos h (Ev.ite_pos (reachOk_of hl (by omega) (by omega)) ?_)
    rw [reachOf_arr ws hl (by omega), memFrom_arr (stationsOf_good ws hl (by omega) width)]
    exact Ev.now _
  · rw [show stationsAns l ws a width = ([], false) from if_neg h]
    exact Ev.ite_neg h (Ev.now _)
end Go.Proofs.Ytkjjnfjmnifoiaa.Pure
