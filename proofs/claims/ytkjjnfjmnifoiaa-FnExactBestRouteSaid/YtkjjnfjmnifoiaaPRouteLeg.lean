/- The leg between two stations, as the program and the reference find it. -/
import Derived.Test.YtkjjnfjmnifoiaaMRx2
import Derived.Test.YtkjjnfjmnifoiaaMRx4
import Derived.Test.YtkjjnfjmnifoiaaMRx5
import Derived.Test.YtkjjnfjmnifoiaaPWidths
import Derived.Test.YtkjjnfjmnifoiaaPHas
import Derived.Test.YtkjjnfjmnifoiaaPL1Has
namespace Go.Proofs.Ytkjjnfjmnifoiaa.Pure
open Go.RowKit Go.Proofs.Ytkjjnfjmnifoiaa.MR Go.Proofs.YtkjjnfjmnifoiaaW.PrintWords Go.Proofs.YtkjjnfjmnifoiaaW.PrintLast Go.Proofs.YtkjjnfjmnifoiaaW.PrintMore
set_option linter.unusedVariables false
set_option linter.unusedSimpArgs false
set_option maxHeartbeats 1000000
def legFits (x : S69) (a b : Int) : Bool := (decide (x.f0 = a) && decide (x.f1 = b)) || (decide (x.f0 = b) && decide (x.f1 = a))
/-- The better one of a leg and the best so far. -/
def legStep (l : List S69) (ws : List Int) (a b : Int) (i : Nat) (best : Int) : Int :=
  if legFits (l.getD i z69) a b = true then
    if best < 0 then (i : Int)
    else if rd ws (i : Int) > rd ws best then (i : Int)
    else if rd ws (i : Int) = rd ws best then (if (rd_T69 l (i : Int)).f2 < (rd_T69 l best).f2 then (i : Int) else best)
    else best
  else best
def legFrom (l : List S69) (ws : List Int) (a b : Int) : Nat → Nat → Int → Int
  | 0, _, best => best
  | d + 1, i, best => legFrom l ws a b d (i + 1) (legStep l ws a b i best)
theorem legStep_in {l : List S69} {ws : List Int} {a b : Int} {i : Nat} {best : Int} (h : best = -1 ∨ (0 ≤ best ∧ best < (i : Int))) : legStep l ws a b i best = -1 ∨ (0 ≤ legStep l ws a b i best ∧ legStep l ws a b i best < ((i + 1 : Nat) : Int)) := by
  unfold legStep
  split
  · split
    · omega
    · split
      · omega
      · split
        · split <;> omega
        · omega
  · omega
theorem legFrom_in {l : List S69} {ws : List Int} {a b : Int} : ∀ (d i : Nat) (best : Int), (best = -1 ∨ (0 ≤ best ∧ best < (i : Int))) → legFrom l ws a b d i best = -1 ∨ (0 ≤ legFrom l ws a b d i best ∧ legFrom l ws a b d i best < ((i + d : Nat) : Int))
  | 0, _, _, h => h
  | d + 1, i, best, h => by
    have := legFrom_in (l := l) (ws := ws) (a := a) (b := b) d (i + 1) _ (legStep_in (l := l) (ws := ws) (a := a) (b := b) h)
    simp only [legFrom]
    omega
theorem specLeg_loop {l : List S69} {ws : List Int} (hl : okLegs l = true) (hw : ws.length = l.length) (a b : Int) : ∀ (d i : Nat) (best : Int), i + d = l.length → (best = -1 ∨ (0 ≤ best ∧ best < (i : Int))) → Ev (fun k => spec_l15Leg.l0 k l ws a b best (i : Int)) (legFrom l ws a b d i best) := by
  have h12 := okLegs_len hl
  intro d
  induction d with
  | zero =>
    intro i best hi hb
    refine Ev.step (f := fun _ => some best) (fun k => ?_) (Ev.now _)
    simp only [spec_l15Leg.l0]
    rw [if_neg (by omega)]
  | succ d ih =>
    intro i best hi hb
    have hwr : wrap64 ((i : Int) + 1) = ((i + 1 : Nat) : Int) := by unfold wrap64; omega
    have hnext := ih (i + 1) _ (by omega) (legStep_in (l := l) (ws := ws) (a := a) (b := b) hb)
    simp only [legFrom]
    refine Ev.step (f := fun k => spec_l15Leg.j1 k l ws a b best (i : Int) (!legFits (l.getD i z69) a b)) (fun k => ?_) (Ev.step (fun k => ?_) hnext)
    · simp only [spec_l15Leg.l0, rdL]
      rw [if_pos (by omega), if_pos (by omega)]
      unfold legFits
      by_cases h1 : (l.getD i z69).f0 = a
      · rw [if_pos h1]
        by_cases h2 : (l.getD i z69).f1 = b
        · rw [if_pos h2, decide_eq_true h1, decide_eq_true h2]
          rfl
        · rw [if_neg h2, decide_eq_true h1, decide_eq_false h2]
          by_cases h3 : (l.getD i z69).f0 = b
          · rw [if_pos h3, decide_eq_true h3]
            (first | (congr 1; done) | (congr 1; simp [bne]))
          · rw [if_neg h3, decide_eq_false h3]
            rfl
      · rw [if_neg h1, decide_eq_false h1]
        by_cases h3 : (l.getD i z69).f0 = b
        · rw [if_pos h3, decide_eq_true h3]
          (first | (congr 1; done) | (congr 1; simp [bne]))
        · rw [if_neg h3, decide_eq_false h3]
          rfl
    · unfold legStep
      cases hf : legFits (l.getD i z69) a b with
      | false => simp only [spec_l15Leg.j1, Bool.not_false, if_true, Bool.false_eq_true, if_false, hwr]
      | true =>
        simp only [spec_l15Leg.j1, Bool.not_true, Bool.false_eq_true, if_false, if_true, hwr]
        by_cases h0 : best < 0
        · rw [if_pos h0, if_pos h0]
        · rw [if_neg h0, if_neg h0, if_pos (by omega), if_pos (by omega), if_pos (by omega), if_pos (by omega)]
          by_cases h1 : rd ws (i : Int) > rd ws best
          · rw [if_pos h1, if_pos h1]
          · rw [if_neg h1, if_neg h1]
            by_cases h2 : rd ws (i : Int) = rd ws best
            · rw [if_pos h2, if_pos h2, if_pos (by omega), if_pos (by omega)]
              split <;> rfl
            · rw [if_neg h2, if_neg h2]
def legOf (l : List S69) (ws : List Int) (a b : Int) : Int := legFrom l ws a b l.length 0 (-1)
theorem legOf_in (l : List S69) (ws : List Int) (a b : Int) : legOf l ws a b = -1 ∨ (0 ≤ legOf l ws a b ∧ legOf l ws a b < (l.length : Int)) := by
  have := legFrom_in (l := l) (ws := ws) (a := a) (b := b) l.length 0 (-1) (.inl rfl)
  unfold legOf
  omega
theorem specLeg_ev {l : List S69} {ws : List Int} (hl : okLegs l = true) (hw : ws.length = l.length) (a b : Int) : Ev (fun k => spec_l15Leg.f k l ws a b) (legOf l ws a b) := specLeg_loop hl hw a b l.length 0 (-1) (by omega) (.inl rfl)
theorem implLeg_loop {l : List S69} {ws : List Int} (hl : okLegs l = true) (hw : ws.length = l.length) {a b : Int} (ha : 0 ≤ a ∧ a ≤ 7) (hb : 0 ≤ b ∧ b ≤ 7) : ∀ (d i : Nat) (best : Int), i + d = l.length → (best = -1 ∨ (0 ≤ best ∧ best < (i : Int))) → Ev (fun k => impl_between.l0 k l ws a b best l (l.length : Int) (i : Int)) (legFrom l ws a b d i best) := by
  have h12 := okLegs_len hl
  intro d
  induction d with
  | zero =>
    intro i best hi hb
    refine Ev.step (f := fun _ => some best) (fun k => ?_) (Ev.now _)
    simp only [impl_between.l0]
    rw [if_neg (by omega)]
  | succ d ih =>
    intro i best hi hbb
    have hil : i < l.length := by omega
    have hx0 : 0 ≤ (l.getD i z69).f0 ∧ (l.getD i z69).f0 ≤ 7 ∧ 0 ≤ (l.getD i z69).f1 ∧ (l.getD i z69).f1 ≤ 7 := by
      have hx := okLeg_says (okLegs_at hl hil)
      omega
    have hwr : wrap64 ((i : Int) + 1) = ((i + 1 : Nat) : Int) := by unfold wrap64; omega
    have hw1 : wrap64 ((l.getD i z69).f0 + (l.getD i z69).f1) = (l.getD i z69).f0 + (l.getD i z69).f1 := wrap_id (by omega) (by omega)
    have hw2 : wrap64 (a + b) = a + b := wrap_id (by omega) (by omega)
    have hnext := ih (i + 1) _ (by omega) (legStep_in (l := l) (ws := ws) (a := a) (b := b) hbb)
    simp only [legFrom]
    refine Ev.step (f := fun k => impl_between.j1 k l ws a b best (i : Int) l (l.length : Int) (i : Int) (!legFits (l.getD i z69) a b) (l.getD i z69).f0 (l.getD i z69).f1 (l.getD i z69).f2 (l.getD i z69).f3 (l.getD i z69).f4) (fun k => ?_) (Ev.step (fun k => ?_) hnext)
    · simp only [impl_between.l0, rdL, hw1, hw2]
      rw [if_pos (by omega), if_pos (by omega), if_pos (by omega)]
      have hfit : legFits (l.getD i z69) a b = (decide ((l.getD i z69).f0 + (l.getD i z69).f1 = a + b) && (decide ((l.getD i z69).f0 = a) || decide ((l.getD i z69).f0 = b))) := by
        unfold legFits
        rw [Bool.eq_iff_iff]
        simp only [Bool.or_eq_true, Bool.and_eq_true, decide_eq_true_eq]
        omega
      rw [hfit]
      by_cases h1 : (l.getD i z69).f0 + (l.getD i z69).f1 = a + b
      · rw [if_pos h1, decide_eq_true h1]
        by_cases h2 : (l.getD i z69).f0 = a
        · rw [if_pos h2, decide_eq_true h2]
          rfl
        · rw [if_neg h2, decide_eq_false h2]
          (first | (congr 1; done) | (congr 1; simp [bne]))
      · rw [if_neg h1, decide_eq_false h1]
        rfl
    · unfold legStep
      cases hf : legFits (l.getD i z69) a b with
      | false => simp only [impl_between.j1, Bool.not_false, if_true, Bool.false_eq_true, if_false, hwr]
      | true =>
        simp only [impl_between.j1, Bool.not_true, Bool.false_eq_true, if_false, if_true, hwr]
        by_cases h0 : best < 0
        · rw [if_pos h0, if_pos h0]
        · rw [if_neg h0, if_neg h0, if_pos (by omega), if_pos (by omega), if_pos (by omega), if_pos (by omega)]
          by_cases h1 : rd ws (i : Int) > rd ws best
          · rw [if_pos h1, if_pos h1]
          · rw [if_neg h1, if_neg h1]
            by_cases h2 : rd ws (i : Int) = rd ws best
            · rw [if_pos h2, if_pos h2, if_pos (by omega), rdL]
              split <;> rfl
            · rw [if_neg h2, if_neg h2]
theorem implLeg_ev {l : List S69} {ws : List Int} (hl : okLegs l = true) (hw : ws.length = l.length) {a b : Int} (ha : 0 ≤ a ∧ a ≤ 7) (hb : 0 ≤ b ∧ b ≤ 7) : Ev (fun k => impl_between.f k l ws a b) (legOf l ws a b) := implLeg_loop hl hw ha hb l.length 0 (-1) (by omega) (.inl rfl)
theorem has_ev {l : List Int} {n : Int} (hm : l.length ≤ 1048576) : Ev (fun k => impl_has.f k l n) (decide (n ∈ l)) := Ev.past l.length fun k hk => has_at l n (by omega) k hk
theorem l1Has_ev' {l : List Int} {n : Int} (hm : l.length ≤ 1048576) : Ev (fun k => spec_l1Has.f k l n) (decide (n ∈ l)) := Ev.past l.length fun k hk => l1Has_at l n (by omega) k hk
end Go.Proofs.Ytkjjnfjmnifoiaa.Pure
