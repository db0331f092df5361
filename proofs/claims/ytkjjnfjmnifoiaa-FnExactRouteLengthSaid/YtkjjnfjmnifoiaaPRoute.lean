/- Routes: the leg between two stations, and the legs of a route, as the program and the reference find them. -/
import Derived.Test.YtkjjnfjmnifoiaaMRx2
import Derived.Test.YtkjjnfjmnifoiaaMRx4
import Derived.Test.YtkjjnfjmnifoiaaMRx3
import Derived.Test.YtkjjnfjmnifoiaaMRx5
import Derived.Test.YtkjjnfjmnifoiaaPWidths
import Derived.Test.YtkjjnfjmnifoiaaPHas
import Derived.Test.YtkjjnfjmnifoiaaPLeast
namespace Go.Proofs.Ytkjjnfjmnifoiaa.Pure
open Go.RowKit Go.Proofs.Ytkjjnfjmnifoiaa.MR Go.Proofs.YtkjjnfjmnifoiaaW.PrintWords Go.Proofs.YtkjjnfjmnifoiaaW.PrintLast Go.Proofs.YtkjjnfjmnifoiaaW.PrintMore
set_option maxHeartbeats 1000000
def legFits (x : S69) (a b : Int) : Bool := (decide (x.f0 = a) && decide (x.f1 = b)) || (decide (x.f0 = b) && decide (x.f1 = a))
/-- The better one of a leg and the best so far. -/
def legStep (l : List S69) (ws : List Int) (a b : Int) (i : Nat) (best : Int) : Int :=
  if legFits (l.getD i z69) a b = true then
    if best < 0 then (i : Int)
    else if rd ws (i : Int) > rd ws best then (i : Int)
    else if rd ws (i : Int) = rd ws best then (if (rd_T69 l (i : Int)).f2 < (rd_T69 l best).f2 then (i : Int) else best)
    else best
  else best
def legFrom (l : List S69) (ws : List Int) (a b : Int) : Nat → Nat → Int → Int
  | 0, _, best => best
  | d + 1, i, best => legFrom l ws a b d (i + 1) (legStep l ws a b i best)
theorem legStep_in {l : List S69} {ws : List Int} {a b : Int} {i : Nat} {best : Int} (h : best = -1 ∨ (0 ≤ best ∧ best < (i : Int))) : legStep l ws a b i best = -1 ∨ (0 ≤ legStep l ws a b i best ∧ legStep l ws a b i best < ((i + 1 : Nat) : Int)) := by
  unfold legStep
  split
  · split
    · omega
    · split
      · omega
      · split
        · split <;> omega
        · omega
  · omega
theorem legFrom_in {l : List S69} {ws : List Int} {a b : Int} : ∀ (d i : Nat) (best : Int), (best = -1 ∨ (0 ≤ best ∧ best < (i : Int))) → legFrom l ws a b d i best = -1 ∨ (0 ≤ legFrom l ws a b d i best ∧ legFrom l ws a b d i best < ((i + d : Nat) : Int))
  | 0, _, _, h => h
  | d + 1, i, best, h => by
    have := legFrom_in (l := l) (ws := ws) (a := a) (b := b) d (i + 1) _ (legStep_in (l := l) (ws := ws) (a := a) (b := b) h)
    simp only [legFrom]
    omega
theorem specLeg_loop {l : List S69} {ws : List Int} (hl : okLegs l = true) (hw : ws.length = l.length) (a b : Int) : ∀ (d i : Nat) (best : Int), i + d = l.length → (best = -1 ∨ (0 ≤ best ∧ best < (i : Int))) → Ev (fun k => spec_l15Leg.l0 k l ws a b best (i : Int)) (legFrom l ws a b d i best) := by
  have h12 := okLegs_len hl
  intro d
  induction d with
  | zero =>
    intro i best hi hb
    refine Ev.step (f := fun _ => some best) (fun k => ?_) (Ev.now _)
    simp only [spec_l15Leg.l0]
    rw [if_neg (by omega)]
  | succ d ih =>
    intro i best hi hb
    have hwr : wrap64 ((i : Int) + 1) = ((i + 1 : Nat) : Int) := by unfold wrap64; omega
    have hnext := ih (i + 1) _ (by omega) (legStep_in (l := l) (ws := ws) (a := a) (b := b) hb)
    simp only [legFrom]
    refine Ev.step (f := fun k => spec_l15Leg.j1 k l ws a b best (i : Int) (!legFits (l.getD i z69) a b)) (fun k => ?_) (Ev.step (fun k => ?_) hnext)
    · simp only [spec_l15Leg.l0, rdL]
      rw [if_pos (by omega), if_pos (by omega)]
      unfold legFits
      by_cases h1 : (l.getD i z69).f0 = a
      · rw [if_pos h1]
        by_cases h2 : (l.getD i z69).f1 = b
        · rw [if_pos h2, decide_eq_true h1, decide_eq_true h2]
          rfl
        · rw [if_neg h2, decide_eq_true h1, decide_eq_false h2]
          by_cases h3 : (l.getD i z69).f0 = b
          · rw [if_pos h3, decide_eq_true h3]
            (first | (congr 1; done) | (congr 1; simp [bne]))
          · rw [if_neg h3, decide_eq_false h3]
            rfl
      · rw [if_neg h1, decide_eq_false h1]
        by_cases h3 : (l.getD i z69).f0 = b
        · rw [if_pos h3, decide_eq_true h3]
          (first | (congr 1; done) | (congr 1; simp [bne]))
        · rw [if_neg h3, decide_eq_false h3]
          rfl
    · unfold legStep
      cases hf : legFits (l.getD i z69) a b with
      | false => simp only [spec_l15Leg.j1, Bool.not_false, if_true, Bool.false_eq_true, if_false, hwr]
      | true =>
        simp only [spec_l15Leg.j1, Bool.not_true, Bool.false_eq_true, if_false, if_true, hwr]
        by_cases h0 : best < 0
        · rw [if_pos h0, if_pos h0]
        · rw [if_neg h0, if_neg h0, if_pos (by omega), if_pos (by omega), if_pos (by omega), if_pos (by omega)]
          by_cases h1 : rd ws (i : Int) > rd ws best
          · rw [if_pos h1, if_pos h1]
          · rw [if_neg h1, if_neg h1]
            by_cases h2 : rd ws (i : Int) = rd ws best
            · rw [if_pos h2, if_pos h2, if_pos (by omega), if_pos (by omega)]
              split <;> rfl
            · rw [if_neg h2, if_neg h2]
def legOf (l : List S69) (ws : List Int) (a b : Int) : Int := legFrom l ws a b l.length 0 (-1)
theorem legOf_in (l : List S69) (ws : List Int) (a b : Int) : legOf l ws a b = -1 ∨ (0 ≤ legOf l ws a b ∧ legOf l ws a b < (l.length : Int)) := by
  have := legFrom_in (l := l) (ws := ws) (a := a) (b := b) l.length 0 (-1) (.inl rfl)
  unfold legOf
  omega
theorem specLeg_ev {l : List S69} {ws : List Int} (hl : okLegs l = true) (hw : ws.length = l.length) (a b : Int) : Ev (fun k => spec_l15Leg.f k l ws a b) (legOf l ws a b) := specLeg_loop hl hw a b l.length 0 (-1) (by omega) (.inl rfl)
theorem implLeg_loop {l : List S69} {ws : List Int} (hl : okLegs l = true) (hw : ws.length = l.length) {a b : Int} (ha : 0 ≤ a ∧ a ≤ 7) (hb : 0 ≤ b ∧ b ≤ 7) : ∀ (d i : Nat) (best : Int), i + d = l.length → (best = -1 ∨ (0 ≤ best ∧ best < (i : Int))) → Ev (fun k => impl_between.l0 k l ws a b best l (l.length : Int) (i : Int)) (legFrom l ws a b d i best) := by
  have h12 := okLegs_len hl
  intro d
  induction d with
  | zero =>
    intro i best hi hb
    refine Ev.step (f := fun _ => some best) (fun k => ?_) (Ev.now _)
    simp only [impl_between.l0]
    rw [if_neg (by omega)]
  | succ d ih =>
    intro i best hi hbb
    have hil : i < l.length := by omega
    have hx0 : 0 ≤ (l.getD i z69).f0 ∧ (l.getD i z69).f0 ≤ 7 ∧ 0 ≤ (l.getD i z69).f1 ∧ (l.getD i z69).f1 ≤ 7 := by
      have hx := okLeg_says (okLegs_at hl hil)
      omega
    have hwr : wrap64 ((i : Int) + 1) = ((i + 1 : Nat) : Int) := by unfold wrap64; omega
    have hw1 : wrap64 ((l.getD i z69).f0 + (l.getD i z69).f1) = (l.getD i z69).f0 + (l.getD i z69).f1 := wrap_id (by omega) (by omega)
    have hw2 : wrap64 (a + b) = a + b := wrap_id (by omega) (by omega)
    have hnext := ih (i + 1) _ (by omega) (legStep_in (l := l) (ws := ws) (a := a) (b := b) hbb)
    simp only [legFrom]
    refine Ev.step (f := fun k => impl_between.j1 k l ws a b best (i : Int) l (l.length : Int) (i : Int) (!legFits (l.getD i z69) a b) (l.getD i z69).f0 (l.getD i z69).f1 (l.getD i z69).f2 (l.getD i z69).f3 (l.getD i z69).f4) (fun k => ?_) (Ev.step (fun k => ?_) hnext)
    · simp only [impl_between.l0, rdL, hw1, hw2]
      rw [if_pos (by omega), if_pos (by omega), if_pos (by omega)]
      have hfit : legFits (l.getD i z69) a b = (decide ((l.getD i z69).f0 + (l.getD i z69).f1 = a + b) && (decide ((l.getD i z69).f0 = a) || decide ((l.getD i z69).f0 = b))) := by
        unfold legFits
        rw [Bool.eq_iff_iff]
        simp only [Bool.or_eq_true, Bool.and_eq_true, decide_eq_true_eq]
        omega
      rw [hfit]
      by_cases h1 : (l.getD i z69).f0 + (l.getD i z69).f1 = a + b
      · rw [if_pos h1, decide_eq_true h1]
        by_cases h2 : (l.getD i z69).f0 = a
        · rw [if_pos h2, decide_eq_true h2]
          rfl
        · rw [if_neg h2, decide_eq_false h2]
          (first | (congr 1; done) | (congr 1; simp [bne]))
      · rw [if_neg h1, decide_eq_false h1]
        rfl
    · unfold legStep
      cases hf : legFits (l.getD i z69) a b with
      | false => simp only [impl_between.j1, Bool.not_false, if_true, Bool.false_eq_true, if_false, hwr]
      | true =>
        simp only [impl_between.j1, Bool.not_true, Bool.false_eq_true, if_false, if_true, hwr]
        by_cases h0 : best < 0
        · rw [if_pos h0, if_pos h0]
        · rw [if_neg h0, if_neg h0, if_pos (by omega), if_pos (by omega), if_pos (by omega), if_pos (by omega)]
          by_cases h1 : rd ws (i : Int) > rd ws best
          · rw [if_pos h1, if_pos h1]
          · rw [if_neg h1, if_neg h1]
            by_cases h2 : rd ws (i : Int) = rd ws best
            · rw [if_pos h2, if_pos h2, if_pos (by omega), rdL]
              split <;> rfl
            · rw [if_neg h2, if_neg h2]
theorem implLeg_ev {l : List S69} {ws : List Int} (hl : okLegs l = true) (hw : ws.length = l.length) {a b : Int} (ha : 0 ≤ a ∧ a ≤ 7) (hb : 0 ≤ b ∧ b ≤ 7) : Ev (fun k => impl_between.f k l ws a b) (legOf l ws a b) := implLeg_loop hl hw ha hb l.length 0 (-1) (by omega) (.inl rfl)
theorem has_ev {l : List Int} {n : Int} (hm : l.length ≤ 1048576) : Ev (fun k => impl_has.f k l n) (decide (n ∈ l)) := Ev.past l.length fun k hk => has_at l n (by omega) k hk
theorem l1Has_ev' {l : List Int} {n : Int} (hm : l.length ≤ 1048576) : Ev (fun k => spec_l1Has.f k l n) (decide (n ∈ l)) := Ev.past l.length fun k hk => l1Has_at l n (by omega) k hk
/-- The step of a route to its i-th station. -/
def viaOf (l : List S69) (ws r : List Int) (i : Nat) : Int := legOf l ws (r.getD (i - 1) 0) (r.getD i 0)
def newAt (r : List Int) (i : Nat) : Bool := decide (0 ≤ r.getD i 0 ∧ r.getD i 0 ≤ 7) && !decide (r.getD i 0 ∈ r.take i)
/-- All stations from the i-th on are new ones, to which a leg leads. -/
def routeFrom (l : List S69) (ws r : List Int) : Nat → Nat → Bool
  | 0, _ => true
  | d + 1, i => newAt r i && ((decide (i = 0) || decide (0 ≤ viaOf l ws r i)) && routeFrom l ws r d (i + 1))
def legsFrom (l : List S69) (ws r : List Int) : Nat → Nat → List Int → List Int
  | 0, _, acc => acc
  | d + 1, i, acc => legsFrom l ws r d (i + 1) (if i = 0 then acc else acc ++ [viaOf l ws r i])
theorem specRoute_loop {l : List S69} {ws : List Int} (hl : okLegs l = true) (hw : ws.length = l.length) {r : List Int} (hr : r.length ≤ 1048576) : ∀ d i, i + d = r.length → Ev (fun k => spec_l15Route.l0 k l ws r (i : Int)) (routeFrom l ws r d i) := by
  intro d
  induction d with
  | zero =>
    intro i hi
    refine Ev.step (f := fun _ => some true) (fun k => ?_) (Ev.now _)
    simp only [spec_l15Route.l0]
    rw [if_neg (by omega)]
  | succ d ih =>
    intro i hi
    have hwr : wrap64 ((i : Int) + 1) = ((i + 1 : Nat) : Int) := by unfold wrap64; omega
    have hnext := ih (i + 1) (by omega)
    simp only [routeFrom, newAt]
    by_cases h1 : 0 ≤ r.getD i 0 ∧ r.getD i 0 ≤ 7
    · rw [decide_eq_true h1, Bool.true_and]
      refine Ev.step (f := fun k => (spec_l1Has.f k (r.take i) (r.getD i 0)).bind fun t => spec_l15Route.j2 k l ws r (i : Int) t) (fun k => ?_) (Ev.bind (l1Has_ev' (by rw [List.length_take]; omega)) ?_)
      · simp only [spec_l15Route.l0, spec_l4Station.f, l1In_eq, rd_nat, Option.bind_some, Int.toNat_natCast]
        rw [if_pos (by omega), if_pos (by omega), if_pos (decide_eq_true h1), if_pos (by omega)]
      · by_cases h2 : r.getD i 0 ∈ r.take i
        · rw [decide_eq_true h2]
          refine Ev.step (f := fun _ => some false) (fun k => ?_) (Ev.now _)
          simp only [spec_l15Route.j2, if_true]
        · rw [decide_eq_false h2, Bool.not_false, Bool.true_and]
          by_cases h3 : i = 0
          · subst h3
            rw [decide_eq_true rfl, Bool.true_or, Bool.true_and]
            refine Ev.step (fun k => ?_) hnext
            simp only [spec_l15Route.j2, Bool.false_eq_true, if_false, hwr]
            rw [if_neg (by omega)]
          · have hwd : wrap64 ((i : Int) - 1) = ((i - 1 : Nat) : Int) := by unfold wrap64; omega
            rw [decide_eq_false h3, Bool.false_or]
            refine Ev.step (f := fun k => (spec_l15Leg.f k l ws (r.getD (i - 1) 0) (r.getD i 0)).bind fun t => if t < 0 then some false else spec_l15Route.l0 k l ws r ((i + 1 : Nat) : Int)) (fun k => ?_) (Ev.bind (specLeg_ev hl hw _ _) ?_)
            · simp only [spec_l15Route.j2, Bool.false_eq_true, if_false, hwr, hwd, rd_nat]
              rw [if_pos (by omega), if_pos (by omega), if_pos (by omega), if_pos (by omega), if_pos (by omega)]
            · by_cases h4 : viaOf l ws r i < 0
              · rw [decide_eq_false (show ¬ 0 ≤ viaOf l ws r i by omega), Bool.false_and]
                exact Ev.ite_pos h4 (Ev.now _)
              · rw [decide_eq_true (show 0 ≤ viaOf l ws r i by omega), Bool.true_and]
                exact Ev.ite_neg h4 hnext
    · rw [decide_eq_false h1, Bool.false_and, Bool.false_and]
      refine Ev.step (f := fun k => spec_l15Route.j2 k l ws r (i : Int) true) (fun k => ?_) (Ev.step (f := fun _ => some false) (fun k => ?_) (Ev.now _))
      · simp only [spec_l15Route.l0, spec_l4Station.f, l1In_eq, rd_nat, Option.bind_some]
        rw [if_pos (by omega), if_pos (by omega), if_neg (by simpa using h1)]
      · simp only [spec_l15Route.j2, if_true]
theorem implRoute_loop {l : List S69} {ws : List Int} (hl : okLegs l = true) (hw : ws.length = l.length) {r : List Int} (hr : r.length ≤ 1048576) : ∀ d i acc, i + d = r.length → acc.length ≤ i → (i = 0 ∨ (0 ≤ r.getD (i - 1) 0 ∧ r.getD (i - 1) 0 ≤ 7)) → Ev (fun k => impl_routeLegs.l0 k l ws r acc r (r.length : Int) (i : Int)) (if routeFrom l ws r d i = true then (legsFrom l ws r d i acc, true) else ([], false)) := by
  intro d
  induction d with
  | zero =>
    intro i acc hi ha hp
    refine Ev.step (f := fun _ => some (acc, true)) (fun k => ?_) (Ev.now _)
    simp only [impl_routeLegs.l0]
    rw [if_neg (by omega)]
  | succ d ih =>
    intro i acc hi ha hp
    have hwr : wrap64 ((i : Int) + 1) = ((i + 1 : Nat) : Int) := by unfold wrap64; omega
    have hno : ∀ (s : Int), Ev (fun k => impl_routeLegs.j2 k l ws r acc (i : Int) s r (r.length : Int) (i : Int) true) ([], false) := fun s => Ev.step (f := fun _ => some ([], false)) (fun k => by simp only [impl_routeLegs.j2, if_true]) (Ev.now _)
    rw [show routeFrom l ws r (d + 1) i = ((decide (0 ≤ r.getD i 0 ∧ r.getD i 0 ≤ 7) && !decide (r.getD i 0 ∈ r.take i)) && ((decide (i = 0) || decide (0 ≤ viaOf l ws r i)) && routeFrom l ws r d (i + 1))) from rfl]
    by_cases h1 : 0 ≤ r.getD i 0 ∧ r.getD i 0 ≤ 7
    · rw [decide_eq_true h1, Bool.true_and]
      refine Ev.step (f := fun k => (impl_has.f k (r.take i) (r.getD i 0)).bind fun t => impl_routeLegs.j2 k l ws r acc (i : Int) (r.getD i 0) r (r.length : Int) (i : Int) t) (fun k => ?_) (Ev.bind (has_ev (by rw [List.length_take]; omega)) ?_)
      · simp only [impl_routeLegs.l0, impl_isStation.f, within_eq, rd_nat, Option.bind_some, Int.toNat_natCast]
        rw [if_pos (by omega), if_pos (by omega), if_pos (by omega), if_pos (decide_eq_true h1), if_pos (by omega)]
      · by_cases h2 : r.getD i 0 ∈ r.take i
        · rw [decide_eq_true h2]
          exact hno _
        · rw [decide_eq_false h2, Bool.not_false, Bool.true_and]
          by_cases h3 : i = 0
          · subst h3
            have hnext := ih 1 acc (by omega) (by omega) (.inr h1)
            rw [decide_eq_true rfl, Bool.true_or, Bool.true_and]
            refine Ev.step (fun k => ?_) hnext
            simp only [impl_routeLegs.j2, Bool.false_eq_true, if_false, hwr]
            rw [if_neg (by omega)]
          · have hwd : wrap64 ((i : Int) - 1) = ((i - 1 : Nat) : Int) := by unfold wrap64; omega
            have hp' : 0 ≤ r.getD (i - 1) 0 ∧ r.getD (i - 1) 0 ≤ 7 := hp.resolve_left h3
            have hnext := ih (i + 1) (acc ++ [viaOf l ws r i]) (by omega) (by simp; omega) (.inr h1)
            rw [decide_eq_false h3, Bool.false_or]
            refine Ev.step (f := fun k => (impl_between.f k l ws (r.getD (i - 1) 0) (r.getD i 0)).bind fun t => if t < 0 then some ([], false) else if acc.length < 17592186044416 then impl_routeLegs.l0 k l ws r (acc ++ [t]) r (r.length : Int) ((i + 1 : Nat) : Int) else none) (fun k => ?_) (Ev.bind (implLeg_ev hl hw hp' h1) ?_)
            · simp only [impl_routeLegs.j2, Bool.false_eq_true, if_false, hwr, hwd, rd_nat]
              rw [if_pos (by omega), if_pos (by omega), if_pos (by omega)]
            · by_cases h4 : viaOf l ws r i < 0
              · rw [decide_eq_false (show ¬ 0 ≤ viaOf l ws r i by omega), Bool.false_and]
                exact Ev.ite_pos h4 (Ev.now _)
              · rw [decide_eq_true (show 0 ≤ viaOf l ws r i by omega), Bool.true_and]
                refine Ev.ite_neg h4 (Ev.ite_pos (by omega) ?_)
                simp only [legsFrom, h3, if_false]
                exact hnext
    · rw [decide_eq_false h1, Bool.false_and, Bool.false_and]
      refine Ev.step (f := fun k => impl_routeLegs.j2 k l ws r acc (i : Int) (r.getD i 0) r (r.length : Int) (i : Int) true) (fun k => ?_) (hno _)
      simp only [impl_routeLegs.l0, impl_isStation.f, within_eq, rd_nat, Option.bind_some]
      rw [if_pos (by omega), if_pos (by omega), if_pos (by omega), if_neg (by simpa using h1)]
def isRoute (l : List S69) (ws r : List Int) : Bool := okWidths l ws && (!decide (r.length = 0) && routeFrom l ws r r.length 0)
theorem specRoute_ev (l : List S69) (ws r : List Int) (hm : l.length ≤ 9223372036854775807) (hw : ws.length ≤ 9223372036854775807) (hr : r.length ≤ 1048576) : Ev (fun k => spec_l15Route.f k l ws r) (isRoute l ws r) := by
  have hno : Ev (fun k => spec_l15Route.j0 k l ws r true) false := Ev.step (f := fun _ => some false) (fun k => by rw [spec_l15Route.j0, if_pos rfl]) (Ev.now _)
  simp only [spec_l15Route.f]
  refine Ev.bind (l15Good_ev l ws hm hw) ?_
  unfold isRoute
  by_cases h : okWidths l ws = true
  · refine Ev.ite_pos h ?_
    rw [h, Bool.true_and]
    by_cases h0 : r.length = 0
    · rw [decide_eq_true h0, show ((r.length : Int) == 0) = true from beq_iff_eq.2 (by omega)]
      exact hno
    · rw [decide_eq_false h0, show ((r.length : Int) == 0) = false from beq_eq_false_iff_ne.2 (by omega), Bool.not_false, Bool.true_and]
      exact Ev.step (f := fun k => spec_l15Route.l0 k l ws r ((0 : Nat) : Int)) (fun k => by rw [spec_l15Route.j0, if_neg (by decide)]; rfl) (specRoute_loop (okWidths_legs h) (okWidths_len h) hr r.length 0 (by omega))
  · rw [show okWidths l ws = false by simpa using h, Bool.false_and]
    exact Ev.ite_neg (by decide) hno
theorem implRoute_ev (l : List S69) (ws r : List Int) (hm : l.length ≤ 9223372036854775807) (hr : r.length ≤ 1048576) : Ev (fun k => impl_routeLegs.f k l ws r) (if isRoute l ws r = true then (legsFrom l ws r r.length 0 [], true) else ([], false)) := by
  have hno : Ev (fun k => impl_routeLegs.j0 k l ws r true) ([], false) := Ev.step (f := fun _ => some ([], false)) (fun k => by rw [impl_routeLegs.j0, if_pos rfl]) (Ev.now _)
  simp only [impl_routeLegs.f]
  refine Ev.bind (areWidths_ev l ws hm) ?_
  unfold isRoute
  by_cases h : okWidths l ws = true
  · refine Ev.ite_pos h ?_
    rw [h, Bool.true_and]
    by_cases h0 : r.length = 0
    · rw [decide_eq_true h0, show ((r.length : Int) == 0) = true from beq_iff_eq.2 (by omega)]
      exact hno
    · rw [decide_eq_false h0, show ((r.length : Int) == 0) = false from beq_eq_false_iff_ne.2 (by omega), Bool.not_false, Bool.true_and]
      exact Ev.step (f := fun k => impl_routeLegs.l0 k l ws r [] r (r.length : Int) ((0 : Nat) : Int)) (fun k => by rw [impl_routeLegs.j0, if_neg (by decide)]; rfl) (implRoute_loop (okWidths_legs h) (okWidths_len h) hr r.length 0 [] (by omega) (by simp) (.inl rfl))
  · rw [show okWidths l ws = false by simpa using h, Bool.false_and]
    exact Ev.ite_neg (by decide) hno
/-- Width and length of a route's steps from the i-th station on. -/
def sizeFrom (l : List S69) (ws r : List Int) : Nat → Nat → Int → Int → Int × Int
  | 0, _, w, s => (w, s)
  | d + 1, i, w, s => sizeFrom l ws r d (i + 1) (min w (rd ws (viaOf l ws r i))) (wrap64 (s + (rd_T69 l (viaOf l ws r i)).f2))
theorem routeFrom_via {l : List S69} {ws r : List Int} : ∀ d i, routeFrom l ws r d i = true → ∀ j, i ≤ j → j < i + d → j ≠ 0 → 0 ≤ viaOf l ws r j
  | 0, i, _, j, h1, h2, _ => by omega
  | d + 1, i, h, j, h1, h2, h3 => by
    simp only [routeFrom, Bool.and_eq_true, Bool.or_eq_true, decide_eq_true_eq] at h
    by_cases hji : j = i
    · subst hji
      exact h.2.1.resolve_left h3
    · exact routeFrom_via d (i + 1) h.2.2 j (by omega) (by omega) h3
theorem specSize_loop {l : List S69} {ws : List Int} (hl : okLegs l = true) (hw : ws.length = l.length) {r : List Int} (hr : r.length ≤ 1048576) (hv : ∀ j, j < r.length → j ≠ 0 → 0 ≤ viaOf l ws r j) : ∀ d i (w s : Int), i + d = r.length → i ≠ 0 → Ev (fun k => spec_l15Size.l0 k l ws r w s (i : Int)) (sizeFrom l ws r d i w s) := by
  intro d
  induction d with
  | zero =>
    intro i w s hi h0
    refine Ev.step (f := fun _ => some (w, s)) (fun k => ?_) (Ev.now _)
    simp only [spec_l15Size.l0]
    rw [if_neg (by omega)]
  | succ d ih =>
    intro i w s hi h0
    have hwr : wrap64 ((i : Int) + 1) = ((i + 1 : Nat) : Int) := by unfold wrap64; omega
    have hwd : wrap64 ((i : Int) - 1) = ((i - 1 : Nat) : Int) := by unfold wrap64; omega
    have hin := legOf_in l ws (r.getD (i - 1) 0) (r.getD i 0)
    have hvi := hv i (by omega) h0
    have hnext := ih (i + 1) (min w (rd ws (viaOf l ws r i))) (wrap64 (s + (rd_T69 l (viaOf l ws r i)).f2)) (by omega) (by omega)
    simp only [sizeFrom]
    unfold viaOf at hvi hnext ⊢
    refine Ev.step (f := fun k => (spec_l15Leg.f k l ws (r.getD (i - 1) 0) (r.getD i 0)).bind fun t => if 0 ≤ t then (if t < (ws.length : Int) then ((spec_l1Least.f w (rd ws t)).bind fun t403 => if t < (l.length : Int) then spec_l15Size.l0 k l ws r t403 (wrap64 (s + (rd_T69 l t).f2)) ((i + 1 : Nat) : Int) else none) else none) else none) (fun k => ?_) (Ev.bind (specLeg_ev hl hw _ _) ?_)
    · simp only [spec_l15Size.l0, hwr, hwd, rd_nat]
      rw [if_pos (by omega), if_pos (by omega), if_pos (by omega), if_pos (by omega)]
    · refine Ev.ite_pos hvi (Ev.ite_pos (by omega) ?_)
      simp only [l1Least_eq, Option.bind_some]
      exact Ev.ite_pos (by omega) hnext
theorem legsFrom_eq (l : List S69) (ws r : List Int) : ∀ d i acc, i ≠ 0 → legsFrom l ws r d i acc = acc ++ (List.range d).map (fun j => viaOf l ws r (i + j))
  | 0, _, _, _ => by simp [legsFrom]
  | d + 1, i, acc, h => by
    simp only [legsFrom, h, if_false]
    rw [legsFrom_eq l ws r d (i + 1) _ (by omega), List.range_succ_eq_map, List.map_cons, List.map_map, List.append_assoc]
    congr 1
    simp only [List.singleton_append, Nat.add_zero]
    congr 1
    apply List.map_congr_left
    intro j _
    simp only [Function.comp, Nat.succ_eq_add_one]
    rw [show i + 1 + j = i + (j + 1) by omega]
theorem legsFrom_zero (l : List S69) (ws r : List Int) (hr : r.length ≠ 0) : legsFrom l ws r r.length 0 [] = (List.range (r.length - 1)).map (fun j => viaOf l ws r (1 + j)) := by
  obtain ⟨n, hn⟩ : ∃ n, r.length = n + 1 := ⟨r.length - 1, by omega⟩
  rw [hn]
  simp only [legsFrom, if_true]
  rw [legsFrom_eq l ws r n 1 [] (by omega)]
  simp
theorem legs_at (l : List S69) (ws r : List Int) (hr : r.length ≠ 0) {j : Nat} (hj : j < r.length - 1) : rd (legsFrom l ws r r.length 0 []) (j : Int) = viaOf l ws r (1 + j) := by
  rw [legsFrom_zero l ws r hr, rd_nat, List.getD_eq_getElem?_getD]
  simp [hj]
theorem legs_length (l : List S69) (ws r : List Int) (hr : r.length ≠ 0) : (legsFrom l ws r r.length 0 []).length = r.length - 1 := by
  rw [legsFrom_zero l ws r hr]
  simp
theorem isRoute_says {l : List S69} {ws r : List Int} (h : isRoute l ws r = true) : okWidths l ws = true ∧ r.length ≠ 0 ∧ ∀ j, j < r.length → j ≠ 0 → 0 ≤ viaOf l ws r j := by
  simp only [isRoute, Bool.and_eq_true, Bool.not_eq_true', decide_eq_false_iff_not] at h
  exact ⟨h.1, h.2.1, fun j hj h0 => routeFrom_via r.length 0 h.2.2 j (by omega) (by omega) h0⟩
theorem specSize_ev {l : List S69} {ws r : List Int} (hr : r.length ≤ 1048576) (h : isRoute l ws r = true) : Ev (fun k => spec_l15Size.f k l ws r) (sizeFrom l ws r (r.length - 1) 1 200 0) := by
  obtain ⟨h1, h2, h3⟩ := isRoute_says h
  exact specSize_loop (okWidths_legs h1) (okWidths_len h1) hr h3 (r.length - 1) 1 200 0 (by omega) (by omega)
end Go.Proofs.Ytkjjnfjmnifoiaa.Pure
