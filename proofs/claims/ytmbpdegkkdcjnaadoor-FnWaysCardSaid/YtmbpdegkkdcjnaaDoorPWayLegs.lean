/- The way of legs: the program's and the reference's answer. -/
import Derived.Test.YtmbpdegkkdcjnaaDoorMWx10
import Derived.Test.YtmbpdegkkdcjnaaDoorMWx12
import Derived.Test.YtmbpdegkkdcjnaaDoorPRoundS
import Derived.Test.YtmbpdegkkdcjnaaDoorPLegC
import Derived.Test.YtmbpdegkkdcjnaaDoorPRuns
namespace Go.Proofs.YtmbpdegkkdcjnaaDoor.Pure
open Go.RowKit Go.Proofs.YtmbpdegkkdcjnaaDoor.MW Go.Proofs.YtmbpdegkkdcjnaaDoorW.PrintWords Go.Proofs.YtmbpdegkkdcjnaaDoorW.PrintLast Go.Proofs.YtmbpdegkkdcjnaaDoorW.PrintMore
set_option linter.unusedVariables false
set_option linter.unusedSimpArgs false
def runOf (x : S59) : S44 := ⟨levelOf x.f2 x.f4, upOf x.f2 x.f4⟩
def chained (l : List S59) (i : Nat) : Bool := decide (i = 0) || decide ((l.getD (i - 1) z59).f1 = (l.getD i z59).f0)
def chainFrom (l : List S59) : Nat → Nat → Bool
 | 0, _ => true
 | d + 1, i => chained l i && chainFrom l d (i + 1)
theorem leg_tape {x : S59} (h : okLeg x = true) : -500 ≤ x.f2 ∧ x.f2 ≤ 500 := by
 simp only [okLeg, Bool.and_eq_true, decide_eq_true_eq] at h
 omega
theorem chain_loop {l : List S59} (hl : ∀ i, i < l.length → okLeg (l.getD i z59) = true) (hm : l.length ≤ 1048576) : ∀ d i (p q r : Int), i + d = l.length → ∃ p' q' r', Ev (fun k => impl_ChainShift.l0 k l l (l.length : Int) (i : Int) p q r) (p', q', r', chainFrom l d i) := by
 intro d
 induction d with
 | zero =>
  intro i p q r hi
  refine ⟨p, q, r, Ev.step (f := fun _ => some (p, q, r, true)) (fun k => ?_) (Ev.now _)⟩
  simp only [impl_ChainShift.l0]
  rw [if_neg (by omega)]
 | succ d ih =>
  intro i p q r hi
  have hil : i < l.length := by omega
  have hwi : wrap64 ((i : Int) + 1) = ((i + 1 : Nat) : Int) := by unfold wrap64; omega
  have hs := shift_ev (l.getD i z59).f0 (l.getD i z59).f1 (l.getD i z59).f2 (l.getD i z59).f3 (l.getD i z59).f4 (leg_tape (hl i hil))
  have key : ∀ c : Bool, c = !(chained l i) → ∃ p' q' r', Ev (fun k => impl_ChainShift.j1 k l l (l.length : Int) (i : Int) c p q r (l.getD i z59).f0 (l.getD i z59).f1 (l.getD i z59).f2 (l.getD i z59).f3 (l.getD i z59).f4) (p', q', r', chainFrom l (d + 1) i) := by
   intro c hc
   simp only [chainFrom]
   cases hb : chained l i with
   | false =>
    rw [hb] at hc
    subst hc
    refine ⟨0, 0, 0, Ev.step (f := fun _ => some (0, 0, 0, false)) (fun k => ?_) (Ev.now _)⟩
    simp only [impl_ChainShift.j1]
    rfl
   | true =>
    rw [hb] at hc
    subst hc
    obtain ⟨p', q', r', h⟩ := ih (i + 1) (wrap64 (p + wrap64 (1 * upOf (levelOf (l.getD i z59).f2 (l.getD i z59).f4) (l.getD i z59).f3))) (wrap64 (q + wrap64 (1 * levelOf (levelOf (l.getD i z59).f2 (l.getD i z59).f4) (l.getD i z59).f3))) (wrap64 (r + wrap64 (1 * upOf (l.getD i z59).f2 (l.getD i z59).f4))) (by omega)
    refine ⟨p', q', r', Ev.step (f := fun k => (impl_Leg_shift.f k (l.getD i z59).f0 (l.getD i z59).f1 (l.getD i z59).f2 (l.getD i z59).f3 (l.getD i z59).f4).bind fun b => (impl_Shift_plus.f p q r b.1 b.2.1 b.2.2 1).bind fun b2 => impl_ChainShift.l0 k l l (l.length : Int) ((i + 1 : Nat) : Int) b2.1 b2.2.1 b2.2.2) (fun k => ?_) (Ev.bind hs ?_)⟩
    ·simp only [impl_ChainShift.j1, hwi]
     rw [if_neg (by decide)]
    ·simp only [impl_Shift_plus.f, Option.bind_some, Bool.true_and]
     exact h
  rcases Nat.eq_zero_or_pos i with rfl | hp
  ·obtain ⟨p', q', r', h⟩ := key false (by simp [chained])
   refine ⟨p', q', r', Ev.step (fun k => ?_) h⟩
   simp only [impl_ChainShift.l0, rdL]
   rw [if_pos (by omega), if_pos (by omega), if_pos (by omega), if_neg (by omega)]
  ·have hwm : wrap64 ((i : Int) - 1) = ((i - 1 : Nat) : Int) := by unfold wrap64; omega
   obtain ⟨p', q', r', h⟩ := key ((l.getD (i - 1) z59).f1 != (l.getD i z59).f0) (by simp [chained, show i ≠ 0 by omega, bne, BEq.beq])
   refine ⟨p', q', r', Ev.step (fun k => ?_) h⟩
   simp only [impl_ChainShift.l0, hwm, rdL]
   rw [if_pos (by omega), if_pos (by omega), if_pos (by omega), if_pos (by omega), if_pos (by omega), if_pos (by omega)]
theorem implWay_loop {l : List S59} (hl : ∀ i, i < l.length → okLeg (l.getD i z59) = true) (hm : l.length ≤ 1048576) : ∀ d i (out : List S44), i + d = l.length → out.length ≤ i →
  Ev (fun k => impl_WayOfLegs.l0 k out l (l.length : Int) (i : Int)) (if okWay (out ++ (l.drop i).map runOf) = true then (out ++ (l.drop i).map runOf, true) else ([], false)) := by
 intro d
 induction d with
 | zero =>
  intro i out hi ho
  rw [List.drop_eq_nil_of_le (by omega), List.map_nil, List.append_nil]
  refine Ev.step (f := fun k => (impl_IsWay.f k out).bind fun t => if t = true then some (out, true) else some ([], false)) (fun k => ?_) (Ev.bind (isWay_ev out (by omega)) ?_)
  ·simp only [impl_WayOfLegs.l0]
   rw [if_neg (by omega)]
  ·split
   ·exact Ev.now _
   ·exact Ev.now _
 | succ d ih =>
  intro i out hi ho
  have hil : i < l.length := by omega
  have hwi : wrap64 ((i : Int) + 1) = ((i + 1 : Nat) : Int) := by unfold wrap64; omega
  have hx : l[i] = l.getD i z59 := by rw [List.getD_eq_getElem?_getD, List.getElem?_eq_getElem hil]; rfl
  have hn := ih (i + 1) (out ++ [runOf (l.getD i z59)]) (by omega) (by simp; omega)
  rw [List.drop_eq_getElem_cons hil, hx, List.map_cons, List.append_cons]
  refine Ev.step (f := fun k => (impl_partOf.f k (l.getD i z59).f2 (l.getD i z59).f4).bind fun b => impl_WayOfLegs.l0 k (out ++ [⟨b.1, b.2⟩]) l (l.length : Int) ((i + 1 : Nat) : Int)) (fun k => ?_) (Ev.bind (partOf_ev _ _ (leg_tape (hl i hil))) hn)
  simp only [impl_WayOfLegs.l0, rdL, hwi]
  rw [if_pos (by omega), if_pos (by omega), if_pos (by omega)]
  refine congrArg _ (funext fun t => ?_)
  rw [if_pos (by omega)]
def wayAns (l : List S59) : List S44 × Bool := if l.all okLeg = true ∧ chainFrom l l.length 0 = true ∧ okWay (l.map runOf) = true then (l.map runOf, true) else ([], false)
theorem wayAns_len (l : List S59) : (wayAns l).1.length ≤ 12 := by
 unfold wayAns
 split
 ·rename_i h
  exact okWay_len h.2.2
 ·simp
theorem implWOL_ev (l : List S59) (hm : l.length ≤ 1048576) : Ev (fun k => impl_WayOfLegs.f k l) (wayAns l) := by
 simp only [impl_WayOfLegs.f, impl_ChainShift.f]
 by_cases h : okLegs l = true
 ·have hl : ∀ i, i < l.length → okLeg (l.getD i z59) = true := fun i hi => okLegs_at h hi
  have hall : l.all okLeg = true := by simp only [okLegs, Bool.and_eq_true] at h; exact h.1
  obtain ⟨p, q, r, hc⟩ := chain_loop hl hm l.length 0 0 0 0 (by omega)
  have hw := implWay_loop hl hm l.length 0 [] (by omega) (by simp)
  rw [List.drop_zero, List.nil_append] at hw
  refine Ev.bind (Ev.bind (areLegs_ev l (by omega)) (Ev.ite_pos h hc)) ?_
  by_cases h2 : chainFrom l l.length 0 = true
  ·refine Ev.ite_pos h2 ?_
   by_cases h3 : okWay (l.map runOf) = true
   ·rw [if_pos h3] at hw
    rw [show wayAns l = _ from if_pos ⟨hall, h2, h3⟩]
    exact hw
   ·rw [if_neg h3] at hw
    rw [show wayAns l = _ from if_neg (fun hh => h3 hh.2.2)]
    exact hw
  ·rw [show wayAns l = _ from if_neg (fun hh => h2 hh.2.1)]
   exact Ev.ite_neg h2 (Ev.now _)
 ·have hno : wayAns l = ([], false) := if_neg (fun hh => by
   have h12 := okWay_len hh.2.2
   rw [List.length_map] at h12
   exact h (by simp only [okLegs, Bool.and_eq_true, decide_eq_true_eq]; exact ⟨hh.1, h12⟩))
  rw [hno]
  exact Ev.bind (Ev.bind (areLegs_ev l (by omega)) (Ev.ite_neg h (Ev.now (0, 0, 0, false)))) (Ev.ite_neg (by simp) (Ev.now _))
def okFrom (l : List S59) : Nat → Nat → Bool
 | 0, _ => true
 | d + 1, i => okLeg (l.getD i z59) && (chained l i && okFrom l d (i + 1))
theorem specWay_loop {l : List S59} (hm : l.length ≤ 1048576) : ∀ d i (out : List S44), i + d = l.length → out.length ≤ i →
  Ev (fun k => spec_WayOfLegs.l0 k l out (i : Int)) (if okFrom l d i = true ∧ okWay (out ++ (l.drop i).map runOf) = true then (out ++ (l.drop i).map runOf, true) else ([], false)) := by
 intro d
 induction d with
 | zero =>
  intro i out hi ho
  rw [List.drop_eq_nil_of_le (by omega), List.map_nil, List.append_nil]
  refine Ev.step (f := fun k => (spec_l14Good.f k out).bind fun t => if t = true then some (out, true) else some ([], false)) (fun k => ?_) (Ev.bind (l14Good_ev out (by omega)) ?_)
  ·simp only [spec_WayOfLegs.l0]
   rw [if_neg (by omega)]
  ·simp only [okFrom, true_and]
   split
   ·exact Ev.now _
   ·exact Ev.now _
 | succ d ih =>
  intro i out hi ho
  have hil : i < l.length := by omega
  have hwi : wrap64 ((i : Int) + 1) = ((i + 1 : Nat) : Int) := by unfold wrap64; omega
  have hx : l[i] = l.getD i z59 := by rw [List.getD_eq_getElem?_getD, List.getElem?_eq_getElem hil]; rfl
  have hn := ih (i + 1) (out ++ [runOf (l.getD i z59)]) (by omega) (by simp; omega)
  rw [List.drop_eq_getElem_cons hil, hx, List.map_cons, List.append_cons]
  have hno : Ev (fun k => spec_WayOfLegs.j1 k l out (i : Int) true) ([], false) := Ev.step (f := fun _ => some ([], false)) (fun k => by simp only [spec_WayOfLegs.j1]; rfl) (Ev.now _)
  by_cases hk : okLeg (l.getD i z59) = true
  ·have hyes : Ev (fun k => spec_WayOfLegs.j1 k l out (i : Int) false) (if okFrom l d (i + 1) = true ∧ okWay (out ++ [runOf (l.getD i z59)] ++ (l.drop (i + 1)).map runOf) = true then (out ++ [runOf (l.getD i z59)] ++ (l.drop (i + 1)).map runOf, true) else ([], false)) := by
    refine Ev.step (f := fun k => (spec_l11Round.f k ((l.getD i z59).f2 * sinAt (wrap64 ((l.getD i z59).f4 + 90))) 1000).bind fun t => spec_WayOfLegs.l0 k l (out ++ [⟨t, upOf (l.getD i z59).f2 (l.getD i z59).f4⟩]) ((i + 1 : Nat) : Int)) (fun k => ?_) (Ev.bind (round_ev _ (mul_in (leg_tape hk) (sin_in _))) hn)
    simp only [spec_WayOfLegs.j1, rdL, hwi, l2Sine_eq, l4Shift_eq _ _ _ _ _ (leg_tape hk), Option.bind_some, wmul (leg_tape hk) (sin_in _)]
    rw [if_neg (by decide), if_pos (by omega), if_pos (by omega)]
    refine congrArg _ (funext fun t => ?_)
    rw [if_pos (by omega)]
   have both : ∀ c : Bool, c = !(chained l i) → Ev (fun k => spec_WayOfLegs.j1 k l out (i : Int) c) (if okFrom l (d + 1) i = true ∧ okWay (out ++ [runOf (l.getD i z59)] ++ (l.drop (i + 1)).map runOf) = true then (out ++ [runOf (l.getD i z59)] ++ (l.drop (i + 1)).map runOf, true) else ([], false)) := by
    intro c hc
    simp only [okFrom, hk, Bool.true_and]
    cases hb : chained l i with
    | false =>
     rw [hb] at hc
     subst hc
     rw [if_neg (by simp)]
     exact hno
    | true =>
     rw [hb] at hc
     subst hc
     simp only [Bool.true_and]
     exact hyes
   rcases Nat.eq_zero_or_pos i with rfl | hp
   ·refine Ev.step (fun k => ?_) (both false (by simp [chained]))
    simp only [spec_WayOfLegs.l0, rdL, l4Leg_eq, Option.bind_some, hk]
    rw [if_pos (by omega), if_pos (by omega), if_pos trivial, if_neg (by omega)]
   ·have hwm : wrap64 ((i : Int) - 1) = ((i - 1 : Nat) : Int) := by unfold wrap64; omega
    refine Ev.step (fun k => ?_) (both ((l.getD (i - 1) z59).f1 != (l.getD i z59).f0) (by simp [chained, show i ≠ 0 by omega, bne, BEq.beq]))
    simp only [spec_WayOfLegs.l0, rdL, l4Leg_eq, Option.bind_some, hk, hwm]
    rw [if_pos (by omega), if_pos (by omega), if_pos trivial, if_pos (by omega), if_pos (by omega), if_pos (by omega)]
  ·have hkf := Bool.eq_false_iff.mpr hk
   rw [if_neg (fun h_ => by have h1 := h_.1; simp only [okFrom, hkf, Bool.false_and] at h1; exact absurd h1 (by decide))]
   refine Ev.step (fun k => ?_) hno
   simp only [spec_WayOfLegs.l0, rdL, l4Leg_eq, Option.bind_some]
   rw [if_pos (by omega), if_pos (by omega), if_neg hk]
theorem okFrom_eq (l : List S59) : ∀ d i, i + d = l.length → okFrom l d i = ((l.drop i).all okLeg && chainFrom l d i) := by
 intro d
 induction d with
 | zero => intro i hi; rw [List.drop_eq_nil_of_le (by omega)]; rfl
 | succ d ih =>
  intro i hi
  have hil : i < l.length := by omega
  have hx : l[i] = l.getD i z59 := by rw [List.getD_eq_getElem?_getD, List.getElem?_eq_getElem hil]; rfl
  rw [List.drop_eq_getElem_cons hil, hx]
  simp only [okFrom, chainFrom, List.all_cons, ih (i + 1) (by omega)]
  cases okLeg (l.getD i z59) <;> cases chained l i <;> simp
theorem specWOL_ev (l : List S59) (hm : l.length ≤ 1048576) : Ev (fun k => spec_WayOfLegs.f k l) (wayAns l) := by
 simp only [spec_WayOfLegs.f]
 have h := specWay_loop hm l.length 0 [] (by omega) (by simp)
 rw [List.drop_zero, List.nil_append, okFrom_eq l l.length 0 (by omega), List.drop_zero] at h
 have e : wayAns l = if (l.all okLeg && chainFrom l l.length 0) = true ∧ okWay (l.map runOf) = true then (l.map runOf, true) else ([], false) := by
  unfold wayAns
  simp only [Bool.and_eq_true, and_assoc]
 rw [e]
 exact h
end Go.Proofs.YtmbpdegkkdcjnaaDoor.Pure
