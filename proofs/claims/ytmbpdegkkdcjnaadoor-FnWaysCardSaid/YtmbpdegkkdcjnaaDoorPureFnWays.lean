/- The law FnWays's pure statement. -/
import Derived.Test.YtmbpdegkkdcjnaaDoorMWx13
import Derived.Test.YtmbpdegkkdcjnaaDoorMWx2
import Derived.Test.YtmbpdegkkdcjnaaDoorMWx6
import Derived.Test.YtmbpdegkkdcjnaaDoorMWx4
import Derived.Test.YtmbpdegkkdcjnaaDoorMWx5
import Derived.Test.YtmbpdegkkdcjnaaDoorPDrawWays
import Derived.Test.YtmbpdegkkdcjnaaDoorPDrawChain
import Derived.Test.YtmbpdegkkdcjnaaDoorPRInts
import Derived.Test.YtmbpdegkkdcjnaaDoorPPtsC
import Derived.Test.YtmbpdegkkdcjnaaDoorPClimb
import Derived.Test.YtmbpdegkkdcjnaaDoorPRange
import Derived.Test.YtmbpdegkkdcjnaaDoorPRevI
import Derived.Test.YtmbpdegkkdcjnaaDoorPJoin
import Derived.Test.YtmbpdegkkdcjnaaDoorPWayLegs
namespace Go.Proofs.YtmbpdegkkdcjnaaDoor.Pure
open Go.RowKit Go.Proofs.YtmbpdegkkdcjnaaDoor.MW Go.Proofs.YtmbpdegkkdcjnaaDoorW.PrintWords Go.Proofs.YtmbpdegkkdcjnaaDoorW.PrintLast Go.Proofs.YtmbpdegkkdcjnaaDoorW.PrintMore
set_option linter.unusedVariables false
set_option linter.unusedSimpArgs false
/-! the draws -/
theorem dr_points {l : List Int} (hb : Bytes l) : Dr (fun k => spec_DrawPointsOf.f k l) (fun r => r.length ≤ 13) := by
 simp only [spec_DrawPointsOf.f, spec_DrawIsWay.f]
 exact Dr.bind (Q := fun r => r.length ≤ 13) (Dr.bind (dr_way hb (by omega) (by omega)) (fun r hr => Dr.now _ hr.1)) (fun r hr => Dr.now _ hr)
theorem dr_join {l : List Int} (hb : Bytes l) : Dr (fun k => spec_DrawJoinWays.f k l) (fun r => r.1.length ≤ 13 ∧ r.2.length ≤ 13) := by
 simp only [spec_DrawJoinWays.f]
 refine Dr.bind (dr_way hb (by omega) (by omega)) (fun r hr => ?_)
 exact Dr.bind (dr_way hb (by omega) (by omega)) (fun q hq => Dr.now _ ⟨hr.1, hq.1⟩)
/-! equal answers -/
theorem rRuns_ev (l : List S44) (hm : l.length ≤ 9223372036854775807) : Ev (fun k => laws_rRuns.f k l l) true := by
 simp only [laws_rRuns.f]
 refine Ev.ite_pos (by trivial) ?_
 refine loopV_ev (fun k i (_ : Unit) => laws_rRuns.l0 k l l i) l.length 0 (fun _ _ => True) true () trivial ?_ ?_
 ·rintro k i - - hi -
  refine .inl ⟨(), trivial, ?_⟩
  simp only [laws_rRuns.l0]
  rw [if_pos (by omega), if_pos (by omega), if_pos (by omega), if_neg (by simp), wrap_up hi hm]
 ·rintro k - - -
  simp only [laws_rRuns.l0]
  rw [if_neg (by omega)]
theorem rdLL (l : List (List Int)) (i : Nat) : rd_L4 l (i : Int) = l.getD i [] := by simp [rd_L4]
theorem rTable_ev (l : List (List Int)) (hm : l.length ≤ 64) (hr : ∀ r ∈ l, r.length ≤ 64) : Ev (fun k => laws_rTable.f k l l) true := by
 simp only [laws_rTable.f]
 refine Ev.ite_pos (by trivial) ?_
 have key : ∀ d i, i + d = l.length → Ev (fun k => laws_rTable.l0 k l l (i : Int)) true := by
  intro d
  induction d with
  | zero =>
   intro i hi
   refine Ev.step (fun k => by rw [laws_rTable.l0]) ?_
   exact Ev.ite_neg (by omega) (Ev.now _)
  | succ d ih =>
   intro i hi
   have hil : i < l.length := by omega
   refine Ev.step (fun k => by rw [laws_rTable.l0]) ?_
   refine Ev.ite_pos (by omega) (Ev.ite_pos (by omega) (Ev.ite_pos (by omega) ?_))
   rw [rdLL, wrap_up hil (by omega)]
   refine Ev.bind (rInts_ev _ ?_) (Ev.ite_pos rfl (ih (i + 1) (by omega)))
   rw [getD_lt _ _ _ hil]
   have := hr _ (List.getElem_mem hil)
   omega
 exact key l.length 0 (by omega)
/-! sums of ways -/
def upS : List S44 → Int
 | [] => 0
 | r :: l => max 0 r.f1 + upS l
def downS : List S44 → Int
 | [] => 0
 | r :: l => max 0 (-r.f1) + downS l
theorem upS_pos : ∀ l, 0 ≤ upS l
 | [] => by simp [upS]
 | r :: l => by have := upS_pos l; simp only [upS]; omega
theorem downS_pos : ∀ l, 0 ≤ downS l
 | [] => by simp [downS]
 | r :: l => by have := downS_pos l; simp only [downS]; omega
theorem upS_append : ∀ a b, upS (a ++ b) = upS a + upS b
 | [], b => by simp [upS]
 | r :: a, b => by simp only [List.cons_append, upS, upS_append a b]; omega
theorem downS_append : ∀ a b, downS (a ++ b) = downS a + downS b
 | [], b => by simp [downS]
 | r :: a, b => by simp only [List.cons_append, downS, downS_append a b]; omega
def Runs (l : List S44) : Prop := ∀ r ∈ l, 0 ≤ r.f0 ∧ r.f0 ≤ 500 ∧ -500 ≤ r.f1 ∧ r.f1 ≤ 500
theorem runs_of {l : List S44} (h : okWay l = true) : Runs l := fun r hr => by
 simp only [okWay, Bool.and_eq_true, List.all_eq_true] at h
 have := h.1 r hr
 simp only [okRun, Bool.and_eq_true, decide_eq_true_eq] at this
 omega
theorem at_run {l : List S44} (h : Runs l) {i : Nat} (hi : i < l.length) : 0 ≤ (l.getD i z44).f0 ∧ (l.getD i z44).f0 ≤ 500 ∧ -500 ≤ (l.getD i z44).f1 ∧ (l.getD i z44).f1 ≤ 500 := by
 rw [getD_lt _ _ _ hi]
 exact h _ (List.getElem_mem hi)
theorem drop_at (l : List S44) {i : Nat} (hi : i < l.length) : l.drop i = l.getD i z44 :: l.drop (i + 1) := by
 rw [getD_lt _ _ _ hi, List.drop_eq_getElem_cons hi]
theorem climb_drop {l : List S44} (h : Runs l) (h12 : l.length ≤ 12) : ∀ d i (a b : Int), i + d = l.length → 0 ≤ a → a ≤ 500 * i → 0 ≤ b → b ≤ 500 * i →
  foldN (fun i (s : Int × Int) => Sum.inl (wrap64 (s.1 + max 0 (l.getD i z44).f1), wrap64 (s.2 + max 0 (wrap64 (-(l.getD i z44).f1))))) (fun s => (s.1, s.2, true)) d i (a, b) = (a + upS (l.drop i), b + downS (l.drop i), true) := by
 intro d
 induction d with
 | zero =>
  intro i a b hi _ _ _ _
  have : l.drop i = [] := List.drop_eq_nil_of_le (by omega)
  simp [foldN, this, upS, downS]
 | succ d ih =>
  intro i a b hi h1 h2 h3 h4
  have hr := at_run h (i := i) (by omega)
  rw [drop_at l (i := i) (by omega)]
  simp only [foldN, upS, downS]
  generalize l.getD i z44 = r at hr
  rw [wrap_id (x := -r.f1) (by omega) (by omega), wrap_id (x := a + max 0 r.f1) (by omega) (by omega), wrap_id (x := b + max 0 (-r.f1)) (by omega) (by omega)]
  rw [ih (i + 1) _ _ (by omega) (by omega) (by omega) (by omega) (by omega)]
  simp only [Prod.mk.injEq, and_true]
  omega
theorem climbed_eq {l : List S44} (h : okWay l = true) : climbed l = (upS l, downS l, true) := by
 have := climb_drop (runs_of h) (okWay_len h) l.length 0 0 0 (by omega) (by omega) (by omega) (by omega) (by omega)
 unfold climbed
 rw [if_pos h, this]
 simp
/-! the points -/
def pts : List S44 → Int → Int → List (List Int)
 | [], _, _ => []
 | r :: l, x, y => [x + r.f0, y + r.f1] :: pts l (x + r.f0) (y + r.f1)
theorem pts_len : ∀ l x y, (pts l x y).length = l.length
 | [], _, _ => rfl
 | r :: l, x, y => by simp [pts, pts_len l]
theorem points_drop {l : List S44} (h : Runs l) (h12 : l.length ≤ 12) : ∀ d i (x y : Int) (acc : List (List Int)), i + d = l.length → 0 ≤ x → x ≤ 500 * i → -(500 * (i : Int)) ≤ y → y ≤ 500 * i → pointsFrom l d i x y acc = acc ++ pts (l.drop i) x y := by
 intro d
 induction d with
 | zero =>
  intro i x y acc hi _ _ _ _
  have : l.drop i = [] := List.drop_eq_nil_of_le (by omega)
  simp [pointsFrom, this, pts]
 | succ d ih =>
  intro i x y acc hi h1 h2 h3 h4
  have hr := at_run h (i := i) (by omega)
  rw [drop_at l (i := i) (by omega)]
  simp only [pointsFrom, pts]
  generalize l.getD i z44 = r at hr
  rw [wrap_id (x := x + r.f0) (by omega) (by omega), wrap_id (x := y + r.f1) (by omega) (by omega), ih (i + 1) _ _ _ (by omega) (by omega) (by omega) (by omega) (by omega)]
  simp
theorem points_eq {l : List S44} (h : okWay l = true) : pointsAns l = ([0, 0] :: pts l 0 0, true) := by
 have := points_drop (runs_of h) (okWay_len h) l.length 0 0 0 [[0, 0]] (by omega) (by omega) (by omega) (by omega) (by omega)
 unfold pointsAns
 rw [if_pos h, this]
 simp
theorem pts_last : ∀ l x y, ∃ a, ([x, y] :: pts l x y).getD l.length [] = [a, y + upS l - downS l]
 | [], x, y => ⟨x, by simp [upS, downS]⟩
 | r :: l, x, y => by
  obtain ⟨a, ha⟩ := pts_last l (x + r.f0) (y + r.f1)
  refine ⟨a, ?_⟩
  simp only [pts, List.length_cons, List.getD_cons_succ, upS, downS]
  rw [ha, show y + r.f1 + upS l - downS l = y + (max 0 r.f1 + upS l) - (max 0 (-r.f1) + downS l) by omega]
theorem pts_two : ∀ l x y, ∀ p ∈ pts l x y, p.length = 2
 | [], _, _, p, hp => by simp [pts] at hp
 | r :: l, x, y, p, hp => by
  simp only [pts, List.mem_cons] at hp
  rcases hp with rfl | hp
  ·rfl
  ·exact pts_two l _ _ p hp
/-! the range -/
def rng : List S44 → Int × Int × Int → Int × Int
 | [], s => (s.1, s.2.1)
 | r :: l, s => rng l (min s.1 (s.2.2 + r.f1), max s.2.1 (s.2.2 + r.f1), s.2.2 + r.f1)
theorem range_drop {l : List S44} (h : Runs l) (h12 : l.length ≤ 12) : ∀ d i (s : Int × Int × Int), i + d = l.length → -(500 * (i : Int)) ≤ s.2.2 → s.2.2 ≤ 500 * i →
  foldN (fun i s => Sum.inl (rangeStep l i s)) (fun s => (s.1, s.2.1, true)) d i s = ((rng (l.drop i) s).1, (rng (l.drop i) s).2, true) := by
 intro d
 induction d with
 | zero =>
  intro i s hi _ _
  have : l.drop i = [] := List.drop_eq_nil_of_le (by omega)
  simp [foldN, this, rng]
 | succ d ih =>
  intro i s hi h1 h2
  have hr := at_run h (i := i) (by omega)
  rw [drop_at l (i := i) (by omega)]
  simp only [foldN, rng, rangeStep]
  generalize l.getD i z44 = r at hr
  rw [wrap_id (x := s.2.2 + r.f1) (by omega) (by omega)]
  exact ih (i + 1) _ (by omega) (by dsimp only; omega) (by dsimp only; omega)
theorem ranged_eq {l : List S44} (h : okWay l = true) : ranged l = ((rng l (0, 0, 0)).1, (rng l (0, 0, 0)).2, true) := by
 have := range_drop (runs_of h) (okWay_len h) l.length 0 (0, 0, 0) (by omega) (by simp) (by simp)
 unfold ranged
 rw [if_pos h, this]
 simp
theorem rng_says : ∀ l (lo hi x y : Int), lo ≤ y → y ≤ hi → ((rng l (lo, hi, y)).1 ≤ lo ∧ hi ≤ (rng l (lo, hi, y)).2) ∧ (min lo (y - downS l) ≤ (rng l (lo, hi, y)).1 ∧ (rng l (lo, hi, y)).2 ≤ max hi (y + upS l)) ∧ ∀ p ∈ pts l x y, ∃ a b, p = [a, b] ∧ (rng l (lo, hi, y)).1 ≤ b ∧ b ≤ (rng l (lo, hi, y)).2
 | [], lo, hi, x, y, h1, h2 => by
  refine ⟨⟨Int.le_refl _, Int.le_refl _⟩, ⟨?_, ?_⟩, fun p hp => by simp [pts] at hp⟩
  ·simp only [rng]; omega
  ·simp only [rng]; omega
 | r :: l, lo, hi, x, y, h1, h2 => by
  obtain ⟨⟨i1, i2⟩, ⟨i3, i4⟩, i5⟩ := rng_says l (min lo (y + r.f1)) (max hi (y + r.f1)) (x + r.f0) (y + r.f1) (by omega) (by omega)
  have hu := upS_pos l
  have hd := downS_pos l
  simp only [rng, upS, downS, pts]
  refine ⟨⟨by omega, by omega⟩, ⟨by omega, by omega⟩, fun p hp => ?_⟩
  rcases List.mem_cons.1 hp with rfl | hp
  ·exact ⟨_, _, rfl, by omega, by omega⟩
  ·exact i5 p hp
/-! the other way round -/
theorem turn_run {r : S44} (h : okRun r = true) : okRun (turnRun r) = true ∧ turnRun (turnRun r) = r ∧ (turnRun r).f1 = -r.f1 := by
 have h2 := h
 simp only [okRun, Bool.and_eq_true, decide_eq_true_eq] at h2
 have e : wrap64 (-r.f1) = -r.f1 := wrap_id (by omega) (by omega)
 refine ⟨?_, ?_, e⟩
 ·simp only [okRun, turnRun, e, Bool.and_eq_true, decide_eq_true_eq]
  refine ⟨⟨h2.1.1, by omega⟩, ?_⟩
  have h3 := h2.2
  simp only [Bool.not_eq_true', Bool.and_eq_false_iff, beq_eq_false_iff_ne, ne_eq] at h3 ⊢
  rcases h3 with h3 | h3
  ·exact .inl h3
  ·exact .inr (by omega)
 ·simp only [turnRun, e, Int.neg_neg]
  rw [wrap_id (x := r.f1) (by omega) (by omega)]
theorem okWay_all {l : List S44} (h : okWay l = true) : ∀ r ∈ l, okRun r = true := by
 simp only [okWay, Bool.and_eq_true, List.all_eq_true] at h
 exact h.1
theorem turn_way {l : List S44} (h : okWay l = true) : okWay (l.reverse.map turnRun) = true := by
 have h2 := okWay_all h
 have h3 := okWay_len h
 simp only [okWay, Bool.and_eq_true, List.all_eq_true, List.mem_map, List.mem_reverse, decide_eq_true_eq, List.length_map, List.length_reverse]
 exact ⟨fun x ⟨r, hr, e⟩ => e ▸ (turn_run (h2 r hr)).1, h3⟩
theorem turn_twice {l : List S44} (h : okWay l = true) : (l.reverse.map turnRun).reverse.map turnRun = l := by
 have h2 := okWay_all h
 rw [← List.map_reverse, List.reverse_reverse, List.map_map]
 conv => rhs; rw [← List.map_id l]
 exact List.map_congr_left (fun r hr => (turn_run (h2 r hr)).2.1)
theorem up_turn : ∀ {l : List S44}, (∀ r ∈ l, okRun r = true) → upS (l.reverse.map turnRun) = downS l ∧ downS (l.reverse.map turnRun) = upS l
 | [], _ => ⟨rfl, rfl⟩
 | r :: l, h => by
  have ih := up_turn (l := l) (fun x hx => h x (List.mem_cons_of_mem _ hx))
  have e := (turn_run (h r List.mem_cons_self)).2.2
  simp only [List.reverse_cons, List.map_append, List.map_cons, List.map_nil, upS_append, downS_append, upS, downS, ih.1, ih.2, e, Int.neg_neg]
  omega
/-! the law -/
theorem ways_last {l : List Int} (hb : Bytes l) : Ev (fun k => laws_FnWays.j5 k l) true := by
 obtain ⟨⟨x, y⟩, h1, h2, h3⟩ := dr_join hb
 simp only at h2 h3
 refine Ev.step (fun k => by rw [laws_FnWays.j5]) ?_
 refine Ev.bind h1 (Ev.bind (implJoin_ev x y (by omega) (by omega)) (Ev.bind (specJoin_ev x y (by omega) (by omega)) (Ev.ite_neg (by simp) ?_)))
 refine Ev.bind (rRuns_ev _ (by have := joinAns_len x y; omega)) ?_
 refine Ev.step (fun k => by rw [laws_FnWays.j6]) (Ev.ite_neg (by decide) ?_)
 obtain ⟨legs, h4, h5⟩ := dr_chain hb
 refine Ev.bind h4 (Ev.bind (implWOL_ev legs (by omega)) (Ev.bind (specWOL_ev legs (by omega)) (Ev.ite_pos (by simp) ?_)))
 refine Ev.bind (rRuns_ev _ (by have := wayAns_len legs; omega)) (Ev.ite_pos rfl ?_)
 unfold wayAns
 split
 ·refine Ev.ite_pos rfl ?_
  have e : (((List.map runOf legs).length : Int) == (legs.length : Int)) = true := by simp
  rw [e]
  exact Ev.now _
 ·exact Ev.ite_neg (by decide) (Ev.now _)
theorem ways_l0 {l : List Int} (hb : Bytes l) (q : List (List Int)) (hq : q.length ≤ 64) (lo hi : Int) (h : ∀ p ∈ q, ∃ a b, p = [a, b] ∧ lo ≤ b ∧ b ≤ hi) : ∀ d i, i + d = q.length → Ev (fun k => laws_FnWays.l0 k l q lo hi (i : Int)) true := by
 intro d
 induction d with
 | zero =>
  intro i hi
  refine Ev.step (fun k => by rw [laws_FnWays.l0]) ?_
  exact Ev.ite_neg (by omega) (ways_last hb)
 | succ d ih =>
  intro i hi
  have hil : i < q.length := by omega
  obtain ⟨a, b, e, h1, h2⟩ := h _ (List.getElem_mem hil)
  refine Ev.step (fun k => by rw [laws_FnWays.l0]) ?_
  rw [rdLL, getD_lt _ _ _ hil, e, show rd [a, b] 1 = b from rfl, wrap_up hil (by omega)]
  refine Ev.ite_pos (by omega) (Ev.ite_pos (by omega) (Ev.ite_pos (by simp) (Ev.ite_neg (by omega) (Ev.ite_neg (by omega) (ih (i + 1) (by omega))))))
theorem ways_mid {l : List Int} (hb : Bytes l) (w : List S44) (hw : w.length ≤ 13) : Ev (fun k => laws_FnWays.j2 k l w (pointsAns w).1 (pointsAns w).2 (climbed w).1 (climbed w).2.1 (ranged w).1 (ranged w).2.1 false) true := by
 refine Ev.step (fun k => by rw [laws_FnWays.j2]) (Ev.ite_neg (by decide) ?_)
 by_cases h : okWay w = true
 ·have h12 := okWay_len h
  have hu := upS_pos w
  have hd := downS_pos w
  obtain ⟨⟨i1, i2⟩, ⟨i3, i4⟩, i5⟩ := rng_says w 0 0 0 0 (Int.le_refl _) (Int.le_refl _)
  have hup : upS w ≤ 6000 ∧ downS w ≤ 6000 := by
   have hs : ∀ v : List S44, Runs v → upS v ≤ 500 * v.length ∧ downS v ≤ 500 * v.length := by
    intro v
    induction v with
    | nil => intro _; simp [upS, downS]
    | cons r v ih =>
     intro hv
     have := ih (fun x hx => hv x (List.mem_cons_of_mem _ hx))
     have := hv r List.mem_cons_self
     simp only [upS, downS, List.length_cons]
     omega
   have := hs w (runs_of h)
   omega
  obtain ⟨al, hal⟩ := pts_last w 0 0
  have ht := up_turn (okWay_all h)
  rw [points_eq h, climbed_eq h, ranged_eq h]
  refine Ev.ite_pos rfl ?_
  have hrev : revAns w = (w.reverse.map turnRun, true) := if_pos h
  have hrev2 : revAns (w.reverse.map turnRun) = (w, true) := by
   have := turn_way h
   unfold revAns
   rw [if_pos this, turn_twice h]
  refine Ev.bind (implRev_ev w (by omega)) ?_
  rw [hrev]
  refine Ev.bind (implRev_ev _ (by simp; omega)) ?_
  rw [hrev2]
  refine Ev.bind (implClimb_ev _ (by simp; omega)) ?_
  rw [climbed_eq (turn_way h), ht.1, ht.2]
  have hlen : (([0, 0] :: pts w 0 0 : List (List Int)).length : Int) = (w.length : Int) + 1 := by simp [pts_len]
  dsimp only
  rw [hlen, wrap_id (x := (w.length : Int) + 1 - 1) (by omega) (by omega), show (w.length : Int) + 1 - 1 = (w.length : Int) by omega, rdLL, hal, show rd [al, 0 + upS w - downS w] 1 = 0 + upS w - downS w from rfl]
  refine Ev.ite_pos (by omega) (Ev.ite_pos (by omega) (Ev.ite_pos rfl (Ev.ite_pos rfl ?_)))
  refine Ev.bind (rRuns_ev _ (by omega)) (Ev.ite_pos rfl (Ev.ite_pos rfl (Ev.ite_pos rfl (Ev.ite_pos rfl (Ev.ite_pos (by simp) (Ev.ite_pos (by rw [wrap_id (by omega) (by omega)]; omega) ?_))))))
  have hj : decide (wrap64 ((rng w (0, 0, 0)).2 - (rng w (0, 0, 0)).1) > wrap64 (upS w + downS w)) = false := by
   rw [wrap_id (x := (rng w (0, 0, 0)).2 - (rng w (0, 0, 0)).1) (by omega) (by omega), wrap_id (x := upS w + downS w) (by omega) (by omega)]
   exact decide_eq_false (by omega)
  rw [hj]
  refine Ev.step (fun k => by rw [laws_FnWays.j3]) (Ev.ite_neg (by decide) ?_)
  refine ways_l0 hb _ (by simp [pts_len]; omega) _ _ (fun p hp => ?_) ([0, 0] :: pts w 0 0).length 0 (by omega)
  rcases List.mem_cons.1 hp with rfl | hp
  ·exact ⟨0, 0, rfl, i1, i2⟩
  ·exact i5 p hp
 ·have e : (pointsAns w).2 = false := by
   unfold pointsAns
   rw [if_neg h]
  rw [e]
  exact Ev.ite_neg (by decide) (ways_last hb)
theorem FnWays (l0 : List Int) (hm0 : l0.length ≤ 9223372036854775807) (hw0 : ∀ x ∈ l0, (Lit.int .u8 x).wf = true) : ∃ k, laws_FnWays.f k l0 = some true := by
 apply Ev.rounds
 have hb := bytes_of hw0
 simp only [laws_FnWays.f, laws_rBig.f, Option.bind_some]
 by_cases hbig : (l0.length : Int) > 65536
 ·exact Ev.ite_pos (decide_eq_true hbig) (Ev.now true)
 refine Ev.ite_neg (by simpa using hbig) ?_
 obtain ⟨w, h1, h2⟩ := dr_points hb
 refine Ev.bind h1 (Ev.bind (implPointsOf_ev w (by omega)) (Ev.bind (specPointsOf_ev w (by omega)) (Ev.ite_neg (by simp) ?_)))
 have hrows : (pointsAns w).1.length ≤ 64 ∧ ∀ r ∈ (pointsAns w).1, r.length ≤ 64 := by
  by_cases h : okWay w = true
  ·rw [points_eq h]
   have := okWay_len h
   refine ⟨by simp only [List.length_cons, pts_len]; omega, fun r hr => ?_⟩
   rcases List.mem_cons.1 hr with rfl | hr
   ·simp
   ·have := pts_two w 0 0 r hr
    omega
  ·have e : (pointsAns w).1 = [] := by
    unfold pointsAns
    rw [if_neg h]
   rw [e]
   simp
 refine Ev.bind (rTable_ev _ hrows.1 hrows.2) (Ev.ite_pos rfl (Ev.bind (isWay_ev w (by omega)) ?_))
 have e : ((pointsAns w).2 != okWay w) = false := by
  unfold pointsAns
  cases h : okWay w <;> simp [h]
 rw [e]
 refine Ev.step (fun k => by rw [laws_FnWays.j0]) (Ev.ite_neg (by decide) ?_)
 refine Ev.bind (implClimb_ev w (by omega)) (Ev.bind (specClimb_ev w (by omega)) (Ev.ite_pos rfl (Ev.ite_pos rfl ?_)))
 rw [show ((climbed w).2.2 != (climbed w).2.2) = false by simp]
 refine Ev.step (fun k => by rw [laws_FnWays.j1]) (Ev.ite_neg (by decide) ?_)
 refine Ev.bind (implRange_ev w (by omega)) (Ev.bind (specRange_ev w (by omega)) (Ev.ite_pos rfl (Ev.ite_pos rfl ?_)))
 rw [show ((ranged w).2.2 != (ranged w).2.2) = false by simp]
 exact ways_mid hb w h2
end Go.Proofs.YtmbpdegkkdcjnaaDoor.Pure
