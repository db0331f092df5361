/- The law FnRiggings's pure statement. -/
import Derived.Test.YtfjpbochanekoaaMJx14
import Derived.Test.YtfjpbochanekoaaMJx10
import Derived.Test.YtfjpbochanekoaaMJx13
import Derived.Test.YtfjpbochanekoaaPRInts
import Derived.Test.YtfjpbochanekoaaPDrawRopes
import Derived.Test.YtfjpbochanekoaaPRigging
import Derived.Test.YtfjpbochanekoaaPSpare
import Derived.Test.YtfjpbochanekoaaPDeep
namespace Go.Proofs.Ytfjpbochanekoaa.Pure
open Go.RowKit Go.Proofs.Ytfjpbochanekoaa.MJ Go.Proofs.YtfjpbochanekoaaW.PrintWords Go.Proofs.YtfjpbochanekoaaW.PrintLast Go.Proofs.YtfjpbochanekoaaW.PrintMore
set_option linter.unusedVariables false
set_option linter.unusedSimpArgs false
/-! the best is no longer than any other -/
theorem bestLoop_le {f : List Int → Int → List Int × Int} {need : Int} {l1 rig : List Int} {sum v : Int} : ∀ (d k : Nat) (acc : List Int × Int), ((0 ≤ acc.2 ∧ acc.2 ≤ v) ∨ ∃ j : Nat, k ≤ j ∧ j < k + d ∧ ¬ (j : Int) ∈ rig ∧ need ≤ l1.getD j 0 ∧ 0 ≤ (f (rig ++ [(j : Int)]) (sum + l1.getD j 0)).2 ∧ (f (rig ++ [(j : Int)]) (sum + l1.getD j 0)).2 ≤ v) → 0 ≤ (bestLoop f need l1 rig sum d k acc).2 ∧ (bestLoop f need l1 rig sum d k acc).2 ≤ v
 | 0, k, acc, h => by
  simp only [bestLoop]
  rcases h with h | ⟨j, h1, h2, -⟩
  ·exact h
  ·omega
 | d + 1, k, acc, h => by
  simp only [bestLoop]
  refine bestLoop_le d (k + 1) _ ?_
  rcases h with h | ⟨j, h1, h2, h3, h4, h5, h6⟩
  ·refine .inl ?_
   split
   ·exact h
   ·split
    ·rename_i hh
     refine ⟨hh.1, ?_⟩
     rcases hh.2 with h7 | h7 <;> omega
    ·exact h
  ·by_cases e : j = k
   ·subst e
    refine .inl ?_
    rw [if_neg (fun hc => hc.elim h3 (fun h7 => by omega))]
    split
    ·exact ⟨h5, h6⟩
    ·rename_i hh
     have h8 : ¬ (acc.2 < 0 ∨ (f (rig ++ [(j : Int)]) (sum + l1.getD j 0)).2 < acc.2) := fun z => hh ⟨h5, z⟩
     omega
   ·exact .inr ⟨j, by omega, by omega, h3, h4, h5, h6⟩
/-- The sum of the ropes of a rigging. -/
def rsum (l1 l2 : List Int) : Nat → Nat → Int → Int
 | 0, _, s => s
 | d + 1, i, s => rsum l1 l2 d (i + 1) (s + l1.getD (l2.getD i 0).toNat 0)
theorem rigNeed_eq {d a : Int} (h : okPitch d a = true) : rigNeed ⟨d, a⟩ = needOf d a := by
 simp only [okPitch, Bool.and_eq_true, decide_eq_true_eq] at h
 unfold rigNeed needOf
 simp only
 rw [wrap_id (x := 15 * a) (by omega) (by omega), wrap_id (x := d + 15 * a) (by omega) (by omega), wrap_id (by omega) (by omega)]
theorem isRig_says {l0 : List S36} {l1 l2 : List Int} (h : isRig l0 l1 l2 = true) : l2.length = l0.length ∧ ∀ i, i < l2.length → rigStep l0 l1 l2 i = true := by
 unfold isRig at h
 by_cases hl : l2.length = l0.length
 ·rw [if_pos hl] at h
  refine ⟨hl, ?_⟩
  have key : ∀ d i, i + d = l2.length → foldN (fun i (_ : Unit) => if rigStep l0 l1 l2 i = true then Sum.inl () else Sum.inr false) (fun _ => true) d i () = true → ∀ j, i ≤ j → j < l2.length → rigStep l0 l1 l2 j = true := by
   intro d
   induction d with
   | zero => intro i hi _ j h1 h2; omega
   | succ d ih =>
    intro i hi hf j h1 h2
    simp only [foldN] at hf
    by_cases hr : rigStep l0 l1 l2 i = true
    ·rw [if_pos hr] at hf
     by_cases e : j = i
     ·subst e; exact hr
     ·exact ih (i + 1) (by omega) hf j (by omega) h2
    ·rw [if_neg hr] at hf
     cases hf
  exact fun i hi => key l2.length 0 (by omega) h i (by omega) hi
 ·rw [if_neg hl] at h
  cases h
theorem bestGo_le {l0 : List S36} {l1 l2 : List Int} (hp : okPitches l0 = true) (hv : ∀ x ∈ l1, 0 ≤ x) (hl : l2.length = l0.length) (hs : ∀ i, i < l2.length → rigStep l0 l1 l2 i = true) : ∀ d i (sum : Int), i + d = l2.length → 0 ≤ sum → 0 ≤ (bestGo l0 l1 d (l2.take i) sum).2 ∧ (bestGo l0 l1 d (l2.take i) sum).2 ≤ rsum l1 l2 d i sum
 | 0, i, sum, _, h => ⟨h, Int.le_refl _⟩
 | d + 1, i, sum, hi, h => by
  have hil : i < l2.length := by omega
  have h1 := hs i hil
  simp only [rigStep, Bool.and_eq_true, decide_eq_true_eq, Bool.not_eq_true', decide_eq_false_iff_not] at h1
  obtain ⟨⟨h2, h3⟩, h4, h5⟩ := h1
  obtain ⟨j, hj⟩ : ∃ j : Nat, l2.getD i 0 = (j : Int) := ⟨(l2.getD i 0).toNat, by omega⟩
  rw [hj] at h2 h3 h4 h5
  rw [rd_nat] at h5
  have hjl : j < l1.length := by omega
  have hx := hv _ (List.getElem_mem hjl)
  have hlen : (l2.take i).length = i := by rw [List.length_take]; omega
  have hnd : rigNeed (l0.getD i z36) = needOf (l0.getD i z36).f0 (l0.getD i z36).f1 := rigNeed_eq (okPitches_at hp (by omega))
  have ht : l2.take (i + 1) = l2.take i ++ [(j : Int)] := by
   rw [take_snoc l2 i hil, hj]
  have hg := bestGo_le hp hv hl hs d (i + 1) (sum + l1.getD j 0) (by omega) (by rw [getD_lt _ _ _ hjl]; omega)
  rw [ht] at hg
  have hr : rsum l1 l2 (d + 1) i sum = rsum l1 l2 d (i + 1) (sum + l1.getD j 0) := by
   simp only [rsum, hj]
   rfl
  rw [hr]
  simp only [bestGo]
  refine bestLoop_le _ _ _ (.inr ⟨j, by omega, by omega, h4, ?_, hg.1, hg.2⟩)
  rw [hlen, hnd]
  omega
theorem rSum_ev {l : List Int} (h8 : l.length ≤ 8) (hv : ∀ x ∈ l, 0 ≤ x ∧ x ≤ 4000) : Ev (fun k => laws_rSum.f k l) (sumFrom l l.length 0 0) := by
 have key : ∀ d i (s : Int), i + d = l.length → 0 ≤ s → s ≤ 4000 * i → Ev (fun k => laws_rSum.l0 k l s (i : Int)) (sumFrom l d i s) := by
  intro d
  induction d with
  | zero =>
   intro i s hi _ _
   refine Ev.step (fun k => by rw [laws_rSum.l0]) ?_
   exact Ev.ite_neg (by omega) (Ev.now _)
  | succ d ih =>
   intro i s hi h0 h1
   have hil : i < l.length := by omega
   have h := hv _ (List.getElem_mem hil)
   have hs : wrap64 (s + l.getD i 0) = s + l.getD i 0 := by rw [getD_lt _ _ _ hil]; unfold wrap64; omega
   refine Ev.step (fun k => by rw [laws_rSum.l0]) ?_
   rw [wrap_up (i := i) (n := l.length) (by omega) (by omega), rd_nat, hs]
   simp only [sumFrom]
   exact Ev.ite_pos (by omega) (Ev.ite_pos (by omega) (ih (i + 1) _ (by omega) (by rw [getD_lt _ _ _ hil]; omega) (by rw [getD_lt _ _ _ hil]; omega)))
 simp only [laws_rSum.f]
 exact key l.length 0 0 (by omega) (by omega) (by omega)
/-! the draw -/
theorem draw_rig1 {l : List Int} (hb : Bytes l) (p : List S36) (r a b : List Int) (c : Bool) {i s : Int} (h0 : 0 ≤ i) (h1 : i ≤ 100000000) (ha : a.length ≤ 100) (hb2 : b.length ≤ 100) : ∃ ys, Ev (fun k => spec_DrawIsRigging.j1 k p r a b c l i s) (p, r, ys) ∧ ys.length ≤ 200 := by
 obtain ⟨o, j, t, e, -, -⟩ := cur_one (i := i) (s := s) (n := 24) hb h0 (by omega) (by decide)
 cases c with
 | true =>
  cases o with
  | true =>
   refine ⟨b ++ [0], ?_, by rw [List.length_append, List.length_singleton]; omega⟩
   refine Ev.step (fun k => by rw [spec_DrawIsRigging.j1]) ?_
   refine Ev.ite_pos rfl ?_
   refine Ev.bindc e ?_
   refine Ev.ite_pos rfl ?_
   exact Ev.ite_pos (by omega) (Ev.now _)
  | false =>
   refine ⟨b, ?_, by omega⟩
   refine Ev.step (fun k => by rw [spec_DrawIsRigging.j1]) ?_
   refine Ev.ite_pos rfl ?_
   refine Ev.bindc e ?_
   exact Ev.ite_neg (by simp) (Ev.now _)
 | false =>
  cases o with
  | true =>
   refine ⟨a ++ [0], ?_, by rw [List.length_append, List.length_singleton]; omega⟩
   refine Ev.step (fun k => by rw [spec_DrawIsRigging.j1]) ?_
   refine Ev.ite_neg (by simp) ?_
   refine Ev.bindc e ?_
   refine Ev.ite_pos rfl ?_
   exact Ev.ite_pos (by omega) (Ev.now _)
  | false =>
   refine ⟨a, ?_, by omega⟩
   refine Ev.step (fun k => by rw [spec_DrawIsRigging.j1]) ?_
   refine Ev.ite_neg (by simp) ?_
   refine Ev.bindc e ?_
   exact Ev.ite_neg (by simp) (Ev.now _)
theorem draw_rig0 {l : List Int} (hb : Bytes l) (p : List S36) (r : List Int) (hp : p.length ≤ 7) (hr : r.length ≤ 9) : ∀ (e q : Nat) (a : List Int) (i s : Int), q + e = p.length → a.length = q → 0 ≤ i → i ≤ 1000000 + 2 * q → ∃ ys, Ev (fun k => spec_DrawIsRigging.l0 k p r a (q : Int) l i s) (p, r, ys) ∧ ys.length ≤ 200 := by
 intro e
 induction e with
 | zero =>
  intro q a i s hq ha h0 h1
  have hbest := specBestRig_ev p r (by omega) (by omega)
  have hbl := bestAns_len p r
  cases hf : (bestAns p r).2.2 with
  | true =>
   obtain ⟨o, j, t, eo, g0, g1⟩ := cur_one (i := i) (s := s) (n := 2) hb h0 (by omega) (by decide)
   obtain ⟨ys, h2, h3⟩ := draw_rig1 hb p r a (bestAns p r).1 o (i := j) (s := t) (by omega) (by omega) (by omega) hbl
   refine ⟨ys, ?_, h3⟩
   refine Ev.step (fun k => by rw [spec_DrawIsRigging.l0]) ?_
   refine Ev.ite_neg (by omega) ?_
   refine Ev.bind hbest ?_
   refine Ev.ite_pos hf ?_
   exact Ev.bindc eo h2
  | false =>
   obtain ⟨ys, h2, h3⟩ := draw_rig1 hb p r a (bestAns p r).1 false (i := i) (s := s) (by omega) (by omega) (by omega) hbl
   refine ⟨ys, ?_, h3⟩
   refine Ev.step (fun k => by rw [spec_DrawIsRigging.l0]) ?_
   refine Ev.ite_neg (by omega) ?_
   refine Ev.bind hbest ?_
   exact Ev.ite_neg (by simp [hf]) h2
 | succ e ih =>
  intro q a i s hq ha h0 h1
  have hw : wrap64 ((r.length : Int) + 1) = (r.length : Int) + 1 := wrap_id (by omega) (by omega)
  obtain ⟨v, j, t, ep, g0, g1, -, -⟩ := cur_pick (i := i) (s := s) (n := (r.length : Int) + 1) hb h0 (by omega) (by omega)
  obtain ⟨ys, h2, h3⟩ := ih (q + 1) (a ++ [v]) j t (by omega) (by rw [List.length_append, List.length_singleton]; omega) (by omega) (by omega)
  refine ⟨ys, ?_, h3⟩
  refine Ev.step (fun k => by rw [spec_DrawIsRigging.l0]) ?_
  rw [hw, wrap_up (i := q) (n := p.length) (by omega) (by omega)]
  refine Ev.ite_pos (by omega) ?_
  refine Ev.bindc ep ?_
  exact Ev.ite_pos (by omega) h2
theorem draw_rig {l : List Int} (hb : Bytes l) : ∃ p r ys, Ev (fun k => spec_DrawIsRigging.f k l) (p, r, ys) ∧ p.length ≤ 7 ∧ r.length ≤ 9 ∧ ys.length ≤ 200 := by
 obtain ⟨p, i, s, hp, h7, g0, g1⟩ := cur_pitches (i := 0) (s := 0) hb (by omega) (by omega)
 obtain ⟨r, j, t, hr, h9, g2, g3⟩ := cur_ropes (i := i) (s := s) hb (by omega) (by omega)
 obtain ⟨ys, h2, h3⟩ := draw_rig0 hb p r h7 h9 p.length 0 [] j t (by omega) rfl (by omega) (by omega)
 simp only [spec_DrawIsRigging.f]
 exact ⟨p, r, ys, Ev.bind hp (Ev.bind hr h2), h7, h9, h3⟩
/-! the law -/
theorem best_found {p : List S36} {r : List Int} (hp : okPitches p = true) (hr : okRopes r = true) : (bestAns p r).2.2 = true ↔ Fit (needf p) r p.length [] := by
 have hv : ∀ x ∈ r, 0 ≤ x := fun x hx => by have := (okRopes_says hr).2 x hx; omega
 rw [← bestGo_iff (l0 := p) hv p.length [] 0 (by omega)]
 unfold bestAns
 rw [if_pos (by simp [hp, hr])]
 split
 ·rename_i h; exact ⟨fun _ => h, fun _ => rfl⟩
 ·rename_i h; exact ⟨fun z => absurd z (by decide), fun z => absurd z h⟩
theorem best_not {p : List S36} {r : List Int} (h : ¬ (okPitches p && okRopes r) = true) : bestAns p r = ([], 0, false) := by
 unfold bestAns
 rw [if_neg h]
theorem rig_j4 (p : List S36) (r : List Int) (hm0 : p.length ≤ 7) (hm1 : r.length ≤ 9) : Ev (fun k => laws_FnRiggings.j4 k p r (bestAns p r).2.2 false) true := by
 obtain ⟨v, h1, h2, h3⟩ := deep_both p r (by omega) (by omega)
 refine Ev.step (fun k => by rw [laws_FnRiggings.j4]) ?_
 refine Ev.ite_neg (by decide) ?_
 refine Ev.bind h2 ?_
 refine Ev.bind h1 ?_
 refine Ev.ite_pos rfl ?_
 refine Ev.ite_neg (by simp) ?_
 by_cases hv : v.2 = true
 ·refine Ev.ite_pos hv ?_
  obtain ⟨hp, hr, m, hm, hd⟩ := h3 hv
  have hiff := best_found hp hr
  have e : ((bestAns p r).2.2 == (v.1 == (p.length : Int))) = true := by
   rw [hm]
   by_cases hf : Fit (needf p) r p.length []
   ·have h4 : m = p.length := by
     rcases hd.2.2 with h5 | h5
     ·exact h5
     ·refine Classical.byContradiction (fun hne => h5 (fit_down ?_ hf))
      have := hd.1
      omega
    rw [hiff.2 hf, h4]
    simp
   ·have h4 : m ≠ p.length := fun h5 => hf (by rw [← h5]; exact hd.2.1)
    have h6 : (bestAns p r).2.2 = false := by
     cases hb : (bestAns p r).2.2 with
     | true => exact absurd (hiff.1 hb) hf
     | false => rfl
    rw [h6]
    have h7 : ((m : Int) == (p.length : Int)) = false := beq_eq_false_iff_ne.2 (fun h => h4 (by omega))
    rw [h7]
    rfl
  rw [e]
  exact Ev.now _
 ·exact Ev.ite_neg hv (Ev.now _)
theorem rig_j3 (p : List S36) (r : List Int) (hm0 : p.length ≤ 7) (hm1 : r.length ≤ 9) : Ev (fun k => laws_FnRiggings.j3 k p r (bestAns p r).2.1 (bestAns p r).2.2) true := by
 have h4 := rig_j4 p r hm0 hm1
 refine Ev.step (fun k => by rw [laws_FnRiggings.j3]) ?_
 refine Ev.bind (implSpare_ev p r) ?_
 refine Ev.bind (specSpare_ev p r (by omega) (by omega)) ?_
 refine Ev.ite_pos rfl ?_
 refine Ev.ite_neg (by simp) ?_
 have e : (spareAns p r).2 = (bestAns p r).2.2 := by
  unfold spareAns
  cases (bestAns p r).2.2 <;> rfl
 rw [e]
 refine Ev.ite_neg (by simp) ?_
 cases hf : (bestAns p r).2.2 with
 | true =>
  refine Ev.ite_pos rfl ?_
  obtain ⟨⟨h8, hv⟩, h5, h6⟩ := bestAns_says hf
  refine Ev.bind (rSum_ev h8 hv) ?_
  have hs : (spareAns p r).1 = sumFrom r r.length 0 0 - (bestAns p r).2.1 := by
   unfold spareAns
   rw [if_pos hf]
  have hle := sumFrom_le hv r.length 0 0 (by omega)
  rw [hs, show sumFrom r r.length 0 0 - (bestAns p r).2.1 + (bestAns p r).2.1 = sumFrom r r.length 0 0 by omega, wrap_id (by omega) (by omega)]
  rw [hf] at h4
  simpa using h4
 | false =>
  rw [hf] at h4
  exact Ev.ite_neg (by decide) h4
theorem rig_l0 (p : List S36) (r ys : List Int) (hm0 : p.length ≤ 7) (hm1 : r.length ≤ 9) (hp : okPitches p = true) (hr : okRopes r = true) (hl : ys.length = p.length) (hs : ∀ i, i < ys.length → rigStep p r ys i = true) (hb : (bestAns p r).2.2 = true) : ∀ d i (s : Int), i + d = ys.length → 0 ≤ s → s ≤ 4000 * i → (bestAns p r).2.1 ≤ rsum r ys d i s → Ev (fun k => laws_FnRiggings.l0 k p r ys (bestAns p r).2.1 (bestAns p r).2.2 s (i : Int)) true := by
 intro d
 induction d with
 | zero =>
  intro i s hi h0 h1 h2
  refine Ev.step (fun k => by rw [laws_FnRiggings.l0]) ?_
  refine Ev.ite_neg (by omega) ?_
  refine Ev.ite_pos hb ?_
  refine Ev.ite_neg ?_ (rig_j3 p r hm0 hm1)
  simp only [rsum] at h2
  omega
 | succ d ih =>
  intro i s hi h0 h1 h2
  have hil : i < ys.length := by omega
  have h3 := hs i hil
  simp only [rigStep, Bool.and_eq_true, decide_eq_true_eq] at h3
  obtain ⟨⟨h4, h5⟩, -⟩ := h3
  obtain ⟨j, hj⟩ : ∃ j : Nat, ys.getD i 0 = (j : Int) := ⟨(ys.getD i 0).toNat, by omega⟩
  have hjl : j < r.length := by omega
  have hx := (okRopes_says hr).2 _ (List.getElem_mem hjl)
  have hg := getD_lt r 0 j hjl
  have hrs : rsum r ys (d + 1) i s = rsum r ys d (i + 1) (s + r.getD j 0) := by
   simp only [rsum, hj]
   rfl
  rw [hrs] at h2
  refine Ev.step (fun k => by rw [laws_FnRiggings.l0]) ?_
  rw [rd_nat, hj, rd_nat, wrap_up (i := i) (n := ys.length) hil (by omega), wrap_id (x := s + r.getD j 0) (by omega) (by omega)]
  refine Ev.ite_pos (by omega) ?_
  refine Ev.ite_pos (by omega) ?_
  refine Ev.ite_pos (by omega) ?_
  exact Ev.ite_pos (by omega) (ih (i + 1) _ (by omega) (by omega) (by omega) h2)
theorem rig_j1 (p : List S36) (r ys : List Int) (hm0 : p.length ≤ 7) (hm1 : r.length ≤ 9) : Ev (fun k => laws_FnRiggings.j1 k p r ys (rigAnswer p r ys).1 (bestAns p r).2.1 (bestAns p r).2.2 false) true := by
 refine Ev.step (fun k => by rw [laws_FnRiggings.j1]) ?_
 refine Ev.ite_neg (by decide) ?_
 cases hy : (rigAnswer p r ys).1 with
 | false => exact Ev.ite_neg (by decide) (rig_j3 p r hm0 hm1)
 | true =>
  refine Ev.ite_pos rfl ?_
  unfold rigAnswer at hy
  by_cases hpr : okPitches p = true ∧ okRopes r = true
  ·rw [if_pos hpr] at hy
   obtain ⟨hl, hs⟩ := isRig_says hy
   have hv : ∀ x ∈ r, 0 ≤ x := fun x hx => by have := (okRopes_says hpr.2).2 x hx; omega
   have hg := bestGo_le hpr.1 hv hl hs ys.length 0 0 (by omega) (by omega)
   rw [List.take_zero, hl] at hg
   have hb : bestAns p r = ((bestGo p r p.length [] 0).1, (bestGo p r p.length [] 0).2, true) := by
    unfold bestAns
    rw [if_pos (by simp [hpr.1, hpr.2]), if_pos hg.1]
   refine rig_l0 p r ys hm0 hm1 hpr.1 hpr.2 hl hs (by rw [hb]) ys.length 0 0 (by omega) (by omega) (by omega) ?_
   rw [hb, hl]
   exact hg.2
  ·rw [if_neg hpr] at hy
   cases hy
theorem FnRiggings (l0 : List Int) (hm0 : l0.length ≤ 9223372036854775807) (hw0 : ∀ x ∈ l0, (Lit.int .u8 x).wf = true) : ∃ k, laws_FnRiggings.f k l0 = some true := by
 apply Ev.rounds
 have hb := bytes_of hw0
 simp only [laws_FnRiggings.f, laws_rBig.f, Option.bind_some]
 by_cases hbig : (l0.length : Int) > 65536
 ·exact Ev.ite_pos (decide_eq_true hbig) (Ev.now true)
 refine Ev.ite_neg (by simpa using hbig) ?_
 obtain ⟨p, r, ys, hd, h7, h9, h200⟩ := draw_rig hb
 refine Ev.bind hd ?_
 refine Ev.bind (implIsRig_ev p r ys (by omega)) ?_
 refine Ev.bind (specIsRig_ev p r ys (by omega) (by omega) (by omega)) ?_
 refine Ev.ite_neg (by simp) ?_
 refine Ev.ite_neg (by simp) ?_
 refine Ev.bindc (arePitches_eq p) ?_
 have hbest := specBestRig_ev p r (by omega) (by omega)
 have hj0 : Ev (fun k => laws_FnRiggings.j0 k p r ys (rigAnswer p r ys).1 false) true := by
  refine Ev.step (fun k => by rw [laws_FnRiggings.j0]) ?_
  refine Ev.ite_neg (by decide) ?_
  refine Ev.bind (implBestRig_ev p r) ?_
  refine Ev.bind hbest ?_
  refine Ev.ite_neg (by simp) ?_
  refine Ev.ite_pos rfl ?_
  refine Ev.bind (rInts_ev _ (by have := bestAns_len p r; omega)) ?_
  exact rig_j1 p r ys h7 h9
 have e2 : (rigAnswer p r ys).2 = (okPitches p && okRopes r) := by
  unfold rigAnswer
  cases okPitches p <;> cases okRopes r <;> rfl
 rw [e2]
 cases hp : okPitches p with
 | true =>
  refine Ev.ite_pos rfl ?_
  refine Ev.bindc (areRopes_eq r) ?_
  simpa using hj0
 | false =>
  refine Ev.ite_neg (by decide) ?_
  simpa using hj0
end Go.Proofs.Ytfjpbochanekoaa.Pure
