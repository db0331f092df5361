/- The draws of pitches and of ropes come to an end. -/
import Derived.Test.YtfjpbochanekoaaMJx9
import Derived.Test.YtfjpbochanekoaaPCur
namespace Go.Proofs.Ytfjpbochanekoaa.Pure
open Go.RowKit Go.Proofs.Ytfjpbochanekoaa.MJ Go.Proofs.YtfjpbochanekoaaW.PrintWords Go.Proofs.YtfjpbochanekoaaW.PrintLast Go.Proofs.YtfjpbochanekoaaW.PrintMore
set_option linter.unusedVariables false
set_option linter.unusedSimpArgs false
theorem cur_one {l : List Int} (hb : Bytes l) {i s n : Int} (h0 : 0 ≤ i) (h1 : i ≤ 999999990) (hn : n ≤ 1000000) : ∃ b j t, spec_l1Cur_one.f l i s n = some (b, j, t) ∧ i ≤ j ∧ j ≤ i + 2 := by
 obtain ⟨v, j, t, e, g0, g1, g2, g3⟩ := cur_pick (s := s) hb h0 h1 hn
 unfold spec_l1Cur_one.f
 rw [e]
 exact ⟨_, _, _, rfl, g0, g1⟩
theorem cur_pitch {l : List Int} (hb : Bytes l) {i s : Int} (h0 : 0 ≤ i) (h1 : i ≤ 999999000) : ∃ d a j t, spec_l1Cur_pitch.f l i s = some (d, a, j, t) ∧ i ≤ j ∧ j ≤ i + 8 := by
 unfold spec_l1Cur_pitch.f
 obtain ⟨v1, i1, s1, e1, g1, g1', m1⟩ := cur_among (i := i) (s := s) hb [20, 65, 150, 165, 400, 3000] h0 (by omega) (by decide) (by decide)
 obtain ⟨v2, i2, s2, e2, g2, g2', m2⟩ := cur_among (i := i1) (s := s1) hb [1, 1, 2, 9] (by omega) (by omega) (by decide) (by decide)
 obtain ⟨v3, i3, s3, e3, g3, g3', -, -⟩ := cur_pick (i := i2) (s := s2) (n := 60) hb (by omega) (by omega) (by decide)
 rw [e1]; simp only [Option.bind_some]
 rw [e2]; simp only [Option.bind_some]
 rw [e3]; simp only [Option.bind_some]
 split
 ·obtain ⟨v4, i4, s4, e4, g4, g4', m4⟩ := cur_among (i := i3) (s := s3) hb [19, 3001] (by omega) (by omega) (by decide) (by decide)
  rw [e4]; simp only [Option.bind_some]
  exact ⟨_, _, _, _, rfl, by omega, by omega⟩
 ·split
  ·obtain ⟨v4, i4, s4, e4, g4, g4', m4⟩ := cur_among (i := i3) (s := s3) hb [0, 10] (by omega) (by omega) (by decide) (by decide)
   rw [e4]; simp only [Option.bind_some]
   exact ⟨_, _, _, _, rfl, by omega, by omega⟩
  ·exact ⟨_, _, _, _, rfl, by omega, by omega⟩
theorem cur_ropes1 {l : List Int} (hb : Bytes l) : ∀ (d : Nat) (xs : List Int) (i s : Int), 9 ≤ xs.length + d → xs.length ≤ 9 → 0 ≤ i → i + 2 * d ≤ 999990000 → ∃ ys j t, Ev (fun k => spec_l1Cur_ropes.l1 k xs l i s) (ys, j, t) ∧ ys.length ≤ 9 ∧ i ≤ j ∧ j ≤ i + 2 * d + 2 := by
 intro d
 induction d with
 | zero =>
  intro xs i s hd hx h0 h1
  obtain ⟨v, j, t, e, g0, g1, g2, g3⟩ := cur_pick (i := i) (s := s) (n := 2) hb h0 (by omega) (by decide)
  refine ⟨xs, j, t, ?_, hx, by omega, by omega⟩
  refine Ev.step (fun k => by rw [spec_l1Cur_ropes.l1]) (Ev.bindc e (Ev.ite_neg ?_ (Ev.now _)))
  simp only
  rw [wrap_id (by omega) (by omega)]
  omega
 | succ d ih =>
  intro xs i s hd hx h0 h1
  obtain ⟨v, j, t, e, g0, g1, g2, g3⟩ := cur_pick (i := i) (s := s) (n := 2) hb h0 (by omega) (by decide)
  by_cases hc : (xs.length : Int) < wrap64 (8 + v)
  ·have hc2 := hc
   rw [wrap_id (by omega) (by omega)] at hc2
   obtain ⟨ys, j2, t2, h2, h3, h4, h5⟩ := ih (xs ++ [300]) j t (by rw [List.length_append, List.length_singleton]; omega) (by rw [List.length_append, List.length_singleton]; omega) (by omega) (by omega)
   refine ⟨ys, j2, t2, ?_, ?_, ?_, ?_⟩
   ·refine Ev.step (fun k => by rw [spec_l1Cur_ropes.l1]) ?_
    refine Ev.bindc e ?_
    refine Ev.ite_pos hc ?_
    refine Ev.ite_pos (by omega) ?_
    exact h2
   ·exact h3
   ·first | omega | (simp only; omega)
   ·first | omega | (simp only; omega)
  ·exact ⟨xs, j, t, Ev.step (fun k => by rw [spec_l1Cur_ropes.l1]) (Ev.bindc e (Ev.ite_neg hc (Ev.now _))), hx, by omega, by omega⟩
theorem cur_ropes0 {l : List Int} (hb : Bytes l) : ∀ (d : Nat) (xs : List Int) (i s : Int), xs.length + d ≤ 6 → 0 ≤ i → i + 2 * d ≤ 999900000 → ∃ ys j t, Ev (fun k => spec_l1Cur_ropes.l0 k xs (d : Int) l i s) (ys, j, t) ∧ ys.length ≤ 9 ∧ i ≤ j ∧ j ≤ i + 2 * d + 100 := by
 intro d
 induction d with
 | zero =>
  intro xs i s hd h0 h1
  obtain ⟨v, j, t, e, g0, g1, g2, g3⟩ := cur_pick (i := i) (s := s) (n := 30) hb h0 (by omega) (by decide)
  by_cases c0 : v = 0
  ·obtain ⟨v2, i2, s2, e2, g4, g5, -⟩ := cur_among (i := j) (s := t) hb [49, 4001] (by omega) (by omega) (by decide) (by decide)
   refine ⟨xs ++ [v2], i2, s2, ?_, ?_, ?_, ?_⟩
   ·refine Ev.step (fun k => by rw [spec_l1Cur_ropes.l0]) ?_
    refine Ev.ite_neg (by omega) ?_
    refine Ev.bindc e ?_
    refine Ev.ite_pos c0 ?_
    refine Ev.bindc e2 ?_
    refine Ev.ite_pos (by omega) ?_
    exact Ev.now _
   ·simp only [List.length_append, List.length_singleton]; omega
   ·first | omega | (simp only; omega)
   ·first | omega | (simp only; omega)
  ·by_cases c1 : v = 1
   ·obtain ⟨ys, j2, t2, h2, h3, h4, h5⟩ := cur_ropes1 hb 9 xs j t (by omega) (by omega) (by omega) (by omega)
    refine ⟨ys, j2, t2, ?_, ?_, ?_, ?_⟩
    ·refine Ev.step (fun k => by rw [spec_l1Cur_ropes.l0]) ?_
     refine Ev.ite_neg (by omega) ?_
     refine Ev.bindc e ?_
     refine Ev.ite_neg c0 ?_
     refine Ev.ite_pos c1 ?_
     exact h2
    ·exact h3
    ·first | omega | (simp only; omega)
    ·first | omega | (simp only; omega)
   ·exact ⟨xs, j, t, Ev.step (fun k => by rw [spec_l1Cur_ropes.l0]) (Ev.ite_neg (by omega) (Ev.bindc e (Ev.ite_neg c0 (Ev.ite_neg c1 (Ev.now _))))), by omega, by omega, by omega⟩
 | succ d ih =>
  intro xs i s hd h0 h1
  obtain ⟨v2, i2, s2, e2, g4, g5, -⟩ := cur_among (i := i) (s := s) hb [50, 55, 100, 200, 200, 500, 4000] (by omega) (by omega) (by decide) (by decide)
  obtain ⟨ys, j2, t2, h2, h3, h4, h5⟩ := ih (xs ++ [v2]) i2 s2 (by rw [List.length_append, List.length_singleton]; omega) (by omega) (by omega)
  refine ⟨ys, j2, t2, ?_, ?_, ?_, ?_⟩
  ·refine Ev.step (fun k => by rw [spec_l1Cur_ropes.l0]) ?_
   refine Ev.ite_pos (by omega) ?_
   refine Ev.bindc e2 ?_
   refine Ev.ite_pos (by omega) ?_
   rw [show wrap64 (((d + 1 : Nat) : Int) - 1) = (d : Int) by unfold wrap64; omega]
   exact h2
  ·exact h3
  ·first | omega | (simp only; omega)
  ·first | omega | (simp only; omega)
theorem cur_ropes {l : List Int} (hb : Bytes l) {i s : Int} (h0 : 0 ≤ i) (h1 : i ≤ 100000000) : ∃ ys j t, Ev (fun k => spec_l1Cur_ropes.f k l i s) (ys, j, t) ∧ ys.length ≤ 9 ∧ i ≤ j ∧ j ≤ i + 1000 := by
 obtain ⟨v, j, t, e, g0, g1, g2, g3⟩ := cur_pick (i := i) (s := s) (n := 7) hb h0 (by omega) (by decide)
 obtain ⟨ys, j2, t2, h2, h3, h4, h5⟩ := cur_ropes0 hb v.toNat [] j t (by simp; omega) (by omega) (by omega)
 simp only [spec_l1Cur_ropes.f]
 refine ⟨ys, j2, t2, Ev.bindc e ?_, h3, by omega, by omega⟩
 simp only
 rw [show v = (v.toNat : Int) by omega]
 exact h2
theorem cur_pitches1 {l : List Int} (hb : Bytes l) : ∀ (d : Nat) (xs : List S36) (i s : Int), 7 ≤ xs.length + d → xs.length ≤ 7 → 0 ≤ i → i + 2 * d ≤ 999990000 → ∃ ys j t, Ev (fun k => spec_l1Cur_pitches.l1 k xs l i s) (ys, j, t) ∧ ys.length ≤ 7 ∧ i ≤ j ∧ j ≤ i + 2 * d + 2 := by
 intro d
 induction d with
 | zero =>
  intro xs i s hd hx h0 h1
  obtain ⟨v, j, t, e, g0, g1, g2, g3⟩ := cur_pick (i := i) (s := s) (n := 2) hb h0 (by omega) (by decide)
  refine ⟨xs, j, t, ?_, hx, by omega, by omega⟩
  refine Ev.step (fun k => by rw [spec_l1Cur_pitches.l1]) (Ev.bindc e (Ev.ite_neg ?_ (Ev.now _)))
  simp only
  rw [wrap_id (by omega) (by omega)]
  omega
 | succ d ih =>
  intro xs i s hd hx h0 h1
  obtain ⟨v, j, t, e, g0, g1, g2, g3⟩ := cur_pick (i := i) (s := s) (n := 2) hb h0 (by omega) (by decide)
  by_cases hc : (xs.length : Int) < wrap64 (6 + v)
  ·have hc2 := hc
   rw [wrap_id (by omega) (by omega)] at hc2
   obtain ⟨ys, j2, t2, h2, h3, h4, h5⟩ := ih (xs ++ [⟨20, 1⟩]) j t (by rw [List.length_append, List.length_singleton]; omega) (by rw [List.length_append, List.length_singleton]; omega) (by omega) (by omega)
   refine ⟨ys, j2, t2, ?_, ?_, ?_, ?_⟩
   ·refine Ev.step (fun k => by rw [spec_l1Cur_pitches.l1]) ?_
    refine Ev.bindc e ?_
    refine Ev.ite_pos hc ?_
    refine Ev.ite_pos (by omega) ?_
    exact h2
   ·exact h3
   ·first | omega | (simp only; omega)
   ·first | omega | (simp only; omega)
  ·exact ⟨xs, j, t, Ev.step (fun k => by rw [spec_l1Cur_pitches.l1]) (Ev.bindc e (Ev.ite_neg hc (Ev.now _))), hx, by omega, by omega⟩
theorem cur_pitches0 {l : List Int} (hb : Bytes l) : ∀ (d : Nat) (xs : List S36) (i s : Int), xs.length + d ≤ 4 → 0 ≤ i → i + 8 * d ≤ 999900000 → ∃ ys j t, Ev (fun k => spec_l1Cur_pitches.l0 k xs (d : Int) l i s) (ys, j, t) ∧ ys.length ≤ 7 ∧ i ≤ j ∧ j ≤ i + 8 * d + 100 := by
 intro d
 induction d with
 | zero =>
  intro xs i s hd h0 h1
  obtain ⟨b, j, t, e, g0, g1⟩ := cur_one (i := i) (s := s) (n := 24) hb h0 (by omega) (by decide)
  cases b with
  | true =>
   obtain ⟨ys, j2, t2, h2, h3, h4, h5⟩ := cur_pitches1 hb 7 xs j t (by omega) (by omega) (by omega) (by omega)
   refine ⟨ys, j2, t2, ?_, ?_, ?_, ?_⟩
   ·refine Ev.step (fun k => by rw [spec_l1Cur_pitches.l0]) ?_
    refine Ev.ite_neg (by omega) ?_
    refine Ev.bindc e ?_
    refine Ev.ite_pos rfl ?_
    exact h2
   ·exact h3
   ·first | omega | (simp only; omega)
   ·first | omega | (simp only; omega)
  | false =>
   refine ⟨xs, j, t, ?_, ?_, ?_, ?_⟩
   ·refine Ev.step (fun k => by rw [spec_l1Cur_pitches.l0]) ?_
    refine Ev.ite_neg (by omega) ?_
    refine Ev.bindc e ?_
    refine Ev.ite_neg (by simp) ?_
    exact Ev.now _
   ·first | omega | (simp only; omega)
   ·first | omega | (simp only; omega)
   ·first | omega | (simp only; omega)
 | succ d ih =>
  intro xs i s hd h0 h1
  obtain ⟨v2, a2, i2, s2, e2, g4, g5⟩ := cur_pitch (i := i) (s := s) hb (by omega) (by omega)
  obtain ⟨ys, j2, t2, h2, h3, h4, h5⟩ := ih (xs ++ [⟨v2, a2⟩]) i2 s2 (by rw [List.length_append, List.length_singleton]; omega) (by omega) (by omega)
  refine ⟨ys, j2, t2, ?_, ?_, ?_, ?_⟩
  ·refine Ev.step (fun k => by rw [spec_l1Cur_pitches.l0]) ?_
   refine Ev.ite_pos (by omega) ?_
   refine Ev.bindc e2 ?_
   refine Ev.ite_pos (by omega) ?_
   rw [show wrap64 (((d + 1 : Nat) : Int) - 1) = (d : Int) by unfold wrap64; omega]
   exact h2
  ·exact h3
  ·first | omega | (simp only; omega)
  ·first | omega | (simp only; omega)
theorem cur_pitches {l : List Int} (hb : Bytes l) {i s : Int} (h0 : 0 ≤ i) (h1 : i ≤ 100000000) : ∃ ys j t, Ev (fun k => spec_l1Cur_pitches.f k l i s) (ys, j, t) ∧ ys.length ≤ 7 ∧ i ≤ j ∧ j ≤ i + 1000 := by
 obtain ⟨v, j, t, e, g0, g1, g2, g3⟩ := cur_pick (i := i) (s := s) (n := 5) hb h0 (by omega) (by decide)
 obtain ⟨ys, j2, t2, h2, h3, h4, h5⟩ := cur_pitches0 hb v.toNat [] j t (by simp; omega) (by omega) (by omega)
 simp only [spec_l1Cur_pitches.f]
 refine ⟨ys, j2, t2, Ev.bindc e ?_, h3, by omega, by omega⟩
 simp only
 rw [show v = (v.toNat : Int) by omega]
 exact h2
end Go.Proofs.Ytfjpbochanekoaa.Pure
