/- The law FnRopes's pure statement. -/
import Derived.Test.YtfjpbochanekoaaMGx8
import Derived.Test.YtfjpbochanekoaaMGx1
import Derived.Test.YtfjpbochanekoaaMGx4
import Derived.Test.YtfjpbochanekoaaMGx6
import Derived.Test.YtfjpbochanekoaaPDrawRopes
import Derived.Test.YtfjpbochanekoaaPTied
import Derived.Test.YtfjpbochanekoaaPAnch
import Derived.Test.YtfjpbochanekoaaPTotal
namespace Go.Proofs.Ytfjpbochanekoaa.Pure
open Go.RowKit Go.Proofs.Ytfjpbochanekoaa.MG Go.Proofs.YtfjpbochanekoaaW.PrintWords Go.Proofs.YtfjpbochanekoaaW.PrintLast Go.Proofs.YtfjpbochanekoaaW.PrintMore
set_option linter.unusedVariables false
set_option linter.unusedSimpArgs false
theorem draw_tied {l : List Int} (hb : Bytes l) : ∃ d q ys, Ev (fun k => spec_DrawTiedPair.f k l) (d, q, ys) ∧ ys.length ≤ 9 := by
  obtain ⟨d, q, i, s, e, g0, g1⟩ := cur_pitch (i := 0) (s := 0) hb (by omega) (by omega)
  obtain ⟨ys, j, t, h, h2, -, -⟩ := cur_ropes (i := i) (s := s) hb (by omega) (by omega)
  simp only [spec_DrawTiedPair.f]
  exact ⟨d, q, ys, Ev.bindc e (Ev.bind h (Ev.now _)), h2⟩
theorem draw_anch {l : List Int} (hb : Bytes l) : ∃ d r, spec_DrawAnchorsFor.f l = some (d, r) := by
  unfold spec_DrawAnchorsFor.f
  simp only [Option.bind_some]
  obtain ⟨v, j, t, e, g0, g1, g2, g3⟩ := cur_pick (i := 0) (s := 0) (n := 24) hb (by omega) (by omega) (by decide)
  have hc := cur_cut (b := 4) (v := v) (n := 24) g2 g3 (by omega) (by omega) (by omega)
  rw [e]; simp only [Option.bind_some]
  rw [hc, if_pos (by omega), if_pos (by simp only [List.length_cons, List.length_nil]; omega)]
  obtain ⟨v2, i2, s2, e2, g4, g5, -⟩ := cur_among (i := j) (s := t) hb (([20, 65, 165, 3000, 19, 3001] : List Int).take (4 + v / 11).toNat) (by omega) (by omega) (by rw [List.length_take]; simp only [List.length_cons, List.length_nil]; omega) (by rw [List.length_take]; simp only [List.length_cons, List.length_nil]; omega)
  rw [e2]; simp only [Option.bind_some]
  obtain ⟨v3, j3, t3, e3, g6, g7, g8, g9⟩ := cur_pick (i := i2) (s := s2) (n := 24) hb (by omega) (by omega) (by decide)
  have hc3 := cur_cut (b := 5) (v := v3) (n := 24) g8 g9 (by omega) (by omega) (by omega)
  rw [e3]; simp only [Option.bind_some]
  rw [hc3, if_pos (by omega), if_pos (by simp only [List.length_cons, List.length_nil]; omega)]
  obtain ⟨v4, i4, s4, e4, -, -, -⟩ := cur_among (i := j3) (s := t3) hb (([50, 100, 200, 320, 4000, 49, 4001] : List Int).take (5 + v3 / 11).toNat) (by omega) (by omega) (by rw [List.length_take]; simp only [List.length_cons, List.length_nil]; omega) (by rw [List.length_take]; simp only [List.length_cons, List.length_nil]; omega)
  rw [e4]; simp only [Option.bind_some]
  exact ⟨_, _, rfl⟩
theorem draw_total {l : List Int} (hb : Bytes l) : ∃ ys, Ev (fun k => spec_DrawTotalDepth.f k l) ys ∧ ys.length ≤ 7 := by
  obtain ⟨ys, j, t, h, h2, -, -⟩ := cur_pitches (i := 0) (s := 0) hb (by omega) (by omega)
  simp only [spec_DrawTotalDepth.f, spec_DrawArePitches.f]
  exact ⟨ys, Ev.bind (Ev.bind h (Ev.now _)) (Ev.now _), h2⟩
theorem ropes_last {l : List Int} (hb : Bytes l) : Ev (fun k => laws_FnRopes.j5 k l) true := by
  obtain ⟨ys, h, h7⟩ := draw_total hb
  refine Ev.step (fun k => by rw [laws_FnRopes.j5]) (Ev.bind h (Ev.bind (implTotal_ev ys (by omega)) (Ev.bind (specTotal_ev ys (by omega)) (Ev.ite_pos rfl ?_))))
  refine Ev.step (fun k => by rw [laws_FnRopes.j6]) (Ev.ite_neg (by simp) ?_)
  cases hk : (depths ys).2 with
  | false => exact Ev.ite_neg (by decide) (Ev.step (fun k => by rw [laws_FnRopes.j7]) (Ev.ite_neg (by decide) (Ev.now _)))
  | true =>
    refine Ev.ite_pos rfl ?_
    by_cases hl : (ys.length : Int) > 0
    · rw [decide_eq_true hl]
      have hp : okPitches ys = true := by
        refine Classical.byContradiction (fun hn => ?_)
        unfold depths at hk
        rw [if_neg hn] at hk
        cases hk
      refine Ev.step (fun k => by rw [laws_FnRopes.j7]) (Ev.ite_pos rfl (Ev.ite_pos (by omega) (Ev.bind (implTotal_ev (ys.take 1) (by rw [List.length_take]; omega)) (Ev.bind (implTotal_ev (ys.drop 1) (by rw [List.length_drop]; omega)) ?_))))
      have h1 := okPitches_sub hp (m := ys.take 1) (fun x hx => List.mem_of_mem_take hx) (by rw [List.length_take]; omega)
      have h2 := okPitches_sub hp (m := ys.drop 1) (fun x hx => List.mem_of_mem_drop hx) (by rw [List.length_drop]; omega)
      have r1 := dsum_range h1
      have r2 := dsum_range h2
      rw [List.length_take] at r1
      rw [List.length_drop] at r2
      rw [depths_sum hp, depths_sum h1, depths_sum h2]
      refine Ev.ite_pos rfl (Ev.ite_pos rfl ?_)
      simp only
      rw [wrap_id (by omega) (by omega)]
      have e : dsum (ys.take 1) + dsum (ys.drop 1) = dsum ys := by
        cases ys with
        | nil => simp at hl
        | cons x t => simp [dsum]
      rw [e, beq_self_eq_true]
      exact Ev.now _
    · rw [decide_eq_false hl]
      exact Ev.step (fun k => by rw [laws_FnRopes.j7]) (Ev.ite_neg (by decide) (Ev.now _))
theorem ropes_mid {l : List Int} (hb : Bytes l) : Ev (fun k => laws_FnRopes.j2 k l false) true := by
  obtain ⟨d, r, e⟩ := draw_anch hb
  obtain ⟨⟨m, ok⟩, h1, h2, h3⟩ := anch_both d r
  refine Ev.step (fun k => by rw [laws_FnRopes.j2]) (Ev.ite_neg (by decide) (Ev.bindc e (Ev.bind h2 (Ev.bind h1 (Ev.ite_pos rfl ?_)))))
  refine Ev.step (fun k => by rw [laws_FnRopes.j3]) (Ev.ite_neg (by simp) ?_)
  cases ok with
  | false => exact Ev.ite_neg (by simp) (ropes_last hb)
  | true =>
    obtain ⟨g1, g2, g3⟩ := h3 rfl
    simp only at g1 g2 g3
    have ha : 1 ≤ m ∧ m ≤ 9 := by
      simp only [okPitch, Bool.and_eq_true, decide_eq_true_eq] at g1
      exact g1.2
    refine Ev.ite_pos rfl (Ev.bindc (implNeed_eq d m) ?_)
    rw [needAns, if_pos g1]
    refine Ev.ite_pos rfl ?_
    simp only
    rw [decide_eq_false (by omega)]
    refine Ev.step (fun k => by rw [laws_FnRopes.j4]) (Ev.ite_neg (by decide) (Ev.bindc (implNeed_eq d _) ?_))
    rw [wrap_id (x := m + 1) (by omega) (by omega)]
    by_cases h10 : okPitch d (m + 1) = true
    · rw [needAns, if_pos h10]
      have := g3 h10
      exact Ev.ite_pos rfl (Ev.ite_neg (by simp only; omega) (ropes_last hb))
    · rw [needAns, if_neg h10]
      exact Ev.ite_neg (by decide) (ropes_last hb)
theorem FnRopes (l0 : List Int) (hm0 : l0.length ≤ 9223372036854775807) (hw0 : ∀ x ∈ l0, (Lit.int .u8 x).wf = true) : ∃ k, laws_FnRopes.f k l0 = some true := by
  apply Ev.rounds
  have hb := bytes_of hw0
  simp only [laws_FnRopes.f, laws_rBig.f, Option.bind_some]
  by_cases hbig : (l0.length : Int) > 65536
  · exact Ev.ite_pos (decide_eq_true hbig) (Ev.now true)
  refine Ev.ite_neg (by simpa using hbig) ?_
  obtain ⟨d, q, ys, hd, h9⟩ := draw_tied hb
  obtain ⟨a, b, ok, hs, hi, hsay⟩ := tied_says d q ys (by omega)
  refine Ev.bind hd (Ev.bind hi (Ev.bind hs (Ev.ite_pos rfl (Ev.ite_pos rfl ?_))))
  refine Ev.step (fun k => by rw [laws_FnRopes.j0]) (Ev.ite_neg (by simp) (Ev.bindc (implNeed_eq d q) (Ev.bindc (specNeed_eq d q) (Ev.ite_pos rfl ?_))))
  refine Ev.step (fun k => by rw [laws_FnRopes.j1]) (Ev.ite_neg (by simp) ?_)
  cases ok with
  | false => exact Ev.ite_neg (by simp) (ropes_mid hb)
  | true =>
    obtain ⟨g1, g2, g3, g4⟩ := hsay rfl
    have hp1 := rope_range g2 a g3.1 (by have := g3.2; omega)
    have hp2 := rope_range g2 b (by have := g3.1; have := g3.2.1; omega) g3.2.2
    refine Ev.ite_pos rfl ?_
    rw [needAns, if_pos g1]
    have := g3.1
    have := g3.2.1
    have := g3.2.2
    refine Ev.ite_pos rfl (Ev.ite_neg (by simp only; omega) (Ev.ite_pos (by simp only; omega) (Ev.ite_pos (by simp only; omega) (Ev.ite_pos (by simp only; omega) (Ev.ite_pos (by simp only; omega) ?_)))))
    simp only
    rw [wrap_id (x := rd ys a + rd ys b) (by omega) (by omega), wrap_id (x := rd ys a + rd ys b - 10) (by omega) (by omega), decide_eq_false (by omega)]
    exact ropes_mid hb
end Go.Proofs.Ytfjpbochanekoaa.Pure
