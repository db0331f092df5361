/- The folded width: both answers. -/
import Derived.Test.YtihekanoigpjpaaMHx5
import Derived.Test.YtihekanoigpjpaaMHx4
import Derived.Test.YtihekanoigpjpaaPFold
namespace Go.Proofs.Ytihekanoigpjpaa.Pure
open Go.RowKit Go.Proofs.Ytihekanoigpjpaa.MH Go.Proofs.YtihekanoigpjpaaW.PrintWords Go.Proofs.YtihekanoigpjpaaW.PrintLast Go.Proofs.YtihekanoigpjpaaW.PrintMore
set_option linter.unusedVariables false
set_option linter.unusedSimpArgs false
def foldAnswer (w : List S43) (ds : List Int) : Int × Bool := if okWay w = true ∧ ds.length = w.length ∧ ds.all (fun d => decide (d = 1 ∨ d = -1)) = true then (widthOf w ds, true) else (0, false)
theorem specFolded_ev (w : List S43) (ds : List Int) (hm : w.length ≤ 9223372036854775807) : Ev (fun k => spec_FoldedWidth.f k w ds) (foldAnswer w ds) := by
  have hno : Ev (fun k => spec_FoldedWidth.j0 k w ds true) (0, false) := Ev.step (f := fun _ => some (0, false)) (fun k => by simp [spec_FoldedWidth.j0]) (Ev.now _)
  simp only [spec_FoldedWidth.f]
  refine Ev.bind (l14Good_ev w hm) ?_
  unfold foldAnswer
  by_cases h1 : okWay w = true
  · refine Ev.ite_pos h1 ?_
    by_cases h2 : ds.length = w.length
    · rw [show ((ds.length : Int) != (w.length : Int)) = false from bne_eq_false_iff_eq.2 (by omega)]
      refine Ev.step (f := fun k => spec_FoldedWidth.l0 k w ds 0) (fun k => by simp [spec_FoldedWidth.j0]) ?_
      obtain ⟨K, hK⟩ := specWidth_ev w ds (by omega) hm
      have h := loopT_ev (fun k i (_ : Unit) => spec_FoldedWidth.l0 k w ds i) ds.length K (fun i (_ : Unit) => if decide (ds.getD i 0 = 1 ∨ ds.getD i 0 = -1) = true then Sum.inl () else Sum.inr (0, false)) (fun _ => (widthOf w ds, true)) () ?_ ?_
      · have he : foldN (fun i (_ : Unit) => if decide (ds.getD i 0 = 1 ∨ ds.getD i 0 = -1) = true then Sum.inl () else Sum.inr ((0 : Int), false)) (fun _ => (widthOf w ds, true)) ds.length 0 () = if okWay w = true ∧ ds.length = w.length ∧ ds.all (fun d => decide (d = 1 ∨ d = -1)) = true then (widthOf w ds, true) else (0, false) := by
          have ha := foldN_all ds 0 (fun d => decide (d = 1 ∨ d = -1)) true
          rw [Bool.and_true] at ha
          rw [← ha]
          refine foldN_rel ds.length (fun _ _ _ => True) (fun (a : Int × Bool) (b : Bool) => a = if okWay w = true ∧ ds.length = w.length ∧ b = true then (widthOf w ds, true) else (0, false)) ?_ ?_ ds.length 0 () () (by omega) trivial
          · rintro i - - - -
            by_cases hd : ds.getD i 0 = 1 ∨ ds.getD i 0 = -1
            · exact .inl ⟨(), (), by rw [if_pos (decide_eq_true hd)], by rw [if_pos (decide_eq_true hd)], trivial⟩
            · exact .inr ⟨(0, false), false, by rw [if_neg (fun h => hd (of_decide_eq_true h))], by rw [if_neg (fun h => hd (of_decide_eq_true h))], by simp⟩
          · rintro - - -
            rw [if_pos ⟨h1, h2, rfl⟩]
        rw [he] at h
        exact h
      · rintro k i - - hi
        by_cases hd : ds.getD i 0 = 1 ∨ ds.getD i 0 = -1
        · refine .inl ⟨(), by rw [if_pos (decide_eq_true hd)], ?_⟩
          simp only [spec_FoldedWidth.l0, rd_nat]
          rw [if_pos (by omega), if_pos (by omega), wrap_up hi (by omega)]
          by_cases he : ds.getD i 0 = 1
          · rw [if_pos he]
          · rw [if_neg he, if_pos (by omega)]
        · refine .inr ⟨(0, false), by rw [if_neg (fun h => hd (of_decide_eq_true h))], ?_⟩
          simp only [spec_FoldedWidth.l0, rd_nat]
          rw [if_pos (by omega), if_pos (by omega), if_neg (by omega), if_neg (by omega)]
      · rintro k - hk
        simp only [spec_FoldedWidth.l0, hK k hk, Option.bind_some]
        rw [if_neg (by omega)]
    · rw [show ((ds.length : Int) != (w.length : Int)) = true from bne_iff_ne.2 (by omega), if_neg (fun h => h2 h.2.1)]
      exact hno
  · refine Ev.ite_neg h1 ?_
    rw [if_neg (fun h => h1 h.1)]
    exact hno
theorem implFolded_ev (w : List S43) (ds : List Int) (hm : w.length ≤ 9223372036854775807) : Ev (fun k => impl_FoldedWidth.f k w ds) (foldAnswer w ds) := by
  simp only [impl_FoldedWidth.f]
  refine Ev.bind (isWay_ev w hm) ?_
  have hb : (!ds.any impl_FoldedWidth.bad) = ds.all (fun d => decide (d = 1 ∨ d = -1)) := by
    rw [List.any_eq_not_all_not, Bool.not_not]
    congr 1
    funext x
    by_cases h1 : x = 1 <;> by_cases h2 : x = -1 <;> simp [impl_FoldedWidth.bad, h1, h2]
  rw [hb]
  unfold foldAnswer
  by_cases h : okWay w = true ∧ ds.length = w.length ∧ ds.all (fun d => decide (d = 1 ∨ d = -1)) = true
  · rw [if_pos h]
    exact Ev.ite_pos (by simp only [h.1, h.2.1, h.2.2, decide_true, Bool.and_true]) (Ev.bind (implWidth_ev w ds h.2.1 hm) (Ev.now _))
  · rw [if_neg h]
    refine Ev.ite_neg (fun hh => h ?_) (Ev.now _)
    simp only [Bool.and_eq_true, decide_eq_true_eq] at hh
    exact hh
end Go.Proofs.Ytihekanoigpjpaa.Pure
