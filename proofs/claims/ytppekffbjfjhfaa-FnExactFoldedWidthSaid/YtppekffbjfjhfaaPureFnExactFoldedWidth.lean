/- The law FnExactFoldedWidth's pure statement: the program's FoldedWidth is the reference's. -/
import Derived.Test.YtppekffbjfjhfaaMAx17
import Derived.Test.YtppekffbjfjhfaaMAx14
import Derived.Test.YtppekffbjfjhfaaMAx16
import Derived.Test.YtppekffbjfjhfaaPInts
import Derived.Test.YtppekffbjfjhfaaPWRun
import Derived.Test.YtppekffbjfjhfaaPFold
import Derived.Test.YtppekffbjfjhfaaDecA
namespace Go.Proofs.Ytppekffbjfjhfaa.Pure
open Go.RowKit Go.Proofs.Ytppekffbjfjhfaa.MA Go.Proofs.YtppekffbjfjhfaaW.PrintWords Go.Proofs.YtppekffbjfjhfaaW.PrintLast Go.Proofs.YtppekffbjfjhfaaW.PrintMore
def foldAnswer (w : List S57) (ds : List Int) : Int × Bool := if okWay w = true ∧ ds.length = w.length ∧ ds.all (fun d => decide (d = 1 ∨ d = -1)) = true then (widthOf w ds, true) else (0, false)
theorem specFolded_ev (w : List S57) (ds : List Int) (hm : w.length ≤ 9223372036854775807) : Ev (fun k => spec_FoldedWidth.f k w ds) (foldAnswer w ds) := by
  have hno : Ev (fun k => spec_FoldedWidth.j0 k w ds true) (0, false) := Ev.step (f := fun _ => some (0, false)) (fun k => by simp [spec_FoldedWidth.j0]) (Ev.now _)
  simp only [spec_FoldedWidth.f]
  refine Ev.bind (l14Good_ev w hm) ?_
  unfold foldAnswer
  by_cases h1 : okWay w = true
  · refine Ev.ite_pos h1 ?_
    by_cases h2 : ds.length = w.length
    · rw [show ((ds.length : Int) != (w.length : Int)) = false from bne_eq_false_iff_eq.2 (by omega)]
      refine Ev.step (f := fun k => spec_FoldedWidth.l0 k w ds 0) (fun k => by simp [spec_FoldedWidth.j0]) ?_
      obtain ⟨K, hK⟩ := specWidth_ev w ds (by omega) hm
      have h := loopT_ev (fun k i (_ : Unit) => spec_FoldedWidth.l0 k w ds i) ds.length K (fun i (_ : Unit) => if decide (ds.getD i 0 = 1 ∨ ds.getD i 0 = -1) = true then Sum.inl () else Sum.inr (0, false)) (fun _ => (widthOf w ds, true)) () ?_ ?_
      · have he : foldN (fun i (_ : Unit) => if decide (ds.getD i 0 = 1 ∨ ds.getD i 0 = -1) = true then Sum.inl () else Sum.inr ((0 : Int), false)) (fun _ => (widthOf w ds, true)) ds.length 0 () = if okWay w = true ∧ ds.length = w.length ∧ ds.all (fun d => decide (d = 1 ∨ d = -1)) = true then (widthOf w ds, true) else (0, false) := by
          have ha := foldN_all ds 0 (fun d => decide (d = 1 ∨ d = -1)) true
          rw [Bool.and_true] at ha
          rw [← ha]
          refine foldN_rel ds.length (fun _ _ _ => True) (fun (a : Int × Bool) (b : Bool) => a = if okWay w = true ∧ ds.length = w.length ∧ b = true then (widthOf w ds, true) else (0, false)) ?_ ?_ ds.length 0 () () (by omega) trivial
          · rintro i - - - -
            by_cases hd : ds.getD i 0 = 1 ∨ ds.getD i 0 = -1
            · exact .inl ⟨(), (), by rw [if_pos (decide_eq_true hd)], by rw [if_pos (decide_eq_true hd)], trivial⟩
            · exact .inr ⟨(0, false), false, by rw [if_neg (fun h => hd (of_decide_eq_true h))], by rw [if_neg (fun h => hd (of_decide_eq_true h))], by simp⟩
          · rintro - - -
            rw [if_pos ⟨h1, h2, rfl⟩]
        rw [he] at h
        exact h
      · rintro k i - - hi
        by_cases hd : ds.getD i 0 = 1 ∨ ds.getD i 0 = -1
        · refine .inl ⟨(), by rw [if_pos (decide_eq_true hd)], ?_⟩
          simp only [spec_FoldedWidth.l0, rd_nat]
          rw [if_pos (by omega), if_pos (by omega), wrap_up hi (by omega)]
          by_cases he : ds.getD i 0 = 1
          · rw [if_pos he]
          · rw [if_neg he, if_pos (by omega)]
        · refine .inr ⟨(0, false), by rw [if_neg (fun h => hd (of_decide_eq_true h))], ?_⟩
          simp only [spec_FoldedWidth.l0, rd_nat]
          rw [if_pos (by omega), if_pos (by omega), if_neg (by omega), if_neg (by omega)]
      · rintro k - hk
        simp only [spec_FoldedWidth.l0, hK k hk, Option.bind_some]
        rw [if_neg (by omega)]
    · rw [show ((ds.length : Int) != (w.length : Int)) = true from bne_iff_ne.2 (by omega), if_neg (fun h => h2 h.2.1)]
      exact hno
  · refine Ev.ite_neg h1 ?_
    rw [if_neg (fun h => h1 h.1)]
    exact hno
theorem implFolded_ev (w : List S57) (ds : List Int) (hm : w.length ≤ 9223372036854775807) : Ev (fun k => impl_FoldedWidth.f k w ds) (foldAnswer w ds) := by
  simp only [impl_FoldedWidth.f]
  refine Ev.bind (isWay_ev w hm) ?_
  have hb : (!ds.any impl_FoldedWidth.bad) = ds.all (fun d => decide (d = 1 ∨ d = -1)) := by
    rw [List.any_eq_not_all_not, Bool.not_not]
    congr 1
    funext x
    by_cases h1 : x = 1 <;> by_cases h2 : x = -1 <;> simp [impl_FoldedWidth.bad, h1, h2]
  rw [hb]
  unfold foldAnswer
  by_cases h : okWay w = true ∧ ds.length = w.length ∧ ds.all (fun d => decide (d = 1 ∨ d = -1)) = true
  · rw [if_pos h]
    exact Ev.ite_pos (by simp only [h.1, h.2.1, h.2.2, decide_true, Bool.and_true]) (Ev.bind (implWidth_ev w ds h.2.1 hm) (Ev.now _))
  · rw [if_neg h]
    refine Ev.ite_neg (fun hh => h ?_) (Ev.now _)
    simp only [Bool.and_eq_true, decide_eq_true_eq] at hh
    exact hh
theorem FnExactFoldedWidth (l0 : List S59) (hm0 : l0.length ≤ 9223372036854775807) (_hw0 : ∀ x ∈ l0, OK59 x) (l1 : List Int) (hm1 : l1.length ≤ 9223372036854775807) (_hw1 : ∀ x ∈ l1, (Lit.int .i64 x).wf = true) : ∃ k, laws_FnExactFoldedWidth.f k l0 l1 = some true := by
  apply Ev.rounds
  have hm : (l0.map convRun).length ≤ 9223372036854775807 := by rw [List.length_map]; exact hm0
  simp only [laws_FnExactFoldedWidth.f]
  by_cases hb1 : (l1.length : Int) > 1048576
  · exact Ev.ite_pos hb1 (Ev.now true)
  refine Ev.ite_neg hb1 ?_
  rcases Nat.lt_or_ge 1048576 l0.length with hb | hb
  · exact Ev.bindc (szRunS_big l0 hm0 (by omega)) (Ev.ite_pos (by omega) (Ev.now true))
  have t0 := toRunS_ev l0 hb
  have t1 := toIntS_ev l1 (by omega)
  refine Ev.bindc (szRunS_small l0 hb) (Ev.ite_neg (by omega) (Ev.bind t0 (Ev.bind t1 (Ev.bind (specFolded_ev _ l1 hm) (Ev.bind t0 (Ev.bind t1 (Ev.bind (implFolded_ev _ l1 hm) (Ev.ite_pos rfl ?_))))))))
  refine Ev.step (f := fun k => (laws_toRunS.f k l0).bind fun t => (laws_eqRunS.f k (l0.map convRun) t).bind fun b => if b = true then ((laws_toIntS.f k l1).bind fun t => (laws_eqIntS.f k l1 t).bind fun b => if b = true then some true else some false) else some false) (fun k => by simp [laws_FnExactFoldedWidth.j0]) ?_
  exact Ev.bind t0 (Ev.bind (eqRunS_refl _ hm) (Ev.ite_pos rfl (Ev.bind t1 (Ev.bind (eqIntS_refl l1 hm1) (Ev.ite_pos rfl (Ev.now true))))))
end Go.Proofs.Ytppekffbjfjhfaa.Pure
