/- Merged passages: the program's and the reference's list. -/
import Derived.Test.YtaafbnnddlgafaaMGx5
import Derived.Test.YtaafbnnddlgafaaMGx8
import Derived.Test.YtaafbnnddlgafaaPFindI
import Derived.Test.YtaafbnnddlgafaaPLeast
import Derived.Test.YtaafbnnddlgafaaPMnMx
namespace Go.Proofs.Ytaafbnnddlgafaa.Pure
open Go.RowKit Go.Proofs.Ytaafbnnddlgafaa.MG Go.Proofs.YtaafbnnddlgafaaW.PrintWords Go.Proofs.YtaafbnnddlgafaaW.PrintLast Go.Proofs.YtaafbnnddlgafaaW.PrintMore
/-- One station more. -/
def mergeStep (a b : List S63) (s : Nat) (out : List S63) : List S63 :=
  if 0 ≤ impl_passageAt.at a (s : Int) then
    if 0 ≤ impl_passageAt.at b (s : Int) then out ++ [⟨(s : Int), min (rd_T63 a (impl_passageAt.at a (s : Int))).f1 (rd_T63 b (impl_passageAt.at b (s : Int))).f1, min (rd_T63 a (impl_passageAt.at a (s : Int))).f2 (rd_T63 b (impl_passageAt.at b (s : Int))).f2, min (rd_T63 a (impl_passageAt.at a (s : Int))).f3 (rd_T63 b (impl_passageAt.at b (s : Int))).f3, min (rd_T63 a (impl_passageAt.at a (s : Int))).f4 (rd_T63 b (impl_passageAt.at b (s : Int))).f4⟩]
    else out ++ [rd_T63 a (impl_passageAt.at a (s : Int))]
  else if 0 ≤ impl_passageAt.at b (s : Int) then out ++ [rd_T63 b (impl_passageAt.at b (s : Int))] else out
def mergeFrom (a b : List S63) : Nat → Nat → List S63 → List S63
  | 0, _, out => out
  | d + 1, s, out => mergeFrom a b d (s + 1) (mergeStep a b s out)
theorem mergeStep_len (a b : List S63) (s : Nat) (out : List S63) : (mergeStep a b s out).length ≤ out.length + 1 := by
  unfold mergeStep
  split <;> split <;> simp
theorem mergeFrom_len (a b : List S63) : ∀ d s out, (mergeFrom a b d s out).length ≤ out.length + d
  | 0, _, _ => Nat.le_refl _
  | d + 1, s, out => by
    have h1 := mergeFrom_len a b d (s + 1) (mergeStep a b s out)
    have h2 := mergeStep_len a b s out
    simp only [mergeFrom]
    omega
theorem specMerge_loop (a b : List S63) (ha : a.length ≤ 9223372036854775807) (hb : b.length ≤ 9223372036854775807) : ∀ d i (out : List S63), i + d = 8 → out.length ≤ i → Ev (fun k => spec_MergePassages.l0 k a b out (i : Int)) (mergeFrom a b d i out, true) := by
  intro d
  induction d with
  | zero =>
    intro i out hi ho
    refine Ev.step (f := fun _ => some (out, true)) (fun k => ?_) (Ev.now _)
    simp only [spec_MergePassages.l0]
    rw [if_neg (by omega)]
  | succ d ih =>
    intro i out hi ho
    have hwr : wrap64 ((i : Int) + 1) = ((i + 1 : Nat) : Int) := by unfold wrap64; omega
    have hlen := mergeStep_len a b i out
    have hnext := ih (i + 1) (mergeStep a b i out) (by omega) (by omega)
    have ra := at_range a (i : Int)
    have rb := at_range b (i : Int)
    simp only [mergeFrom]
    refine Ev.step (f := fun k => (spec_l12Find.f k a (i : Int)).bind fun t => (spec_l12Find.f k b (i : Int)).bind fun t2 => if t ≥ 0 then spec_MergePassages.j2 k a b out (i : Int) t t2 (decide (t2 ≥ 0)) else spec_MergePassages.j2 k a b out (i : Int) t t2 false) (fun k => ?_) (Ev.bind (specFind_ev a _ ha) (Ev.bind (specFind_ev b _ hb) ?_))
    · simp only [spec_MergePassages.l0]
      rw [if_pos (by omega)]
    · by_cases h1 : 0 ≤ impl_passageAt.at a (i : Int)
      · refine Ev.ite_pos h1 ?_
        by_cases h2 : 0 ≤ impl_passageAt.at b (i : Int)
        · rw [decide_eq_true (show impl_passageAt.at b (i : Int) ≥ 0 from h2)]
          refine Ev.step (fun k => ?_) hnext
          simp only [spec_MergePassages.j2, l1Least_eq, Option.bind_some, if_true, hwr]
          rw [if_pos (by omega), if_pos (by omega), if_pos (by omega), if_pos (by omega), if_pos (by omega)]
          simp only [mergeStep, h1, h2, if_true]
        · rw [decide_eq_false (show ¬ impl_passageAt.at b (i : Int) ≥ 0 from h2)]
          refine Ev.step (fun k => ?_) hnext
          simp only [spec_MergePassages.j2, Bool.false_eq_true, if_false, hwr]
          rw [if_pos (by omega), if_pos (by omega), if_pos (by omega), if_pos (by omega)]
          simp only [mergeStep, h1, h2, if_true, if_false]
      · refine Ev.ite_neg h1 ?_
        by_cases h2 : 0 ≤ impl_passageAt.at b (i : Int)
        · refine Ev.step (fun k => ?_) hnext
          simp only [spec_MergePassages.j2, Bool.false_eq_true, if_false, hwr]
          rw [if_neg (by omega), if_pos (by omega), if_pos (by omega), if_pos (by omega), if_pos (by omega)]
          simp only [mergeStep, h1, h2, if_true, if_false]
        · refine Ev.step (fun k => ?_) hnext
          simp only [spec_MergePassages.j2, Bool.false_eq_true, if_false, hwr]
          rw [if_neg (by omega), if_neg (by omega)]
          simp only [mergeStep, h1, h2, if_false]
theorem passAt_no {l : List S63} {s : Int} (h : ¬ 0 ≤ impl_passageAt.at l s) : impl_passageAt.f l s = some (0, 0, 0, 0, 0, false) := by
  unfold impl_passageAt.f
  rw [if_pos (by omega)]
theorem passAt_yes {l : List S63} {s : Int} (h : 0 ≤ impl_passageAt.at l s) : impl_passageAt.f l s = some ((rd_T63 l (impl_passageAt.at l s)).f0, (rd_T63 l (impl_passageAt.at l s)).f1, (rd_T63 l (impl_passageAt.at l s)).f2, (rd_T63 l (impl_passageAt.at l s)).f3, (rd_T63 l (impl_passageAt.at l s)).f4, true) := by
  unfold impl_passageAt.f
  rw [if_neg (by omega)]
theorem implMerge_loop (a b : List S63) : ∀ d i (out : List S63), i + d = 8 → out.length ≤ i → Ev (fun k => impl_MergePassages.l0 k a b out (i : Int)) (mergeFrom a b d i out, true) := by
  intro d
  induction d with
  | zero =>
    intro i out hi ho
    refine Ev.step (f := fun _ => some (out, true)) (fun k => ?_) (Ev.now _)
    simp only [impl_MergePassages.l0]
    rw [if_neg (by omega)]
  | succ d ih =>
    intro i out hi ho
    have hwr : wrap64 ((i : Int) + 1) = ((i + 1 : Nat) : Int) := by unfold wrap64; omega
    have hlen := mergeStep_len a b i out
    have hnext := ih (i + 1) (mergeStep a b i out) (by omega) (by omega)
    simp only [mergeFrom]
    by_cases h1 : 0 ≤ impl_passageAt.at a (i : Int)
    · by_cases h2 : 0 ≤ impl_passageAt.at b (i : Int)
      · refine Ev.step (f := fun k => impl_MergePassages.j2 k a b out (i : Int) true true (i : Int) true ((rd_T63 a (impl_passageAt.at a (i : Int))).f0) ((rd_T63 a (impl_passageAt.at a (i : Int))).f1) ((rd_T63 a (impl_passageAt.at a (i : Int))).f2) ((rd_T63 a (impl_passageAt.at a (i : Int))).f3) ((rd_T63 a (impl_passageAt.at a (i : Int))).f4) ((rd_T63 b (impl_passageAt.at b (i : Int))).f0) ((rd_T63 b (impl_passageAt.at b (i : Int))).f1) ((rd_T63 b (impl_passageAt.at b (i : Int))).f2) ((rd_T63 b (impl_passageAt.at b (i : Int))).f3) ((rd_T63 b (impl_passageAt.at b (i : Int))).f4)) (fun k => ?_) (Ev.step (fun k => ?_) hnext)
        · simp only [impl_MergePassages.l0, passAt_yes h1, passAt_yes h2, Option.bind_some]
          rw [if_pos (by omega)]
          first | rfl | (rw [if_pos rfl]) | (rw [if_pos trivial])
        · simp only [impl_MergePassages.j2, mn_eq, if_true, hwr]
          rw [if_pos (by omega)]
          simp only [mergeStep, h1, h2, if_true]
      · refine Ev.step (f := fun k => impl_MergePassages.j2 k a b out (i : Int) true false (i : Int) false ((rd_T63 a (impl_passageAt.at a (i : Int))).f0) ((rd_T63 a (impl_passageAt.at a (i : Int))).f1) ((rd_T63 a (impl_passageAt.at a (i : Int))).f2) ((rd_T63 a (impl_passageAt.at a (i : Int))).f3) ((rd_T63 a (impl_passageAt.at a (i : Int))).f4) 0 0 0 0 0) (fun k => ?_) (Ev.step (fun k => ?_) hnext)
        · simp only [impl_MergePassages.l0, passAt_yes h1, passAt_no h2, Option.bind_some]
          rw [if_pos (by omega)]
          first | rfl | (rw [if_pos rfl]) | (rw [if_pos trivial])
        · simp only [impl_MergePassages.j2, Bool.false_eq_true, if_false, if_true, hwr]
          rw [if_pos (by omega)]
          simp only [mergeStep, h1, h2, if_true, if_false]
    · by_cases h2 : 0 ≤ impl_passageAt.at b (i : Int)
      · refine Ev.step (f := fun k => impl_MergePassages.j2 k a b out (i : Int) false true (i : Int) false 0 0 0 0 0 ((rd_T63 b (impl_passageAt.at b (i : Int))).f0) ((rd_T63 b (impl_passageAt.at b (i : Int))).f1) ((rd_T63 b (impl_passageAt.at b (i : Int))).f2) ((rd_T63 b (impl_passageAt.at b (i : Int))).f3) ((rd_T63 b (impl_passageAt.at b (i : Int))).f4)) (fun k => ?_) (Ev.step (fun k => ?_) hnext)
        · simp only [impl_MergePassages.l0, passAt_no h1, passAt_yes h2, Option.bind_some]
          rw [if_pos (by omega), if_neg (by decide)]
        · simp only [impl_MergePassages.j2, Bool.false_eq_true, if_false, if_true, hwr]
          rw [if_pos (by omega)]
          simp only [mergeStep, h1, h2, if_true, if_false]
      · refine Ev.step (f := fun k => impl_MergePassages.j2 k a b out (i : Int) false false (i : Int) false 0 0 0 0 0 0 0 0 0 0) (fun k => ?_) (Ev.step (fun k => ?_) hnext)
        · simp only [impl_MergePassages.l0, passAt_no h1, passAt_no h2, Option.bind_some]
          rw [if_pos (by omega), if_neg (by decide)]
        · simp only [impl_MergePassages.j2, Bool.false_eq_true, if_false, hwr]
          simp only [mergeStep, h1, h2, if_false]
def mergeAns (a b : List S63) : List S63 × Bool := if okPasses a = true ∧ okPasses b = true then (mergeFrom a b 8 0 [], true) else ([], false)
theorem mergeAns_len (a b : List S63) : (mergeAns a b).1.length ≤ 8 := by
  unfold mergeAns
  split
  · have := mergeFrom_len a b 8 0 []
    simpa using this
  · simp
theorem specMerge_ev (a b : List S63) (ha : a.length ≤ 9223372036854775807) (hb : b.length ≤ 9223372036854775807) : Ev (fun k => spec_MergePassages.f k a b) (mergeAns a b) := by
  have hno : Ev (fun k => spec_MergePassages.j0 k a b [] true) ([], false) := Ev.step (f := fun _ => some ([], false)) (fun k => by rw [spec_MergePassages.j0, if_pos rfl]) (Ev.now _)
  simp only [spec_MergePassages.f, Option.bind_some]
  refine Ev.bind (l12Good_ev a ha) ?_
  by_cases h : okPasses a = true
  · refine Ev.ite_pos h (Ev.bind (l12Good_ev b hb) ?_)
    by_cases h2 : okPasses b = true
    · rw [show mergeAns a b = _ from if_pos ⟨h, h2⟩, h2]
      exact Ev.step (f := fun k => spec_MergePassages.l0 k a b [] ((0 : Nat) : Int)) (fun k => by rw [Bool.not_true, spec_MergePassages.j0, if_neg (by decide)]; rfl) (specMerge_loop a b ha hb 8 0 [] (by omega) (by simp))
    · rw [show mergeAns a b = _ from if_neg (fun hh => h2 hh.2), show okPasses b = false by simpa using h2]
      exact hno
  · rw [show mergeAns a b = _ from if_neg (fun hh => h hh.1)]
    exact Ev.ite_neg h hno
theorem implMerge_ev (a b : List S63) (ha : a.length ≤ 9223372036854775807) (hb : b.length ≤ 9223372036854775807) : Ev (fun k => impl_MergePassages.f k a b) (mergeAns a b) := by
  have hno : Ev (fun k => impl_MergePassages.j0 k a b true) ([], false) := Ev.step (f := fun _ => some ([], false)) (fun k => by rw [impl_MergePassages.j0, if_pos rfl]) (Ev.now _)
  simp only [impl_MergePassages.f]
  refine Ev.bind (arePasses_ev a ha) ?_
  by_cases h : okPasses a = true
  · refine Ev.ite_pos h (Ev.bind (arePasses_ev b hb) ?_)
    by_cases h2 : okPasses b = true
    · rw [show mergeAns a b = _ from if_pos ⟨h, h2⟩, h2]
      exact Ev.step (f := fun k => impl_MergePassages.l0 k a b [] ((0 : Nat) : Int)) (fun k => by rw [Bool.not_true, impl_MergePassages.j0, if_neg (by decide)]; rfl) (implMerge_loop a b 8 0 [] (by omega) (by simp))
    · rw [show mergeAns a b = _ from if_neg (fun hh => h2 hh.2), show okPasses b = false by simpa using h2]
      exact hno
  · rw [show mergeAns a b = _ from if_neg (fun hh => h hh.1)]
    exact Ev.ite_neg h hno
end Go.Proofs.Ytaafbnnddlgafaa.Pure
