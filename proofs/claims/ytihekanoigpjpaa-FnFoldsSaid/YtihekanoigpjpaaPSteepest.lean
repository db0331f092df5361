/- The steepest run: both answers. -/
import Derived.Test.YtihekanoigpjpaaMHx10
import Derived.Test.YtihekanoigpjpaaMHx9
import Derived.Test.YtihekanoigpjpaaPRuns
import Derived.Test.YtihekanoigpjpaaPMinMax
namespace Go.Proofs.Ytihekanoigpjpaa.Pure
open Go.RowKit Go.Proofs.Ytihekanoigpjpaa.MH Go.Proofs.YtihekanoigpjpaaW.PrintWords Go.Proofs.YtihekanoigpjpaaW.PrintLast Go.Proofs.YtihekanoigpjpaaW.PrintMore
set_option linter.unusedVariables false
set_option linter.unusedSimpArgs false
def steeper (a b : S43) : Prop := wrap64 (max a.f1 (wrap64 (-a.f1)) * b.f0) > wrap64 (max b.f1 (wrap64 (-b.f1)) * a.f0)
instance (a b : S43) : Decidable (steeper a b) := inferInstanceAs (Decidable (_ > _))
def steepStep (l : List S43) (i : Nat) (b : Nat) : Nat := if steeper (l.getD i z43) (l.getD b z43) then i else b
def steepest (l : List S43) : Int × Bool := if okWay l = true ∧ l.length ≠ 0 then foldN (fun i s => Sum.inl (steepStep l i s)) (fun (s : Nat) => ((s : Int), true)) l.length 0 0 else (0, false)
theorem specSteep_ev (l : List S43) (hm : l.length ≤ 9223372036854775807) : Ev (fun k => spec_SteepestRun.f k l) (steepest l) := by
  simp only [spec_SteepestRun.f]
  refine Ev.bind (l14Good_ev l hm) ?_
  unfold steepest
  have hno : Ev (fun k => spec_SteepestRun.j0 k l true) (0, false) := Ev.step (f := fun _ => some (0, false)) (fun k => by simp [spec_SteepestRun.j0]) (Ev.now _)
  by_cases hp : okWay l = true
  · refine Ev.ite_pos hp ?_
    by_cases h0 : l.length = 0
    · rw [if_neg (fun h => h.2 h0), show ((l.length : Int) == 0) = true by simp [h0]]
      exact hno
    · rw [if_pos ⟨hp, h0⟩, show ((l.length : Int) == 0) = false from beq_eq_false_iff_ne.2 (by omega)]
      refine Ev.step (f := fun k => spec_SteepestRun.l0 k l 0 1) (fun k => by simp [spec_SteepestRun.j0]) ?_
      obtain ⟨n, hn⟩ : ∃ n, l.length = n + 1 := ⟨l.length - 1, by omega⟩
      have h1 : foldN (fun i s => Sum.inl (steepStep l i s)) (fun (s : Nat) => ((s : Int), true)) l.length 0 0 = foldN (fun i s => Sum.inl (steepStep l i s)) (fun (s : Nat) => ((s : Int), true)) n 1 0 := by
        rw [hn]
        simp only [foldN]
        rw [show steepStep l 0 0 = 0 by unfold steepStep; split <;> rfl]
      rw [h1]
      refine Ev.past (0 + n) fun k hk => loopN (fun k i (s : Nat) => spec_SteepestRun.l0 k l (s : Int) i) l.length 0 (fun _ s => s < l.length) _ _ ?_ ?_ n 1 0 k (by omega) hk (by omega)
      · rintro k i s - hi hs
        refine .inl ⟨_, rfl, ?_, ?_⟩
        · unfold steepStep
          split <;> omega
        · simp only [spec_SteepestRun.l0, rdR, spec_l14Steeper.f, l1Most_eq, Option.bind_some]
          rw [if_pos (by omega), if_pos (by omega), if_pos (by omega), if_pos (by omega), wrap_up hi hm]
          unfold steepStep
          by_cases hst : steeper (l.getD i z43) (l.getD s z43)
          · rw [if_pos hst]
            unfold steeper at hst
            rw [if_pos (decide_eq_true hst)]
          · rw [if_neg hst]
            unfold steeper at hst
            rw [if_neg (fun h => hst (of_decide_eq_true h))]
      · rintro k s - -
        simp only [spec_SteepestRun.l0]
        rw [if_neg (by omega)]
  · refine Ev.ite_neg hp ?_
    rw [if_neg (fun h => hp h.1)]
    exact hno
theorem implSteep_ev (l : List S43) (hm : l.length ≤ 9223372036854775807) : Ev (fun k => impl_SteepestRun.f k l) (steepest l) := by
  simp only [impl_SteepestRun.f]
  refine Ev.bind (isWay_ev l hm) ?_
  unfold steepest
  have hno : Ev (fun k => impl_SteepestRun.j0 k l true) (0, false) := Ev.step (f := fun _ => some (0, false)) (fun k => by simp [impl_SteepestRun.j0]) (Ev.now _)
  by_cases hp : okWay l = true
  · refine Ev.ite_pos hp ?_
    by_cases h0 : l.length = 0
    · rw [if_neg (fun h => h.2 h0), show ((l.length : Int) == 0) = true by simp [h0]]
      exact hno
    · rw [if_pos ⟨hp, h0⟩, show ((l.length : Int) == 0) = false from beq_eq_false_iff_ne.2 (by omega)]
      refine Ev.step (f := fun k => impl_SteepestRun.l0 k l 0 l (l.length : Int) 0) (fun k => by simp [impl_SteepestRun.j0]) ?_
      refine loopN_ev (fun k i (s : Nat) => impl_SteepestRun.l0 k l (s : Int) l (l.length : Int) i) l.length 0 (fun _ s => s < l.length) _ _ 0 (by omega) ?_ ?_
      · rintro k i s - hi hs
        refine .inl ⟨_, rfl, ?_, ?_⟩
        · unfold steepStep
          split <;> omega
        · simp only [impl_SteepestRun.l0, rdR, impl_absolute.f, mx_eq, Option.bind_some]
          rw [if_pos (by omega), if_pos (by omega), if_pos (by omega), if_pos (by omega), if_pos (by omega), wrap_up hi hm]
          unfold steepStep
          by_cases hst : steeper (l.getD i z43) (l.getD s z43)
          · rw [if_pos hst]
            unfold steeper at hst
            rw [if_pos hst]
          · rw [if_neg hst]
            unfold steeper at hst
            rw [if_neg hst]
      · rintro k s - -
        simp only [impl_SteepestRun.l0]
        rw [if_neg (by omega)]
  · refine Ev.ite_neg hp ?_
    rw [if_neg (fun h => hp h.1)]
    exact hno
end Go.Proofs.Ytihekanoigpjpaa.Pure
