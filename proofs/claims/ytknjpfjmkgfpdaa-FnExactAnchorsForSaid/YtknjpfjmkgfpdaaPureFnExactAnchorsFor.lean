/- The law FnExactAnchorsFor's pure statement: the program's AnchorsFor is the reference's. -/
import Derived.Test.YtknjpfjmkgfpdaaMAx1
import Derived.Test.YtknjpfjmkgfpdaaPPitch
namespace Go.Proofs.Ytknjpfjmkgfpdaa.Pure
open Go.RowKit Go.Proofs.Ytknjpfjmkgfpdaa.MA Go.Proofs.YtknjpfjmkgfpdaaW.PrintWords Go.Proofs.YtknjpfjmkgfpdaaW.PrintLast Go.Proofs.YtknjpfjmkgfpdaaW.PrintMore
theorem anchors_loops {d r : Int} (hd : 20 ≤ d ∧ d ≤ 3000) : ∀ (n k : Nat), n ≤ 9 → n < k → ∃ v, spec_AnchorsFor.l0 k d r (n : Int) = some v ∧ impl_AnchorsFor.l0 k d r (n : Int) = some v := by
  intro n
  induction n with
  | zero =>
    intro k _ hk
    obtain ⟨k, rfl⟩ : ∃ m, k = m + 1 := ⟨k - 1, by omega⟩
    exact ⟨(0, false), by simp [spec_AnchorsFor.l0], by simp [impl_AnchorsFor.l0]⟩
  | succ n ih =>
    intro k hn hk
    obtain ⟨k, rfl⟩ : ∃ m, k = m + 1 := ⟨k - 1, by omega⟩
    have hp : okPitch d ((n + 1 : Nat) : Int) = true := by
      simp only [okPitch, Bool.and_eq_true, decide_eq_true_eq]
      omega
    have hw : wrap64 (((n + 1 : Nat) : Int) - 1) = (n : Int) := by
      unfold wrap64
      omega
    obtain ⟨v, h1, h2⟩ := ih k (by omega) (by omega)
    simp only [spec_AnchorsFor.l0, impl_AnchorsFor.l0, l16One_eq, hp, Option.bind_some, l16Need_eq hp, need_eq hp, hw, if_true]
    have h9 : ((n + 1 : Nat) : Int) ≥ 1 := by omega
    simp only [if_pos h9]
    by_cases hle : needOf d ((n + 1 : Nat) : Int) ≤ r
    · exact ⟨_, by rw [if_pos hle], by rw [if_pos hle]⟩
    · exact ⟨v, by rw [if_neg hle]; exact h1, by rw [if_neg hle]; exact h2⟩
theorem anchors_none {d r : Int} (hd : ¬ (20 ≤ d ∧ d ≤ 3000)) : ∀ (n k : Nat), n ≤ 9 → n < k → spec_AnchorsFor.l0 k d r (n : Int) = some (0, false) := by
  intro n
  induction n with
  | zero =>
    intro k _ hk
    obtain ⟨k, rfl⟩ : ∃ m, k = m + 1 := ⟨k - 1, by omega⟩
    simp [spec_AnchorsFor.l0]
  | succ n ih =>
    intro k hn hk
    obtain ⟨k, rfl⟩ : ∃ m, k = m + 1 := ⟨k - 1, by omega⟩
    have hp : okPitch d ((n + 1 : Nat) : Int) = false := by
      simp only [okPitch, hd, decide_false, Bool.false_and]
    have hw : wrap64 (((n + 1 : Nat) : Int) - 1) = (n : Int) := by
      unfold wrap64
      omega
    simp only [spec_AnchorsFor.l0, l16One_eq, hp, Option.bind_some, hw]
    rw [if_pos (by omega)]
    simpa using ih k (by omega) (by omega)
theorem FnExactAnchorsFor (a0 : Int) (_w0 : (Lit.int .i64 a0).wf = true) (a1 : Int) (_w1 : (Lit.int .i64 a1).wf = true) : ∃ k, laws_FnExactAnchorsFor.f k a0 a1 = some true := by
  refine ⟨12, ?_⟩
  have key : ∃ v, spec_AnchorsFor.f 12 a0 a1 = some v ∧ impl_AnchorsFor.f 12 a0 a1 = some v := by
    simp only [spec_AnchorsFor.f, impl_AnchorsFor.f, l16Rope_eq, isRope_eq, impl_isDepth.f, within_eq, Option.bind_some]
    by_cases hd : 20 ≤ a0 ∧ a0 ≤ 3000
    · cases hr : okRope a1
      · simp [hd, impl_AnchorsFor.j0]
      · obtain ⟨v, h1, -⟩ := anchors_loops (d := a0) (r := a1) hd 9 12 (by omega) (by omega)
        obtain ⟨v', h3, h2⟩ := anchors_loops (d := a0) (r := a1) hd 9 11 (by omega) (by omega)
        have h4 := spec_AnchorsFor.mono_l 11 _ _ _ _ h3
        have hv : v = v' := by
          have := h1.symm.trans h4
          exact Option.some.inj this
        subst hv
        refine ⟨v, ?_, ?_⟩
        · simpa using h1
        · simp only [hd, impl_AnchorsFor.j0]
          simpa using h2
    · cases hr : okRope a1
      · simp [hd, impl_AnchorsFor.j0]
      · have h1 := anchors_none (d := a0) (r := a1) hd 9 12 (by omega) (by omega)
        refine ⟨(0, false), ?_, ?_⟩
        · simpa using h1
        · simp [hd, impl_AnchorsFor.j0]
  obtain ⟨v, h1, h2⟩ := key
  simp only [laws_FnExactAnchorsFor.f, h1, h2, Option.bind_some]
  simp
end Go.Proofs.Ytknjpfjmkgfpdaa.Pure
