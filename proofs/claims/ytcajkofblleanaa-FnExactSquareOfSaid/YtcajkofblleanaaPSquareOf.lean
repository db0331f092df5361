/- The square of a mark: the program's and the reference's answers. -/
import Derived.Test.YtcajkofblleanaaMQx4
import Derived.Test.YtcajkofblleanaaMQx6
import Derived.Test.YtcajkofblleanaaPPlanOf
namespace Go.Proofs.Ytcajkofblleanaa.Pure
open Go.RowKit Go.Proofs.Ytcajkofblleanaa.MQ Go.Proofs.YtcajkofblleanaaW.PrintWords Go.Proofs.YtcajkofblleanaaW.PrintLast Go.Proofs.YtcajkofblleanaaW.PrintMore
def sqA (l : List S53) (s V N : Int) (i : Int) : Int × Int × Bool := if i < 0 then (0, 0, false) else ((l.getD i.toNat z53).f1 / s - V, N - (l.getD i.toNat z53).f2 / s, true)
def sqAns (l : List S53) (s : Int) (i : Int) : Int × Int × Bool := sqA l s (bd l s (l.length - 1)).1 (bd l s (l.length - 1)).2.2.2 i
def squareAns (l : List S53) (s : Int) (a : ByteArray) : Int × Int × Bool := if (mayFit l s && fits20 l s) = true then sqAns l s (impl_SquareOf.at l a) else (0, 0, false)
theorem specSq_loop {l : List S53} (h : okMarks l = true) {s : Int} (hs : 1 ≤ s ∧ s ≤ 500) (a : ByteArray) {V N : Int} (hV : -1000 ≤ V ∧ V ≤ 1000) (hN : -1000 ≤ N ∧ N ≤ 1000) : ∀ (d i : Nat), i + d = l.length → Ev (fun k => spec_SquareOf.l0 k l s a V N (i : Int)) (sqA l s V N (idxF (fun x : S53 => x.f0.toList == a.toList) (l.drop i) (i : Int))) := by
  have h12 := okMarks_len h
  intro d
  induction d with
  | zero =>
    intro i hi
    rw [List.drop_eq_nil_of_le (by omega)]
    refine Ev.step (f := fun _ => some (0, 0, false)) (fun k => ?_) (Ev.now _)
    simp only [spec_SquareOf.l0]
    rw [if_neg (by omega)]
  | succ d ih =>
    intro i hi
    have hil : i < l.length := by omega
    have h1 := okMarks_at h hil
    have d1 := small_div ⟨h1.1, h1.2.1⟩ hs
    have d2 := small_div ⟨h1.2.2.1, h1.2.2.2⟩ hs
    have hw : wrap64 ((i : Int) + 1) = ((i + 1 : Nat) : Int) := wrap_up hil (show l.length ≤ 9223372036854775807 by omega)
    have hq1 := square_eq ⟨h1.1, h1.2.1⟩ hs
    have hq2 := square_eq ⟨h1.2.2.1, h1.2.2.2⟩ hs
    have w1 : wrap64 ((l.getD i z53).f1 / s - V) = (l.getD i z53).f1 / s - V := wrap_id (by omega) (by omega)
    have w2 : wrap64 (N - (l.getD i z53).f2 / s) = N - (l.getD i z53).f2 / s := wrap_id (by omega) (by omega)
    have hn : ((i : Nat) : Int) < (l.length : Int) := Int.ofNat_lt.2 hil
    have h0 : 0 ≤ ((i : Nat) : Int) := Int.natCast_nonneg i
    clear d1 d2 h1 hV hN hs
    rw [List.drop_eq_getElem_cons hil]
    simp only [idxF]
    rw [← getD_lt l z53 i hil]
    by_cases he : (l.getD i z53).f0.toList = a.toList
    · rw [if_pos (beq_iff_eq.2 he)]
      refine Ev.step (f := fun _ => some (sqA l s V N (i : Int))) (fun k => ?_) (Ev.now _)
      simp only [spec_SquareOf.l0, rdM, hq1, hq2, Option.bind_some]
      rw [if_pos hn, if_pos h0, if_pos he, w1, w2]
      unfold sqA
      rw [if_neg (by omega), Int.toNat_natCast]
    · rw [if_neg (fun hh => he (beq_iff_eq.1 hh))]
      refine Ev.step (fun k => ?_) (ih (i + 1) (by omega))
      simp only [spec_SquareOf.l0, rdM]
      rw [if_pos hn, if_pos h0, if_neg he, hw]
      first | done | rfl
theorem specSquareOf_ev (l : List S53) (s : Int) (a : ByteArray) (hm : l.length ≤ 9223372036854775807) : Ev (fun k => spec_SquareOf.f k l s a) (squareAns l s a) := by
  simp only [spec_SquareOf.f]
  refine Ev.bind (specFits_ev l s hm) ?_
  unfold squareAns
  by_cases h : (mayFit l s && fits20 l s) = true
  · rw [if_pos h]
    have h' := h
    rw [Bool.and_eq_true] at h'
    obtain ⟨h1, hs, h0⟩ := mayFit_says h'.1
    have hb := bd_small h1 hs (l.length - 1) (by omega)
    exact Ev.ite_pos h (Ev.bind (bounds_ev h1 h0 hs) (specSq_loop h1 hs a hb.1 hb.2.2.2 l.length 0 (by omega)))
  · rw [if_neg h]
    exact Ev.ite_neg h (Ev.now _)
theorem implSquareOf_ev (l : List S53) (s : Int) (a : ByteArray) (hm : l.length ≤ 9223372036854775807) : Ev (fun k => impl_SquareOf.f k l s a) (squareAns l s a) := by
  simp only [impl_SquareOf.f]
  refine Ev.bind (implPlanOf_ev l s hm) ?_
  unfold squareAns
  by_cases h : mayFit l s = true
  · rw [if_pos h, h, Bool.true_and]
    simp only [impl_SquareOf.of, fits20_plan]
    by_cases h2 : fits20 l s = true
    · rw [if_pos h2, if_pos h2]
      unfold sqAns sqA
      by_cases hi : impl_SquareOf.at l a < 0
      · rw [if_pos hi, if_pos hi]
        exact Ev.now _
      · rw [if_neg hi, if_neg hi]
        obtain ⟨h1, hs, h0⟩ := mayFit_says h
        have hrg : impl_SquareOf.at l a = -1 ∨ (0 ≤ impl_SquareOf.at l a ∧ impl_SquareOf.at l a < 0 + (l.length : Int)) := idxF_range _ _ _
        have hil : (impl_SquareOf.at l a).toNat < l.length := by omega
        have h3 := okMarks_at h1 hil
        have hb := bd_small h1 hs (l.length - 1) (by omega)
        have d1 := small_div ⟨h3.1, h3.2.1⟩ hs
        have d2 := small_div ⟨h3.2.2.1, h3.2.2.2⟩ hs
        have hr : rd_T53 l (impl_SquareOf.at l a) = l.getD (impl_SquareOf.at l a).toNat z53 := by
          rw [← rdM, Int.toNat_of_nonneg (by omega)]
        rw [hr]
        simp only [impl_plan_square.f, planOf, floorDiv_eq ⟨h3.1, h3.2.1⟩ hs, floorDiv_eq ⟨h3.2.2.1, h3.2.2.2⟩ hs, Option.bind_some]
        rw [wrap_id (x := (l.getD (impl_SquareOf.at l a).toNat z53).f1 / s - (bd l s (l.length - 1)).1) (by omega) (by omega), wrap_id (x := (bd l s (l.length - 1)).2.2.2 - (l.getD (impl_SquareOf.at l a).toNat z53).f2 / s) (by omega) (by omega)]
        exact Ev.now _
    · rw [if_neg h2, if_neg h2]
      exact Ev.now _
  · rw [if_neg h, if_neg (show ¬ (mayFit l s && fits20 l s) = true by simp [h])]
    exact Ev.now _
end Go.Proofs.Ytcajkofblleanaa.Pure
