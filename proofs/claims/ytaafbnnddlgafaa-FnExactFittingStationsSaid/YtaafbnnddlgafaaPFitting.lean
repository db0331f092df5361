/- The fitting stations: the program's and the reference's list. -/
import Derived.Test.YtaafbnnddlgafaaMAx11
import Derived.Test.YtaafbnnddlgafaaMAx12
import Derived.Test.YtaafbnnddlgafaaPPass
namespace Go.Proofs.Ytaafbnnddlgafaa.Pure
open Go.RowKit Go.Proofs.Ytaafbnnddlgafaa.MA Go.Proofs.YtaafbnnddlgafaaW.PrintWords Go.Proofs.YtaafbnnddlgafaaW.PrintLast Go.Proofs.YtaafbnnddlgafaaW.PrintMore
def fits (x : S63) (a b : Int) : Bool := decide (wrap64 (x.f1 + x.f2) ≥ a) && decide (wrap64 (x.f3 + x.f4) ≥ b)
theorem fits_eq (x : S63) (a b : Int) : impl_Passage_fits.f x.f0 x.f1 x.f2 x.f3 x.f4 a b = some (fits x a b) := by
  unfold impl_Passage_fits.f fits
  by_cases h : wrap64 (x.f1 + x.f2) ≥ a
  · rw [if_pos h, decide_eq_true h, Bool.true_and]
  · rw [if_neg h, decide_eq_false h, Bool.false_and]
def fitStep (l : List S63) (a b : Int) (i : Nat) (s : List Int) : List Int ⊕ (List Int × Bool) := .inl (if fits (l.getD i z63) a b = true then s ++ [(l.getD i z63).f0] else s)
def fitAnswer (l : List S63) (a b : Int) : List Int × Bool := if okPasses l = true ∧ ¬ a < 1 ∧ ¬ b < 1 then foldN (fitStep l a b) (fun s => (s, true)) l.length 0 [] else ([], false)
theorem fitAnswer_len (l : List S63) (a b : Int) : (fitAnswer l a b).1.length ≤ 8 := by
  unfold fitAnswer
  split
  · rename_i h
    have h8 := okPasses_len h.1
    refine foldN_inv l.length (fun i (s : List Int) => s.length ≤ i) (fun (r : List Int × Bool) => r.1.length ≤ 8) ?_ ?_ l.length 0 [] (by omega) (by simp)
    · intro i s hs hi
      refine .inl ⟨_, rfl, ?_⟩
      split
      · rw [List.length_append, List.length_singleton]; omega
      · omega
    · intro s hs
      exact Nat.le_trans hs h8
  · simp
theorem fit_len {l : List S63} {a b : Int} {i : Nat} {s : List Int} (hs : s.length ≤ i) : (if fits (l.getD i z63) a b = true then s ++ [(l.getD i z63).f0] else s).length ≤ i + 1 := by
  split
  · rw [List.length_append, List.length_singleton]; omega
  · omega
theorem specFitting_ev (l : List S63) (a b : Int) (hm : l.length ≤ 9223372036854775807) : Ev (fun k => spec_FittingStations.f k l a b) (fitAnswer l a b) := by
  have hno : Ev (fun k => spec_FittingStations.j0 k l a b [] true) ([], false) := Ev.step (f := fun _ => some ([], false)) (fun k => by rw [spec_FittingStations.j0, if_pos rfl]) (Ev.now _)
  simp only [spec_FittingStations.f, Option.bind_some]
  refine Ev.bind (l12Good_ev l hm) ?_
  unfold fitAnswer
  by_cases h : okPasses l = true
  · refine Ev.ite_pos h ?_
    by_cases ha : a < 1
    · rw [if_neg (fun hh => hh.2.1 ha)]
      exact Ev.ite_pos ha hno
    · refine Ev.ite_neg ha ?_
      by_cases hb : b < 1
      · rw [if_neg (fun hh => hh.2.2 hb), decide_eq_true hb]
        exact hno
      · rw [if_pos ⟨h, ha, hb⟩, decide_eq_false hb]
        have h8 := okPasses_len h
        refine Ev.step (f := fun k => spec_FittingStations.l0 k l a b [] 0) (fun k => by rw [spec_FittingStations.j0, if_neg (by decide)]) ?_
        refine loopN_ev (fun k i (s : List Int) => spec_FittingStations.l0 k l a b s i) l.length 0 (fun i s => s.length ≤ i) (fitStep l a b) (fun s => (s, true)) [] (by simp) ?_ ?_
        · rintro k i s - hi hs
          refine .inl ⟨_, rfl, fit_len hs, ?_⟩
          simp only [spec_FittingStations.l0, rdA]
          rw [if_pos (by omega), if_pos (by omega), wrap_up hi hm]
          by_cases h1 : wrap64 ((l.getD i z63).f1 + (l.getD i z63).f2) ≥ a
          · by_cases h2 : wrap64 ((l.getD i z63).f3 + (l.getD i z63).f4) ≥ b
            · rw [if_pos h1, if_pos h2, if_pos (by omega), if_pos (show fits (l.getD i z63) a b = true by unfold fits; rw [decide_eq_true h1, decide_eq_true h2]; rfl)]
            · rw [if_pos h1, if_neg h2, if_neg (show ¬ fits (l.getD i z63) a b = true by unfold fits; rw [decide_eq_false h2, Bool.and_false]; decide)]
          · rw [if_neg h1, if_neg (show ¬ fits (l.getD i z63) a b = true by unfold fits; rw [decide_eq_false h1, Bool.false_and]; decide)]
        · rintro k s - -
          simp only [spec_FittingStations.l0]
          rw [if_neg (by omega)]
  · rw [if_neg (fun hh => h hh.1)]
    exact Ev.ite_neg h hno
theorem implFitting_ev (l : List S63) (a b : Int) (hm : l.length ≤ 9223372036854775807) : Ev (fun k => impl_FittingStations.f k l a b) (fitAnswer l a b) := by
  have hno : Ev (fun k => impl_FittingStations.j0 k l a b true) ([], false) := Ev.step (f := fun _ => some ([], false)) (fun k => by rw [impl_FittingStations.j0, if_pos rfl]) (Ev.now _)
  simp only [impl_FittingStations.f]
  refine Ev.bind (arePasses_ev l hm) ?_
  unfold fitAnswer
  by_cases h : okPasses l = true
  · refine Ev.ite_pos h ?_
    by_cases ha : a < 1
    · rw [if_neg (fun hh => hh.2.1 ha)]
      exact Ev.ite_pos ha hno
    · refine Ev.ite_neg ha ?_
      by_cases hb : b < 1
      · rw [if_neg (fun hh => hh.2.2 hb), decide_eq_true hb]
        exact hno
      · rw [if_pos ⟨h, ha, hb⟩, decide_eq_false hb]
        have h8 := okPasses_len h
        refine Ev.step (f := fun k => impl_FittingStations.l0 k a b [] l (l.length : Int) 0) (fun k => by rw [impl_FittingStations.j0, if_neg (by decide)]) ?_
        refine loopN_ev (fun k i (s : List Int) => impl_FittingStations.l0 k a b s l (l.length : Int) i) l.length 0 (fun i s => s.length ≤ i) (fitStep l a b) (fun s => (s, true)) [] (by simp) ?_ ?_
        · rintro k i s - hi hs
          refine .inl ⟨_, rfl, fit_len hs, ?_⟩
          simp only [impl_FittingStations.l0, rdA, fits_eq, Option.bind_some]
          rw [if_pos (by omega), if_pos (by omega), if_pos (by omega), wrap_up hi hm]
          cases hf : fits (l.getD i z63) a b with
          | true => rw [if_pos rfl, if_pos (by omega), if_pos rfl]
          | false => rw [if_neg (by decide), if_neg (by decide)]
        · rintro k s - -
          simp only [impl_FittingStations.l0]
          rw [if_neg (by omega)]
  · rw [if_neg (fun hh => h hh.1)]
    exact Ev.ite_neg h hno
end Go.Proofs.Ytaafbnnddlgafaa.Pure
