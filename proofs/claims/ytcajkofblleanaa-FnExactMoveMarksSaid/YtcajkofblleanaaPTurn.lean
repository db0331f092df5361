/- Turned and moved marks: the program's and the reference's lists. -/
import Derived.Test.YtcajkofblleanaaMSx4
import Derived.Test.YtcajkofblleanaaPMarks
namespace Go.Proofs.Ytcajkofblleanaa.Pure
open Go.RowKit Go.Proofs.Ytcajkofblleanaa.MS Go.Proofs.YtcajkofblleanaaW.PrintWords Go.Proofs.YtcajkofblleanaaW.PrintLast Go.Proofs.YtcajkofblleanaaW.PrintMore
def turnOne (x : S53) : S53 := ⟨x.f0, x.f2, wrap64 (-x.f1)⟩
def turnAns (l : List S53) : List S53 × Bool := if okMarks l = true then (l.map turnOne, true) else ([], false)
theorem turnAns_len (l : List S53) : (turnAns l).1.length ≤ 12 := by
  unfold turnAns
  split
  · rename_i h
    have := okMarks_len h
    simpa using this
  · simp
theorem map_take_succ {α β : Type} (f : α → β) (l : List α) (d : α) {i : Nat} (hi : i < l.length) : (l.take (i + 1)).map f = (l.take i).map f ++ [f (l.getD i d)] := by
  rw [List.take_succ_eq_append_getElem hi, List.map_append, getD_lt _ _ _ hi]
  rfl
theorem specTurn_ev (l : List S53) (hm : l.length ≤ 9223372036854775807) : Ev (fun k => spec_TurnMarks.f k l) (turnAns l) := by
  simp only [spec_TurnMarks.f, Option.bind_some]
  refine Ev.bind (l13Good_ev l hm) ?_
  unfold turnAns
  by_cases h : okMarks l = true
  · rw [if_pos h]
    refine Ev.ite_pos h ?_
    have h12 := okMarks_len h
    refine loopV_ev (fun k i (s : List S53) => spec_TurnMarks.l0 k l s i) l.length 0 (fun i s => s = (l.take i).map turnOne) _ [] (by simp) ?_ ?_
    · rintro k i s - hi rfl
      refine .inl ⟨_, rfl, ?_⟩
      simp only [spec_TurnMarks.l0, rdM]
      rw [if_pos (by omega), if_pos (by omega), if_pos (by rw [List.length_map, List.length_take]; omega), wrap_up hi hm, map_take_succ turnOne l z53 hi]
      rfl
    · rintro k s - rfl
      simp only [spec_TurnMarks.l0]
      rw [if_neg (by omega), List.take_of_length_le (by omega)]
  · rw [if_neg h]
    exact Ev.ite_neg h (Ev.now _)
theorem implTurn_ev (l : List S53) (hm : l.length ≤ 9223372036854775807) : Ev (fun k => impl_TurnMarks.f k l) (turnAns l) := by
  simp only [impl_TurnMarks.f]
  refine Ev.bind (areMarks_ev l hm) ?_
  unfold turnAns
  by_cases h : okMarks l = true
  · rw [if_pos h]
    refine Ev.ite_pos h ?_
    have h12 := okMarks_len h
    refine loopV_ev (fun k i (s : List S53) => impl_TurnMarks.l0 k s l (l.length : Int) i) l.length 0 (fun i s => s = (l.take i).map turnOne) _ [] (by simp) ?_ ?_
    · rintro k i s - hi rfl
      refine .inl ⟨_, rfl, ?_⟩
      simp only [impl_TurnMarks.l0, rdM]
      rw [if_pos (by omega), if_pos (by omega), if_pos (by omega), if_pos (by rw [List.length_map, List.length_take]; omega), wrap_up hi hm, map_take_succ turnOne l z53 hi]
      rfl
    · rintro k s - rfl
      simp only [impl_TurnMarks.l0]
      rw [if_neg (by omega), List.take_of_length_le (by omega)]
  · rw [if_neg h]
    exact Ev.ite_neg h (Ev.now _)
end Go.Proofs.Ytcajkofblleanaa.Pure
