/- Moved marks: the program's and the reference's lists. -/
import Derived.Test.YtcajkofblleanaaMSx6
import Derived.Test.YtcajkofblleanaaMSx7
import Derived.Test.YtcajkofblleanaaPTurn
namespace Go.Proofs.Ytcajkofblleanaa.Pure
open Go.RowKit Go.Proofs.Ytcajkofblleanaa.MS Go.Proofs.YtcajkofblleanaaW.PrintWords Go.Proofs.YtcajkofblleanaaW.PrintLast Go.Proofs.YtcajkofblleanaaW.PrintMore
def moveOne (a b : Int) (x : S53) : S53 := ⟨x.f0, wrap64 (x.f1 + a), wrap64 (x.f2 + b)⟩
def moveAns (l : List S53) (a b : Int) : List S53 × Bool := if okMarks l = true ∧ (-2000 ≤ a ∧ a ≤ 2000) ∧ (-2000 ≤ b ∧ b ≤ 2000) then (if okMarks (l.map (moveOne a b)) = true then (l.map (moveOne a b), true) else ([], false)) else ([], false)
theorem moveAns_len (l : List S53) (a b : Int) : (moveAns l a b).1.length ≤ 12 := by
  unfold moveAns
  split
  · rename_i h
    have := okMarks_len h.1
    split
    · simpa using this
    · simp
  · simp
theorem specMove_ev (l : List S53) (a b : Int) (hm : l.length ≤ 9223372036854775807) : Ev (fun k => spec_MoveMarks.f k l a b) (moveAns l a b) := by
  have hno : Ev (fun k => spec_MoveMarks.j0 k l a b [] true) ([], false) := Ev.step (f := fun _ => some ([], false)) (fun k => by simp only [spec_MoveMarks.j0, if_true]) (Ev.now _)
  simp only [spec_MoveMarks.f, l1In_eq, Option.bind_some]
  refine Ev.bind (l13Good_ev l hm) ?_
  unfold moveAns
  by_cases h : okMarks l = true
  · refine Ev.ite_pos h ?_
    by_cases ha : -2000 ≤ a ∧ a ≤ 2000
    · refine Ev.ite_pos (decide_eq_true ha) ?_
      by_cases hb : -2000 ≤ b ∧ b ≤ 2000
      · rw [if_pos ⟨h, ha, hb⟩, decide_eq_true hb, Bool.not_true]
        refine Ev.step (f := fun k => spec_MoveMarks.l0 k l a b [] 0) (fun k => by simp only [spec_MoveMarks.j0, Bool.false_eq_true, if_false]) ?_
        have h12 := okMarks_len h
        obtain ⟨K, hK⟩ := l13Good_ev (l.map (moveOne a b)) (by rw [List.length_map]; exact hm)
        refine loopV_ev (fun k i (s : List S53) => spec_MoveMarks.l0 k l a b s i) l.length K (fun i s => s = (l.take i).map (moveOne a b)) _ [] (by simp) ?_ ?_
        · rintro k i s - hi rfl
          refine .inl ⟨_, rfl, ?_⟩
          simp only [spec_MoveMarks.l0, rdM]
          rw [if_pos (by omega), if_pos (by omega), if_pos (by rw [List.length_map, List.length_take]; omega), wrap_up hi hm, map_take_succ (moveOne a b) l z53 hi]
          rfl
        · rintro k s hk rfl
          simp only [spec_MoveMarks.l0]
          rw [if_neg (by omega), List.take_of_length_le (by omega), show spec_l13Good.f k (l.map (moveOne a b)) = some (okMarks (l.map (moveOne a b))) from hK k hk]
          simp only [Option.bind_some]
          split <;> rfl
      · rw [if_neg (fun hh => hb hh.2.2), decide_eq_false hb, Bool.not_false]
        exact hno
    · rw [if_neg (fun hh => ha hh.2.1)]
      exact Ev.ite_neg (by simpa using ha) hno
  · rw [if_neg (fun hh => h hh.1)]
    exact Ev.ite_neg h hno
theorem implMove_ev (l : List S53) (a b : Int) (hm : l.length ≤ 9223372036854775807) : Ev (fun k => impl_MoveMarks.f k l a b) (moveAns l a b) := by
  have hno : Ev (fun k => impl_MoveMarks.j0 k l a b true) ([], false) := Ev.step (f := fun _ => some ([], false)) (fun k => by simp only [impl_MoveMarks.j0, if_true]) (Ev.now _)
  simp only [impl_MoveMarks.f, within_eq, Option.bind_some]
  refine Ev.bind (areMarks_ev l hm) ?_
  unfold moveAns
  by_cases h : okMarks l = true
  · refine Ev.ite_pos h ?_
    by_cases ha : -2000 ≤ a ∧ a ≤ 2000
    · refine Ev.ite_pos (decide_eq_true ha) ?_
      by_cases hb : -2000 ≤ b ∧ b ≤ 2000
      · rw [if_pos ⟨h, ha, hb⟩, decide_eq_true hb, Bool.not_true]
        refine Ev.step (f := fun k => impl_MoveMarks.l0 k a b [] l (l.length : Int) 0) (fun k => by simp only [impl_MoveMarks.j0, Bool.false_eq_true, if_false]) ?_
        have h12 := okMarks_len h
        obtain ⟨K, hK⟩ := areMarks_ev (l.map (moveOne a b)) (by rw [List.length_map]; exact hm)
        refine loopV_ev (fun k i (s : List S53) => impl_MoveMarks.l0 k a b s l (l.length : Int) i) l.length K (fun i s => s = (l.take i).map (moveOne a b)) _ [] (by simp) ?_ ?_
        · rintro k i s - hi rfl
          refine .inl ⟨_, rfl, ?_⟩
          simp only [impl_MoveMarks.l0, rdM]
          rw [if_pos (by omega), if_pos (by omega), if_pos (by omega), if_pos (by rw [List.length_map, List.length_take]; omega), wrap_up hi hm, map_take_succ (moveOne a b) l z53 hi]
          rfl
        · rintro k s hk rfl
          simp only [impl_MoveMarks.l0]
          rw [if_neg (by omega), List.take_of_length_le (by omega), show impl_AreMarks.f k (l.map (moveOne a b)) = some (okMarks (l.map (moveOne a b))) from hK k hk]
          simp only [Option.bind_some]
          split <;> rfl
      · rw [if_neg (fun hh => hb hh.2.2), decide_eq_false hb, Bool.not_false]
        exact hno
    · rw [if_neg (fun hh => ha hh.2.1)]
      exact Ev.ite_neg (by simpa using ha) hno
  · rw [if_neg (fun hh => h hh.1)]
    exact Ev.ite_neg h hno
end Go.Proofs.Ytcajkofblleanaa.Pure
