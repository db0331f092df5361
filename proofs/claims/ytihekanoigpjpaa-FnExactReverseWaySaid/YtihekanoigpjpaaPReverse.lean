/- A way the other way round: both answers. -/
import Derived.Test.YtihekanoigpjpaaMVx2
import Derived.Test.YtihekanoigpjpaaMVx3
import Derived.Test.YtihekanoigpjpaaPRuns
namespace Go.Proofs.Ytihekanoigpjpaa.Pure
open Go.RowKit Go.Proofs.Ytihekanoigpjpaa.MV Go.Proofs.YtihekanoigpjpaaW.PrintWords Go.Proofs.YtihekanoigpjpaaW.PrintLast Go.Proofs.YtihekanoigpjpaaW.PrintMore
set_option linter.unusedVariables false
set_option linter.unusedSimpArgs false
def turnRun (x : S43) : S43 := ⟨x.f0, wrap64 (-x.f1)⟩
def revAns (l : List S43) : List S43 × Bool := if okWay l = true then (l.reverse.map turnRun, true) else ([], false)
theorem revAns_len (l : List S43) : (revAns l).1.length ≤ 100 := by
  unfold revAns
  split
  · rename_i h
    have := okWay_len h
    simp only [List.length_map, List.length_reverse]
    omega
  · simp
theorem specRev_loop (l : List S43) (h12 : l.length ≤ 12) : ∀ (d : Nat) (acc : List S43), d ≤ l.length → acc.length + d ≤ 12 → Ev (fun k => spec_ReverseWay.l0 k l acc ((d : Int) - 1)) (acc ++ (l.take d).reverse.map turnRun, true) := by
  intro d
  induction d with
  | zero =>
    intro acc _ _
    refine Ev.step (fun k => by rw [spec_ReverseWay.l0]) ?_
    refine Ev.ite_neg (by omega) ?_
    simp only [List.take_zero, List.reverse_nil, List.map_nil, List.append_nil]
    exact Ev.now _
  | succ d ih =>
    intro acc hd ha
    have hi : ((d + 1 : Nat) : Int) - 1 = (d : Int) := by omega
    have hdl : d < l.length := by omega
    rw [hi]
    refine Ev.step (fun k => by rw [spec_ReverseWay.l0]) ?_
    refine Ev.ite_pos (by omega) ?_
    refine Ev.ite_pos (by omega) ?_
    refine Ev.ite_pos (by omega) ?_
    refine Ev.ite_pos (by omega) ?_
    rw [rdR, wrap_id (x := (d : Int) - 1) (by omega) (by omega)]
    have h := ih (acc ++ [turnRun (l.getD d z43)]) (by omega) (by simp only [List.length_append, List.length_singleton]; omega)
    have e : acc ++ (l.take (d + 1)).reverse.map turnRun = (acc ++ [turnRun (l.getD d z43)]) ++ (l.take d).reverse.map turnRun := by
      rw [List.take_succ_eq_append_getElem hdl, getD_lt _ _ _ hdl, List.reverse_append, List.map_append, List.append_assoc]
      rfl
    rw [e]
    exact h
theorem specRev_ev (l : List S43) (hm : l.length ≤ 9223372036854775807) : Ev (fun k => spec_ReverseWay.f k l) (revAns l) := by
  simp only [spec_ReverseWay.f, Option.bind_some]
  refine Ev.bind (l14Good_ev l hm) ?_
  unfold revAns
  by_cases h : okWay l = true
  · have h12 := okWay_len h
    rw [if_pos h]
    refine Ev.ite_pos h ?_
    rw [wrap_id (x := (l.length : Int) - 1) (by omega) (by omega)]
    have hl := specRev_loop l h12 l.length [] (Nat.le_refl _) (by simp; omega)
    rw [List.take_length, List.nil_append] at hl
    exact hl
  · rw [if_neg h]
    exact Ev.ite_neg h (Ev.now _)
theorem implRev_ev (l : List S43) (hm : l.length ≤ 9223372036854775807) : Ev (fun k => impl_ReverseWay.f k l) (revAns l) := by
  simp only [impl_ReverseWay.f]
  refine Ev.bind (isWay_ev l hm) ?_
  by_cases h : okWay l = true
  · have h12 := okWay_len h
    have e : revAns l = (l.reverse.map turnRun, true) := if_pos h
    rw [e]
    exact Ev.ite_pos h (Ev.ite_pos (by omega) (Ev.now _))
  · have e : revAns l = ([], false) := if_neg h
    rw [e]
    exact Ev.ite_neg h (Ev.now _)
end Go.Proofs.Ytihekanoigpjpaa.Pure
