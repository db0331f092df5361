/- Joined ways: the program's and the reference's answers. -/
import Derived.Test.YtmbpdegkkdcjnaaDoorMWx7
import Derived.Test.YtmbpdegkkdcjnaaDoorPRuns
namespace Go.Proofs.YtmbpdegkkdcjnaaDoor.Pure
open Go.RowKit Go.Proofs.YtmbpdegkkdcjnaaDoor.MW Go.Proofs.YtmbpdegkkdcjnaaDoorW.PrintWords Go.Proofs.YtmbpdegkkdcjnaaDoorW.PrintLast Go.Proofs.YtmbpdegkkdcjnaaDoorW.PrintMore
set_option linter.unusedVariables false
set_option linter.unusedSimpArgs false
def joinAns (a b : List S44) : List S44 × Bool := if okWay (a ++ b) = true then (a ++ b, true) else ([], false)
theorem joinAns_len (a b : List S44) : (joinAns a b).1.length ≤ 12 := by
 unfold joinAns
 split
 ·rename_i h
  exact okWay_len h
 ·simp
theorem okWay_append (a b : List S44) : okWay (a ++ b) = true ↔ okWay a = true ∧ okWay b = true ∧ a.length + b.length ≤ 12 := by
 unfold okWay
 simp only [List.all_append, Bool.and_eq_true, decide_eq_true_eq, List.length_append]
 constructor
 ·rintro ⟨⟨h1, h2⟩, h3⟩
  exact ⟨⟨h1, by omega⟩, ⟨h2, by omega⟩, h3⟩
 ·rintro ⟨⟨h1, _⟩, ⟨h2, _⟩, h3⟩
  exact ⟨⟨h1, h2⟩, h3⟩
theorem specJoin_ev (a b : List S44) (ha : a.length ≤ 1048576) (hb : b.length ≤ 1048576) : Ev (fun k => spec_JoinWays.f k a b) (joinAns a b) := by
 simp only [spec_JoinWays.f, Option.bind_some, List.nil_append, List.length_nil, Nat.zero_add]
 refine Ev.ite_pos (by omega) (Ev.ite_pos (by omega) (Ev.bind (l14Good_ev (a ++ b) (by rw [List.length_append]; omega)) ?_))
 unfold joinAns
 by_cases h : okWay (a ++ b) = true
 ·simp only [if_pos h]
  exact Ev.now _
 ·simp only [if_neg h]
  exact Ev.now _
theorem implJoin_ev (a b : List S44) (ha : a.length ≤ 9223372036854775807) (hb : b.length ≤ 9223372036854775807) : Ev (fun k => impl_JoinWays.f k a b) (joinAns a b) := by
 simp only [impl_JoinWays.f]
 refine Ev.bind (isWay_ev a ha) ?_
 unfold joinAns
 by_cases h1 : okWay a = true
 ·refine Ev.ite_pos h1 (Ev.bind (isWay_ev b hb) ?_)
  by_cases h2 : okWay b = true
  ·refine Ev.ite_pos h2 ?_
   have k1 := okWay_len h1
   have k2 := okWay_len h2
   have hw : wrap64 ((a.length : Int) + (b.length : Int)) = (a.length : Int) + (b.length : Int) := wrap_id (by omega) (by omega)
   rw [hw]
   by_cases h3 : a.length + b.length ≤ 12
   ·rw [if_pos ((okWay_append a b).2 ⟨h1, h2, h3⟩)]
    exact Ev.ite_neg (by omega) (Ev.ite_pos (by omega) (Ev.now _))
   ·rw [if_neg (fun h => h3 ((okWay_append a b).1 h).2.2)]
    exact Ev.ite_pos (by omega) (Ev.now _)
  ·rw [if_neg (fun h => h2 ((okWay_append a b).1 h).2.1)]
   exact Ev.ite_neg h2 (Ev.now _)
 ·rw [if_neg (fun h => h1 ((okWay_append a b).1 h).1)]
  exact Ev.ite_neg h1 (Ev.now _)
end Go.Proofs.YtmbpdegkkdcjnaaDoor.Pure
