/- A way the other way round: the program's answer. -/
import Derived.Test.YtmbpdegkkdcjnaaDoorMWx5
import Derived.Test.YtmbpdegkkdcjnaaDoorPRuns
namespace Go.Proofs.YtmbpdegkkdcjnaaDoor.Pure
open Go.RowKit Go.Proofs.YtmbpdegkkdcjnaaDoor.MW Go.Proofs.YtmbpdegkkdcjnaaDoorW.PrintWords Go.Proofs.YtmbpdegkkdcjnaaDoorW.PrintLast Go.Proofs.YtmbpdegkkdcjnaaDoorW.PrintMore
set_option linter.unusedVariables false
set_option linter.unusedSimpArgs false
def turnRun (x : S44) : S44 := ⟨x.f0, wrap64 (-x.f1)⟩
def revAns (l : List S44) : List S44 × Bool := if okWay l = true then (l.reverse.map turnRun, true) else ([], false)
theorem revAns_len (l : List S44) : (revAns l).1.length ≤ 100 := by
 unfold revAns
 split
 ·rename_i h
  have := okWay_len h
  simp only [List.length_map, List.length_reverse]
  omega
 ·simp
theorem implRev_ev (l : List S44) (hm : l.length ≤ 9223372036854775807) : Ev (fun k => impl_ReverseWay.f k l) (revAns l) := by
 simp only [impl_ReverseWay.f]
 refine Ev.bind (isWay_ev l hm) ?_
 by_cases h : okWay l = true
 ·have h12 := okWay_len h
  have e : revAns l = (l.reverse.map turnRun, true) := if_pos h
  rw [e]
  exact Ev.ite_pos h (Ev.ite_pos (by omega) (Ev.now _))
 ·have e : revAns l = ([], false) := if_neg h
  rw [e]
  exact Ev.ite_neg h (Ev.now _)
end Go.Proofs.YtmbpdegkkdcjnaaDoor.Pure
