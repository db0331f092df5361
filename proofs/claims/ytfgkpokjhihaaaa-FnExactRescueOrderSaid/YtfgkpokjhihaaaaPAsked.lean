/- Legs, widths and two stations: both checks. -/
import Derived.Test.YtfgkpokjhihaaaaMRx7
import Derived.Test.YtfgkpokjhihaaaaMRx3
import Derived.Test.YtfgkpokjhihaaaaPWidths
namespace Go.Proofs.Ytfgkpokjhihaaaa.Pure
open Go.RowKit Go.Proofs.Ytfgkpokjhihaaaa.MR Go.Proofs.YtfgkpokjhihaaaaW.PrintWords Go.Proofs.YtfgkpokjhihaaaaW.PrintLast Go.Proofs.YtfgkpokjhihaaaaW.PrintMore
set_option linter.unusedVariables false
set_option linter.unusedSimpArgs false
def okAsked (l : List S66) (ws : List Int) (a b : Int) : Bool := okWidths l ws && (decide (0 ≤ a ∧ a ≤ 7) && decide (0 ≤ b ∧ b ≤ 7))
theorem areEnds_ev (l : List S66) (ws : List Int) (a b : Int) (hm : l.length ≤ 9223372036854775807) : Ev (fun k => impl_areEnds.f k l ws a b) (okAsked l ws a b) := by
 simp only [impl_areEnds.f, impl_isStation.f, within_eq, Option.bind_some]
 refine Ev.bind (areWidths_ev l ws hm) ?_
 unfold okAsked
 cases okWidths l ws with
 | false => exact Ev.ite_neg (by decide) (Ev.now _)
 | true =>
  refine Ev.ite_pos rfl ?_
  cases decide (0 ≤ a ∧ a ≤ 7) with
  | false => exact Ev.ite_neg (by decide) (Ev.now _)
  | true => exact Ev.ite_pos rfl (Ev.now _)
theorem l15Asked_ev (l : List S66) (ws : List Int) (a b : Int) (hm : l.length ≤ 9223372036854775807) (hw : ws.length ≤ 9223372036854775807) : Ev (fun k => spec_l15Asked.f k l ws a b) (okAsked l ws a b) := by
 simp only [spec_l15Asked.f, spec_l4Station.f, l1In_eq, Option.bind_some]
 refine Ev.bind (l15Good_ev l ws hm hw) ?_
 unfold okAsked
 cases okWidths l ws with
 | false => exact Ev.ite_neg (by decide) (Ev.now _)
 | true =>
  refine Ev.ite_pos rfl ?_
  cases decide (0 ≤ a ∧ a ≤ 7) with
  | false => exact Ev.ite_neg (by decide) (Ev.now _)
  | true => exact Ev.ite_pos rfl (Ev.now _)
theorem okAsked_says {l : List S66} {ws : List Int} {a b : Int} (h : okAsked l ws a b = true) : okWidths l ws = true ∧ (0 ≤ a ∧ a ≤ 7) ∧ (0 ≤ b ∧ b ≤ 7) := by
 simpa only [okAsked, Bool.and_eq_true, decide_eq_true_eq] using h
end Go.Proofs.Ytfgkpokjhihaaaa.Pure
