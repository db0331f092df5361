/- Width and length of a route: the program's and the reference's answers. -/
import Derived.Test.YtkjjnfjmnifoiaaMRx5
import Derived.Test.YtkjjnfjmnifoiaaMRx3
import Derived.Test.YtkjjnfjmnifoiaaMRx7
import Derived.Test.YtkjjnfjmnifoiaaPRoute
import Derived.Test.YtkjjnfjmnifoiaaPMnMx
namespace Go.Proofs.Ytkjjnfjmnifoiaa.Pure
open Go.RowKit Go.Proofs.Ytkjjnfjmnifoiaa.MR Go.Proofs.YtkjjnfjmnifoiaaW.PrintWords Go.Proofs.YtkjjnfjmnifoiaaW.PrintLast Go.Proofs.YtkjjnfjmnifoiaaW.PrintMore
def routeWidthAns (l : List S69) (ws r : List Int) : Int × Bool := if isRoute l ws r = true then ((sizeFrom l ws r (r.length - 1) 1 200 0).1, true) else (0, false)
def routeLengthAns (l : List S69) (ws r : List Int) : Int × Bool := if isRoute l ws r = true then ((sizeFrom l ws r (r.length - 1) 1 200 0).2, true) else (0, false)
theorem specRW_ev (l : List S69) (ws r : List Int) (hm : l.length ≤ 9223372036854775807) (hw : ws.length ≤ 9223372036854775807) (hr : r.length ≤ 1048576) : Ev (fun k => spec_RouteWidth.f k l ws r) (routeWidthAns l ws r) := by
  simp only [spec_RouteWidth.f]
  refine Ev.bind (specRoute_ev l ws r hm hw hr) ?_
  by_cases h : isRoute l ws r = true
  · rw [show routeWidthAns l ws r = _ from if_pos h]
    exact Ev.ite_pos h (Ev.bind (specSize_ev hr h) (Ev.now _))
  · rw [show routeWidthAns l ws r = _ from if_neg h]
    exact Ev.ite_neg h (Ev.now _)
theorem specRL_ev (l : List S69) (ws r : List Int) (hm : l.length ≤ 9223372036854775807) (hw : ws.length ≤ 9223372036854775807) (hr : r.length ≤ 1048576) : Ev (fun k => spec_RouteLength.f k l ws r) (routeLengthAns l ws r) := by
  simp only [spec_RouteLength.f]
  refine Ev.bind (specRoute_ev l ws r hm hw hr) ?_
  by_cases h : isRoute l ws r = true
  · rw [show routeLengthAns l ws r = _ from if_pos h]
    exact Ev.ite_pos h (Ev.bind (specSize_ev hr h) (Ev.now _))
  · rw [show routeLengthAns l ws r = _ from if_neg h]
    exact Ev.ite_neg h (Ev.now _)
theorem width_loop {l : List S69} {ws r : List Int} (hr : r.length ≤ 1048576) (h : isRoute l ws r = true) : ∀ d i (w s : Int), i + d = r.length - 1 → Ev (fun k => impl_RouteWidth.l0 k ws w (legsFrom l ws r r.length 0 []) ((r.length - 1 : Nat) : Int) (i : Int)) ((sizeFrom l ws r d (1 + i) w s).1, true) := by
  obtain ⟨h1, h2, h3⟩ := isRoute_says h
  have hn := okWidths_len h1
  have hlen := legs_length l ws r h2
  intro d
  induction d with
  | zero =>
    intro i w s hi
    refine Ev.step (f := fun _ => some (w, true)) (fun k => ?_) (Ev.now _)
    simp only [impl_RouteWidth.l0]
    rw [if_neg (by omega)]
  | succ d ih =>
    intro i w s hi
    have hwr : wrap64 ((i : Int) + 1) = ((i + 1 : Nat) : Int) := by unfold wrap64; omega
    have hv := h3 (1 + i) (by omega) (by omega)
    have hin : viaOf l ws r (1 + i) < (l.length : Int) := by
      have := legOf_in l ws (r.getD (1 + i - 1) 0) (r.getD (1 + i) 0)
      unfold viaOf at hv ⊢
      omega
    simp only [sizeFrom]
    refine Ev.step (fun k => ?_) (ih (i + 1) _ _ (by omega))
    simp only [impl_RouteWidth.l0, legs_at l ws r h2 (show i < r.length - 1 by omega), mn_eq, hwr, hlen]
    rw [if_pos (by omega), if_pos (by omega), if_pos (by omega), if_pos hv, if_pos (by omega)]
theorem length_loop {l : List S69} {ws r : List Int} (hr : r.length ≤ 1048576) (h : isRoute l ws r = true) : ∀ d i (w s : Int), i + d = r.length - 1 → Ev (fun k => impl_RouteLength.l0 k l s (legsFrom l ws r r.length 0 []) ((r.length - 1 : Nat) : Int) (i : Int)) ((sizeFrom l ws r d (1 + i) w s).2, true) := by
  obtain ⟨h1, h2, h3⟩ := isRoute_says h
  have hn := okWidths_len h1
  have hlen := legs_length l ws r h2
  intro d
  induction d with
  | zero =>
    intro i w s hi
    refine Ev.step (f := fun _ => some (s, true)) (fun k => ?_) (Ev.now _)
    simp only [impl_RouteLength.l0]
    rw [if_neg (by omega)]
  | succ d ih =>
    intro i w s hi
    have hwr : wrap64 ((i : Int) + 1) = ((i + 1 : Nat) : Int) := by unfold wrap64; omega
    have hv := h3 (1 + i) (by omega) (by omega)
    have hin : viaOf l ws r (1 + i) < (l.length : Int) := by
      have := legOf_in l ws (r.getD (1 + i - 1) 0) (r.getD (1 + i) 0)
      unfold viaOf at hv ⊢
      omega
    simp only [sizeFrom]
    refine Ev.step (fun k => ?_) (ih (i + 1) (min w (rd ws (viaOf l ws r (1 + i)))) _ (by omega))
    simp only [impl_RouteLength.l0, legs_at l ws r h2 (show i < r.length - 1 by omega), hwr, hlen]
    rw [if_pos (by omega), if_pos (by omega), if_pos (by omega), if_pos hv, if_pos (by omega)]
theorem implRW_ev (l : List S69) (ws r : List Int) (hm : l.length ≤ 9223372036854775807) (hr : r.length ≤ 1048576) : Ev (fun k => impl_RouteWidth.f k l ws r) (routeWidthAns l ws r) := by
  simp only [impl_RouteWidth.f]
  refine Ev.bind (implRoute_ev l ws r hm hr) ?_
  by_cases h : isRoute l ws r = true
  · rw [show routeWidthAns l ws r = _ from if_pos h, if_pos h]
    refine Ev.ite_pos rfl ?_
    have := width_loop hr h (r.length - 1) 0 200 0 (by omega)
    simp only [legs_length l ws r (isRoute_says h).2.1]
    exact this
  · rw [show routeWidthAns l ws r = _ from if_neg h, if_neg h]
    exact Ev.ite_neg (by decide) (Ev.now _)
theorem implRL_ev (l : List S69) (ws r : List Int) (hm : l.length ≤ 9223372036854775807) (hr : r.length ≤ 1048576) : Ev (fun k => impl_RouteLength.f k l ws r) (routeLengthAns l ws r) := by
  simp only [impl_RouteLength.f]
  refine Ev.bind (implRoute_ev l ws r hm hr) ?_
  by_cases h : isRoute l ws r = true
  · rw [show routeLengthAns l ws r = _ from if_pos h, if_pos h]
    refine Ev.ite_pos rfl ?_
    have := length_loop hr h (r.length - 1) 0 200 0 (by omega)
    simp only [legs_length l ws r (isRoute_says h).2.1]
    exact this
  · rw [show routeLengthAns l ws r = _ from if_neg h, if_neg h]
    exact Ev.ite_neg (by decide) (Ev.now _)
end Go.Proofs.Ytkjjnfjmnifoiaa.Pure
