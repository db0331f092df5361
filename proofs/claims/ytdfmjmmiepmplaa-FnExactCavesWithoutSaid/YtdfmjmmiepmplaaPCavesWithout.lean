/- The caves without an entrance: both answers. -/
import Derived.Test.YtdfmjmmiepmplaaMBx6
import Derived.Test.YtdfmjmmiepmplaaMBx9
import Derived.Test.YtdfmjmmiepmplaaPCavesSz
import Derived.Test.YtdfmjmmiepmplaaPEnts
namespace Go.Proofs.Ytdfmjmmiepmplaa.Pure
open Go.RowKit Go.Proofs.Ytdfmjmmiepmplaa.MB Go.Proofs.YtdfmjmmiepmplaaW.PrintWords Go.Proofs.YtdfmjmmiepmplaaW.PrintLast Go.Proofs.YtdfmjmmiepmplaaW.PrintMore
set_option linter.unusedVariables false
set_option linter.unusedSimpArgs false
theorem specCW_inner {ents : List Int} (he : ents.length ≤ 1048576) {all : List (List Int)} {x : Nat} (hx : x < all.length) (hrow : all[x].length ≤ 1048576) (out : List (List Int)) (r : List (List Int) × Bool) : ∀ d i (b : Bool), i + d = ents.length →
    Ev (fun k => spec_CavesWithout.l1 k ents out all (x : Int) (b || (ents.drop i).any (fun s => decide (s ∈ all[x]))) (ents.length : Int)) r → Ev (fun k => spec_CavesWithout.l1 k ents out all (x : Int) b (i : Int)) r := by
  intro d
  induction d with
  | zero =>
    intro i b hi h
    obtain rfl : i = ents.length := by omega
    rw [List.drop_length, List.any_nil, Bool.or_false] at h
    exact h
  | succ d ih =>
    intro i b hi h
    have hil : i < ents.length := by omega
    have hwr : wrap64 ((i : Int) + 1) = ((i + 1 : Nat) : Int) := by unfold wrap64; omega
    rw [List.drop_eq_getElem_cons hil, List.any_cons] at h
    cases b with
    | true =>
      refine Ev.step (fun k => ?_) (ih (i + 1) true (by omega) (by simpa using h))
      simp only [spec_CavesWithout.l1, hwr]
      rw [if_pos (by omega), if_pos trivial]
    | false =>
      have hr : rd_L3 all (x : Int) = all[x] := rdSS all x hx
      refine Ev.step (f := fun k => (spec_l1Has.f k all[x] ents[i]).bind fun t => spec_CavesWithout.l1 k ents out all (x : Int) t ((i + 1 : Nat) : Int)) (fun k => ?_) (Ev.bind (l1Has_ev hrow) (ih (i + 1) _ (by omega) (by simpa using h)))
      simp only [spec_CavesWithout.l1, hr, rd_nat, getD_lt _ _ _ hil, hwr]
      rw [if_pos (by omega), if_neg (by decide), if_pos (by omega), if_pos (by omega), if_pos (by omega)]
theorem specCW_outer {ents : List Int} (he : ents.length ≤ 1048576) {all : List (List Int)} (h8 : all.length ≤ 1000) (hrow : ∀ c ∈ all, c.length ≤ 1048576) : ∀ d x (out : List (List Int)), x + d = all.length → out.length ≤ x →
    Ev (fun k => spec_CavesWithout.l0 k ents out all (x : Int)) (out ++ (all.drop x).filter (closedB ents), true) := by
  intro d
  induction d with
  | zero =>
    intro x out hx _
    rw [List.drop_eq_nil_of_le (by omega), List.filter_nil, List.append_nil]
    refine Ev.step (f := fun _ => some (out, true)) (fun k => ?_) (Ev.now _)
    simp only [spec_CavesWithout.l0]
    rw [if_neg (by omega)]
  | succ d ih =>
    intro x out hx ho
    have hxl : x < all.length := by omega
    have hwr : wrap64 ((x : Int) + 1) = ((x + 1 : Nat) : Int) := by unfold wrap64; omega
    have hr : rd_L3 all (x : Int) = all[x] := rdSS all x hxl
    rw [List.drop_eq_getElem_cons hxl, List.filter_cons]
    refine Ev.step (f := fun k => spec_CavesWithout.l1 k ents out all (x : Int) false ((0 : Nat) : Int)) (fun k => ?_) (specCW_inner he hxl (hrow _ (List.getElem_mem hxl)) out _ ents.length 0 false (by omega) ?_)
    · simp only [spec_CavesWithout.l0]
      rw [if_pos (by omega)]
      rfl
    · rw [List.drop_zero, Bool.false_or]
      cases hb : ents.any (fun s => decide (s ∈ all[x])) with
      | true =>
        have hc : closedB ents all[x] = false := by unfold closedB; rw [hb]; rfl
        rw [hc, if_neg (by decide)]
        refine Ev.step (fun k => ?_) (ih (x + 1) out (by omega) (by omega))
        simp only [spec_CavesWithout.l1, hwr]
        rw [if_neg (by omega), if_pos trivial]
      | false =>
        have hc : closedB ents all[x] = true := by unfold closedB; rw [hb]; rfl
        rw [hc, if_pos rfl, List.append_cons]
        refine Ev.step (fun k => ?_) (ih (x + 1) (out ++ [all[x]]) (by omega) (by simp; omega))
        simp only [spec_CavesWithout.l1, hr, hwr]
        rw [if_neg (by omega), if_neg (by decide), if_pos (by omega), if_pos (by omega), if_pos (by omega)]
def withoutAns (l : List S69) (e : List Int) : List (List Int) × Bool := if okLegs l = true ∧ okEnts e = true then ((cavesOf l).filter (closedB e), true) else ([], false)
theorem implCW_ev (l : List S69) (e : List Int) (hm : l.length ≤ 9223372036854775807) (he : e.length ≤ 1048576) : Ev (fun k => impl_CavesWithout.f k l e) (withoutAns l e) := by
  simp only [impl_CavesWithout.f]
  refine Ev.bind (areEnts_ev l e hm he) ?_
  by_cases h : okLegs l = true ∧ okEnts e = true
  · rw [show withoutAns l e = _ from if_pos h]
    refine Ev.ite_pos (by simp [h.1, h.2]) (Ev.bind (implCaves_ev h.1) (Ev.ite_pos (by have := (caves_size h.1).2; omega) (Ev.now _)))
  · rw [show withoutAns l e = _ from if_neg h]
    exact Ev.ite_neg (by simpa using h) (Ev.now _)
theorem specCW_ev (l : List S69) (e : List Int) (hm : l.length ≤ 9223372036854775807) (he : e.length ≤ 1048576) : Ev (fun k => spec_CavesWithout.f k l e) (withoutAns l e) := by
  simp only [spec_CavesWithout.f, Option.bind_some]
  refine Ev.bind (asked_ev l e hm he) ?_
  by_cases h : okLegs l = true ∧ okEnts e = true
  · rw [show withoutAns l e = _ from if_pos h]
    have h8 := caves_size h.1
    have := specCW_outer he (all := cavesOf l) (by omega) (fun c hc => by have := sizeSS_row hc; omega) (cavesOf l).length 0 [] (by omega) (by simp)
    rw [List.drop_zero, List.nil_append] at this
    exact Ev.ite_pos (by simp [h.1, h.2]) (Ev.bind (specCaves_ev h.1) this)
  · rw [show withoutAns l e = _ from if_neg h]
    exact Ev.ite_neg (by simpa using h) (Ev.now _)
theorem sizeSS_filter (p : List Int → Bool) : ∀ l : List (List Int), sizeSS (l.filter p) ≤ sizeSS l
  | [] => by simp [sizeSS]
  | c :: l => by
    have := sizeSS_filter p l
    rw [List.filter_cons]
    split
    · simp only [sizeSS]; omega
    · simp only [sizeSS]; omega
theorem withoutAns_len (l : List S69) (e : List Int) : sizeSS (withoutAns l e).1 ≤ 64 ∧ (withoutAns l e).1.length ≤ 8 := by
  unfold withoutAns
  split
  · rename_i h
    have h8 := caves_size h.1
    have h1 := sizeSS_filter (closedB e) (cavesOf l)
    have h2 := List.length_filter_le (closedB e) (cavesOf l)
    simp only
    omega
  · exact ⟨by simp [sizeSS], by simp⟩
end Go.Proofs.Ytdfmjmmiepmplaa.Pure
