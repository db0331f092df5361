/- The longest cave: the program's and the reference's answer. -/
import Derived.Test.YtdfmjmmiepmplaaMLx5
import Derived.Test.YtdfmjmmiepmplaaMLx7
import Derived.Test.YtdfmjmmiepmplaaPCavesOf
namespace Go.Proofs.Ytdfmjmmiepmplaa.Pure
open Go.RowKit Go.Proofs.Ytdfmjmmiepmplaa.ML Go.Proofs.YtdfmjmmiepmplaaW.PrintWords Go.Proofs.YtdfmjmmiepmplaaW.PrintLast Go.Proofs.YtdfmjmmiepmplaaW.PrintMore
set_option linter.unusedVariables false
set_option linter.unusedSimpArgs false
theorem lengthFrom_pos {l : List S69} (hl : okLegs l = true) (B : List Bool) : ∀ d i (s : Int), i + d = l.length → 0 ≤ s → s ≤ 500 * i → s ≤ lengthFrom l B d i s ∧ ((∃ j, i ≤ j ∧ j < l.length ∧ B.getD (fromOf l j).toNat false = true) → 1 ≤ lengthFrom l B d i s) := by
  have h12 := okLegs_len hl
  intro d
  induction d with
  | zero =>
    intro i s hi h0 h1
    exact ⟨by simp [lengthFrom], fun ⟨j, h2, h3, _⟩ => by omega⟩
  | succ d ih =>
    intro i s hi h0 h1
    have hil : i < l.length := by omega
    have hs := okLeg_says (okLegs_at hl hil)
    simp only [lengthFrom]
    rw [show (l.getD i z69).f0 = fromOf l i from rfl]
    by_cases hb : B.getD (fromOf l i).toNat false = true
    · rw [if_pos hb]
      have hw : wrap64 (s + (l.getD i z69).f2) = s + (l.getD i z69).f2 := by unfold wrap64; omega
      rw [hw]
      have := ih (i + 1) (s + (l.getD i z69).f2) (by omega) (by omega) (by omega)
      exact ⟨by omega, fun _ => by omega⟩
    · rw [if_neg hb]
      have := ih (i + 1) s (by omega) h0 (by omega)
      refine ⟨this.1, fun ⟨j, h2, h3, h4⟩ => this.2 ⟨j, ?_, h3, h4⟩⟩
      by_cases he : j = i
      · subst he; exact absurd h4 hb
      · omega
theorem lengthOf_pos {l : List S69} (hl : okLegs l = true) {a : Int} (ha : 0 ≤ a ∧ a < 8) (hu : usedB l a = true) : 1 ≤ lengthOf l a := by
  obtain ⟨i, hi, h⟩ := used_iff.1 hu
  refine (lengthFrom_pos hl _ l.length 0 0 (by omega) (by omega) (by omega)).2 ⟨i, by omega, hi, ?_⟩
  rw [arrL_get (ends_in hl i hi).1, decide_eq_true_eq]
  rcases h with h | h
  · rw [h]; exact caveOf_self l a
  · rw [caveOf_closed l a hi, h]; exact caveOf_self l a
def longStep (l : List S69) (p : Int × Int) (c : List Int) : Int × Int := if lengthOf l (rd c 0) > p.2 then (rd c 0, lengthOf l (rd c 0)) else p
def longestAns (l : List S69) : Int × Int × Bool := if okLegs l = true ∧ l ≠ [] then (((cavesOf l).foldl (longStep l) (0, 0)).1, ((cavesOf l).foldl (longStep l) (0, 0)).2, true) else (0, 0, false)
theorem caves_first {l : List S69} (hl : okLegs l = true) : ∀ c ∈ cavesOf l, (0 ≤ rd c 0 ∧ rd c 0 < 8) ∧ 0 < c.length ∧ 1 ≤ lengthOf l (rd c 0) := by
  intro c hc
  obtain ⟨t, h0, h1, ht, rfl⟩ := (cavesOf_told l).some_ c hc
  unfold takes at ht
  rw [Bool.and_eq_true, decide_eq_true_eq] at ht
  rw [ht.2]
  refine ⟨⟨h0, h1⟩, ?_, lengthOf_pos hl ⟨h0, h1⟩ ht.1⟩
  have := caveOf_self l t
  cases hc : caveOf l t with
  | nil => rw [hc] at this; simp at this
  | cons y o => simp
theorem caves_len {l : List S69} : (cavesOf l).length ≤ 8 := (cavesOf_told l).len
theorem implLong_loop {l : List S69} (hl : okLegs l = true) (cs : List (List Int)) (hcs : ∀ c ∈ cs, (0 ≤ rd c 0 ∧ rd c 0 < 8) ∧ 0 < c.length) (h8 : cs.length ≤ 8) : ∀ d i (p : Int × Int), i + d = cs.length →
    Ev (fun k => impl_LongestCave.l0 k l p.1 p.2 cs (cs.length : Int) (i : Int)) (((cs.drop i).foldl (longStep l) p).1, ((cs.drop i).foldl (longStep l) p).2, decide (((cs.drop i).foldl (longStep l) p).2 > 0)) := by
  intro d
  induction d with
  | zero =>
    intro i p hi
    rw [List.drop_eq_nil_of_le (by omega)]
    refine Ev.step (f := fun _ => some (p.1, p.2, decide (p.2 > 0))) (fun k => ?_) (Ev.now _)
    simp only [impl_LongestCave.l0]
    rw [if_neg (by omega)]
  | succ d ih =>
    intro i p hi
    have hil : i < cs.length := by omega
    have hwr : wrap64 ((i : Int) + 1) = ((i + 1 : Nat) : Int) := by unfold wrap64; omega
    have hr : rd_L3 cs (i : Int) = cs[i] := by simp [rd_L3, List.getD_eq_getElem?_getD, List.getElem?_eq_getElem hil]
    have hc := hcs _ (List.getElem_mem hil)
    have hn := ih (i + 1) (longStep l p cs[i]) (by omega)
    rw [List.drop_eq_getElem_cons hil, List.foldl_cons]
    refine Ev.step (fun k => ?_) hn
    simp only [impl_LongestCave.l0, hr, hwr, implLength_eq hl hc.1, Option.bind_some]
    rw [if_pos (by omega), if_pos (by omega), if_pos (by omega), if_pos (by omega)]
    unfold longStep
    split <;> rfl
theorem specLong_loop {l : List S69} (hl : okLegs l = true) (cs : List (List Int)) (hcs : ∀ c ∈ cs, (0 ≤ rd c 0 ∧ rd c 0 < 8) ∧ 0 < c.length) (h8 : cs.length ≤ 8) : ∀ d i (p : Int × Int), i + d = cs.length →
    Ev (fun k => spec_LongestCave.l0 k l cs p.1 p.2 (i : Int)) (((cs.drop i).foldl (longStep l) p).1, ((cs.drop i).foldl (longStep l) p).2, true) := by
  intro d
  induction d with
  | zero =>
    intro i p hi
    rw [List.drop_eq_nil_of_le (by omega)]
    refine Ev.step (f := fun _ => some (p.1, p.2, true)) (fun k => ?_) (Ev.now _)
    simp only [spec_LongestCave.l0]
    rw [if_neg (by omega)]
  | succ d ih =>
    intro i p hi
    have hil : i < cs.length := by omega
    have hwr : wrap64 ((i : Int) + 1) = ((i + 1 : Nat) : Int) := by unfold wrap64; omega
    have hr : rd_L3 cs (i : Int) = cs[i] := by simp [rd_L3, List.getD_eq_getElem?_getD, List.getElem?_eq_getElem hil]
    have hc := hcs _ (List.getElem_mem hil)
    have hn := ih (i + 1) (longStep l p cs[i]) (by omega)
    rw [List.drop_eq_getElem_cons hil, List.foldl_cons]
    refine Ev.step (f := fun k => (spec_l17Length.f k l (rd cs[i] 0)).bind fun t204 => (if t204 > p.2 then (spec_LongestCave.l0 k l cs (rd cs[i] 0) t204 ((i + 1 : Nat) : Int)) else (spec_LongestCave.l0 k l cs p.1 p.2 ((i + 1 : Nat) : Int)))) (fun k => ?_) (Ev.bind (specLength_ev hl hc.1) ?_)
    · simp only [spec_LongestCave.l0, hr, hwr]
      rw [if_pos (by omega), if_pos (by omega), if_pos (by omega)]
    · unfold longStep at hn
      by_cases h : lengthOf l (rd cs[i] 0) > p.2
      · rw [if_pos h] at hn
        unfold longStep
        rw [if_pos h]
        exact Ev.ite_pos h hn
      · rw [if_neg h] at hn
        unfold longStep
        rw [if_neg h]
        exact Ev.ite_neg h hn
theorem caves_some {l : List S69} (hl : okLegs l = true) (hne : l ≠ []) : cavesOf l ≠ [] := by
  have hpos : 0 < l.length := List.length_pos_iff.2 hne
  have he := ends_in hl 0 hpos
  obtain ⟨t, h0, h1, ht, _⟩ := first_of hl he.1 (used_iff.2 ⟨0, hpos, .inl rfl⟩)
  have := (cavesOf_told l).all_ t h0 (by omega) ht
  intro h
  rw [h] at this
  simp at this
theorem long_mono {l : List S69} : ∀ (cs : List (List Int)) (p : Int × Int), p.2 ≤ (cs.foldl (longStep l) p).2
  | [], _ => by simp
  | c :: cs, p => by
    rw [List.foldl_cons]
    refine Int.le_trans ?_ (long_mono cs _)
    unfold longStep
    split
    · simp only; omega
    · omega
theorem long_start {l : List S69} (hl : okLegs l = true) (hne : l ≠ []) : (cavesOf l).foldl (longStep l) (0, -1) = (cavesOf l).foldl (longStep l) (0, 0) ∧ 1 ≤ ((cavesOf l).foldl (longStep l) (0, 0)).2 := by
  have h1 := caves_some hl hne
  have h2 := caves_first hl
  generalize cavesOf l = cs at h1 h2
  cases cs with
  | nil => exact absurd rfl h1
  | cons c cs =>
    have h := (h2 c List.mem_cons_self).2.2
    have e1 : longStep l (0, -1) c = (rd c 0, lengthOf l (rd c 0)) := by unfold longStep; rw [if_pos (by simp only; omega)]
    have e2 : longStep l (0, 0) c = (rd c 0, lengthOf l (rd c 0)) := by unfold longStep; rw [if_pos (by simp only; omega)]
    rw [List.foldl_cons, List.foldl_cons, e1, e2]
    refine ⟨rfl, Int.le_trans ?_ (long_mono cs _)⟩
    exact h
theorem implLongest_ev (l : List S69) (hm : l.length ≤ 9223372036854775807) : Ev (fun k => impl_LongestCave.f k l) (longestAns l) := by
  simp only [impl_LongestCave.f]
  refine Ev.bind (areLegs_ev l hm) ?_
  by_cases h : okLegs l = true
  · refine Ev.ite_pos h (Ev.bind (implCaves_ev h) ?_)
    have hL := implLong_loop h (cavesOf l) (fun c hc => ⟨(caves_first h c hc).1, (caves_first h c hc).2.1⟩) caves_len (cavesOf l).length 0 (0, 0) (by omega)
    rw [List.drop_zero] at hL
    by_cases hne : l = []
    · subst hne
      have e : longestAns ([] : List S69) = (0, 0, false) := if_neg (fun hh => hh.2 rfl)
      have ec : cavesOf ([] : List S69) = [] := by
        cases hc : cavesOf ([] : List S69) with
        | nil => rfl
        | cons c cs =>
          obtain ⟨t, _, _, ht, _⟩ := (cavesOf_told ([] : List S69)).some_ c (by rw [hc]; exact List.mem_cons_self)
          unfold takes at ht
          rw [Bool.and_eq_true] at ht
          obtain ⟨i, hi, _⟩ := used_iff.1 ht.1
          simp at hi
      rw [e]
      rw [ec] at hL ⊢
      simpa using hL
    · have e : longestAns l = _ := if_pos ⟨h, hne⟩
      have hs := (long_start h hne).2
      rw [e]
      rw [decide_eq_true (show ((cavesOf l).foldl (longStep l) (0, 0)).2 > 0 by omega)] at hL
      exact hL
  · rw [show longestAns l = (0, 0, false) from if_neg (fun hh => h hh.1)]
    exact Ev.ite_neg h (Ev.now _)
theorem specLongest_ev (l : List S69) (hm : l.length ≤ 9223372036854775807) : Ev (fun k => spec_LongestCave.f k l) (longestAns l) := by
  have hno : Ev (fun k => spec_LongestCave.j0 k l true) (0, 0, false) := Ev.step (f := fun _ => some (0, 0, false)) (fun k => by rw [spec_LongestCave.j0, if_pos rfl]) (Ev.now _)
  simp only [spec_LongestCave.f]
  refine Ev.bind (l4Legs_ev l hm) ?_
  by_cases h : okLegs l = true
  · refine Ev.ite_pos h ?_
    by_cases hne : l = []
    · subst hne
      rw [show longestAns ([] : List S69) = (0, 0, false) from if_neg (fun hh => hh.2 rfl)]
      exact hno
    · have e : longestAns l = _ := if_pos ⟨h, hne⟩
      have hpos : 0 < l.length := List.length_pos_iff.2 hne
      have hL := specLong_loop h (cavesOf l) (fun c hc => ⟨(caves_first h c hc).1, (caves_first h c hc).2.1⟩) caves_len (cavesOf l).length 0 (0, -1) (by omega)
      rw [List.drop_zero, (long_start h hne).1] at hL
      rw [e, show ((l.length : Int) == 0) = false from beq_eq_false_iff_ne.2 (by omega)]
      exact Ev.step (f := fun k => (spec_l17Caves.f k l).bind fun t199 => spec_LongestCave.l0 k l t199 0 (-1) 0) (fun k => by rw [spec_LongestCave.j0, if_neg (by decide)]) (Ev.bind (specCaves_ev h) hL)
  · rw [show longestAns l = (0, 0, false) from if_neg (fun hh => h hh.1)]
    exact Ev.ite_neg h hno
end Go.Proofs.Ytdfmjmmiepmplaa.Pure
