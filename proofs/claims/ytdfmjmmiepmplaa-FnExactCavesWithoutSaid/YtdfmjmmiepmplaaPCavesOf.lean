/- All caves: the program's list and the reference's are one. -/
import Derived.Test.YtdfmjmmiepmplaaMBx8
import Derived.Test.YtdfmjmmiepmplaaMBx5
import Derived.Test.YtdfmjmmiepmplaaPCaves
import Derived.Test.YtdfmjmmiepmplaaPLegsAt
namespace Go.Proofs.Ytdfmjmmiepmplaa.Pure
open Go.RowKit Go.Proofs.Ytdfmjmmiepmplaa.MB Go.Proofs.YtdfmjmmiepmplaaW.PrintWords Go.Proofs.YtdfmjmmiepmplaaW.PrintLast Go.Proofs.YtdfmjmmiepmplaaW.PrintMore
set_option linter.unusedVariables false
set_option linter.unusedSimpArgs false
theorem caveOf_used {l : List S69} {a z : Int} (h : z ∈ caveOf l a) : z = a ∨ usedB l z = true := by
  refine passes_least (P := fun z => z = a ∨ usedB l z = true) (fun i hi _ => ?_) _ [a] (fun z hz => by simp at hz; exact .inl hz) z h
  have h1 : usedB l (fromOf l i) = true := used_iff.2 ⟨i, hi, .inl rfl⟩
  have h2 : usedB l (toOf l i) = true := used_iff.2 ⟨i, hi, .inr rfl⟩
  exact ⟨fun _ => .inr h2, fun _ => .inr h1⟩
/-- A cave is told at its first station. -/
def takes (l : List S69) (s : Int) : Bool := usedB l s && decide (rd (caveOf l s) 0 = s)
def cavesFrom (l : List S69) : Nat → Int → List (List Int) → List (List Int)
  | 0, _, all => all
  | d + 1, s, all => cavesFrom l d (s + 1) (if takes l s = true then all ++ [caveOf l s] else all)
def cavesOf (l : List S69) : List (List Int) := cavesFrom l 8 0 []
structure Told (l : List S69) (x : Int) (all : List (List Int)) : Prop where
  some_ : ∀ c ∈ all, ∃ t, 0 ≤ t ∧ t < x ∧ takes l t = true ∧ c = caveOf l t
  all_ : ∀ t, 0 ≤ t → t < x → takes l t = true → caveOf l t ∈ all
  len : all.length ≤ x.toNat
theorem Told.none_ (l : List S69) : Told l 0 [] := ⟨fun c hc => by simp at hc, fun t h0 h1 => by omega, by simp⟩
theorem Told.step {l : List S69} {x : Int} {all : List (List Int)} (h : Told l x all) (h0 : 0 ≤ x) : Told l (x + 1) (if takes l x = true then all ++ [caveOf l x] else all) := by
  by_cases ht : takes l x = true
  · rw [if_pos ht]
    refine ⟨fun c hc => ?_, fun t ht0 ht1 htt => ?_, ?_⟩
    · rcases List.mem_append.1 hc with hc | hc
      · obtain ⟨t, a, b, c', e⟩ := h.some_ c hc
        exact ⟨t, a, by omega, c', e⟩
      · rw [List.mem_singleton] at hc
        exact ⟨x, h0, by omega, ht, hc⟩
    · by_cases he : t = x
      · subst he
        exact List.mem_append.2 (.inr (by simp))
      · exact List.mem_append.2 (.inl (h.all_ t ht0 (by omega) htt))
    · have := h.len
      rw [List.length_append, List.length_singleton]
      omega
  · rw [if_neg ht]
    refine ⟨fun c hc => ?_, fun t ht0 ht1 htt => ?_, ?_⟩
    · obtain ⟨t, a, b, c', e⟩ := h.some_ c hc
      exact ⟨t, a, by omega, c', e⟩
    · by_cases he : t = x
      · subst he
        exact absurd htt ht
      · exact h.all_ t ht0 (by omega) htt
    · have := h.len
      omega
/-- The first station of a cave is used where any of its stations is. -/
theorem first_of {l : List S69} (hl : okLegs l = true) {x : Int} (hx : 0 ≤ x ∧ x < 8) (hu : usedB l x = true) : ∃ t, 0 ≤ t ∧ t ≤ x ∧ takes l t = true ∧ x ∈ caveOf l t ∧ caveOf l t = caveOf l x := by
  have g := caveOf_good hl hx
  have hs := caveOf_self l x
  obtain ⟨t, o, e⟩ : ∃ t o, caveOf l x = t :: o := by
    cases hc : caveOf l x with
    | nil => rw [hc] at hs; simp at hs
    | cons t o => exact ⟨t, o, rfl⟩
  have ht : t ∈ caveOf l x := by rw [e]; exact List.mem_cons_self
  have ht8 := g.2 t ht
  have hle : t ≤ x := by
    have hp := g.1
    rw [e, List.pairwise_cons] at hp
    rw [e] at hs
    rcases List.mem_cons.1 hs with rfl | h
    · omega
    · have := hp.1 x h
      omega
  have heq := caveOf_eq hl hx ht8 ht
  refine ⟨t, ht8.1, hle, ?_, caveOf_symm ht, heq⟩
  unfold takes
  rw [Bool.and_eq_true, decide_eq_true_eq]
  refine ⟨?_, by rw [heq, e]; rfl⟩
  rcases caveOf_used ht with h | h
  · rw [h]; exact hu
  · exact h
theorem told_any {l : List S69} (hl : okLegs l = true) {x : Int} (hx : 0 ≤ x ∧ x < 8) (hu : usedB l x = true) {all : List (List Int)} (h : Told l x all) : all.any (fun c => decide (x ∈ c)) = !takes l x := by
  rw [Bool.eq_iff_iff, List.any_eq_true]
  constructor
  · rintro ⟨c, hc, hxc⟩
    obtain ⟨t, h0, h1, ht, rfl⟩ := h.some_ c hc
    have hxc : x ∈ caveOf l t := by simpa using hxc
    cases hk : takes l x with
    | false => rfl
    | true =>
      unfold takes at hk
      rw [Bool.and_eq_true, decide_eq_true_eq] at hk
      exact absurd hxc ((caveOf_first hl hx).1 hk.2 t h0 h1)
  · intro hk
    have hk : takes l x = false := by simpa using hk
    obtain ⟨t, h0, h1, ht, hm, _⟩ := first_of hl hx hu
    by_cases he : t = x
    · subst he
      rw [ht] at hk
      cases hk
    · exact ⟨caveOf l t, h.all_ t h0 (by omega) ht, by simpa using hm⟩
theorem implCaves_go {l : List S69} (hl : okLegs l = true) : ∀ (d : Nat) (x : Int) (all : List (List Int)), 0 ≤ x → x + d = 8 → Told l x all → Ev (fun k => impl_caves.go k l d x all) (cavesFrom l d x all) := by
  intro d
  induction d with
  | zero =>
    intro x all _ _ _
    simp only [impl_caves.go, cavesFrom]
    exact Ev.now _
  | succ d ih =>
    intro x all h0 hd ht
    have hx : 0 ≤ x ∧ x < 8 := by omega
    have hn := ih (x + 1) _ (by omega) (by omega) (ht.step h0)
    simp only [impl_caves.go, cavesFrom]
    refine Ev.bind (legsAt_ev (okLegs_len hl) x) ?_
    cases hu : usedB l x with
    | false =>
      have e : takes l x = false := by unfold takes; rw [hu]; rfl
      rw [e, if_neg (by decide)] at hn
      rw [e, if_neg (by decide)]
      exact Ev.ite_pos (by have := legsAt_none.2 hu; omega) hn
    | true =>
      refine Ev.ite_neg (fun h => ?_) ?_
      · rw [legsAt_none.1 (by omega)] at hu
        cases hu
      · have ha := told_any hl hx hu ht
        cases hk : takes l x with
        | false =>
          rw [hk, if_neg (by decide)] at hn
          rw [if_neg (by decide)]
          exact Ev.ite_pos (by rw [ha, hk]; rfl) hn
        | true =>
          rw [hk, if_pos rfl] at hn
          rw [if_pos rfl]
          refine Ev.ite_neg (by rw [ha, hk]; decide) (Ev.ite_pos ⟨hangOk_of hl hx, by have := ht.len; omega⟩ ?_)
          rw [hangOf_arr hl hx, memFrom_arr (caveOf_good hl hx)]
          exact hn
theorem implCaves_ev {l : List S69} (hl : okLegs l = true) : Ev (fun k => impl_caves.f k l) (cavesOf l) := implCaves_go hl 8 0 [] (by omega) (by omega) (Told.none_ l)
theorem specCaves_go {l : List S69} (hl : okLegs l = true) : ∀ (d : Nat) (x : Int) (all : List (List Int)), 0 ≤ x → x + d = 8 → Told l x all → Ev (fun k => spec_l17Caves.l0 k l all x) (cavesFrom l d x all) := by
  intro d
  induction d with
  | zero =>
    intro x all _ _ _
    refine Ev.step (f := fun _ => some all) (fun k => ?_) (Ev.now _)
    simp only [spec_l17Caves.l0]
    rw [if_neg (by omega)]
  | succ d ih =>
    intro x all h0 hd ht
    have hx : 0 ≤ x ∧ x < 8 := by omega
    have hn := ih (x + 1) _ (by omega) (by omega) (ht.step h0)
    have hw : wrap64 (x + 1) = x + 1 := by unfold wrap64; omega
    have hpos : 0 < ((caveOf l x).length : Int) := by
      have := caveOf_self l x
      cases hc : caveOf l x with
      | nil => rw [hc] at this; simp at this
      | cons y o => simp
    simp only [cavesFrom]
    refine Ev.step (f := fun k => (spec_l17Cave.f k l x (-1)).bind fun t190 => (spec_l17Used.f k l x).bind fun t193 => (if t193 = true then (if 0 < (t190.length : Int) then (if (rd t190 0) = x then (if all.length < 5864062014805 then (spec_l17Caves.l0 k l (all ++ [t190]) (x + 1)) else (none)) else (spec_l17Caves.l0 k l all (x + 1))) else (none)) else (spec_l17Caves.l0 k l all (x + 1)))) (fun k => ?_) (Ev.bind (specCave_ev hl hx) (Ev.bind (used_ev (okLegs_len hl) x) ?_))
    · simp only [spec_l17Caves.l0, hw]
      rw [if_pos (by omega)]
    · cases hu : usedB l x with
      | false =>
        have e : takes l x = false := by unfold takes; rw [hu]; rfl
        rw [e, if_neg (by decide)] at hn
        rw [e, if_neg (by decide)]
        exact Ev.ite_neg (by decide) hn
      | true =>
        refine Ev.ite_pos rfl (Ev.ite_pos hpos ?_)
        by_cases hf : rd (caveOf l x) 0 = x
        · have e : takes l x = true := by unfold takes; rw [hu, decide_eq_true hf]; rfl
          rw [e, if_pos rfl] at hn
          rw [e, if_pos rfl]
          exact Ev.ite_pos hf (Ev.ite_pos (by have := ht.len; omega) hn)
        · have e : takes l x = false := by unfold takes; rw [hu, decide_eq_false hf]; rfl
          rw [e, if_neg (by decide)] at hn
          rw [e, if_neg (by decide)]
          exact Ev.ite_neg hf hn
theorem specCaves_ev {l : List S69} (hl : okLegs l = true) : Ev (fun k => spec_l17Caves.f k l) (cavesOf l) := specCaves_go hl 8 0 [] (by omega) (by omega) (Told.none_ l)
theorem cavesFrom_told {l : List S69} : ∀ (d : Nat) (x : Int) (all : List (List Int)), 0 ≤ x → Told l x all → Told l (x + d) (cavesFrom l d x all)
  | 0, x, all, _, h => by simpa [cavesFrom] using h
  | d + 1, x, all, h0, h => by
    have := cavesFrom_told d (x + 1) _ (by omega) (h.step h0)
    rw [show x + 1 + (d : Int) = x + ((d + 1 : Nat) : Int) by omega] at this
    exact this
theorem cavesOf_told (l : List S69) : Told l 8 (cavesOf l) := cavesFrom_told 8 0 [] (by omega) (Told.none_ l)
end Go.Proofs.Ytdfmjmmiepmplaa.Pure
