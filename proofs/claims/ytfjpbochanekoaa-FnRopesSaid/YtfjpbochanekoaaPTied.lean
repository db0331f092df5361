/- The tied pair: what both searches find. -/
import Derived.Test.YtfjpbochanekoaaMGx3
import Derived.Test.YtfjpbochanekoaaMGx2
import Derived.Test.YtfjpbochanekoaaPRopes
import Derived.Test.YtfjpbochanekoaaPPitch
namespace Go.Proofs.Ytfjpbochanekoaa.Pure
open Go.RowKit Go.Proofs.Ytfjpbochanekoaa.MG Go.Proofs.YtfjpbochanekoaaW.PrintWords Go.Proofs.YtfjpbochanekoaaW.PrintLast Go.Proofs.YtfjpbochanekoaaW.PrintMore
set_option linter.unusedVariables false
set_option linter.unusedSimpArgs false
/-- (a, b) is the best of the pairs in S: the smallest sum, then the first one; or there is none. -/
def Bst (S : Int → Int → Prop) (g : Int → Int) (n a b : Int) (s : Option Int) : Prop := match s with
  | none => a = 0 ∧ b = 0 ∧ ∀ i k, S i k → g i + g k - 10 < n
  | some s => S a b ∧ g a + g b = s ∧ n ≤ s - 10 ∧ ∀ i k, S i k → n ≤ g i + g k - 10 → s < g i + g k ∨ (s = g i + g k ∧ (a < i ∨ (a = i ∧ b ≤ k)))
theorem Bst.congr {S S' : Int → Int → Prop} {g : Int → Int} {n a b : Int} {s : Option Int} (h : Bst S g n a b s) (hS : ∀ i k, S' i k ↔ S i k) : Bst S' g n a b s := by
  have : S' = S := by funext i k; exact propext (hS i k)
  rwa [this]
theorem Bst.unique {S : Int → Int → Prop} {g : Int → Int} {n a b a' b' : Int} {s s' : Option Int} (h : Bst S g n a b s) (h' : Bst S g n a' b' s') : a = a' ∧ b = b' ∧ s = s' := by
  cases s with
  | none =>
    cases s' with
    | none => exact ⟨h.1.trans h'.1.symm, h.2.1.trans h'.2.1.symm, rfl⟩
    | some s' =>
      have h2 := h.2.2 a' b' h'.1
      have := h'.2.1
      have := h'.2.2.1
      omega
  | some s =>
    cases s' with
    | none =>
      have h2 := h'.2.2 a b h.1
      have := h.2.1
      have := h.2.2.1
      omega
    | some s' =>
      have e1 := h.2.1
      have e2 := h.2.2.1
      have f1 := h'.2.1
      have f2 := h'.2.2.1
      have h2 := h.2.2.2 a' b' h'.1 (by omega)
      have h3 := h'.2.2.2 a b h.1 (by omega)
      have e : s = s' := by omega
      subst e
      exact ⟨by omega, by omega, rfl⟩
/-- A pair that is not long enough is passed over. -/
theorem Bst.skip {S : Int → Int → Prop} {g : Int → Int} {n a b : Int} {s : Option Int} (h : Bst S g n a b s) (x y : Int) (hx : g x + g y - 10 < n) : Bst (fun i k => S i k ∨ (i = x ∧ k = y)) g n a b s := by
  cases s with
  | none =>
    refine ⟨h.1, h.2.1, ?_⟩
    rintro i k (hs | ⟨rfl, rfl⟩)
    · exact h.2.2 i k hs
    · exact hx
  | some s =>
    refine ⟨.inl h.1, h.2.1, h.2.2.1, ?_⟩
    rintro i k (hs | ⟨rfl, rfl⟩) hn
    · exact h.2.2.2 i k hs hn
    · omega
/-- A pair that is no better. -/
theorem Bst.stay {S : Int → Int → Prop} {g : Int → Int} {n a b s : Int} (h : Bst S g n a b (some s)) (x y : Int) (hx : s < g x + g y ∨ (s = g x + g y ∧ (a < x ∨ (a = x ∧ b ≤ y)))) : Bst (fun i k => S i k ∨ (i = x ∧ k = y)) g n a b (some s) := by
  refine ⟨.inl h.1, h.2.1, h.2.2.1, ?_⟩
  rintro i k (hs | ⟨rfl, rfl⟩) hn
  · exact h.2.2.2 i k hs hn
  · exact hx
/-- A better pair. -/
theorem Bst.take {S : Int → Int → Prop} {g : Int → Int} {n a b : Int} {s : Option Int} (h : Bst S g n a b s) (x y : Int) (hn : n ≤ g x + g y - 10) (hx : ∀ s', s = some s' → g x + g y < s' ∨ (g x + g y = s' ∧ (x < a ∨ (x = a ∧ y < b)))) : Bst (fun i k => S i k ∨ (i = x ∧ k = y)) g n x y (some (g x + g y)) := by
  refine ⟨.inr ⟨rfl, rfl⟩, rfl, by omega, ?_⟩
  rintro i k (hs | ⟨rfl, rfl⟩) hik
  · cases s with
    | none =>
      have := h.2.2 i k hs
      omega
    | some s =>
      have h1 := hx s rfl
      have h2 := h.2.2.2 i k hs hik
      omega
  · omega
def pairs (n : Nat) (i k : Int) : Prop := 0 ≤ i ∧ i < k ∧ k < n
/-- The pairs that the reference has seen. -/
def seenS (n : Nat) (x y : Int) (i k : Int) : Prop := pairs n i k ∧ (i < x ∨ (i = x ∧ k < y))
/-- The pairs that the program has seen. -/
def seenI (n : Nat) (x y : Int) (i k : Int) : Prop := pairs n i k ∧ (k < y ∨ (k = y ∧ i < x))
theorem rope_range {l : List Int} (h : okRopes l = true) (x : Int) (h0 : 0 ≤ x) (h1 : x < l.length) : 50 ≤ rd l x ∧ rd l x ≤ 4000 := by
  simp only [okRopes, Bool.and_eq_true, List.all_eq_true] at h
  have hx : x.toNat < l.length := by omega
  have := h.1 l[x.toNat] (List.getElem_mem hx)
  simp only [okRope, decide_eq_true_eq] at this
  simp only [rd, getD_lt _ _ _ hx]
  exact this
theorem spec_tied {l : List Int} (h : okRopes l = true) {d q : Int} (hp : okPitch d q = true) :
    ∃ a b s, Ev (fun k => spec_TiedPair.l0 k l 0 0 (-1) 0 d q) (a, b, decide ((s : Option Int) ≠ none)) ∧ Bst (pairs l.length) (rd l) (needOf d q) a b s := by
  have hm : l.length ≤ 8 := by
    simp only [okRopes, Bool.and_eq_true, decide_eq_true_eq] at h
    exact h.2
  have hn : 55 ≤ needOf d q := by
    simp only [okPitch, Bool.and_eq_true, decide_eq_true_eq] at hp
    unfold needOf
    omega
  have fin1 : ∀ (x : Int), 0 ≤ x → x < l.length →
      (∀ a b s, Bst (seenS l.length (x + 1) 0) (rd l) (needOf d q) a b s → ∃ a' b' s', Ev (fun k => spec_TiedPair.l0 k l a b (s.getD (-1)) (x + 1) d q) (a', b', decide ((s' : Option Int) ≠ none)) ∧ Bst (pairs l.length) (rd l) (needOf d q) a' b' s') →
      ∀ (e : Nat) (y a b : Int) (s : Option Int), x < y → y + e = l.length → Bst (seenS l.length x y) (rd l) (needOf d q) a b s →
      ∃ a' b' s', Ev (fun k => spec_TiedPair.l1 k l a b (s.getD (-1)) x y d q) (a', b', decide ((s' : Option Int) ≠ none)) ∧ Bst (pairs l.length) (rd l) (needOf d q) a' b' s' := by
    intro x hx0 hx1 ih0 e
    induction e with
    | zero =>
      intro y a b s hxy hy hb
      obtain ⟨a', b', s', h1, h2⟩ := ih0 a b s (hb.congr (fun i k => by unfold seenS pairs; omega))
      refine ⟨a', b', s', Ev.step (fun k => ?_) h1, h2⟩
      simp only [spec_TiedPair.l1]
      rw [if_neg (by omega), wrap_id (by omega) (by omega)]
    | succ e ih =>
      intro y a b s hxy hy hb
      have rx := rope_range h x hx0 hx1
      have ry := rope_range h y (by omega) (by omega)
      have hc : ∀ i k, seenS l.length x (y + 1) i k ↔ seenS l.length x y i k ∨ (i = x ∧ k = y) := fun i k => by unfold seenS pairs; omega
      have hw1 : wrap64 (rd l x + rd l y) = rd l x + rd l y := wrap_id (by omega) (by omega)
      have hw2 : wrap64 (rd l x + rd l y - 10) = rd l x + rd l y - 10 := wrap_id (by omega) (by omega)
      have hw3 : wrap64 (y + 1) = y + 1 := wrap_id (by omega) (by omega)
      rcases Int.lt_or_le (rd l x + rd l y - 10) (needOf d q) with hge0 | hge
      · have hge : ¬ (rd l x + rd l y - 10 ≥ needOf d q) := by omega
        obtain ⟨a', b', s', h1, h2⟩ := ih (y + 1) a b s (by omega) (by omega) ((hb.skip x y (by omega)).congr hc)
        refine ⟨a', b', s', Ev.step (fun k => ?_) h1, h2⟩
        simp only [spec_TiedPair.l1, l16Need_eq hp, Option.bind_some, hw1, hw2, hw3]
        rw [if_pos (by omega), if_pos (by omega), if_pos (by omega), if_pos (by omega), if_neg hge]
      have htake : (∀ s', s = some s' → rd l x + rd l y < s') → ∃ a' b' s', Ev (fun k => spec_TiedPair.l1 k l a b (s.getD (-1)) x y d q) (a', b', decide ((s' : Option Int) ≠ none)) ∧ Bst (pairs l.length) (rd l) (needOf d q) a' b' s' := by
        intro hlt
        obtain ⟨a', b', s', h1, h2⟩ := ih (y + 1) x y (some (rd l x + rd l y)) (by omega) (by omega) ((hb.take x y (by omega) (fun s' hs' => .inl (hlt s' hs'))).congr hc)
        refine ⟨a', b', s', Ev.step (fun k => ?_) h1, h2⟩
        simp only [spec_TiedPair.l1, l16Need_eq hp, Option.bind_some, hw1, hw2, hw3]
        rw [if_pos (by omega), if_pos (by omega), if_pos (by omega), if_pos (by omega), if_pos hge]
        cases s with
        | none => simp
        | some s =>
          have h3 := hlt s rfl
          simp only [Option.getD_some]
          rw [if_neg (by have := hb.2.2.1; omega), if_pos h3]
      cases s with
      | none => exact htake (fun s' hs' => by cases hs')
      | some s =>
        by_cases hlt : rd l x + rd l y < s
        · exact htake (fun s' hs' => by cases hs'; exact hlt)
        · have hab : a < x ∨ (a = x ∧ b ≤ y) := by
            have := hb.1
            unfold seenS pairs at this
            omega
          obtain ⟨a', b', s', h1, h2⟩ := ih (y + 1) a b (some s) (by omega) (by omega) ((hb.stay x y (by omega)).congr hc)
          refine ⟨a', b', s', Ev.step (fun k => ?_) h1, h2⟩
          simp only [spec_TiedPair.l1, l16Need_eq hp, Option.bind_some, hw1, hw2, hw3, Option.getD_some]
          rw [if_pos (by omega), if_pos (by omega), if_pos (by omega), if_pos (by omega), if_pos hge, if_neg (by have := hb.2.2.1; omega), if_neg hlt]
  have fin0 : ∀ (e : Nat) (x a b : Int) (s : Option Int), 0 ≤ x → x + e = l.length → Bst (seenS l.length x 0) (rd l) (needOf d q) a b s →
      ∃ a' b' s', Ev (fun k => spec_TiedPair.l0 k l a b (s.getD (-1)) x d q) (a', b', decide ((s' : Option Int) ≠ none)) ∧ Bst (pairs l.length) (rd l) (needOf d q) a' b' s' := by
    intro e
    induction e with
    | zero =>
      intro x a b s hx0 hx hb
      refine ⟨a, b, s, ?_, hb.congr (fun i k => by unfold seenS pairs; omega)⟩
      refine Ev.step (f := fun _ => some (a, b, decide (s ≠ none))) (fun k => ?_) (Ev.now _)
      simp only [spec_TiedPair.l0]
      rw [if_neg (by omega)]
      cases s with
      | none => simp
      | some s =>
        have := hb.2.2.1
        simp
        omega
    | succ e ih =>
      intro x a b s hx0 hx hb
      obtain ⟨a', b', s', h1, h2⟩ := fin1 x hx0 (by omega) (fun a b s hb => ih (x + 1) a b s (by omega) (by omega) hb) e (x + 1) a b s (by omega) (by omega) (hb.congr (fun i k => by unfold seenS pairs; omega))
      refine ⟨a', b', s', Ev.step (fun k => ?_) h1, h2⟩
      simp only [spec_TiedPair.l0]
      rw [if_pos (by omega), wrap_id (by omega) (by omega)]
  exact fin0 l.length 0 0 0 none (by omega) (by omega) ⟨rfl, rfl, fun i k hs => by unfold seenS pairs at hs; omega⟩
theorem impl_tied {l : List Int} (h : okRopes l = true) {d q : Int} (hp : okPitch d q = true) :
    ∃ a b s, Ev (fun k => impl_TiedPair.l0 k l 0 0 0 (l.length : Int) 0 d q) (a, b, decide ((s : Option Int) ≠ none)) ∧ Bst (pairs l.length) (rd l) (needOf d q) a b s := by
  have hm : l.length ≤ 8 := by
    simp only [okRopes, Bool.and_eq_true, decide_eq_true_eq] at h
    exact h.2
  have hn : 55 ≤ needOf d q := by
    simp only [okPitch, Bool.and_eq_true, decide_eq_true_eq] at hp
    unfold needOf
    omega
  have fin1 : ∀ (y : Int), 0 ≤ y → y < l.length →
      (∀ a b s, Bst (seenI l.length 0 (y + 1)) (rd l) (needOf d q) a b s → ∃ a' b' s', Ev (fun k => impl_TiedPair.l0 k l a b (s.getD 0) (l.length : Int) (y + 1) d q) (a', b', decide ((s' : Option Int) ≠ none)) ∧ Bst (pairs l.length) (rd l) (needOf d q) a' b' s') →
      ∀ (e : Nat) (x a b : Int) (s : Option Int), 0 ≤ x → x + e = y → Bst (seenI l.length x y) (rd l) (needOf d q) a b s →
      ∃ a' b' s', Ev (fun k => impl_TiedPair.l1 k l a b (s.getD 0) y (l.length : Int) y y x d q) (a', b', decide ((s' : Option Int) ≠ none)) ∧ Bst (pairs l.length) (rd l) (needOf d q) a' b' s' := by
    intro y hy0 hy1 ih0 e
    induction e with
    | zero =>
      intro x a b s hx0 hx hb
      obtain ⟨a', b', s', h1, h2⟩ := ih0 a b s (hb.congr (fun i k => by unfold seenI pairs; omega))
      refine ⟨a', b', s', Ev.step (fun k => ?_) h1, h2⟩
      simp only [impl_TiedPair.l1]
      rw [if_neg (by omega), wrap_id (by omega) (by omega)]
    | succ e ih =>
      intro x a b s hx0 hx hb
      have rx := rope_range h x hx0 (by omega)
      have ry := rope_range h y (by omega) (by omega)
      have hc : ∀ i k, seenI l.length (x + 1) y i k ↔ seenI l.length x y i k ∨ (i = x ∧ k = y) := fun i k => by unfold seenI pairs; omega
      have hw1 : wrap64 (rd l x + rd l y) = rd l x + rd l y := wrap_id (by omega) (by omega)
      have hw2 : wrap64 (rd l x + rd l y - 10) = rd l x + rd l y - 10 := wrap_id (by omega) (by omega)
      have hw3 : wrap64 (x + 1) = x + 1 := wrap_id (by omega) (by omega)
      by_cases hlt : rd l x + rd l y - 10 < needOf d q
      · obtain ⟨a', b', s', h1, h2⟩ := ih (x + 1) a b s (by omega) (by omega) ((hb.skip x y hlt).congr hc)
        refine ⟨a', b', s', Ev.step (fun k => ?_) h1, h2⟩
        simp only [impl_TiedPair.l1, need_eq hp, Option.bind_some, hw1, hw2, hw3]
        rw [if_pos (by omega), if_pos (by omega), if_pos (by omega), if_pos (by omega), if_pos (by omega), if_pos hlt]
      have hstep : ∀ k, impl_TiedPair.l1 (k + 1) l a b (s.getD 0) y (l.length : Int) y y x d q = if s.getD 0 = 0 then impl_TiedPair.l1 k l x y (rd l x + rd l y) y (l.length : Int) y y (x + 1) d q else
          if rd l x + rd l y < s.getD 0 then impl_TiedPair.l1 k l x y (rd l x + rd l y) y (l.length : Int) y y (x + 1) d q else
          if rd l x + rd l y = s.getD 0 then (if x < a then impl_TiedPair.l1 k l x y (rd l x + rd l y) y (l.length : Int) y y (x + 1) d q else if x = a then (if y < b then impl_TiedPair.l1 k l x y (rd l x + rd l y) y (l.length : Int) y y (x + 1) d q else impl_TiedPair.l1 k l a b (s.getD 0) y (l.length : Int) y y (x + 1) d q) else impl_TiedPair.l1 k l a b (s.getD 0) y (l.length : Int) y y (x + 1) d q) else
          impl_TiedPair.l1 k l a b (s.getD 0) y (l.length : Int) y y (x + 1) d q := by
        intro k
        rw [impl_TiedPair.l1]
        simp only [need_eq hp, Option.bind_some, hw1, hw2, hw3]
        rw [if_pos (by omega), if_pos (by omega), if_pos (by omega), if_pos (by omega), if_pos (by omega), if_neg hlt]
      have htake : (∀ s', s = some s' → rd l x + rd l y < s' ∨ (rd l x + rd l y = s' ∧ (x < a ∨ (x = a ∧ y < b)))) → ∃ a' b' s', Ev (fun k => impl_TiedPair.l1 k l a b (s.getD 0) y (l.length : Int) y y x d q) (a', b', decide ((s' : Option Int) ≠ none)) ∧ Bst (pairs l.length) (rd l) (needOf d q) a' b' s' := by
        intro hbt
        obtain ⟨a', b', s', h1, h2⟩ := ih (x + 1) x y (some (rd l x + rd l y)) (by omega) (by omega) ((hb.take x y (by omega) hbt).congr hc)
        refine ⟨a', b', s', Ev.step (fun k => ?_) h1, h2⟩
        rw [hstep]
        cases s with
        | none => simp
        | some s =>
          have h3 := hbt s rfl
          have h4 := hb.2.2.1
          simp only [Option.getD_some]
          rw [if_neg (by omega)]
          by_cases c1 : rd l x + rd l y < s
          · rw [if_pos c1]
          · rw [if_neg c1, if_pos (by omega)]
            by_cases c2 : x < a
            · rw [if_pos c2]
            · rw [if_neg c2, if_pos (by omega), if_pos (by omega)]
      cases s with
      | none => exact htake (fun s' hs' => by cases hs')
      | some s =>
        by_cases hbt : rd l x + rd l y < s ∨ (rd l x + rd l y = s ∧ (x < a ∨ (x = a ∧ y < b)))
        · exact htake (fun s' hs' => by cases hs'; exact hbt)
        · obtain ⟨a', b', s', h1, h2⟩ := ih (x + 1) a b (some s) (by omega) (by omega) ((hb.stay x y (by omega)).congr hc)
          refine ⟨a', b', s', Ev.step (fun k => ?_) h1, h2⟩
          have h4 := hb.2.2.1
          rw [hstep]
          simp only [Option.getD_some]
          rw [if_neg (by omega), if_neg (by omega)]
          by_cases c1 : rd l x + rd l y = s
          · rw [if_pos c1, if_neg (by omega)]
            by_cases c2 : x = a
            · rw [if_pos c2, if_neg (by omega)]
            · rw [if_neg c2]
          · rw [if_neg c1]
  have fin0 : ∀ (e : Nat) (y a b : Int) (s : Option Int), 0 ≤ y → y + e = l.length → Bst (seenI l.length 0 y) (rd l) (needOf d q) a b s →
      ∃ a' b' s', Ev (fun k => impl_TiedPair.l0 k l a b (s.getD 0) (l.length : Int) y d q) (a', b', decide ((s' : Option Int) ≠ none)) ∧ Bst (pairs l.length) (rd l) (needOf d q) a' b' s' := by
    intro e
    induction e with
    | zero =>
      intro y a b s hy0 hy hb
      refine ⟨a, b, s, ?_, hb.congr (fun i k => by unfold seenI pairs; omega)⟩
      refine Ev.step (f := fun _ => some (a, b, decide (s ≠ none))) (fun k => ?_) (Ev.now _)
      simp only [impl_TiedPair.l0]
      rw [if_neg (by omega)]
      cases s with
      | none => simp
      | some s =>
        have := hb.2.2.1
        simp
        omega
    | succ e ih =>
      intro y a b s hy0 hy hb
      obtain ⟨a', b', s', h1, h2⟩ := fin1 y hy0 (by omega) (fun a b s hb => ih (y + 1) a b s (by omega) (by omega) hb) y.toNat 0 a b s (by omega) (by omega) hb
      refine ⟨a', b', s', Ev.step (fun k => ?_) h1, h2⟩
      simp only [impl_TiedPair.l0]
      rw [if_pos (by omega)]
  exact fin0 l.length 0 0 0 none (by omega) (by omega) ⟨rfl, rfl, fun i k hs => by unfold seenI pairs at hs; omega⟩
theorem tied_says (d q : Int) (l : List Int) (hm : l.length ≤ 9223372036854775807) : ∃ a b ok, Ev (fun k => spec_TiedPair.f k d q l) (a, b, ok) ∧ Ev (fun k => impl_TiedPair.f k d q l) (a, b, ok) ∧ (ok = true → okPitch d q = true ∧ okRopes l = true ∧ pairs l.length a b ∧ needOf d q ≤ rd l a + rd l b - 10) := by
  have none_s : Ev (fun k => spec_TiedPair.j0 k l true d q) (0, 0, false) := Ev.step (f := fun _ => some (0, 0, false)) (fun k => by simp [spec_TiedPair.j0]) (Ev.now _)
  have none_i : Ev (fun k => impl_TiedPair.j0 k l true d q) (0, 0, false) := Ev.step (f := fun _ => some (0, 0, false)) (fun k => by simp [impl_TiedPair.j0]) (Ev.now _)
  simp only [spec_TiedPair.f, impl_TiedPair.f]
  cases hp : okPitch d q with
  | false => exact ⟨_, _, _, Ev.bindc (l16One_eq d q) (Ev.ite_neg (by simp [hp]) none_s), Ev.bindc (isPitch_eq d q) (Ev.ite_neg (by simp [hp]) none_i), fun h => by cases h⟩
  | true =>
    cases hr : okRopes l with
    | false =>
      refine ⟨0, 0, false, Ev.bindc (l16One_eq d q) (Ev.ite_pos hp (Ev.bind (l16Ropes_ev l hm) ?_)), Ev.bindc (isPitch_eq d q) (Ev.ite_pos hp (Ev.bindc (areRopes_eq l) ?_)), fun h => by cases h⟩
      · rw [hr]
        exact none_s
      · rw [hr]
        exact none_i
    | true =>
      obtain ⟨a, b, s, h1, h2⟩ := spec_tied hr hp
      obtain ⟨a', b', s', h3, h4⟩ := impl_tied hr hp
      obtain ⟨rfl, rfl, rfl⟩ := h2.unique h4
      refine ⟨a, b, decide (s ≠ none), Ev.bindc (l16One_eq d q) (Ev.ite_pos hp (Ev.bind (l16Ropes_ev l hm) (Ev.step (fun k => ?_) h1))), Ev.bindc (isPitch_eq d q) (Ev.ite_pos hp (Ev.bindc (areRopes_eq l) (Ev.step (fun k => ?_) h3))), fun h => ⟨rfl, rfl, ?_⟩⟩
      · rw [hr]
        simp [spec_TiedPair.j0]
      · rw [hr]
        simp [impl_TiedPair.j0]
      · cases s with
        | none => simp at h
        | some s =>
          have e1 := h2.1
          have e2 := h2.2.1
          have e3 := h2.2.2.1
          exact ⟨e1, by omega⟩
theorem tied_both (d q : Int) (l : List Int) (hm : l.length ≤ 9223372036854775807) : ∃ v, Ev (fun k => spec_TiedPair.f k d q l) v ∧ Ev (fun k => impl_TiedPair.f k d q l) v := by
  have none_s : Ev (fun k => spec_TiedPair.j0 k l true d q) (0, 0, false) := Ev.step (f := fun _ => some (0, 0, false)) (fun k => by simp [spec_TiedPair.j0]) (Ev.now _)
  have none_i : Ev (fun k => impl_TiedPair.j0 k l true d q) (0, 0, false) := Ev.step (f := fun _ => some (0, 0, false)) (fun k => by simp [impl_TiedPair.j0]) (Ev.now _)
  simp only [spec_TiedPair.f, impl_TiedPair.f]
  cases hp : okPitch d q with
  | false => exact ⟨_, Ev.bindc (l16One_eq d q) (Ev.ite_neg (by simp [hp]) none_s), Ev.bindc (isPitch_eq d q) (Ev.ite_neg (by simp [hp]) none_i)⟩
  | true =>
    cases hr : okRopes l with
    | false =>
      refine ⟨(0, 0, false), Ev.bindc (l16One_eq d q) (Ev.ite_pos hp (Ev.bind (l16Ropes_ev l hm) ?_)), Ev.bindc (isPitch_eq d q) (Ev.ite_pos hp (Ev.bindc (areRopes_eq l) ?_))⟩
      · rw [hr]
        exact none_s
      · rw [hr]
        exact none_i
    | true =>
      obtain ⟨a, b, s, h1, h2⟩ := spec_tied hr hp
      obtain ⟨a', b', s', h3, h4⟩ := impl_tied hr hp
      obtain ⟨rfl, rfl, rfl⟩ := h2.unique h4
      refine ⟨(a, b, decide (s ≠ none)), Ev.bindc (l16One_eq d q) (Ev.ite_pos hp (Ev.bind (l16Ropes_ev l hm) (Ev.step (fun k => ?_) h1))), Ev.bindc (isPitch_eq d q) (Ev.ite_pos hp (Ev.bindc (areRopes_eq l) (Ev.step (fun k => ?_) h3)))⟩
      · rw [hr]
        simp [spec_TiedPair.j0]
      · rw [hr]
        simp [impl_TiedPair.j0]
end Go.Proofs.Ytfjpbochanekoaa.Pure
