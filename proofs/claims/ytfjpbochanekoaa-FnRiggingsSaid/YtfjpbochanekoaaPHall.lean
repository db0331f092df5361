/- Sorted lists, counts and matchings: who covers whom. Plain lists alone. -/
import Derived.Test.YtfjpbochanekoaaPBase
namespace Go.Proofs.Ytfjpbochanekoaa.Pure
set_option linter.unusedVariables false
/-! sorted lists and counts -/
def cnt (t : Int) (l : List Int) : Nat := l.countP (fun x => decide (t ≤ x))
def Sorted (l : List Int) : Prop := ∀ i j, i ≤ j → j < l.length → l.getD i 0 ≤ l.getD j 0
theorem cnt_append (t : Int) (a b : List Int) : cnt t (a ++ b) = cnt t a + cnt t b := List.countP_append
theorem cnt_le (t : Int) (l : List Int) : cnt t l ≤ l.length := List.countP_le_length
theorem cnt_all {t : Int} {l : List Int} (h : ∀ x ∈ l, t ≤ x) : cnt t l = l.length := by
 unfold cnt
 exact List.countP_eq_length.2 (fun x hx => decide_eq_true (h x hx))
theorem cnt_none {t : Int} {l : List Int} (h : ∀ x ∈ l, x < t) : cnt t l = 0 := by
 unfold cnt
 refine List.countP_eq_zero.2 (fun x hx => ?_)
 have := h x hx
 simp only [decide_eq_true_eq]
 omega
theorem getD_lt' {α : Type} (l : List α) (d : α) (i : Nat) (h : i < l.length) : l.getD i d = l[i] := by simp [List.getD_eq_getElem?_getD, List.getElem?_eq_getElem h]
theorem cnt_split (t : Int) (l : List Int) (j : Nat) : cnt t l = cnt t (l.take j) + cnt t (l.drop j) := by
 rw [← cnt_append, List.take_append_drop]
theorem cnt_ge {t : Int} {l : List Int} (hs : Sorted l) {j : Nat} (hj : j < l.length) (h : t ≤ l.getD j 0) : l.length - j ≤ cnt t l := by
 rw [cnt_split t l j]
 have : cnt t (l.drop j) = (l.drop j).length := cnt_all (fun x hx => by
  obtain ⟨i, hi, rfl⟩ := List.getElem_of_mem hx
  rw [List.getElem_drop]
  rw [List.length_drop] at hi
  have := hs j (j + i) (by omega) (by omega)
  rw [getD_lt' l 0 (j + i) (by omega)] at this
  omega)
 rw [this, List.length_drop]
 omega
theorem cnt_lt {t : Int} {l : List Int} (hs : Sorted l) {j : Nat} (hj : j < l.length) (h : l.getD j 0 < t) : cnt t l + j < l.length := by
 rw [cnt_split t l (j + 1)]
 have : cnt t (l.take (j + 1)) = 0 := cnt_none (fun x hx => by
  obtain ⟨i, hi, rfl⟩ := List.getElem_of_mem hx
  rw [List.length_take] at hi
  rw [List.getElem_take]
  have := hs i j (by omega) hj
  rw [getD_lt' l 0 i (by omega)] at this
  omega)
 have h2 := cnt_le t (l.drop (j + 1))
 rw [List.length_drop] at h2
 omega
/-- Two sorted lists: the largest of the second one cover the first one exactly if there are enough of each size. -/
def coverB (a b : List Int) : Bool := decide (a.length ≤ b.length) && (List.range a.length).all (fun i => decide (a.getD i 0 ≤ b.getD (b.length - a.length + i) 0))
theorem coverB_iff {a b : List Int} (ha : Sorted a) (hb : Sorted b) (lo : Int) (hlo : ∀ x ∈ a, lo ≤ x) : coverB a b = true ↔ ∀ t, cnt t a ≤ cnt t b := by
 simp only [coverB, Bool.and_eq_true, decide_eq_true_eq, List.all_eq_true, List.mem_range]
 constructor
 ·rintro ⟨h1, h2⟩ t
  by_cases hc : cnt t a = 0
  ·omega
  have hca := cnt_le t a
  have hm : ¬ (a.getD (a.length - cnt t a) 0 < t) := fun h => by
   have := cnt_lt ha (j := a.length - cnt t a) (by omega) h
   omega
  have h3 := h2 (a.length - cnt t a) (by omega)
  have h4 := cnt_ge hb (j := b.length - a.length + (a.length - cnt t a)) (t := t) (by omega) (by omega)
  omega
 ·intro h
  have h1 : a.length ≤ b.length := by
   have h2 := h lo
   rw [cnt_all hlo] at h2
   have := cnt_le lo b
   omega
  refine ⟨h1, fun i hi => ?_⟩
  refine Int.not_lt.1 (fun hlt => ?_)
  have h2 := cnt_lt hb (j := b.length - a.length + i) (by omega) hlt
  have h3 := cnt_ge ha (t := a.getD i 0) hi (Int.le_refl _)
  have h4 := h (a.getD i 0)
  omega
/-! insertion -/
def ins (x : Int) (l : List Int) (k : Nat) : List Int := l.take k ++ [x] ++ l.drop k
theorem ins_cnt (t x : Int) (l : List Int) (k : Nat) : cnt t (ins x l k) = cnt t l + cnt t [x] := by
 unfold ins
 rw [cnt_append, cnt_append, cnt_split t l k]
 omega
theorem ins_length (x : Int) (l : List Int) (k : Nat) : (ins x l k).length = l.length + 1 := by
 unfold ins
 simp only [List.length_append, List.length_take, List.length_drop, List.length_singleton]
 omega
theorem ins_getD {x : Int} {l : List Int} {k : Nat} (hk : k ≤ l.length) (i : Nat) : (ins x l k).getD i 0 = if i < k then l.getD i 0 else if i = k then x else l.getD (i - 1) 0 := by
 unfold ins
 simp only [List.getD_eq_getElem?_getD]
 have hl : (l.take k).length = k := by rw [List.length_take]; omega
 by_cases h1 : i < k
 ·rw [if_pos h1, List.append_assoc, List.getElem?_append_left (by omega), List.getElem?_take_of_lt h1]
 ·rw [if_neg h1, List.append_assoc, List.getElem?_append_right (by omega), hl]
  by_cases h2 : i = k
  ·subst h2
   rw [if_pos rfl]
   simp
  ·rw [if_neg h2]
   obtain ⟨d, rfl⟩ : ∃ d, i = k + 1 + d := ⟨i - k - 1, by omega⟩
   rw [show k + 1 + d - k = d + 1 by omega, List.singleton_append, List.getElem?_cons_succ, List.getElem?_drop, show k + 1 + d - 1 = k + d by omega]
theorem ins_sorted {x : Int} {l : List Int} {k : Nat} (hs : Sorted l) (hk : k ≤ l.length) (h1 : ∀ i, i < k → l.getD i 0 ≤ x) (h2 : ∀ i, k ≤ i → i < l.length → x ≤ l.getD i 0) : Sorted (ins x l k) := by
 intro i j hij hj
 rw [ins_length] at hj
 rw [ins_getD hk, ins_getD hk]
 by_cases a1 : i < k
 ·rw [if_pos a1]
  by_cases a2 : j < k
  ·rw [if_pos a2]; exact hs i j hij (by omega)
  ·rw [if_neg a2]
   by_cases a3 : j = k
   ·rw [if_pos a3]; exact h1 i a1
   ·rw [if_neg a3]; exact hs i (j - 1) (by omega) (by omega)
 ·rw [if_neg a1, if_neg (show ¬ j < k by omega)]
  by_cases a4 : i = k
  ·rw [if_pos a4]
   by_cases a3 : j = k
   ·rw [if_pos a3]; exact Int.le_refl _
   ·rw [if_neg a3]; exact h2 (j - 1) (by omega) (by omega)
  ·rw [if_neg a4, if_neg (show ¬ j = k by omega)]
   exact hs (i - 1) (j - 1) (by omega) (by omega)
/-! matching -/
def freeCnt (l1 : List Int) (rig : List Int) (t : Int) : Nat := (List.range l1.length).countP (fun k : Nat => decide (¬ (k : Int) ∈ rig) && decide (t ≤ l1.getD k 0))
theorem countP_point {p q : Nat → Bool} (n k : Nat) (hk : k < n) (h : ∀ j, j ≠ k → p j = q j) (hq : q k = false) : (List.range n).countP p = (List.range n).countP q + (if p k = true then 1 else 0) := by
 induction n with
 | zero => omega
 | succ n ih =>
  rw [List.range_succ, List.countP_append, List.countP_append]
  by_cases hkn : k = n
  ·subst hkn
   have e : (List.range k).countP p = (List.range k).countP q := List.countP_congr (fun j hj => by rw [h j (by rw [List.mem_range] at hj; omega)])
   rw [e]
   simp only [List.countP_singleton, hq]
   simp
  ·rw [ih (by omega)]
   simp only [List.countP_singleton, h n (fun e => hkn e.symm)]
   omega
theorem free_step {l1 rig : List Int} {k : Nat} (hk : k < l1.length) (hr : ¬ (k : Int) ∈ rig) (t : Int) : freeCnt l1 rig t = freeCnt l1 (rig ++ [(k : Int)]) t + (if t ≤ l1.getD k 0 then 1 else 0) := by
 unfold freeCnt
 rw [countP_point (p := fun k : Nat => decide (¬ (k : Int) ∈ rig) && decide (t ≤ l1.getD k 0)) (q := fun j : Nat => decide (¬ (j : Int) ∈ rig ++ [(k : Int)]) && decide (t ≤ l1.getD j 0)) l1.length k hk ?_ ?_]
 ·congr 1
  simp only [decide_eq_true hr, Bool.true_and, decide_eq_true_eq]
 ·intro j hj
  have : ((j : Int) ∈ rig ++ [(k : Int)]) = ((j : Int) ∈ rig) := by
   rw [List.mem_append, List.mem_singleton]
   refine propext ⟨fun h => h.elim id (fun h => absurd (Int.ofNat.inj h) hj), .inl⟩
  congr 1
  exact decide_eq_decide.2 (by rw [this])
 ·simp
/-- From a begun rigging on there is one for the next d pitches. -/
def Fit (need : Nat → Int) (l1 : List Int) : Nat → List Int → Prop
 | 0, _ => True
 | d + 1, rig => ∃ k, k < l1.length ∧ ¬ (k : Int) ∈ rig ∧ need rig.length ≤ l1.getD k 0 ∧ Fit need l1 d (rig ++ [(k : Int)])
def needs (need : Nat → Int) (i d : Nat) : List Int := (List.range d).map (fun j => need (i + j))
theorem needs_succ (need : Nat → Int) (i d : Nat) : needs need i (d + 1) = need i :: needs need (i + 1) d := by
 unfold needs
 rw [List.range_succ_eq_map, List.map_cons, List.map_map]
 rw [Nat.add_zero]
 congr 1
 refine List.map_congr_left (fun j _ => ?_)
 simp only [Function.comp]
 congr 1
 omega
theorem cnt_cons (t x : Int) (l : List Int) : cnt t (x :: l) = cnt t l + (if t ≤ x then 1 else 0) := by
 unfold cnt
 rw [List.countP_cons]
 by_cases h : t ≤ x <;> simp [h]
theorem cnt_mono {s t : Int} (h : s ≤ t) (l : List Int) : cnt t l ≤ cnt s l := List.countP_mono_left (fun x _ hx => by simp only [decide_eq_true_eq] at hx ⊢; omega)
/-- The smallest free rope that is long enough. -/
theorem least_free (l1 rig : List Int) (n : Int) (h : 0 < freeCnt l1 rig n) : ∃ k, k < l1.length ∧ ¬ (k : Int) ∈ rig ∧ n ≤ l1.getD k 0 ∧ ∀ j, j < l1.length → ¬ (j : Int) ∈ rig → n ≤ l1.getD j 0 → l1.getD k 0 ≤ l1.getD j 0 := by
 have key : ∀ m, m ≤ l1.length → (∀ j, j < m → ¬ (¬ (j : Int) ∈ rig ∧ n ≤ l1.getD j 0)) ∨ ∃ k, k < m ∧ ¬ (k : Int) ∈ rig ∧ n ≤ l1.getD k 0 ∧ ∀ j, j < m → ¬ (j : Int) ∈ rig → n ≤ l1.getD j 0 → l1.getD k 0 ≤ l1.getD j 0 := by
  intro m
  induction m with
  | zero => exact fun _ => .inl (fun j hj => by omega)
  | succ m ih =>
   intro hm
   by_cases hc : ¬ (m : Int) ∈ rig ∧ n ≤ l1.getD m 0
   ·rcases ih (by omega) with h0 | ⟨k, h1, h2, h3, h4⟩
    ·refine .inr ⟨m, by omega, hc.1, hc.2, fun j hj a b => ?_⟩
     by_cases e : j = m
     ·subst e; exact Int.le_refl _
     ·exact absurd ⟨a, b⟩ (h0 j (by omega))
    ·by_cases hle : l1.getD k 0 ≤ l1.getD m 0
     ·refine .inr ⟨k, by omega, h2, h3, fun j hj a b => ?_⟩
      by_cases e : j = m
      ·subst e; exact hle
      ·exact h4 j (by omega) a b
     ·refine .inr ⟨m, by omega, hc.1, hc.2, fun j hj a b => ?_⟩
      by_cases e : j = m
      ·subst e; exact Int.le_refl _
      ·have := h4 j (by omega) a b
       omega
   ·rcases ih (by omega) with h0 | ⟨k, h1, h2, h3, h4⟩
    ·refine .inl (fun j hj a => ?_)
     by_cases e : j = m
     ·subst e; exact hc a
     ·exact h0 j (by omega) a
    ·refine .inr ⟨k, by omega, h2, h3, fun j hj a b => ?_⟩
     by_cases e : j = m
     ·subst e; exact absurd ⟨a, b⟩ hc
     ·exact h4 j (by omega) a b
 rcases key l1.length (Nat.le_refl _) with h0 | h1
 ·unfold freeCnt at h
  obtain ⟨k, hk, hp⟩ := List.countP_pos_iff.1 h
  rw [List.mem_range] at hk
  simp only [Bool.and_eq_true, decide_eq_true_eq] at hp
  exact absurd hp (h0 k hk)
 ·exact h1
theorem fit_iff (need : Nat → Int) (l1 : List Int) : ∀ d rig, Fit need l1 d rig ↔ ∀ t, cnt t (needs need rig.length d) ≤ freeCnt l1 rig t
 | 0, rig => ⟨fun _ t => by simp [needs, cnt], fun _ => trivial⟩
 | d + 1, rig => by
  constructor
  ·rintro ⟨k, h1, h2, h3, h4⟩ t
   have h5 := (fit_iff need l1 d _).1 h4 t
   rw [List.length_append, List.length_singleton] at h5
   rw [needs_succ, cnt_cons, free_step h1 h2]
   by_cases ht : t ≤ need rig.length
   ·rw [if_pos ht, if_pos (Int.le_trans ht h3)]; omega
   ·rw [if_neg ht]; omega
  ·intro h
   have h0 := h (need rig.length)
   rw [needs_succ, cnt_cons, if_pos (Int.le_refl _)] at h0
   obtain ⟨k, h1, h2, h3, h4⟩ := least_free l1 rig (need rig.length) (by omega)
   refine ⟨k, h1, h2, h3, (fit_iff need l1 d _).2 (fun t => ?_)⟩
   rw [List.length_append, List.length_singleton]
   have h5 := h t
   have h6 := free_step h1 h2 t
   have h7 := free_step h1 h2 (need rig.length)
   rw [needs_succ, cnt_cons] at h5
   by_cases ht : t ≤ need rig.length
   ·rw [if_pos ht] at h5
    by_cases h8 : t ≤ l1.getD k 0
    ·rw [if_pos h8] at h6; omega
    ·rw [if_neg h8] at h6; omega
   ·rw [if_neg ht] at h5
    have h9 := cnt_mono (show need rig.length ≤ t by omega) (needs need (rig.length + 1) d)
    by_cases h8 : t ≤ l1.getD k 0
    ·rw [if_pos h8] at h6
     have e : freeCnt l1 rig t = freeCnt l1 rig (need rig.length) := by
      unfold freeCnt
      refine List.countP_congr (fun j hj => ?_)
      rw [List.mem_range] at hj
      simp only [Bool.and_eq_true, decide_eq_true_eq]
      constructor
      ·rintro ⟨a, b⟩; exact ⟨a, by omega⟩
      ·rintro ⟨a, b⟩
       have := h4 j hj a b
       exact ⟨a, by omega⟩
     omega
    ·rw [if_neg h8] at h6; omega
theorem free_nil (l1 : List Int) (t : Int) : freeCnt l1 [] t = cnt t l1 := by
 have e : l1 = (List.range l1.length).map (fun k => l1.getD k 0) := by
  refine List.ext_getElem (by simp) (fun i h1 h2 => ?_)
  simp only [List.getElem_map, List.getElem_range]
  exact (getD_lt' l1 0 i h1).symm
 unfold freeCnt
 have e2 : cnt t l1 = cnt t ((List.range l1.length).map (fun k => l1.getD k 0)) := by rw [← e]
 rw [e2]
 unfold cnt
 rw [List.countP_map]
 refine List.countP_congr (fun j _ => ?_)
 simp
/-- Fewer pitches are no harder. -/
theorem fit_less (need : Nat → Int) (l1 : List Int) (d : Nat) (rig : List Int) (h : Fit need l1 (d + 1) rig) : Fit need l1 d rig := by
 rw [fit_iff] at h ⊢
 intro t
 have h1 := h t
 unfold needs at h1 ⊢
 rw [List.range_succ, List.map_append, cnt_append] at h1
 omega
end Go.Proofs.Ytfjpbochanekoaa.Pure
