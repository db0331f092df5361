/- Plain lemmas on rounds, on counted loops, and on the smallest functions. -/
import Derived.Test.YtckidmhkhlbkeaaMAx3
import Derived.Test.YtckidmhkhlbkeaaMAx1
namespace Go.Proofs.Ytckidmhkhlbkeaa.Pure
open Go.RowKit Go.Proofs.Ytckidmhkhlbkeaa.MA Go.Proofs.YtckidmhkhlbkeaaW.PrintWords Go.Proofs.YtckidmhkhlbkeaaW.PrintLast Go.Proofs.YtckidmhkhlbkeaaW.PrintMore
set_option linter.unusedVariables false
set_option linter.unusedSimpArgs false

theorem within_eq (a b c : Int) : impl_within.f a b c = some (decide (b ≤ a ∧ a ≤ c)) := by
  unfold impl_within.f
  by_cases h : a ≥ b
  · rw [if_pos h]; simp [show b ≤ a from h]
  · rw [if_neg h]; simp [show ¬ b ≤ a from h]
theorem l1In_eq (a b c : Int) : spec_l1In.f a b c = some (decide (b ≤ a ∧ a ≤ c)) := by
  unfold spec_l1In.f
  by_cases h : a ≥ b
  · rw [if_pos h]; simp [show b ≤ a from h]
  · rw [if_neg h]; simp [show ¬ b ≤ a from h]
theorem wrap_id {x : Int} (h0 : -9223372036854775808 ≤ x) (h1 : x ≤ 9223372036854775807) : wrap64 x = x := by
  unfold wrap64
  omega
theorem wrap_up {i : Nat} {n : Nat} (h : i < n) (hn : n ≤ 9223372036854775807) : wrap64 ((i : Int) + 1) = ((i + 1 : Nat) : Int) := by
  unfold wrap64
  omega

/-! rounds -/
theorem Ev.ite_pos {α : Type} {c : Prop} [Decidable c] {g g' : Nat → Option α} {r : α} (hc : c) (h : Ev g r) : Ev (fun k => if c then g k else g' k) r := by
  simpa only [if_pos hc] using h
theorem Ev.ite_neg {α : Type} {c : Prop} [Decidable c] {g g' : Nat → Option α} {r : α} (hc : ¬ c) (h : Ev g' r) : Ev (fun k => if c then g k else g' k) r := by
  simpa only [if_neg hc] using h
theorem Ev.past {α : Type} {g : Nat → Option α} {r : α} (d : Nat) (h : ∀ k, d < k → g k = some r) : Ev g r := ⟨d + 1, fun k hk => h k (by omega)⟩
theorem Ev.eq {α : Type} {g : Nat → Option α} {r : α} (h : ∀ k, g k = some r) : Ev g r := ⟨0, fun k _ => h k⟩
theorem Ev.bindc {α β : Type} {x : Option α} {f : Nat → α → Option β} {a : α} {r : β} (h : x = some a) (k : Ev (fun n => f n a) r) : Ev (fun n => x.bind (f n)) r := by
  subst h
  exact k

/-! counted loops -/
def foldN {σ ρ : Type} (step : Nat → σ → σ ⊕ ρ) (fin : σ → ρ) : Nat → Nat → σ → ρ
  | 0, _, s => fin s
  | n + 1, i, s => match step i s with
    | .inl s' => foldN step fin n (i + 1) s'
    | .inr r => r
theorem loopN {σ ρ : Type} (L : Nat → Int → σ → Option ρ) (n K : Nat) (Inv : Nat → σ → Prop) (step : Nat → σ → σ ⊕ ρ) (fin : σ → ρ)
    (h1 : ∀ k i s, K ≤ k → i < n → Inv i s → (∃ s', step i s = .inl s' ∧ Inv (i + 1) s' ∧ L (k + 1) (i : Int) s = L k ((i + 1 : Nat) : Int) s') ∨ (∃ r, step i s = .inr r ∧ L (k + 1) (i : Int) s = some r))
    (h2 : ∀ k s, K ≤ k → Inv n s → L (k + 1) (n : Int) s = some (fin s)) : ∀ d i s k, i + d = n → K + d < k → Inv i s → L k (i : Int) s = some (foldN step fin d i s) := by
  intro d
  induction d with
  | zero =>
    intro i s k hi hk hv
    obtain ⟨k, rfl⟩ : ∃ m, k = m + 1 := ⟨k - 1, by omega⟩
    obtain rfl : i = n := by omega
    exact h2 k s (by omega) hv
  | succ d ih =>
    intro i s k hi hk hv
    obtain ⟨k, rfl⟩ : ∃ m, k = m + 1 := ⟨k - 1, by omega⟩
    simp only [foldN]
    rcases h1 k i s (by omega) (by omega) hv with ⟨s', hs, hv', hL⟩ | ⟨r, hs, hL⟩
    · rw [hs, hL]
      exact ih (i + 1) s' k (by omega) (by omega) hv'
    · rw [hs, hL]
/-- A counted loop from its head. -/
theorem loopN_ev {σ ρ : Type} (L : Nat → Int → σ → Option ρ) (n K : Nat) (Inv : Nat → σ → Prop) (step : Nat → σ → σ ⊕ ρ) (fin : σ → ρ) (s : σ) (hv : Inv 0 s)
    (h1 : ∀ k i s, K ≤ k → i < n → Inv i s → (∃ s', step i s = .inl s' ∧ Inv (i + 1) s' ∧ L (k + 1) (i : Int) s = L k ((i + 1 : Nat) : Int) s') ∨ (∃ r, step i s = .inr r ∧ L (k + 1) (i : Int) s = some r))
    (h2 : ∀ k s, K ≤ k → Inv n s → L (k + 1) (n : Int) s = some (fin s)) : Ev (fun k => L k 0 s) (foldN step fin n 0 s) :=
  Ev.past (K + n) fun k hk => loopN L n K Inv step fin h1 h2 n 0 s k (by omega) hk hv
/-- The same where nothing need be kept. -/
theorem loopT_ev {σ ρ : Type} (L : Nat → Int → σ → Option ρ) (n K : Nat) (step : Nat → σ → σ ⊕ ρ) (fin : σ → ρ) (s : σ)
    (h1 : ∀ k i s, K ≤ k → i < n → (∃ s', step i s = .inl s' ∧ L (k + 1) (i : Int) s = L k ((i + 1 : Nat) : Int) s') ∨ (∃ r, step i s = .inr r ∧ L (k + 1) (i : Int) s = some r))
    (h2 : ∀ k s, K ≤ k → L (k + 1) (n : Int) s = some (fin s)) : Ev (fun k => L k 0 s) (foldN step fin n 0 s) :=
  loopN_ev L n K (fun _ _ => True) step fin s trivial (fun k i s hk hi _ => (h1 k i s hk hi).imp (fun ⟨s', a, b⟩ => ⟨s', a, trivial, b⟩) id) (fun k s hk _ => h2 k s hk)
/-- A counted loop whose answer is known from what it keeps. -/
theorem loopV_ev {σ ρ : Type} (L : Nat → Int → σ → Option ρ) (n K : Nat) (Inv : Nat → σ → Prop) (r : ρ) (s : σ) (hv : Inv 0 s)
    (h1 : ∀ k i s, K ≤ k → i < n → Inv i s → (∃ s', Inv (i + 1) s' ∧ L (k + 1) (i : Int) s = L k ((i + 1 : Nat) : Int) s') ∨ L (k + 1) (i : Int) s = some r)
    (h2 : ∀ k s, K ≤ k → Inv n s → L (k + 1) (n : Int) s = some r) : Ev (fun k => L k 0 s) r := by
  have key : ∀ d i s k, i + d = n → K + d < k → Inv i s → L k (i : Int) s = some r := by
    intro d
    induction d with
    | zero =>
      intro i s k hi hk hv
      obtain ⟨k, rfl⟩ : ∃ m, k = m + 1 := ⟨k - 1, by omega⟩
      obtain rfl : i = n := by omega
      exact h2 k s (by omega) hv
    | succ d ih =>
      intro i s k hi hk hv
      obtain ⟨k, rfl⟩ : ∃ m, k = m + 1 := ⟨k - 1, by omega⟩
      rcases h1 k i s (by omega) (by omega) hv with ⟨s', hv', hL⟩ | hL
      · rw [hL]
        exact ih (i + 1) s' k (by omega) (by omega) hv'
      · exact hL
  exact Ev.past (K + n) fun k hk => key n 0 s k (by omega) hk hv
theorem foldN_rel {σ1 σ2 ρ1 ρ2 : Type} {step1 : Nat → σ1 → σ1 ⊕ ρ1} {fin1 : σ1 → ρ1} {step2 : Nat → σ2 → σ2 ⊕ ρ2} {fin2 : σ2 → ρ2} (n : Nat) (R : Nat → σ1 → σ2 → Prop) (Q : ρ1 → ρ2 → Prop)
    (hs : ∀ i a b, R i a b → i < n → (∃ a' b', step1 i a = .inl a' ∧ step2 i b = .inl b' ∧ R (i + 1) a' b') ∨ (∃ a' b', step1 i a = .inr a' ∧ step2 i b = .inr b' ∧ Q a' b'))
    (hf : ∀ a b, R n a b → Q (fin1 a) (fin2 b)) : ∀ d i a b, i + d = n → R i a b → Q (foldN step1 fin1 d i a) (foldN step2 fin2 d i b) := by
  intro d
  induction d with
  | zero =>
    intro i a b hi hr
    obtain rfl : i = n := by omega
    exact hf a b hr
  | succ d ih =>
    intro i a b hi hr
    simp only [foldN]
    rcases hs i a b hr (by omega) with ⟨a', b', h1, h2, h3⟩ | ⟨a', b', h1, h2, h3⟩
    · rw [h1, h2]
      exact ih (i + 1) a' b' (by omega) h3
    · rw [h1, h2]
      exact h3
theorem foldN_congr {σ ρ : Type} {step1 step2 : Nat → σ → σ ⊕ ρ} {fin1 fin2 : σ → ρ} (n : Nat) (hs : ∀ i s, i < n → step1 i s = step2 i s) (hf : ∀ s, fin1 s = fin2 s) (s : σ) :
    foldN step1 fin1 n 0 s = foldN step2 fin2 n 0 s := by
  refine foldN_rel n (fun _ a b => a = b) (fun a b => a = b) ?_ ?_ n 0 s s (by omega) rfl
  · rintro i a _ rfl hi
    rw [hs i a hi]
    cases step2 i a with
    | inl x => exact .inl ⟨x, x, rfl, rfl, rfl⟩
    | inr x => exact .inr ⟨x, x, rfl, rfl, rfl⟩
  · rintro a _ rfl
    exact hf a
/-- What a counted loop keeps. -/
theorem foldN_inv {σ ρ : Type} {step : Nat → σ → σ ⊕ ρ} {fin : σ → ρ} (n : Nat) (R : Nat → σ → Prop) (Q : ρ → Prop)
    (hs : ∀ i a, R i a → i < n → (∃ a', step i a = .inl a' ∧ R (i + 1) a') ∨ (∃ r, step i a = .inr r ∧ Q r))
    (hf : ∀ a, R n a → Q (fin a)) : ∀ d i a, i + d = n → R i a → Q (foldN step fin d i a) := by
  intro d
  induction d with
  | zero =>
    intro i a hi hr
    obtain rfl : i = n := by omega
    exact hf a hr
  | succ d ih =>
    intro i a hi hr
    simp only [foldN]
    rcases hs i a hr (by omega) with ⟨a', h1, h3⟩ | ⟨a', h1, h3⟩
    · rw [h1]
      exact ih (i + 1) a' (by omega) h3
    · rw [h1]
      exact h3
theorem foldN_all {α : Type} (l : List α) (d : α) (p : α → Bool) (b : Bool) :
    foldN (fun i (_ : Unit) => if p (l.getD i d) = true then Sum.inl () else Sum.inr false) (fun _ => b) l.length 0 () = (l.all p && b) := by
  have key : ∀ e i, i + e = l.length → foldN (fun i (_ : Unit) => if p (l.getD i d) = true then Sum.inl () else Sum.inr false) (fun _ => b) e i () = ((l.drop i).all p && b) := by
    intro e
    induction e with
    | zero =>
      intro i hi
      rw [List.drop_eq_nil_of_le (by omega)]
      rfl
    | succ e ih =>
      intro i hi
      have hl : i < l.length := by omega
      have hg : l.getD i d = l[i] := by simp [List.getD_eq_getElem?_getD, List.getElem?_eq_getElem hl]
      rw [List.drop_eq_getElem_cons hl]
      simp only [foldN, hg, List.all_cons]
      cases hp : p l[i] with
      | true => simpa using ih (i + 1) (by omega)
      | false => simp
  simpa using key l.length 0 (by omega)
theorem rd_nat (l : List Int) (i : Nat) : rd l (i : Int) = l.getD i 0 := by simp [rd]
theorem getD_lt {α : Type} (l : List α) (d : α) (i : Nat) (h : i < l.length) : l.getD i d = l[i] := by simp [List.getD_eq_getElem?_getD, List.getElem?_eq_getElem h]
theorem set_take {α : Type} (l : List α) (i : Nat) (v : α) (h : i < l.length) : (l.set i v).take (i + 1) = l.take i ++ [v] := by
  rw [List.take_succ_eq_append_getElem (by simpa using h), List.take_set_of_le (Nat.le_refl _)]
  simp
end Go.Proofs.Ytckidmhkhlbkeaa.Pure
