/- The plain part of the law FnRoutes: what the program's and the reference's functions answer. -/
import Derived.Test.YtoljdjgndogegaaMRx5
import Derived.Test.YtoljdjgndogegaaMRx2
import Derived.Test.YtoljdjgndogegaaMRx1
import Derived.Test.YtoljdjgndogegaaMRx3
import Derived.Test.YtoljdjgndogegaaMRx4
import Derived.Test.YtoljdjgndogegaaMRx6
import Derived.Test.YtoljdjgndogegaaMRx7
import Derived.Test.YtoljdjgndogegaaMRx9
import Derived.Test.YtoljdjgndogegaaMRx8
import Derived.Test.YtoljdjgndogegaaMRx10
import Derived.Test.YtoljdjgndogegaaMRx12
namespace Go.Proofs.Ytoljdjgndogegaa.Pure
open Go.RowKit Go.Proofs.Ytoljdjgndogegaa.MR Go.Proofs.YtoljdjgndogegaaW.PrintWords Go.Proofs.YtoljdjgndogegaaW.PrintLast
set_option linter.unusedVariables false
set_option linter.unusedSimpArgs false

theorem within_eq (a b c : Int) : impl_within.f a b c = some (decide (b ≤ a ∧ a ≤ c)) := by
 unfold impl_within.f
 by_cases h : a ≥ b
 ·rw [if_pos h]; simp [show b ≤ a from h]
 ·rw [if_neg h]; simp [show ¬ b ≤ a from h]
theorem l1In_eq (a b c : Int) : spec_l1In.f a b c = some (decide (b ≤ a ∧ a ≤ c)) := by
 unfold spec_l1In.f
 by_cases h : a ≥ b
 ·rw [if_pos h]; simp [show b ≤ a from h]
 ·rw [if_neg h]; simp [show ¬ b ≤ a from h]
theorem wrap_id {x : Int} (h0 : -9223372036854775808 ≤ x) (h1 : x ≤ 9223372036854775807) : wrap64 x = x := by
 unfold wrap64
 omega
theorem wrap_up {i : Nat} {n : Nat} (h : i < n) (hn : n ≤ 9223372036854775807) : wrap64 ((i : Int) + 1) = ((i + 1 : Nat) : Int) := by
 unfold wrap64
 omega

theorem Ev.ite_pos {α : Type} {c : Prop} [Decidable c] {g g' : Nat → Option α} {r : α} (hc : c) (h : Ev g r) : Ev (fun k => if c then g k else g' k) r := by
 simpa only [if_pos hc] using h
theorem Ev.ite_neg {α : Type} {c : Prop} [Decidable c] {g g' : Nat → Option α} {r : α} (hc : ¬ c) (h : Ev g' r) : Ev (fun k => if c then g k else g' k) r := by
 simpa only [if_neg hc] using h
theorem Ev.past {α : Type} {g : Nat → Option α} {r : α} (d : Nat) (h : ∀ k, d < k → g k = some r) : Ev g r := ⟨d + 1, fun k hk => h k (by omega)⟩
theorem Ev.eq {α : Type} {g : Nat → Option α} {r : α} (h : ∀ k, g k = some r) : Ev g r := ⟨0, fun k _ => h k⟩
theorem Ev.bindc {α β : Type} {x : Option α} {f : Nat → α → Option β} {a : α} {r : β} (h : x = some a) (k : Ev (fun n => f n a) r) : Ev (fun n => x.bind (f n)) r := by
 subst h
 exact k

def foldN {σ ρ : Type} (step : Nat → σ → σ ⊕ ρ) (fin : σ → ρ) : Nat → Nat → σ → ρ
 | 0, _, s => fin s
 | n + 1, i, s => match step i s with
  | .inl s' => foldN step fin n (i + 1) s'
  | .inr r => r
theorem loopN {σ ρ : Type} (L : Nat → Int → σ → Option ρ) (n K : Nat) (Inv : Nat → σ → Prop) (step : Nat → σ → σ ⊕ ρ) (fin : σ → ρ)
  (h1 : ∀ k i s, K ≤ k → i < n → Inv i s → (∃ s', step i s = .inl s' ∧ Inv (i + 1) s' ∧ L (k + 1) (i : Int) s = L k ((i + 1 : Nat) : Int) s') ∨ (∃ r, step i s = .inr r ∧ L (k + 1) (i : Int) s = some r))
  (h2 : ∀ k s, K ≤ k → Inv n s → L (k + 1) (n : Int) s = some (fin s)) : ∀ d i s k, i + d = n → K + d < k → Inv i s → L k (i : Int) s = some (foldN step fin d i s) := by
 intro d
 induction d with
 | zero =>
  intro i s k hi hk hv
  obtain ⟨k, rfl⟩ : ∃ m, k = m + 1 := ⟨k - 1, by omega⟩
  obtain rfl : i = n := by omega
  exact h2 k s (by omega) hv
 | succ d ih =>
  intro i s k hi hk hv
  obtain ⟨k, rfl⟩ : ∃ m, k = m + 1 := ⟨k - 1, by omega⟩
  simp only [foldN]
  rcases h1 k i s (by omega) (by omega) hv with ⟨s', hs, hv', hL⟩ | ⟨r, hs, hL⟩
  ·rw [hs, hL]
   exact ih (i + 1) s' k (by omega) (by omega) hv'
  ·rw [hs, hL]
theorem loopN_ev {σ ρ : Type} (L : Nat → Int → σ → Option ρ) (n K : Nat) (Inv : Nat → σ → Prop) (step : Nat → σ → σ ⊕ ρ) (fin : σ → ρ) (s : σ) (hv : Inv 0 s)
  (h1 : ∀ k i s, K ≤ k → i < n → Inv i s → (∃ s', step i s = .inl s' ∧ Inv (i + 1) s' ∧ L (k + 1) (i : Int) s = L k ((i + 1 : Nat) : Int) s') ∨ (∃ r, step i s = .inr r ∧ L (k + 1) (i : Int) s = some r))
  (h2 : ∀ k s, K ≤ k → Inv n s → L (k + 1) (n : Int) s = some (fin s)) : Ev (fun k => L k 0 s) (foldN step fin n 0 s) :=
 Ev.past (K + n) fun k hk => loopN L n K Inv step fin h1 h2 n 0 s k (by omega) hk hv
theorem loopT_ev {σ ρ : Type} (L : Nat → Int → σ → Option ρ) (n K : Nat) (step : Nat → σ → σ ⊕ ρ) (fin : σ → ρ) (s : σ)
  (h1 : ∀ k i s, K ≤ k → i < n → (∃ s', step i s = .inl s' ∧ L (k + 1) (i : Int) s = L k ((i + 1 : Nat) : Int) s') ∨ (∃ r, step i s = .inr r ∧ L (k + 1) (i : Int) s = some r))
  (h2 : ∀ k s, K ≤ k → L (k + 1) (n : Int) s = some (fin s)) : Ev (fun k => L k 0 s) (foldN step fin n 0 s) :=
 loopN_ev L n K (fun _ _ => True) step fin s trivial (fun k i s hk hi _ => (h1 k i s hk hi).imp (fun ⟨s', a, b⟩ => ⟨s', a, trivial, b⟩) id) (fun k s hk _ => h2 k s hk)
theorem loopV_ev {σ ρ : Type} (L : Nat → Int → σ → Option ρ) (n K : Nat) (Inv : Nat → σ → Prop) (r : ρ) (s : σ) (hv : Inv 0 s)
  (h1 : ∀ k i s, K ≤ k → i < n → Inv i s → (∃ s', Inv (i + 1) s' ∧ L (k + 1) (i : Int) s = L k ((i + 1 : Nat) : Int) s') ∨ L (k + 1) (i : Int) s = some r)
  (h2 : ∀ k s, K ≤ k → Inv n s → L (k + 1) (n : Int) s = some r) : Ev (fun k => L k 0 s) r := by
 have key : ∀ d i s k, i + d = n → K + d < k → Inv i s → L k (i : Int) s = some r := by
  intro d
  induction d with
  | zero =>
   intro i s k hi hk hv
   obtain ⟨k, rfl⟩ : ∃ m, k = m + 1 := ⟨k - 1, by omega⟩
   obtain rfl : i = n := by omega
   exact h2 k s (by omega) hv
  | succ d ih =>
   intro i s k hi hk hv
   obtain ⟨k, rfl⟩ : ∃ m, k = m + 1 := ⟨k - 1, by omega⟩
   rcases h1 k i s (by omega) (by omega) hv with ⟨s', hv', hL⟩ | hL
   ·rw [hL]
    exact ih (i + 1) s' k (by omega) (by omega) hv'
   ·exact hL
 exact Ev.past (K + n) fun k hk => key n 0 s k (by omega) hk hv
theorem foldN_rel {σ1 σ2 ρ1 ρ2 : Type} {step1 : Nat → σ1 → σ1 ⊕ ρ1} {fin1 : σ1 → ρ1} {step2 : Nat → σ2 → σ2 ⊕ ρ2} {fin2 : σ2 → ρ2} (n : Nat) (R : Nat → σ1 → σ2 → Prop) (Q : ρ1 → ρ2 → Prop)
  (hs : ∀ i a b, R i a b → i < n → (∃ a' b', step1 i a = .inl a' ∧ step2 i b = .inl b' ∧ R (i + 1) a' b') ∨ (∃ a' b', step1 i a = .inr a' ∧ step2 i b = .inr b' ∧ Q a' b'))
  (hf : ∀ a b, R n a b → Q (fin1 a) (fin2 b)) : ∀ d i a b, i + d = n → R i a b → Q (foldN step1 fin1 d i a) (foldN step2 fin2 d i b) := by
 intro d
 induction d with
 | zero =>
  intro i a b hi hr
  obtain rfl : i = n := by omega
  exact hf a b hr
 | succ d ih =>
  intro i a b hi hr
  simp only [foldN]
  rcases hs i a b hr (by omega) with ⟨a', b', h1, h2, h3⟩ | ⟨a', b', h1, h2, h3⟩
  ·rw [h1, h2]
   exact ih (i + 1) a' b' (by omega) h3
  ·rw [h1, h2]
   exact h3
theorem foldN_congr {σ ρ : Type} {step1 step2 : Nat → σ → σ ⊕ ρ} {fin1 fin2 : σ → ρ} (n : Nat) (hs : ∀ i s, i < n → step1 i s = step2 i s) (hf : ∀ s, fin1 s = fin2 s) (s : σ) :
  foldN step1 fin1 n 0 s = foldN step2 fin2 n 0 s := by
 refine foldN_rel n (fun _ a b => a = b) (fun a b => a = b) ?_ ?_ n 0 s s (by omega) rfl
 ·rintro i a _ rfl hi
  rw [hs i a hi]
  cases step2 i a with
  | inl x => exact .inl ⟨x, x, rfl, rfl, rfl⟩
  | inr x => exact .inr ⟨x, x, rfl, rfl, rfl⟩
 ·rintro a _ rfl
  exact hf a
theorem foldN_inv {σ ρ : Type} {step : Nat → σ → σ ⊕ ρ} {fin : σ → ρ} (n : Nat) (R : Nat → σ → Prop) (Q : ρ → Prop)
  (hs : ∀ i a, R i a → i < n → (∃ a', step i a = .inl a' ∧ R (i + 1) a') ∨ (∃ r, step i a = .inr r ∧ Q r))
  (hf : ∀ a, R n a → Q (fin a)) : ∀ d i a, i + d = n → R i a → Q (foldN step fin d i a) := by
 intro d
 induction d with
 | zero =>
  intro i a hi hr
  obtain rfl : i = n := by omega
  exact hf a hr
 | succ d ih =>
  intro i a hi hr
  simp only [foldN]
  rcases hs i a hr (by omega) with ⟨a', h1, h3⟩ | ⟨a', h1, h3⟩
  ·rw [h1]
   exact ih (i + 1) a' (by omega) h3
  ·rw [h1]
   exact h3
theorem foldN_all {α : Type} (l : List α) (d : α) (p : α → Bool) (b : Bool) :
  foldN (fun i (_ : Unit) => if p (l.getD i d) = true then Sum.inl () else Sum.inr false) (fun _ => b) l.length 0 () = (l.all p && b) := by
 have key : ∀ e i, i + e = l.length → foldN (fun i (_ : Unit) => if p (l.getD i d) = true then Sum.inl () else Sum.inr false) (fun _ => b) e i () = ((l.drop i).all p && b) := by
  intro e
  induction e with
  | zero =>
   intro i hi
   rw [List.drop_eq_nil_of_le (by omega)]
   rfl
  | succ e ih =>
   intro i hi
   have hl : i < l.length := by omega
   have hg : l.getD i d = l[i] := by simp [List.getD_eq_getElem?_getD, List.getElem?_eq_getElem hl]
   rw [List.drop_eq_getElem_cons hl]
   simp only [foldN, hg, List.all_cons]
   cases hp : p l[i] with
   | true => simpa using ih (i + 1) (by omega)
   | false => simp
 simpa using key l.length 0 (by omega)
theorem rd_nat (l : List Int) (i : Nat) : rd l (i : Int) = l.getD i 0 := by simp [rd]
theorem getD_lt {α : Type} (l : List α) (d : α) (i : Nat) (h : i < l.length) : l.getD i d = l[i] := by simp [List.getD_eq_getElem?_getD, List.getElem?_eq_getElem h]
theorem set_take {α : Type} (l : List α) (i : Nat) (v : α) (h : i < l.length) : (l.set i v).take (i + 1) = l.take i ++ [v] := by
 rw [List.take_succ_eq_append_getElem (by simpa using h), List.take_set_of_le (Nat.le_refl _)]
 simp
set_option linter.unusedVariables false
set_option linter.unusedSimpArgs false
def Bytes (l : List Int) : Prop := ∀ x ∈ l, 0 ≤ x ∧ x ≤ 255
theorem bytes_of {l : List Int} (h : ∀ x ∈ l, (Lit.int .u8 x).wf = true) : Bytes l := fun x hx => by
 have := h x hx
 simp [Lit.wf, IntKind.min, IntKind.max, IntKind.signed, IntKind.bits] at this
 omega
theorem wrap_u64 (x : Int) : 0 ≤ IntKind.u64.wrap x ∧ IntKind.u64.wrap x < 18446744073709551616 := by
 have h : IntKind.u64.wrap x = x % 18446744073709551616 := by
  simp [IntKind.wrap, IntKind.signed, IntKind.bits]
 rw [h]
 omega
theorem bits_255 (x : Int) : 0 ≤ Go.bits .and .u64 x 255 ∧ Go.bits .and .u64 x 255 ≤ 255 := by
 have h : ((BitVec.ofInt 64 x) &&& (BitVec.ofInt 64 255)).toNat ≤ 255 := by
  rw [BitVec.toNat_and]
  exact Nat.le_trans Nat.and_le_right (by decide)
 have e : Go.bits .and .u64 x 255 = IntKind.u64.wrap (((BitVec.ofInt 64 x) &&& (BitVec.ofInt 64 255)).toNat : Int) := rfl
 have hw : ∀ y : Int, IntKind.u64.wrap y = y % 18446744073709551616 := fun y => by simp [IntKind.wrap, IntKind.signed, IntKind.bits]
 rw [e, hw]
 omega
theorem cur_next {l : List Int} (hb : Bytes l) {i s : Int} (h0 : 0 ≤ i) (h1 : i ≤ 1000000000) : ∃ v t, spec_l1Cur_next.f l i s = some (v, i + 1, t) ∧ 0 ≤ v ∧ v ≤ 255 := by
 have hw : wrap64 (i + 1) = i + 1 := wrap_id (by omega) (by omega)
 have hv : i < l.length → 0 ≤ wrap64 (rd l i) ∧ wrap64 (rd l i) ≤ 255 := fun h => by
  have hi : i.toNat < l.length := by omega
  have h2 := hb _ (List.getElem_mem hi)
  have h3 : rd l i = l[i.toNat] := by simp only [rd]; exact getD_lt l 0 i.toNat hi
  rw [h3, wrap_id (by omega) (by omega)]
  exact h2
 have hc : ∀ x : Int, 0 ≤ wrap64 (Go.bits .and .u64 x 255) ∧ wrap64 (Go.bits .and .u64 x 255) ≤ 255 := fun x => by
  have := bits_255 x
  rw [wrap_id (by omega) (by omega)]
  exact this
 unfold spec_l1Cur_next.f
 simp only [hw]
 by_cases ha : i < l.length
 ·rw [if_pos ha, if_pos h0, if_pos (by omega)]
  exact ⟨_, _, rfl, hv ha⟩
 ·rw [if_neg ha, if_neg (by omega)]
  exact ⟨_, _, rfl, hc _⟩
theorem cur_pick {l : List Int} (hb : Bytes l) {i s n : Int} (h0 : 0 ≤ i) (h1 : i ≤ 999999990) (hn : n ≤ 1000000) : ∃ v j t, spec_l1Cur_pick.f l i s n = some (v, j, t) ∧ i ≤ j ∧ j ≤ i + 2 ∧ 0 ≤ v ∧ (v < n ∨ v = 0) := by
 unfold spec_l1Cur_pick.f
 by_cases c : n ≤ 1
 ·rw [if_pos c]
  exact ⟨_, _, _, rfl, by omega, by omega, by omega, .inr rfl⟩
 ·rw [if_neg c]
  obtain ⟨v, t, e, g0, g1⟩ := cur_next (s := s) hb h0 (by omega)
  rw [e]
  simp only [Option.bind_some]
  by_cases c2 : n > 200
  ·rw [if_pos c2]
   obtain ⟨u, t2, e2, g2, g3⟩ := cur_next (i := i + 1) (s := t) hb (by omega) (by omega)
   rw [e2]
   simp only [Option.bind_some]
   rw [if_neg (by omega)]
   have h1 : wrap64 (v * 256) = v * 256 := wrap_id (by omega) (by omega)
   have h2 : wrap64 (v * 256 + u) = v * 256 + u := wrap_id (by omega) (by omega)
   rw [h1, h2]
   exact ⟨_, _, _, rfl, by omega, by omega, Int.tmod_nonneg _ (by omega), .inl (Int.tmod_lt_of_pos _ (by omega))⟩
  ·rw [if_neg c2, if_neg (by omega)]
   exact ⟨_, _, _, rfl, by omega, by omega, Int.tmod_nonneg _ (by omega), .inl (Int.tmod_lt_of_pos _ (by omega))⟩
theorem cur_among {l : List Int} (hb : Bytes l) {i s : Int} (xs : List Int) (h0 : 0 ≤ i) (h1 : i ≤ 999999990) (hx : 0 < xs.length) (hx2 : xs.length ≤ 1000000) : ∃ v j t, spec_l1Cur_among.f l i s xs = some (v, j, t) ∧ i ≤ j ∧ j ≤ i + 2 ∧ v ∈ xs := by
 obtain ⟨v, j, t, e, g0, g1, g2, g3⟩ := cur_pick (s := s) (n := (xs.length : Int)) hb h0 h1 (by omega)
 unfold spec_l1Cur_among.f
 rw [e]
 simp only [Option.bind_some]
 rw [if_pos g2, if_pos (by omega)]
 refine ⟨_, _, _, rfl, g0, g1, ?_⟩
 have hi : v.toNat < xs.length := by omega
 have h3 : rd xs v = xs[v.toNat] := by simp only [rd]; exact getD_lt xs 0 v.toNat hi
 rw [h3]
 exact List.getElem_mem hi
theorem cur_cut {b v : Int} {n : Int} (h : 0 ≤ v) (hn : v < n ∨ v = 0) (hb : 0 ≤ b) (hb2 : b ≤ 1000) (hn2 : n ≤ 1000) : wrap64 (b + wrap64 (Int.tdiv v 11)) = b + v / 11 := by
 have e : Int.tdiv v 11 = v / 11 := Int.tdiv_eq_ediv_of_nonneg h
 rw [e, wrap_id (x := v / 11) (by omega) (by omega), wrap_id (by omega) (by omega)]
set_option linter.unusedVariables false
set_option linter.unusedSimpArgs false
def Dr {α : Type} (g : Nat → Option α) (P : α → Prop) : Prop := ∃ r, Ev g r ∧ P r
theorem Dr.now {α : Type} {P : α → Prop} (r : α) (h : P r) : Dr (fun _ => some r) P := ⟨r, Ev.now r, h⟩
theorem Dr.none {α : Type} {P : α → Prop} (h : False) : Dr (fun _ => (none : Option α)) P := h.elim
theorem Dr.ite {α : Type} {c : Prop} [Decidable c] {g g' : Nat → Option α} {P : α → Prop} (h : c → Dr g P) (h' : ¬ c → Dr g' P) : Dr (fun k => if c then g k else g' k) P := by
 by_cases hc : c
 ·obtain ⟨r, h1, h2⟩ := h hc
  exact ⟨r, Ev.ite_pos hc h1, h2⟩
 ·obtain ⟨r, h1, h2⟩ := h' hc
  exact ⟨r, Ev.ite_neg hc h1, h2⟩
theorem Dr.step {α : Type} {g f : Nat → Option α} {P : α → Prop} (he : ∀ k, g (k + 1) = f k) (h : Dr f P) : Dr g P := by
 obtain ⟨r, h1, h2⟩ := h
 exact ⟨r, Ev.step he h1, h2⟩
theorem Dr.bind {α β : Type} {g : Nat → Option α} {f : Nat → α → Option β} {Q : α → Prop} {P : β → Prop} (h : Dr g Q) (k : ∀ r, Q r → Dr (fun n => f n r) P) : Dr (fun n => (g n).bind (f n)) P := by
 obtain ⟨a, h1, h2⟩ := h
 obtain ⟨b, h3, h4⟩ := k a h2
 exact ⟨b, Ev.bind h1 h3, h4⟩
theorem Dr.bindc {α β : Type} {x : Option α} {f : Nat → α → Option β} {P : β → Prop} {a : α} (h : x = some a) (k : Dr (fun n => f n a) P) : Dr (fun n => x.bind (f n)) P := by
 subst h
 exact k
theorem Dr.mono {α : Type} {g : Nat → Option α} {P Q : α → Prop} (h : Dr g P) (hpq : ∀ r, P r → Q r) : Dr g Q := by
 obtain ⟨r, h1, h2⟩ := h
 exact ⟨r, h1, hpq r h2⟩
theorem Dr.pick {α : Type} {l : List Int} (hb : Bytes l) {i s n : Int} {f : Nat → Int × Int × Int → Option α} {P : α → Prop} (h0 : 0 ≤ i) (h1 : i ≤ 999999990) (hn : n ≤ 1000000) (k : ∀ v j t, i ≤ j → j ≤ i + 2 → 0 ≤ v → (v < n ∨ v = 0) → Dr (fun m => f m (v, j, t)) P) : Dr (fun m => (spec_l1Cur_pick.f l i s n).bind (f m)) P := by
 obtain ⟨v, j, t, e, g0, g1, g2, g3⟩ := cur_pick (s := s) hb h0 h1 hn
 exact Dr.bindc e (k v j t g0 g1 g2 g3)
theorem Dr.among {α : Type} {l : List Int} (hb : Bytes l) {i s : Int} {xs : List Int} {f : Nat → Int × Int × Int → Option α} {P : α → Prop} (h0 : 0 ≤ i) (h1 : i ≤ 999999990) (hx : 0 < xs.length) (hx2 : xs.length ≤ 1000000) (k : ∀ v j t, i ≤ j → j ≤ i + 2 → v ∈ xs → Dr (fun m => f m (v, j, t)) P) : Dr (fun m => (spec_l1Cur_among.f l i s xs).bind (f m)) P := by
 obtain ⟨v, j, t, e, g0, g1, g2⟩ := cur_among (s := s) hb xs h0 h1 hx hx2
 exact Dr.bindc e (k v j t g0 g1 g2)
theorem Dr.one {α : Type} {l : List Int} (hb : Bytes l) {i s n : Int} {f : Nat → Bool × Int × Int → Option α} {P : α → Prop} (h0 : 0 ≤ i) (h1 : i ≤ 999999990) (hn : n ≤ 1000000) (k : ∀ b j t, i ≤ j → j ≤ i + 2 → Dr (fun m => f m (b, j, t)) P) : Dr (fun m => (spec_l1Cur_one.f l i s n).bind (f m)) P := by
 obtain ⟨v, j, t, e, g0, g1, g2, g3⟩ := cur_pick (s := s) hb h0 h1 hn
 refine Dr.bindc (a := (v == 0, j, t)) ?_ (k _ j t g0 g1)
 unfold spec_l1Cur_one.f
 rw [e]
 rfl
theorem snoc_len {α : Type} (l : List α) (x : α) : (l ++ [x]).length = l.length + 1 := by simp
theorem wrap_pred (d : Nat) (h : d < 1000000) : wrap64 (((d + 1 : Nat) : Int) - 1) = (d : Int) := by
 unfold wrap64
 omega
theorem wrap_succ (d : Nat) (h : d < 1000000) : wrap64 ((d : Int) + 1) = ((d + 1 : Nat) : Int) := by
 unfold wrap64
 omega
set_option linter.unusedVariables false
set_option linter.unusedSimpArgs false
theorem dr_leg0 {l : List Int} (hb : Bytes l) (a b c d e : Int) {i s : Int} (h0 : 0 ≤ i) (h1 : i ≤ 999000000) : Dr (fun k => spec_l1Cur_leg.j0 k l i s a b c d e) (fun r => i ≤ r.2.2.2.2.2.1 ∧ r.2.2.2.2.2.1 ≤ i + 4) := by
 refine Dr.step (fun k => by rw [spec_l1Cur_leg.j0]) ?_
 refine Dr.pick hb (by omega) (by omega) (by omega) (fun v j t g0 g1 g2 g3 => ?_)
 dsimp only
 refine Dr.ite (fun _ => ?_) (fun _ => Dr.ite (fun _ => ?_) (fun _ => Dr.ite (fun _ => ?_) (fun _ => Dr.ite (fun _ => ?_) (fun _ => Dr.now _ ⟨by dsimp only; omega, by dsimp only; omega⟩))))
 all_goals
  refine Dr.among hb (by omega) (by omega) (by simp) (by simp) (fun v2 j2 t2 g4 g5 g6 => ?_)
  exact Dr.now _ ⟨by dsimp only; omega, by dsimp only; omega⟩
theorem dr_leg {l : List Int} (hb : Bytes l) {i s : Int} (h0 : 0 ≤ i) (h1 : i ≤ 998000000) : Dr (fun k => spec_l1Cur_leg.f k l i s) (fun r => i ≤ r.2.2.2.2.2.1 ∧ r.2.2.2.2.2.1 ≤ i + 14) := by
 simp only [spec_l1Cur_leg.f]
 refine Dr.pick hb (by omega) (by omega) (by omega) (fun v j t g0 g1 g2 g3 => ?_)
 dsimp only
 refine Dr.pick hb (by omega) (by omega) (by omega) (fun v2 j2 t2 g4 g5 g6 g7 => ?_)
 dsimp only
 refine Dr.among hb (by omega) (by omega) (by decide) (by decide) (fun v3 j3 t3 g8 g9 _ => ?_)
 dsimp only
 refine Dr.among hb (by omega) (by omega) (by decide) (by decide) (fun v4 j4 t4 g10 g11 _ => ?_)
 dsimp only
 refine Dr.among hb (by omega) (by omega) (by decide) (by decide) (fun v5 j5 t5 g12 g13 _ => ?_)
 dsimp only
 exact Dr.ite (fun _ => (dr_leg0 hb _ _ _ _ _ (by omega) (by omega)).mono (fun r hr => ⟨by omega, by omega⟩)) (fun _ => (dr_leg0 hb _ _ _ _ _ (by omega) (by omega)).mono (fun r hr => ⟨by omega, by omega⟩))
set_option linter.unusedVariables false
set_option linter.unusedSimpArgs false
theorem sine_some (a : Int) : ∃ r, spec_l2Sine.f a = some r := by
 have h1 : Int.tmod a 360 < 360 := Int.tmod_lt_of_pos a (by decide)
 have h2 : Int.tmod (-a) 360 < 360 := Int.tmod_lt_of_pos (-a) (by decide)
 rw [Int.neg_tmod] at h2
 have hw : wrap64 (Int.tmod a 360 + 360) = Int.tmod a 360 + 360 := by unfold wrap64; omega
 unfold spec_l2Sine.f
 rw [hw]
 have h3 : 0 ≤ Int.tmod (Int.tmod a 360 + 360) 360 := Int.tmod_nonneg _ (by omega)
 have h4 : Int.tmod (Int.tmod a 360 + 360) 360 < 360 := Int.tmod_lt_of_pos _ (by decide)
 generalize Int.tmod (Int.tmod a 360 + 360) 360 = d at h3 h4
 simp only [spec_l2Table.f, Option.bind_some]
 have e1 : wrap64 (180 - d) = 180 - d := wrap_id (by omega) (by omega)
 have e2 : wrap64 (d - 180) = d - 180 := wrap_id (by omega) (by omega)
 have e3 : wrap64 (360 - d) = 360 - d := wrap_id (by omega) (by omega)
 rw [e1, e2, e3]
 simp only [List.length_cons, List.length_nil]
 by_cases c1 : d ≤ 90
 ·rw [if_pos c1, if_pos h3, if_pos (by omega)]
  exact ⟨_, rfl⟩
 ·rw [if_neg c1]
  by_cases c2 : d ≤ 180
  ·rw [if_pos c2, if_pos (by omega), if_pos (by omega)]
   exact ⟨_, rfl⟩
  ·rw [if_neg c2]
   by_cases c3 : d ≤ 270
   ·rw [if_pos c3, if_pos (by omega), if_pos (by omega)]
    exact ⟨_, rfl⟩
   ·rw [if_neg c3, if_pos (by omega), if_pos (by omega)]
    exact ⟨_, rfl⟩
theorem cosine_some (a : Int) : ∃ r, spec_l2Cosine.f a = some r := by
 obtain ⟨r, h⟩ := sine_some (wrap64 (a + 90))
 exact ⟨r, by simp only [spec_l2Cosine.f, h, Option.bind_some]⟩
theorem div_some (a : Int) : ∃ r, spec_l2Div.f a 1000 = some r := by
 have e : ¬ wrap64 (2 * 1000) = 0 := by unfold wrap64; omega
 unfold spec_l2Div.f
 rw [if_neg e, if_neg e]
 by_cases c : a < 0
 ·rw [if_pos c]
  exact ⟨_, rfl⟩
 ·rw [if_neg c]
  exact ⟨_, rfl⟩
theorem shift_some (a b c d e : Int) : ∃ x y z, spec_l4Shift.f a b c d e = some (x, y, z) := by
 obtain ⟨r1, h1⟩ := cosine_some e
 obtain ⟨r2, h2⟩ := div_some (wrap64 (c * r1))
 obtain ⟨r3, h3⟩ := sine_some d
 obtain ⟨r4, h4⟩ := div_some (wrap64 (r2 * r3))
 obtain ⟨r5, h5⟩ := cosine_some d
 obtain ⟨r6, h6⟩ := div_some (wrap64 (r2 * r5))
 obtain ⟨r7, h7⟩ := sine_some e
 obtain ⟨r8, h8⟩ := div_some (wrap64 (c * r7))
 exact ⟨r4, r6, r8, by simp only [spec_l4Shift.f, h1, h2, h3, h4, h5, h6, h7, h8, Option.bind_some]⟩
theorem long_some (a : Int) : spec_l2Long.f a = some (decide (-100000 ≤ a ∧ a ≤ 100000)) := by
 simp only [spec_l2Long.f, l1In_eq, Option.bind_some]
theorem length_ev0 (q : Int) : ∀ (d : Nat) (x y : Int), 0 ≤ x → x ≤ 200000 → y ≤ 200000 → y - x ≤ d → ∃ r, Ev (fun k => spec_LengthOf.l0 k q x y) r := by
 intro d
 induction d with
 | zero =>
  intro x y h0 h1 h2 hd
  exact ⟨_, Ev.step (fun k => by rw [spec_LengthOf.l0]) (Ev.ite_neg (by omega) (Ev.now _))⟩
 | succ d ih =>
  intro x y h0 h1 h2 hd
  by_cases c : x < y
  ·have e : wrap64 (Int.tdiv (wrap64 (wrap64 (x + y) + 1)) 2) = (x + y + 1) / 2 := by
    rw [wrap_id (x := x + y) (by omega) (by omega), wrap_id (x := x + y + 1) (by omega) (by omega), Int.tdiv_eq_ediv_of_nonneg (by omega), wrap_id (by omega) (by omega)]
   by_cases c2 : wrap64 ((x + y + 1) / 2 * ((x + y + 1) / 2)) ≤ q
   ·obtain ⟨r, h⟩ := ih ((x + y + 1) / 2) y (by omega) (by omega) h2 (by omega)
    refine ⟨r, Ev.step (fun k => by rw [spec_LengthOf.l0]) (Ev.ite_pos c ?_)⟩
    rw [e]
    exact Ev.ite_pos c2 h
   ·obtain ⟨r, h⟩ := ih x ((x + y + 1) / 2 - 1) h0 h1 (by omega) (by omega)
    refine ⟨r, Ev.step (fun k => by rw [spec_LengthOf.l0]) (Ev.ite_pos c ?_)⟩
    rw [e, wrap_id (x := (x + y + 1) / 2 - 1) (by omega) (by omega)]
    exact Ev.ite_neg c2 h
  ·exact ⟨_, Ev.step (fun k => by rw [spec_LengthOf.l0]) (Ev.ite_neg c (Ev.now _))⟩
theorem dr_length (a b c : Int) : Dr (fun k => spec_LengthOf.f k a b c) (fun _ => True) := by
 have hj : ∀ t, Dr (fun k => spec_LengthOf.j0 k a b c t) (fun _ => True) := fun t => by
  refine Dr.step (fun k => by rw [spec_LengthOf.j0]) (Dr.ite (fun _ => Dr.now _ trivial) (fun _ => ?_))
  obtain ⟨r, h⟩ := length_ev0 (wrap64 (wrap64 (wrap64 (a * a) + wrap64 (b * b)) + wrap64 (c * c))) 200000 0 200000 (by omega) (by omega) (by omega) (by omega)
  exact ⟨r, h, trivial⟩
 simp only [spec_LengthOf.f, long_some, Option.bind_some]
 exact Dr.ite (fun _ => Dr.ite (fun _ => hj _) (fun _ => hj _)) (fun _ => hj _)
theorem dr_bearing0 (x y : Int) : ∀ (d q : Nat) (b : Int), q + d = 360 → Dr (fun k => spec_BearingTo.l0 k x y b (q : Int)) (fun _ => True) := by
 intro d
 induction d with
 | zero =>
  intro q b hq
  exact Dr.step (fun k => by rw [spec_BearingTo.l0]) (Dr.ite (fun c => by omega) (fun _ => Dr.now _ trivial))
 | succ d ih =>
  intro q b hq
  obtain ⟨r1, h1⟩ := sine_some (q : Int)
  obtain ⟨r2, h2⟩ := cosine_some (q : Int)
  obtain ⟨r3, h3⟩ := sine_some b
  obtain ⟨r4, h4⟩ := cosine_some b
  refine Dr.step (fun k => by rw [spec_BearingTo.l0]) (Dr.ite (fun _ => ?_) (fun c => by omega))
  simp only [h1, h2, h3, h4, Option.bind_some]
  rw [wrap_succ q (by omega)]
  exact Dr.ite (fun _ => ih (q + 1) _ (by omega)) (fun _ => ih (q + 1) _ (by omega))
theorem dr_bearing (x y : Int) : Dr (fun k => spec_BearingTo.f k x y) (fun _ => True) := by
 have hj : ∀ t, Dr (fun k => spec_BearingTo.j0 k x y t) (fun _ => True) := fun t =>
  Dr.step (fun k => by rw [spec_BearingTo.j0]) (Dr.ite (g := fun _ => some (0, false)) (g' := fun k => spec_BearingTo.l0 k x y 0 1) (fun _ => Dr.now _ trivial) (fun _ => dr_bearing0 x y 359 1 0 (by omega)))
 simp only [spec_BearingTo.f, long_some, Option.bind_some]
 exact Dr.ite (fun _ => Dr.ite (fun _ => Dr.ite (fun _ => hj _) (fun _ => hj _)) (fun _ => hj _)) (fun _ => hj _)
theorem dr_slope0 (x y : Int) : ∀ (d q : Nat) (b : Int), q + d = 91 → Dr (fun k => spec_SlopeTo.l0 k x y b (q : Int)) (fun _ => True) := by
 intro d
 induction d with
 | zero =>
  intro q b hq
  exact Dr.step (fun k => by rw [spec_SlopeTo.l0]) (Dr.ite (fun c => by omega) (fun _ => Dr.now _ trivial))
 | succ d ih =>
  intro q b hq
  refine Dr.step (fun k => by rw [spec_SlopeTo.l0]) (Dr.ite (fun _ => ?_) (fun c => by omega))
  have one : ∀ (b s : Int) (G : Nat → Option (Int × Bool)), (∀ b', Dr (fun k => spec_SlopeTo.l1 k x y b' (q : Int) (wrap64 (s - 2))) (fun _ => True)) → s ≥ -1 → Dr (fun k => spec_SlopeTo.l1 k x y b (q : Int) s) (fun _ => True) := fun b s G hk hs => by
   obtain ⟨r1, h1⟩ := cosine_some (q : Int)
   obtain ⟨r2, h2⟩ := sine_some (wrap64 (s * (q : Int)))
   obtain ⟨r3, h3⟩ := cosine_some b
   obtain ⟨r4, h4⟩ := sine_some b
   refine Dr.step (fun k => by rw [spec_SlopeTo.l1]) (Dr.ite (fun _ => ?_) (fun c => absurd hs c))
   simp only [h1, h2, h3, h4, Option.bind_some]
   exact Dr.ite (fun _ => hk _) (fun _ => hk _)
  refine one b 1 (fun _ => none) (fun b' => ?_) (by decide)
  rw [show wrap64 (1 - 2) = -1 by unfold wrap64; omega]
  refine one b' (-1) (fun _ => none) (fun b2 => ?_) (by decide)
  rw [show wrap64 (-1 - 2) = -3 by unfold wrap64; omega]
  refine Dr.step (fun k => by rw [spec_SlopeTo.l1]) (Dr.ite (fun c => absurd c (by decide)) (fun _ => ?_))
  rw [wrap_succ q (by omega)]
  exact ih (q + 1) b2 (by omega)
theorem dr_slope (x y : Int) : Dr (fun k => spec_SlopeTo.f k x y) (fun _ => True) := by
 have hj : ∀ t, Dr (fun k => spec_SlopeTo.j0 k x y t) (fun _ => True) := fun t =>
  Dr.step (fun k => by rw [spec_SlopeTo.j0]) (Dr.ite (g := fun _ => some (0, false)) (g' := fun k => spec_SlopeTo.l0 k x y 0 1) (fun _ => Dr.now _ trivial) (fun _ => dr_slope0 x y 90 1 0 (by omega)))
 simp only [spec_SlopeTo.f, long_some, l1In_eq, Option.bind_some]
 exact Dr.ite (fun _ => Dr.ite (fun _ => Dr.ite (fun _ => hj _) (fun _ => hj _)) (fun _ => hj _)) (fun _ => hj _)
theorem dr_cave1 {l : List Int} (hb : Bytes l) (n : Int) (hn : n ≤ 100) (hn1 : 1 ≤ n) (ps : List S86) (hps : (ps.length : Int) = n) : ∀ (d : Nat) (xs : List S58) (i s : Int), 0 < xs.length → xs.length + d ≤ 12 → 0 ≤ i → i + 10 * d ≤ 990000000 → Dr (fun k => spec_l1Cur_cave.l1 k xs n ps (d : Int) l i s) (fun r => r.1.length ≤ 13 ∧ i ≤ r.2.1 ∧ r.2.1 ≤ i + 10 * d + 30) := by
 intro d
 induction d with
 | zero =>
  intro xs i s hx hd h0 h1
  refine Dr.step (fun k => by rw [spec_l1Cur_cave.l1]) (Dr.ite (fun c => by omega) (fun _ => ?_))
  refine Dr.pick hb (by omega) (by omega) (by omega) (fun v j t g0 g1 g2 g3 => ?_)
  dsimp only
  refine Dr.ite (fun _ => ?_) (fun _ => Dr.ite (fun _ => ?_) (fun _ => Dr.ite (fun _ => ?_) (fun _ => Dr.now _ ⟨by dsimp only; omega, by dsimp only; omega, by dsimp only; omega⟩)))
  ·refine Dr.bind (dr_leg hb (by omega) (by omega)) (fun r hr => ?_)
   exact Dr.ite (fun _ => Dr.now _ ⟨by dsimp only; rw [List.length_set]; omega, by dsimp only; omega, by dsimp only; omega⟩) (fun c => by omega)
  ·refine Dr.bind (dr_leg hb (by omega) (by omega)) (fun r hr => ?_)
   exact Dr.ite (fun _ => Dr.now _ ⟨by dsimp only; rw [snoc_len]; omega, by dsimp only; omega, by dsimp only; omega⟩) (fun c => by omega)
  ·simp only [Option.bind_some]
   refine Dr.ite (fun _ => ?_) (fun c => by omega)
   refine Dr.ite (fun _ => Dr.now _ ⟨by simp; omega, by dsimp only; omega, by dsimp only; omega⟩) (fun c => by simp at c; omega)
 | succ d ih =>
  intro xs i s hx hd h0 h1
  refine Dr.step (fun k => by rw [spec_l1Cur_cave.l1]) (Dr.ite (fun _ => ?_) (fun c => by omega))
  refine Dr.pick hb (by omega) (by omega) (by omega) (fun a j t g0 g1 g2 g3 => ?_)
  dsimp only
  refine Dr.pick hb (by omega) (by omega) (by omega) (fun b j2 t2 g4 g5 g6 g7 => ?_)
  dsimp only
  refine Dr.ite (fun _ => Dr.ite (fun _ => Dr.ite (fun _ => Dr.ite (fun _ => ?_) (fun c => by omega)) (fun c => by omega)) (fun c => by omega)) (fun c => by omega)
  simp only [spec_l4Plus.f, Option.bind_some]
  refine Dr.bind (dr_length _ _ _) (fun u _ => ?_)
  refine Dr.bind (dr_length _ _ _) (fun w _ => ?_)
  have hskip : ∀ (x y z p q : Int) (e f g : Int), Dr (fun k => spec_l1Cur_cave.j2 k xs n ps ((d + 1 : Nat) : Int) x y z p true l j2 t2 e f g) (fun r => r.1.length ≤ 13 ∧ i ≤ r.2.1 ∧ r.2.1 ≤ i + 10 * ((d + 1 : Nat) : Int) + 30) := fun x y z p q e f g => by
   refine Dr.step (fun k => by rw [spec_l1Cur_cave.j2]) (Dr.ite (fun _ => ?_) (fun c => absurd rfl c))
   rw [wrap_pred d (by omega)]
   exact (ih xs j2 t2 hx (by omega) (by omega) (by omega)).mono (fun r hr => ⟨hr.1, by omega, by omega⟩)
  have hgo : ∀ (b : Bool) (x y z p : Int) (e f g : Int), Dr (fun k => spec_l1Cur_cave.j2 k xs n ps ((d + 1 : Nat) : Int) x y z p b l j2 t2 e f g) (fun r => r.1.length ≤ 13 ∧ i ≤ r.2.1 ∧ r.2.1 ≤ i + 10 * ((d + 1 : Nat) : Int) + 30) := fun b x y z p e f g => by
   cases b with
   | true => exact hskip x y z p 0 e f g
   | false =>
    refine Dr.step (fun k => by rw [spec_l1Cur_cave.j2]) (Dr.ite (fun c => by cases c) (fun _ => ?_))
    refine Dr.bind (dr_bearing _ _) (fun u2 _ => ?_)
    refine Dr.bind (dr_slope _ _) (fun u3 _ => ?_)
    refine Dr.pick hb (by omega) (by omega) (by omega) (fun v3 j3 t3 g8 g9 g10 g11 => ?_)
    dsimp only
    refine Dr.pick hb (by omega) (by omega) (by omega) (fun v4 j4 t4 g12 g13 g14 g15 => ?_)
    dsimp only
    rw [wrap_pred d (by omega)]
    exact Dr.ite (fun _ => (ih _ j4 t4 (by rw [snoc_len]; omega) (by rw [snoc_len]; omega) (by omega) (by omega)).mono (fun r hr => ⟨hr.1, by omega, by omega⟩)) (fun c => by omega)
  refine Dr.ite (fun _ => hgo _ _ _ _ _ _ _ _) (fun _ => ?_)
  simp only [l1In_eq, Option.bind_some]
  exact hgo _ _ _ _ _ _ _ _
theorem dr_cave0 {l : List Int} (hb : Bytes l) (n : Nat) (hn : n ≤ 7) : ∀ (d q : Nat) (xs : List S58) (ps : List S86) (i s : Int), q + d = n → 2 ≤ n → 1 ≤ q → xs.length + 1 = q → ps.length = q → 0 ≤ i → i + 12 * d ≤ 980000000 → Dr (fun k => spec_l1Cur_cave.l0 k xs (n : Int) ps (q : Int) l i s) (fun r => r.1.length ≤ 13 ∧ i ≤ r.2.1 ∧ r.2.1 ≤ i + 12 * d + 80) := by
 intro d
 induction d with
 | zero =>
  intro q xs ps i s hq h2 hq1 hx hp h0 h1
  refine Dr.step (fun k => by rw [spec_l1Cur_cave.l0]) (Dr.ite (fun c => by omega) (fun _ => ?_))
  refine Dr.pick hb (by omega) (by omega) (by omega) (fun v j t g0 g1 g2 g3 => ?_)
  dsimp only
  obtain ⟨m, hm⟩ : ∃ m : Nat, v = (m : Int) := ⟨v.toNat, by omega⟩
  rw [hm]
  exact (dr_cave1 hb (n : Int) (by omega) (by omega) ps (by omega) m xs j t (by omega) (by omega) (by omega) (by omega)).mono (fun r hr => ⟨hr.1, by omega, by omega⟩)
 | succ d ih =>
  intro q xs ps i s hq h2 hq1 hx hp h0 h1
  refine Dr.step (fun k => by rw [spec_l1Cur_cave.l0]) (Dr.ite (fun _ => ?_) (fun c => by omega))
  refine Dr.pick hb (by omega) (by omega) (by omega) (fun v j t g0 g1 g2 g3 => ?_)
  dsimp only
  refine Dr.among hb (by omega) (by omega) (by decide) (by decide) (fun v2 j2 t2 g4 g5 _ => ?_)
  dsimp only
  refine Dr.among hb (by omega) (by omega) (by decide) (by decide) (fun v3 j3 t3 g6 g7 _ => ?_)
  dsimp only
  refine Dr.among hb (by omega) (by omega) (by decide) (by decide) (fun v4 j4 t4 g8 g9 _ => ?_)
  dsimp only
  refine Dr.ite (fun _ => Dr.ite (fun _ => ?_) (fun c => by omega)) (fun c => by omega)
  obtain ⟨x, y, z, hs⟩ := shift_some v (q : Int) v2 v3 v4
  simp only [hs, spec_l4Plus.f, spec_l4Reverse.f, Option.bind_some]
  refine Dr.ite (fun _ => ?_) (fun c => by omega)
  refine Dr.one hb (by omega) (by omega) (by omega) (fun b j5 t5 g10 g11 => ?_)
  dsimp only
  rw [wrap_succ q (by omega)]
  exact Dr.ite (fun _ => Dr.ite (fun _ => (ih (q + 1) _ _ j5 t5 (by omega) h2 (by omega) (by rw [snoc_len]; omega) (by rw [snoc_len]; omega) (by omega) (by omega)).mono (fun r hr => ⟨hr.1, by omega, by omega⟩)) (fun c => by omega)) (fun _ => Dr.ite (fun _ => (ih (q + 1) _ _ j5 t5 (by omega) h2 (by omega) (by rw [snoc_len]; omega) (by rw [snoc_len]; omega) (by omega) (by omega)).mono (fun r hr => ⟨hr.1, by omega, by omega⟩)) (fun c => by omega))
theorem dr_cave {l : List Int} (hb : Bytes l) {i s : Int} (h0 : 0 ≤ i) (h1 : i ≤ 900000000) : Dr (fun k => spec_l1Cur_cave.f k l i s) (fun r => r.1.length ≤ 13 ∧ i ≤ r.2.1 ∧ r.2.1 ≤ i + 200) := by
 simp only [spec_l1Cur_cave.f]
 refine Dr.pick hb (by omega) (by omega) (by omega) (fun v j t g0 g1 g2 g3 => ?_)
 dsimp only
 obtain ⟨m, hm⟩ : ∃ m : Nat, wrap64 (2 + v) = (m : Int) ∧ 2 ≤ m ∧ m ≤ 6 := ⟨(2 + v).toNat, by rw [wrap_id (by omega) (by omega)]; omega, by omega, by omega⟩
 rw [hm.1]
 exact (dr_cave0 hb m (by omega) (m - 1) 1 [] [⟨0, 0, 0⟩] j t (by omega) (by omega) (by omega) rfl rfl (by omega) (by omega)).mono (fun r hr => ⟨hr.1, by omega, by omega⟩)
set_option linter.unusedVariables false
set_option linter.unusedSimpArgs false
theorem dr_station {α : Type} {l : List Int} (hb : Bytes l) {i s : Int} {f : Nat → Int × Int × Int → Option α} {P : α → Prop} (h0 : 0 ≤ i) (h1 : i ≤ 999999990) (k : ∀ v j t, i ≤ j → j ≤ i + 2 → Dr (fun m => f m (v, j, t)) P) : Dr (fun m => (spec_l1Cur_stationOf.f l i s).bind (f m)) P := by
 obtain ⟨v, j, t, e, g0, g1, _⟩ := cur_among (s := s) hb [0, 0, 1, 1, 2, 2, 3, 4, 5, 7, 8, (-1)] h0 h1 (by decide) (by decide)
 refine Dr.bindc (a := (v, j, t)) ?_ (k v j t g0 g1)
 simp only [spec_l1Cur_stationOf.f, e, Option.bind_some]
theorem dr_wide1 {l : List Int} (hb : Bytes l) (xs : List S58) (hx : xs.length ≤ 14) : ∀ (d q : Nat) (ws : List Int) (i s : Int), q + d = xs.length → ws.length ≤ q → 0 ≤ i → i + 2 * d ≤ 990000000 → Dr (fun k => spec_l1Cur_wide.l1 k xs ws (q : Int) l i s) (fun r => r.1 = xs ∧ r.2.1.length ≤ 15 ∧ i ≤ r.2.2.1 ∧ r.2.2.1 ≤ i + 2 * d + 4) := by
 intro d
 induction d with
 | zero =>
  intro q ws i s hq hw h0 h1
  refine Dr.step (fun k => by rw [spec_l1Cur_wide.l1]) (Dr.ite (fun c => by omega) (fun _ => ?_))
  refine Dr.pick hb (by omega) (by omega) (by omega) (fun v j t g0 g1 g2 g3 => ?_)
  dsimp only
  refine Dr.ite (fun _ => Dr.ite (fun _ => Dr.now _ ⟨rfl, by dsimp only; rw [snoc_len]; omega, by dsimp only; omega, by dsimp only; omega⟩) (fun c => by omega)) (fun _ => Dr.ite (fun _ => Dr.ite (fun c => ?_) (fun _ => Dr.now _ ⟨rfl, by dsimp only; omega, by dsimp only; omega, by dsimp only; omega⟩)) (fun _ => Dr.now _ ⟨rfl, by dsimp only; omega, by dsimp only; omega, by dsimp only; omega⟩))
  refine Dr.among hb (by omega) (by omega) (by decide) (by decide) (fun v2 j2 t2 g4 g5 _ => ?_)
  exact Dr.ite (fun _ => Dr.now _ ⟨rfl, by dsimp only; rw [List.length_set]; omega, by dsimp only; omega, by dsimp only; omega⟩) (fun c2 => by omega)
 | succ d ih =>
  intro q ws i s hq hw h0 h1
  refine Dr.step (fun k => by rw [spec_l1Cur_wide.l1]) (Dr.ite (fun _ => ?_) (fun c => by omega))
  refine Dr.among hb (by omega) (by omega) (by decide) (by decide) (fun v j t g0 g1 _ => ?_)
  dsimp only
  rw [wrap_succ q (by omega)]
  exact Dr.ite (fun _ => (ih (q + 1) _ j t (by omega) (by rw [snoc_len]; omega) (by omega) (by omega)).mono (fun r hr => ⟨hr.1, hr.2.1, by omega, by omega⟩)) (fun c => by omega)
theorem dr_wide0 {l : List Int} (hb : Bytes l) : ∀ (d : Nat) (xs : List S58) (i s : Int), d ≤ 3 → xs.length ≤ 13 → 0 ≤ i → i + 20 * d ≤ 980000000 → Dr (fun k => spec_l1Cur_wide.l0 k xs (d : Int) l i s) (fun r => r.1.length ≤ 13 ∧ r.2.1.length ≤ 15 ∧ i ≤ r.2.2.1 ∧ r.2.2.1 ≤ i + 20 * d + 40) := by
 have hj : ∀ (xs : List S58) (i s : Int) (e : Nat), xs.length ≤ 13 → 0 ≤ i → i ≤ 980000000 → Dr (fun k => spec_l1Cur_wide.j1 k xs l i s) (fun r => r.1.length ≤ 13 ∧ r.2.1.length ≤ 15 ∧ i ≤ r.2.2.1 ∧ r.2.2.1 ≤ i + 40) := fun xs i s e hx h0 h1 =>
  Dr.step (f := fun k => spec_l1Cur_wide.l1 k xs [] 0 l i s) (fun k => by rw [spec_l1Cur_wide.j1]) ((dr_wide1 hb xs (by omega) xs.length 0 [] i s (by omega) (by simp) h0 (by omega)).mono (fun r hr => ⟨by rw [hr.1]; exact hx, hr.2.1, hr.2.2.1, by omega⟩))
 intro d
 induction d with
 | zero =>
  intro xs i s hd hx h0 h1
  exact Dr.step (fun k => by rw [spec_l1Cur_wide.l0]) (Dr.ite (fun c => by omega) (fun _ => (hj xs i s 0 hx h0 (by omega)).mono (fun r hr => ⟨hr.1, hr.2.1, hr.2.2.1, by omega⟩)))
 | succ d ih =>
  intro xs i s hd hx h0 h1
  refine Dr.step (fun k => by rw [spec_l1Cur_wide.l0]) (Dr.ite (fun _ => Dr.ite (fun _ => ?_) (fun _ => (hj xs i s 0 hx h0 (by omega)).mono (fun r hr => ⟨hr.1, hr.2.1, hr.2.2.1, by omega⟩))) (fun c => by omega))
  refine Dr.bind (dr_leg hb h0 (by omega)) (fun r hr => ?_)
  rw [wrap_pred d (by omega)]
  exact Dr.ite (fun _ => (ih _ _ _ (by omega) (by rw [snoc_len]; omega) (by omega) (by omega)).mono (fun q hq => ⟨hq.1, hq.2.1, by omega, by omega⟩)) (fun c => by omega)
theorem dr_wide {l : List Int} (hb : Bytes l) {i s : Int} (h0 : 0 ≤ i) (h1 : i ≤ 800000000) : Dr (fun k => spec_l1Cur_wide.f k l i s) (fun r => r.1.length ≤ 13 ∧ r.2.1.length ≤ 15 ∧ i ≤ r.2.2.1 ∧ r.2.2.1 ≤ i + 400) := by
 simp only [spec_l1Cur_wide.f]
 refine Dr.bind (dr_cave hb h0 (by omega)) (fun r hr => ?_)
 refine Dr.pick hb (by omega) (by omega) (by omega) (fun v j t g0 g1 g2 g3 => ?_)
 dsimp only
 obtain ⟨n, hn⟩ : ∃ n : Nat, v = (n : Int) := ⟨v.toNat, by omega⟩
 rw [hn]
 exact (dr_wide0 hb n r.1 j t (by omega) hr.1 (by omega) (by omega)).mono (fun q hq => ⟨hq.1, hq.2.1, by omega, by omega⟩)
set_option linter.unusedVariables false
set_option linter.unusedSimpArgs false
theorem rdL (l : List S58) (i : Nat) : rd_T58 l (i : Int) = l.getD i z58 := by simp [rd_T58]
def okLeg (x : S58) : Bool := decide (0 ≤ x.f0 ∧ x.f0 ≤ 7) && (decide (0 ≤ x.f1 ∧ x.f1 ≤ 7) && (decide (x.f0 ≠ x.f1) && (decide (1 ≤ x.f2 ∧ x.f2 ≤ 500) && (decide (0 ≤ x.f3 ∧ x.f3 ≤ 359) && decide (-90 ≤ x.f4 ∧ x.f4 ≤ 90)))))
theorem l4Leg_eq (x : S58) : spec_l4Leg.f x.f0 x.f1 x.f2 x.f3 x.f4 = some (okLeg x) := by
 simp only [spec_l4Leg.f, spec_l4Station.f, spec_l2Bearing.f, l1In_eq, Option.bind_some, okLeg]
 by_cases h0 : 0 ≤ x.f0 ∧ x.f0 ≤ 7 <;> by_cases h1 : 0 ≤ x.f1 ∧ x.f1 ≤ 7 <;> by_cases h2 : x.f0 = x.f1 <;> by_cases h3 : 1 ≤ x.f2 ∧ x.f2 ≤ 500 <;> by_cases h4 : 0 ≤ x.f3 ∧ x.f3 ≤ 359 <;> simp [h0, h1, h2, h3, h4]
theorem isLeg_eq (x : S58) : impl_IsLeg.f x.f0 x.f1 x.f2 x.f3 x.f4 = some (okLeg x) := by
 simp only [impl_IsLeg.f, impl_isStation.f, impl_isBearing.f, within_eq, Option.bind_some, okLeg]
 by_cases h0 : 0 ≤ x.f0 ∧ x.f0 ≤ 7 <;> by_cases h1 : 0 ≤ x.f1 ∧ x.f1 ≤ 7 <;> by_cases h2 : x.f0 = x.f1 <;> by_cases h3 : 1 ≤ x.f2 ∧ x.f2 ≤ 500 <;> by_cases h4 : 0 ≤ x.f3 ∧ x.f3 ≤ 359 <;> simp [h0, h1, h2, h3, h4]
def okLegs (l : List S58) : Bool := l.all okLeg && decide (l.length ≤ 12)
theorem l4Legs_ev (l : List S58) (hm : l.length ≤ 9223372036854775807) : Ev (fun k => spec_l4Legs.f k l) (okLegs l) := by
 have h := loopT_ev (fun k i (_ : Unit) => spec_l4Legs.l0 k l i) l.length 0 (fun i (_ : Unit) => if okLeg (l.getD i z58) = true then Sum.inl () else Sum.inr false) (fun _ => decide (l.length ≤ 12)) () ?_ ?_
 ·rw [foldN_all] at h
  exact h
 ·rintro k i - - hi
  cases hp : okLeg (l.getD i z58) with
  | true =>
   refine .inl ⟨(), by simp, ?_⟩
   simp only [spec_l4Legs.l0, rdL, l4Leg_eq, Option.bind_some, hp]
   rw [if_pos (by omega), if_pos (by omega), wrap_up hi hm, if_pos trivial]
  | false =>
   refine .inr ⟨false, by simp, ?_⟩
   simp only [spec_l4Legs.l0, rdL, l4Leg_eq, Option.bind_some, hp]
   rw [if_pos (by omega), if_pos (by omega)]
   rfl
 ·rintro k - -
  simp only [spec_l4Legs.l0]
  rw [if_neg (by omega)]
  simp only [Option.some.injEq, decide_eq_decide]
  omega
theorem areLegs_ev (l : List S58) (hm : l.length ≤ 9223372036854775807) : Ev (fun k => impl_areLegs.f k l) (okLegs l) := by
 simp only [impl_areLegs.f]
 have h := loopT_ev (fun k i (_ : Unit) => impl_areLegs.l0 k l l (l.length : Int) i) l.length 0 (fun i (_ : Unit) => if okLeg (l.getD i z58) = true then Sum.inl () else Sum.inr false) (fun _ => decide (l.length ≤ 12)) () ?_ ?_
 ·rw [foldN_all] at h
  exact h
 ·rintro k i - - hi
  cases hp : okLeg (l.getD i z58) with
  | true =>
   refine .inl ⟨(), by simp, ?_⟩
   simp only [impl_areLegs.l0, rdL, isLeg_eq, Option.bind_some, hp]
   rw [if_pos (by omega), if_pos (by omega), if_pos (by omega), wrap_up hi hm, if_pos trivial]
  | false =>
   refine .inr ⟨false, by simp, ?_⟩
   simp only [impl_areLegs.l0, rdL, isLeg_eq, Option.bind_some, hp]
   rw [if_pos (by omega), if_pos (by omega), if_pos (by omega)]
   rfl
 ·rintro k - -
  simp only [impl_areLegs.l0]
  rw [if_neg (by omega)]
  simp only [Option.some.injEq, decide_eq_decide]
  omega
theorem okLegs_len {l : List S58} (h : okLegs l = true) : l.length ≤ 12 := by
 simp only [okLegs, Bool.and_eq_true, decide_eq_true_eq] at h
 exact h.2
theorem okLegs_at {l : List S58} (h : okLegs l = true) {i : Nat} (hi : i < l.length) : okLeg (l.getD i z58) = true := by
 simp only [okLegs, Bool.and_eq_true, List.all_eq_true] at h
 rw [getD_lt _ _ _ hi]
 exact h.1 _ (List.getElem_mem hi)
theorem okLeg_says {x : S58} (h : okLeg x = true) : (0 ≤ x.f0 ∧ x.f0 ≤ 7) ∧ (0 ≤ x.f1 ∧ x.f1 ≤ 7) ∧ x.f0 ≠ x.f1 ∧ (1 ≤ x.f2 ∧ x.f2 ≤ 500) ∧ (0 ≤ x.f3 ∧ x.f3 ≤ 359) ∧ (-90 ≤ x.f4 ∧ x.f4 ≤ 90) := by
 simpa only [okLeg, Bool.and_eq_true, decide_eq_true_eq] using h
def fromOf (l : List S58) (i : Nat) : Int := (l.getD i z58).f0
def toOf (l : List S58) (i : Nat) : Int := (l.getD i z58).f1
theorem ends_in {l : List S58} (h : okLegs l = true) : ∀ i, i < l.length → (0 ≤ fromOf l i ∧ fromOf l i < 8) ∧ (0 ≤ toOf l i ∧ toOf l i < 8) := by
 intro i hi
 have := okLeg_says (okLegs_at h hi)
 unfold fromOf toOf
 omega
set_option linter.unusedVariables false
set_option linter.unusedSimpArgs false
def okWidth (x : Int) : Bool := decide (0 ≤ x ∧ x ≤ 200)
def okWidths (l : List S58) (ws : List Int) : Bool := okLegs l && (decide (ws.length = l.length) && ws.all okWidth)
theorem areWidths_ev (l : List S58) (ws : List Int) (hm : l.length ≤ 9223372036854775807) : Ev (fun k => impl_AreWidths.f k l ws) (okWidths l ws) := by
 simp only [impl_AreWidths.f]
 refine Ev.bind (areLegs_ev l hm) ?_
 have h : (!ws.any impl_AreWidths.bad) = ws.all okWidth := by
  rw [List.any_eq_not_all_not, Bool.not_not]
  congr 1
  funext x
  simp [impl_AreWidths.bad, okWidth]
 rw [h]
 exact Ev.now _
theorem l15Good_ev (l : List S58) (ws : List Int) (hm : l.length ≤ 9223372036854775807) (hw : ws.length ≤ 9223372036854775807) : Ev (fun k => spec_l15Good.f k l ws) (okWidths l ws) := by
 obtain ⟨K, hK⟩ := l4Legs_ev l hm
 have h := loopT_ev (fun k i (_ : Unit) => spec_l15Good.l0 k l ws i) ws.length K (fun i (_ : Unit) => if okWidth (ws.getD i 0) = true then Sum.inl () else Sum.inr false) (fun _ => okLegs l && decide (ws.length = l.length)) () ?_ ?_
 ·rw [foldN_all] at h
  rw [show okWidths l ws = (ws.all okWidth && (okLegs l && decide (ws.length = l.length))) by unfold okWidths; cases okLegs l <;> cases decide (ws.length = l.length) <;> cases ws.all okWidth <;> rfl]
  exact h
 ·rintro k i - - hi
  cases hp : okWidth (ws.getD i 0) with
  | true =>
   refine .inl ⟨(), by simp, ?_⟩
   simp only [spec_l15Good.l0, spec_l12Far.f, l1In_eq, rd_nat, Option.bind_some]
   rw [if_pos (by omega), if_pos (by omega), wrap_up hi hw, if_pos (show decide (0 ≤ ws.getD i 0 ∧ ws.getD i 0 ≤ 200) = true from hp)]
  | false =>
   refine .inr ⟨false, by simp, ?_⟩
   simp only [spec_l15Good.l0, spec_l12Far.f, l1In_eq, rd_nat, Option.bind_some]
   rw [if_pos (by omega), if_pos (by omega), if_neg (by rw [show decide (0 ≤ ws.getD i 0 ∧ ws.getD i 0 ≤ 200) = false from hp]; decide)]
 ·rintro k - hk
  simp only [spec_l15Good.l0, hK k hk, Option.bind_some]
  rw [if_neg (by omega)]
  cases okLegs l with
  | true =>
   rw [if_pos rfl]
   simp
   rw [Bool.eq_iff_iff]
   simp
   omega
  | false => rw [if_neg (by decide)]; rfl
theorem okWidths_legs {l : List S58} {ws : List Int} (h : okWidths l ws = true) : okLegs l = true := by
 simp only [okWidths, Bool.and_eq_true] at h
 exact h.1
theorem okWidths_len {l : List S58} {ws : List Int} (h : okWidths l ws = true) : ws.length = l.length := by
 simp only [okWidths, Bool.and_eq_true, decide_eq_true_eq] at h
 exact h.2.1
theorem okWidths_at {l : List S58} {ws : List Int} (h : okWidths l ws = true) {i : Nat} (hi : i < ws.length) : 0 ≤ ws.getD i 0 ∧ ws.getD i 0 ≤ 200 := by
 simp only [okWidths, Bool.and_eq_true, List.all_eq_true] at h
 have := h.2.2 _ (List.getElem_mem hi)
 rw [getD_lt _ _ _ hi]
 simpa only [okWidth, decide_eq_true_eq] using this
set_option linter.unusedVariables false
set_option linter.unusedSimpArgs false
theorem any_getD (l : List Int) (x : Int) : (∃ i, i < l.length ∧ l.getD i 0 = x) ↔ x ∈ l := by
 constructor
 ·rintro ⟨i, hi, rfl⟩
  rw [getD_lt _ _ _ hi]
  exact List.getElem_mem hi
 ·intro h
  obtain ⟨i, hi, rfl⟩ := List.mem_iff_getElem.1 h
  exact ⟨i, hi, getD_lt _ _ _ hi⟩
theorem l1Has_at (l : List Int) (x : Int) (hm : l.length ≤ 9223372036854775807) : ∀ k, l.length < k → spec_l1Has.f k l x = some (decide (x ∈ l)) := by
 have key : ∀ d i k, i + d = l.length → d < k → (∀ j, j < i → l.getD j 0 ≠ x) → spec_l1Has.l0 k l x (i : Int) = some (decide (x ∈ l)) := by
  intro d
  induction d with
  | zero =>
   intro i k hi hk hno
   obtain ⟨k, rfl⟩ : ∃ m, k = m + 1 := ⟨k - 1, by omega⟩
   simp only [spec_l1Has.l0]
   rw [if_neg (by omega), decide_eq_false]
   intro h
   obtain ⟨j, hj, he⟩ := (any_getD l x).2 h
   exact hno j (by omega) he
  | succ d ih =>
   intro i k hi hk hno
   obtain ⟨k, rfl⟩ : ∃ m, k = m + 1 := ⟨k - 1, by omega⟩
   have hil : i < l.length := by omega
   simp only [spec_l1Has.l0, rd_nat]
   rw [if_pos (by omega), if_pos (by omega), wrap_up hil hm]
   by_cases he : l.getD i 0 = x
   ·rw [if_pos he, decide_eq_true ((any_getD l x).1 ⟨i, hil, he⟩)]
   ·rw [if_neg he]
    refine ih (i + 1) k (by omega) (by omega) (fun j hj => ?_)
    by_cases hji : j = i
    ·rw [hji]; exact he
    ·exact hno j (by omega)
 intro k hk
 exact key l.length 0 k (by omega) hk (fun j hj => by omega)
theorem l1Has_ev {l : List Int} {n : Int} (hm : l.length ≤ 1048576) : Ev (fun k => spec_l1Has.f k l n) (decide (n ∈ l)) := Ev.past l.length fun k hk => l1Has_at l n (by omega) k hk
set_option linter.unusedVariables false
set_option linter.unusedSimpArgs false
theorem has_at (l : List Int) (x : Int) (hm : l.length ≤ 9223372036854775807) : ∀ k, l.length < k → impl_has.f k l x = some (decide (x ∈ l)) := by
 have key : ∀ d i k, i + d = l.length → d < k → (∀ j, j < i → l.getD j 0 ≠ x) → ∃ r, slices_Index_int_int.l0 k l x (l.length : Int) (i : Int) = some r ∧ (0 ≤ r ↔ x ∈ l) := by
  intro d
  induction d with
  | zero =>
   intro i k hi hk hno
   obtain ⟨k, rfl⟩ : ∃ m, k = m + 1 := ⟨k - 1, by omega⟩
   refine ⟨-1, by simp only [slices_Index_int_int.l0]; rw [if_neg (by omega)], by omega, fun h => ?_⟩
   obtain ⟨j, hj, he⟩ := (any_getD l x).2 h
   exact absurd he (hno j (by omega))
  | succ d ih =>
   intro i k hi hk hno
   obtain ⟨k, rfl⟩ : ∃ m, k = m + 1 := ⟨k - 1, by omega⟩
   have hil : i < l.length := by omega
   simp only [slices_Index_int_int.l0, rd_nat]
   rw [if_pos (by omega), if_pos (by omega), if_pos (by omega), wrap_up hil hm]
   by_cases he : x = l.getD i 0
   ·exact ⟨i, by rw [if_pos he], fun _ => (any_getD l x).1 ⟨i, hil, he.symm⟩, fun _ => by omega⟩
   ·rw [if_neg he]
    refine ih (i + 1) k (by omega) (by omega) (fun j hj => ?_)
    by_cases hji : j = i
    ·rw [hji]; exact fun h => he h.symm
    ·exact hno j (by omega)
 intro k hk
 obtain ⟨r, h1, h2⟩ := key l.length 0 k (by omega) hk (fun j hj => by omega)
 have h1' : slices_Index_int_int.l0 k l x (l.length : Int) 0 = some r := h1
 simp only [impl_has.f, slices_Contains_int_int.f, slices_Index_int_int.f, h1', Option.bind_some]
 congr 1
 rw [decide_eq_decide]
 exact h2
set_option linter.unusedVariables false
set_option linter.unusedSimpArgs false
set_option maxHeartbeats 1000000
def legFits (x : S58) (a b : Int) : Bool := (decide (x.f0 = a) && decide (x.f1 = b)) || (decide (x.f0 = b) && decide (x.f1 = a))
def legStep (l : List S58) (ws : List Int) (a b : Int) (i : Nat) (best : Int) : Int :=
 if legFits (l.getD i z58) a b = true then
  if best < 0 then (i : Int)
  else if rd ws (i : Int) > rd ws best then (i : Int)
  else if rd ws (i : Int) = rd ws best then (if (rd_T58 l (i : Int)).f2 < (rd_T58 l best).f2 then (i : Int) else best)
  else best
 else best
def legFrom (l : List S58) (ws : List Int) (a b : Int) : Nat → Nat → Int → Int
 | 0, _, best => best
 | d + 1, i, best => legFrom l ws a b d (i + 1) (legStep l ws a b i best)
theorem legStep_in {l : List S58} {ws : List Int} {a b : Int} {i : Nat} {best : Int} (h : best = -1 ∨ (0 ≤ best ∧ best < (i : Int))) : legStep l ws a b i best = -1 ∨ (0 ≤ legStep l ws a b i best ∧ legStep l ws a b i best < ((i + 1 : Nat) : Int)) := by
 unfold legStep
 split
 ·split
  ·omega
  ·split
   ·omega
   ·split
    ·split <;> omega
    ·omega
 ·omega
theorem legFrom_in {l : List S58} {ws : List Int} {a b : Int} : ∀ (d i : Nat) (best : Int), (best = -1 ∨ (0 ≤ best ∧ best < (i : Int))) → legFrom l ws a b d i best = -1 ∨ (0 ≤ legFrom l ws a b d i best ∧ legFrom l ws a b d i best < ((i + d : Nat) : Int))
 | 0, _, _, h => h
 | d + 1, i, best, h => by
  have := legFrom_in (l := l) (ws := ws) (a := a) (b := b) d (i + 1) _ (legStep_in (l := l) (ws := ws) (a := a) (b := b) h)
  simp only [legFrom]
  omega
theorem specLeg_loop {l : List S58} {ws : List Int} (hl : okLegs l = true) (hw : ws.length = l.length) (a b : Int) : ∀ (d i : Nat) (best : Int), i + d = l.length → (best = -1 ∨ (0 ≤ best ∧ best < (i : Int))) → Ev (fun k => spec_l15Leg.l0 k l ws a b best (i : Int)) (legFrom l ws a b d i best) := by
 have h12 := okLegs_len hl
 intro d
 induction d with
 | zero =>
  intro i best hi hb
  refine Ev.step (f := fun _ => some best) (fun k => ?_) (Ev.now _)
  simp only [spec_l15Leg.l0]
  rw [if_neg (by omega)]
 | succ d ih =>
  intro i best hi hb
  have hwr : wrap64 ((i : Int) + 1) = ((i + 1 : Nat) : Int) := by unfold wrap64; omega
  have hnext := ih (i + 1) _ (by omega) (legStep_in (l := l) (ws := ws) (a := a) (b := b) hb)
  simp only [legFrom]
  refine Ev.step (f := fun k => spec_l15Leg.j1 k l ws a b best (i : Int) (!legFits (l.getD i z58) a b)) (fun k => ?_) (Ev.step (fun k => ?_) hnext)
  ·simp only [spec_l15Leg.l0, rdL]
   rw [if_pos (by omega), if_pos (by omega)]
   unfold legFits
   by_cases h1 : (l.getD i z58).f0 = a
   ·rw [if_pos h1]
    by_cases h2 : (l.getD i z58).f1 = b
    ·rw [if_pos h2, decide_eq_true h1, decide_eq_true h2]
     rfl
    ·rw [if_neg h2, decide_eq_true h1, decide_eq_false h2]
     by_cases h3 : (l.getD i z58).f0 = b
     ·rw [if_pos h3, decide_eq_true h3]
      (first | (congr 1; done) | (congr 1; simp [bne]))
     ·rw [if_neg h3, decide_eq_false h3]
      rfl
   ·rw [if_neg h1, decide_eq_false h1]
    by_cases h3 : (l.getD i z58).f0 = b
    ·rw [if_pos h3, decide_eq_true h3]
     (first | (congr 1; done) | (congr 1; simp [bne]))
    ·rw [if_neg h3, decide_eq_false h3]
     rfl
  ·unfold legStep
   cases hf : legFits (l.getD i z58) a b with
   | false => simp only [spec_l15Leg.j1, Bool.not_false, if_true, Bool.false_eq_true, if_false, hwr]
   | true =>
    simp only [spec_l15Leg.j1, Bool.not_true, Bool.false_eq_true, if_false, if_true, hwr]
    by_cases h0 : best < 0
    ·rw [if_pos h0, if_pos h0]
    ·rw [if_neg h0, if_neg h0, if_pos (by omega), if_pos (by omega), if_pos (by omega), if_pos (by omega)]
     by_cases h1 : rd ws (i : Int) > rd ws best
     ·rw [if_pos h1, if_pos h1]
     ·rw [if_neg h1, if_neg h1]
      by_cases h2 : rd ws (i : Int) = rd ws best
      ·rw [if_pos h2, if_pos h2, if_pos (by omega), if_pos (by omega)]
       split <;> rfl
      ·rw [if_neg h2, if_neg h2]
def legOf (l : List S58) (ws : List Int) (a b : Int) : Int := legFrom l ws a b l.length 0 (-1)
theorem legOf_in (l : List S58) (ws : List Int) (a b : Int) : legOf l ws a b = -1 ∨ (0 ≤ legOf l ws a b ∧ legOf l ws a b < (l.length : Int)) := by
 have := legFrom_in (l := l) (ws := ws) (a := a) (b := b) l.length 0 (-1) (.inl rfl)
 unfold legOf
 omega
theorem specLeg_ev {l : List S58} {ws : List Int} (hl : okLegs l = true) (hw : ws.length = l.length) (a b : Int) : Ev (fun k => spec_l15Leg.f k l ws a b) (legOf l ws a b) := specLeg_loop hl hw a b l.length 0 (-1) (by omega) (.inl rfl)
theorem implLeg_loop {l : List S58} {ws : List Int} (hl : okLegs l = true) (hw : ws.length = l.length) {a b : Int} (ha : 0 ≤ a ∧ a ≤ 7) (hb : 0 ≤ b ∧ b ≤ 7) : ∀ (d i : Nat) (best : Int), i + d = l.length → (best = -1 ∨ (0 ≤ best ∧ best < (i : Int))) → Ev (fun k => impl_between.l0 k l ws a b best l (l.length : Int) (i : Int)) (legFrom l ws a b d i best) := by
 have h12 := okLegs_len hl
 intro d
 induction d with
 | zero =>
  intro i best hi hb
  refine Ev.step (f := fun _ => some best) (fun k => ?_) (Ev.now _)
  simp only [impl_between.l0]
  rw [if_neg (by omega)]
 | succ d ih =>
  intro i best hi hbb
  have hil : i < l.length := by omega
  have hx0 : 0 ≤ (l.getD i z58).f0 ∧ (l.getD i z58).f0 ≤ 7 ∧ 0 ≤ (l.getD i z58).f1 ∧ (l.getD i z58).f1 ≤ 7 := by
   have hx := okLeg_says (okLegs_at hl hil)
   omega
  have hwr : wrap64 ((i : Int) + 1) = ((i + 1 : Nat) : Int) := by unfold wrap64; omega
  have hw1 : wrap64 ((l.getD i z58).f0 + (l.getD i z58).f1) = (l.getD i z58).f0 + (l.getD i z58).f1 := wrap_id (by omega) (by omega)
  have hw2 : wrap64 (a + b) = a + b := wrap_id (by omega) (by omega)
  have hnext := ih (i + 1) _ (by omega) (legStep_in (l := l) (ws := ws) (a := a) (b := b) hbb)
  simp only [legFrom]
  refine Ev.step (f := fun k => impl_between.j1 k l ws a b best (i : Int) l (l.length : Int) (i : Int) (!legFits (l.getD i z58) a b) (l.getD i z58).f0 (l.getD i z58).f1 (l.getD i z58).f2 (l.getD i z58).f3 (l.getD i z58).f4) (fun k => ?_) (Ev.step (fun k => ?_) hnext)
  ·simp only [impl_between.l0, rdL, hw1, hw2]
   rw [if_pos (by omega), if_pos (by omega), if_pos (by omega)]
   have hfit : legFits (l.getD i z58) a b = (decide ((l.getD i z58).f0 + (l.getD i z58).f1 = a + b) && (decide ((l.getD i z58).f0 = a) || decide ((l.getD i z58).f0 = b))) := by
    unfold legFits
    rw [Bool.eq_iff_iff]
    simp only [Bool.or_eq_true, Bool.and_eq_true, decide_eq_true_eq]
    omega
   rw [hfit]
   by_cases h1 : (l.getD i z58).f0 + (l.getD i z58).f1 = a + b
   ·rw [if_pos h1, decide_eq_true h1]
    by_cases h2 : (l.getD i z58).f0 = a
    ·rw [if_pos h2, decide_eq_true h2]
     rfl
    ·rw [if_neg h2, decide_eq_false h2]
     (first | (congr 1; done) | (congr 1; simp [bne]))
   ·rw [if_neg h1, decide_eq_false h1]
    rfl
  ·unfold legStep
   cases hf : legFits (l.getD i z58) a b with
   | false => simp only [impl_between.j1, Bool.not_false, if_true, Bool.false_eq_true, if_false, hwr]
   | true =>
    simp only [impl_between.j1, Bool.not_true, Bool.false_eq_true, if_false, if_true, hwr]
    by_cases h0 : best < 0
    ·rw [if_pos h0, if_pos h0]
    ·rw [if_neg h0, if_neg h0, if_pos (by omega), if_pos (by omega), if_pos (by omega), if_pos (by omega)]
     by_cases h1 : rd ws (i : Int) > rd ws best
     ·rw [if_pos h1, if_pos h1]
     ·rw [if_neg h1, if_neg h1]
      by_cases h2 : rd ws (i : Int) = rd ws best
      ·rw [if_pos h2, if_pos h2, if_pos (by omega), rdL]
       split <;> rfl
      ·rw [if_neg h2, if_neg h2]
theorem implLeg_ev {l : List S58} {ws : List Int} (hl : okLegs l = true) (hw : ws.length = l.length) {a b : Int} (ha : 0 ≤ a ∧ a ≤ 7) (hb : 0 ≤ b ∧ b ≤ 7) : Ev (fun k => impl_between.f k l ws a b) (legOf l ws a b) := implLeg_loop hl hw ha hb l.length 0 (-1) (by omega) (.inl rfl)
theorem has_ev {l : List Int} {n : Int} (hm : l.length ≤ 1048576) : Ev (fun k => impl_has.f k l n) (decide (n ∈ l)) := Ev.past l.length fun k hk => has_at l n (by omega) k hk
theorem l1Has_ev' {l : List Int} {n : Int} (hm : l.length ≤ 1048576) : Ev (fun k => spec_l1Has.f k l n) (decide (n ∈ l)) := Ev.past l.length fun k hk => l1Has_at l n (by omega) k hk
set_option linter.unusedVariables false
set_option linter.unusedSimpArgs false
theorem l1Least_eq (a b : Int) : spec_l1Least.f a b = some (min a b) := by
 unfold spec_l1Least.f
 split <;> (congr 1; omega)
set_option linter.unusedVariables false
set_option linter.unusedSimpArgs false
def viaOf (l : List S58) (ws r : List Int) (i : Nat) : Int := legOf l ws (r.getD (i - 1) 0) (r.getD i 0)
def sizeFrom (l : List S58) (ws r : List Int) : Nat → Nat → Int → Int → Int × Int
 | 0, _, w, s => (w, s)
 | d + 1, i, w, s => sizeFrom l ws r d (i + 1) (min w (rd ws (viaOf l ws r i))) (wrap64 (s + (rd_T58 l (viaOf l ws r i)).f2))
theorem specSize_loop {l : List S58} {ws : List Int} (hl : okLegs l = true) (hw : ws.length = l.length) {r : List Int} (hr : r.length ≤ 1048576) (hv : ∀ j, j < r.length → j ≠ 0 → 0 ≤ viaOf l ws r j) : ∀ d i (w s : Int), i + d = r.length → i ≠ 0 → Ev (fun k => spec_l15Size.l0 k l ws r w s (i : Int)) (sizeFrom l ws r d i w s) := by
 intro d
 induction d with
 | zero =>
  intro i w s hi h0
  refine Ev.step (f := fun _ => some (w, s)) (fun k => ?_) (Ev.now _)
  simp only [spec_l15Size.l0]
  rw [if_neg (by omega)]
 | succ d ih =>
  intro i w s hi h0
  have hwr : wrap64 ((i : Int) + 1) = ((i + 1 : Nat) : Int) := by unfold wrap64; omega
  have hwd : wrap64 ((i : Int) - 1) = ((i - 1 : Nat) : Int) := by unfold wrap64; omega
  have hin := legOf_in l ws (r.getD (i - 1) 0) (r.getD i 0)
  have hvi := hv i (by omega) h0
  have hnext := ih (i + 1) (min w (rd ws (viaOf l ws r i))) (wrap64 (s + (rd_T58 l (viaOf l ws r i)).f2)) (by omega) (by omega)
  simp only [sizeFrom]
  unfold viaOf at hvi hnext ⊢
  refine Ev.step (f := fun k => (spec_l15Leg.f k l ws (r.getD (i - 1) 0) (r.getD i 0)).bind fun t => if 0 ≤ t then (if t < (ws.length : Int) then ((spec_l1Least.f w (rd ws t)).bind fun t403 => if t < (l.length : Int) then spec_l15Size.l0 k l ws r t403 (wrap64 (s + (rd_T58 l t).f2)) ((i + 1 : Nat) : Int) else none) else none) else none) (fun k => ?_) (Ev.bind (specLeg_ev hl hw _ _) ?_)
  ·simp only [spec_l15Size.l0, hwr, hwd, rd_nat]
   rw [if_pos (by omega), if_pos (by omega), if_pos (by omega), if_pos (by omega)]
  ·refine Ev.ite_pos hvi (Ev.ite_pos (by omega) ?_)
   simp only [l1Least_eq, Option.bind_some]
   exact Ev.ite_pos (by omega) hnext
set_option linter.unusedVariables false
set_option linter.unusedSimpArgs false
def okAsked (l : List S58) (ws : List Int) (a b : Int) : Bool := okWidths l ws && (decide (0 ≤ a ∧ a ≤ 7) && decide (0 ≤ b ∧ b ≤ 7))
theorem areEnds_ev (l : List S58) (ws : List Int) (a b : Int) (hm : l.length ≤ 9223372036854775807) : Ev (fun k => impl_areEnds.f k l ws a b) (okAsked l ws a b) := by
 simp only [impl_areEnds.f, impl_isStation.f, within_eq, Option.bind_some]
 refine Ev.bind (areWidths_ev l ws hm) ?_
 unfold okAsked
 cases okWidths l ws with
 | false => exact Ev.ite_neg (by decide) (Ev.now _)
 | true =>
  refine Ev.ite_pos rfl ?_
  cases decide (0 ≤ a ∧ a ≤ 7) with
  | false => exact Ev.ite_neg (by decide) (Ev.now _)
  | true => exact Ev.ite_pos rfl (Ev.now _)
theorem l15Asked_ev (l : List S58) (ws : List Int) (a b : Int) (hm : l.length ≤ 9223372036854775807) (hw : ws.length ≤ 9223372036854775807) : Ev (fun k => spec_l15Asked.f k l ws a b) (okAsked l ws a b) := by
 simp only [spec_l15Asked.f, spec_l4Station.f, l1In_eq, Option.bind_some]
 refine Ev.bind (l15Good_ev l ws hm hw) ?_
 unfold okAsked
 cases okWidths l ws with
 | false => exact Ev.ite_neg (by decide) (Ev.now _)
 | true =>
  refine Ev.ite_pos rfl ?_
  cases decide (0 ≤ a ∧ a ≤ 7) with
  | false => exact Ev.ite_neg (by decide) (Ev.now _)
  | true => exact Ev.ite_pos rfl (Ev.now _)
theorem okAsked_says {l : List S58} {ws : List Int} {a b : Int} (h : okAsked l ws a b = true) : okWidths l ws = true ∧ (0 ≤ a ∧ a ≤ 7) ∧ (0 ≤ b ∧ b ≤ 7) := by
 simpa only [okAsked, Bool.and_eq_true, decide_eq_true_eq] using h
set_option linter.unusedVariables false
set_option linter.unusedSimpArgs false
theorem nodup_len : ∀ (n : Nat) (l : List Int), l.Nodup → (∀ x ∈ l, 0 ≤ x ∧ x < (n : Int)) → l.length ≤ n
 | 0, l, _, h => by
  cases l with
  | nil => exact Nat.le_refl _
  | cons x l => have := h x List.mem_cons_self; omega
 | n + 1, l, hn, h => by
  by_cases hm : (n : Int) ∈ l
  ·have := nodup_len n (l.erase (n : Int)) (hn.erase _) (fun x hx => by
    have h1 := (List.Nodup.mem_erase_iff hn).1 hx
    have := h x h1.2
    omega)
   rw [List.length_erase_of_mem hm] at this
   omega
  ·have := nodup_len n l hn (fun x hx => by
    have h1 := h x hx
    have h2 : x ≠ (n : Int) := fun e => hm (e ▸ hx)
    omega)
   omega
def tapeOf (l : List S58) (q : Int) : Int := (rd_T58 l q).f2
def lastOf (r : List Int) : Int := r.getD (r.length - 1) 0
theorem lastOf_eq {r : List Int} (h0 : 0 < r.length) (h1 : r.length ≤ 1000) : rd r (wrap64 ((r.length : Int) - 1)) = lastOf r := by
 rw [show wrap64 ((r.length : Int) - 1) = ((r.length - 1 : Nat) : Int) by unfold wrap64; omega, rd_nat]
 rfl
structure RtOk (l : List S58) (ws r : List Int) (len : Int) : Prop where
 ne : 0 < r.length
 nod : r.Nodup
 inn : ∀ x ∈ r, 0 ≤ x ∧ x < 8
 via : ∀ j, j < r.length → j ≠ 0 → 0 ≤ viaOf l ws r j
 sz : (sizeFrom l ws r (r.length - 1) 1 200 0).2 = len
 b0 : 0 ≤ len
 b1 : len ≤ 500 * r.length
theorem RtOk.len8 {l : List S58} {ws r : List Int} {len : Int} (h : RtOk l ws r len) : r.length ≤ 8 := nodup_len 8 r h.nod h.inn
theorem getD_app {r : List Int} {x : Int} {i : Nat} (h : i < r.length) : (r ++ [x]).getD i 0 = r.getD i 0 := by
 rw [getD_lt _ _ _ (by rw [List.length_append]; omega : i < (r ++ [x]).length), getD_lt _ _ _ h, List.getElem_append_left h]
theorem getD_app_last (r : List Int) (x : Int) : (r ++ [x]).getD r.length 0 = x := by
 simp [List.getD_eq_getElem?_getD]
theorem via_app {l : List S58} {ws r : List Int} {x : Int} {j : Nat} (h : j < r.length) : viaOf l ws (r ++ [x]) j = viaOf l ws r j := by
 unfold viaOf
 rw [getD_app h, getD_app (by omega)]
theorem via_last {l : List S58} {ws r : List Int} {x : Int} (h : 0 < r.length) : viaOf l ws (r ++ [x]) r.length = legOf l ws (lastOf r) x := by
 unfold viaOf lastOf
 rw [getD_app_last, getD_app (by omega)]
theorem size_app {l : List S58} {ws r : List Int} {x : Int} (h : 0 < r.length) : ∀ d i (w s : Int), i + d = r.length → (sizeFrom l ws (r ++ [x]) (d + 1) i w s).2 = wrap64 ((sizeFrom l ws r d i w s).2 + tapeOf l (legOf l ws (lastOf r) x))
 | 0, i, w, s, hi => by
  obtain rfl : i = r.length := by omega
  simp only [sizeFrom, via_last h, tapeOf]
 | d + 1, i, w, s, hi => by
  rw [show sizeFrom l ws (r ++ [x]) (d + 1 + 1) i w s = sizeFrom l ws (r ++ [x]) (d + 1) (i + 1) (min w (rd ws (viaOf l ws (r ++ [x]) i))) (wrap64 (s + (rd_T58 l (viaOf l ws (r ++ [x]) i)).f2)) from rfl, via_app (by omega), size_app h d (i + 1) _ _ (by omega)]
  rfl
theorem RtOk.add {l : List S58} {ws r : List Int} {len : Int} (h : RtOk l ws r len) (hl : okLegs l = true) {s : Int} (hs : s ∉ r) (hb : 0 ≤ s ∧ s < 8) (hq : 0 ≤ legOf l ws (lastOf r) s) : RtOk l ws (r ++ [s]) (wrap64 (len + tapeOf l (legOf l ws (lastOf r) s))) ∧ 0 ≤ wrap64 (len + tapeOf l (legOf l ws (lastOf r) s)) := by
 have h8 := h.len8
 have h0 := h.b0
 have h1 := h.b1
 have hin := (legOf_in l ws (lastOf r) s).resolve_left (by omega)
 obtain ⟨p, hp⟩ := Int.eq_ofNat_of_zero_le hin.1
 have hpl : p < l.length := by omega
 have ht := okLeg_says (okLegs_at hl hpl)
 have htp : tapeOf l (legOf l ws (lastOf r) s) = (l.getD p z58).f2 := by rw [tapeOf, hp, rdL]
 have hwr : wrap64 (len + tapeOf l (legOf l ws (lastOf r) s)) = len + (l.getD p z58).f2 := by
  rw [htp]
  exact wrap_id (by omega) (by omega)
 have hla : (r ++ [s]).length = r.length + 1 := by rw [List.length_append, List.length_singleton]
 refine ⟨⟨by omega, ?_, ?_, ?_, ?_, by rw [hwr]; omega, by rw [hwr, hla]; omega⟩, by rw [hwr]; omega⟩
 ·rw [List.nodup_append]
  refine ⟨h.nod, by simp, fun a ha b hb2 e => ?_⟩
  rw [List.mem_singleton] at hb2
  exact hs (by rw [← hb2, ← e]; exact ha)
 ·intro x hx
  rcases List.mem_append.1 hx with hx | hx
  ·exact h.inn x hx
  ·rw [List.mem_singleton] at hx
   rw [hx]
   exact hb
 ·intro j hj h0
  by_cases hjr : j < r.length
  ·rw [via_app hjr]
   exact h.via j hjr h0
  ·obtain rfl : j = r.length := by omega
   rw [via_last h.ne]
   exact hq
 ·rw [hla, show r.length + 1 - 1 = (r.length - 1) + 1 by have := h.ne; omega, size_app h.ne (r.length - 1) 1 200 0 (by have := h.ne; omega), h.sz]
def loopB (f : List Int → Int → RtSt → RtSt) (l : List S58) (ws : List Int) (wd la : Int) (r : List Int) (len : Int) : Nat → Nat → RtSt → RtSt
 | 0, _, st => st
 | n + 1, s, st => loopB f l ws wd la r len n (s + 1) (if (s : Int) ∈ r ∨ legOf l ws la (s : Int) < 0 ∨ rd ws (legOf l ws la (s : Int)) < wd then st else f (r ++ [(s : Int)]) (wrap64 (len + tapeOf l (legOf l ws la (s : Int)))) st)
def goB (l : List S58) (ws : List Int) (ta wd : Int) : Nat → List Int → Int → RtSt → RtSt
 | 0, _, _, st => st
 | d + 1, r, len, st => if lastOf r = ta then rtLeaf r len st else loopB (goB l ws ta wd d) l ws wd (lastOf r) r len 8 0 st
theorem goB_ev {l : List S58} {ws : List Int} (hw : okWidths l ws = true) (ta wd : Int) : ∀ d r (len : Int) st, r.length + d = 10 → RtOk l ws r len → Ev (fun k => rtGo k l ws ta wd d r len st) (goB l ws ta wd d r len st) := by
 have hl := okWidths_legs hw
 have hwl := okWidths_len hw
 intro d
 induction d with
 | zero =>
  intro r len st hd h
  have := h.len8
  omega
 | succ d ih =>
  intro r len st hd h
  have h8 := h.len8
  have h0 := h.ne
  simp only [rtGo, goB]
  refine Ev.ite_pos ⟨h.ne, by omega⟩ ?_
  rw [show rtLast r = lastOf r from lastOf_eq h.ne (by omega)]
  by_cases ht : lastOf r = ta
  ·rw [if_pos ht]
   exact Ev.ite_pos ht (Ev.now _)
  ·rw [if_neg ht]
   refine Ev.ite_neg ht ?_
   have hla : 0 ≤ lastOf r ∧ lastOf r ≤ 7 := by
    have := h.inn (lastOf r) (by unfold lastOf; rw [getD_lt _ _ _ (by omega : r.length - 1 < r.length)]; exact List.getElem_mem _)
    omega
   have key : ∀ n s st, s + n = 8 → Ev (fun k => rtLoop (rtGo k l ws ta wd d) k l ws wd (lastOf r) r len n s st) (loopB (goB l ws ta wd d) l ws wd (lastOf r) r len n s st) := by
    intro n
    induction n with
    | zero =>
     intro s st _
     simp only [rtLoop, loopB]
     exact Ev.now _
    | succ n ihn =>
     intro s st hs
     simp only [rtLoop, loopB]
     refine Ev.bind (implLeg_ev hl hwl hla (b := (s : Int)) (by omega)) ?_
     have hin := legOf_in l ws (lastOf r) (s : Int)
     by_cases c1 : (s : Int) ∈ r ∨ legOf l ws (lastOf r) (s : Int) < 0
     ·rw [if_pos (c1.elim .inl (fun h => .inr (.inl h)))]
      exact Ev.ite_pos c1 (ihn (s + 1) st (by omega))
     ·refine Ev.ite_neg c1 ?_
      have hq : 0 ≤ legOf l ws (lastOf r) (s : Int) := by
       rcases hin with hh | hh
       ·exact absurd (.inr (by omega)) c1
       ·exact hh.1
      refine Ev.ite_pos ⟨by omega, by omega⟩ ?_
      by_cases c2 : rd ws (legOf l ws (lastOf r) (s : Int)) < wd
      ·rw [if_pos (.inr (.inr c2))]
       exact Ev.ite_pos c2 (ihn (s + 1) st (by omega))
      ·rw [if_neg (fun hh => hh.elim (fun a => c1 (.inl a)) (fun b => b.elim (fun a => c1 (.inr a)) c2))]
       refine Ev.ite_neg c2 ?_
       have ha := h.add hl (fun hm => c1 (.inl hm)) (by omega : (0 : Int) ≤ (s : Int) ∧ (s : Int) < 8) hq
       exact Ev.bind (ih _ _ st (by rw [List.length_append, List.length_singleton]; omega) ha.1) (ihn (s + 1) _ (by omega))
   exact key 8 0 st (by omega)
def loopS (f : List Int → Int → RtSt) (l : List S58) (ws : List Int) (wd la : Int) (r : List Int) (len : Int) : Nat → Nat → RtSt → RtSt
 | 0, _, acc => acc
 | n + 1, s, acc => loopS f l ws wd la r len n (s + 1) (if (s : Int) ∈ r ∨ legOf l ws la (s : Int) < 0 ∨ rd ws (legOf l ws la (s : Int)) < wd then acc else if (f (r ++ [(s : Int)]) (wrap64 (len + tapeOf l (legOf l ws la (s : Int))))).2 ≥ 0 ∧ (acc.2 < 0 ∨ (f (r ++ [(s : Int)]) (wrap64 (len + tapeOf l (legOf l ws la (s : Int))))).2 < acc.2) then f (r ++ [(s : Int)]) (wrap64 (len + tapeOf l (legOf l ws la (s : Int)))) else acc)
def goS (l : List S58) (ws : List Int) (ta wd : Int) : Nat → List Int → Int → RtSt
 | 0, _, _ => ([], -1)
 | d + 1, r, len => if lastOf r = ta then (r, len) else loopS (goS l ws ta wd d) l ws wd (lastOf r) r len 8 0 ([], -1)
theorem goS_ev {l : List S58} {ws : List Int} (hw : okWidths l ws = true) (ta wd : Int) : ∀ d r (len : Int), r.length + d = 10 → RtOk l ws r len → Ev (fun k => spec_l15Best.f k l ws r ta wd) (goS l ws ta wd d r len) := by
 have hl := okWidths_legs hw
 have hwl := okWidths_len hw
 intro d
 induction d with
 | zero =>
  intro r len hd h
  have := h.len8
  omega
 | succ d ih =>
  intro r len hd h
  have h8 := h.len8
  have h0 := h.ne
  have hwr1 : wrap64 ((r.length : Int) - 1) = (r.length : Int) - 1 := by unfold wrap64; omega
  have hlast := lastOf_eq h.ne (by omega)
  simp only [goS]
  by_cases ht : lastOf r = ta
  ·rw [if_pos ht]
   refine Ev.step (f := fun k => (spec_l15Size.f k l ws r).bind fun b => some (r, b.2)) (fun k => ?_) (Ev.bind (specSize_loop hl hwl (by omega) h.via (r.length - 1) 1 200 0 (by omega) (by omega)) ?_)
   ·rw [spec_l15Best.f, if_pos (by omega), if_pos (by omega), if_pos (by rw [hlast]; exact ht)]
   ·rw [h.sz]
    exact Ev.now _
  ·rw [if_neg ht]
   have hla : 0 ≤ lastOf r ∧ lastOf r ≤ 7 := by
    have := h.inn (lastOf r) (by unfold lastOf; rw [getD_lt _ _ _ (by omega : r.length - 1 < r.length)]; exact List.getElem_mem _)
    omega
   have key : ∀ (n s : Nat) (acc : RtSt), s + n = 8 → Ev (fun k => spec_l15Best.l0 k l ws r ta wd (lastOf r) acc.1 acc.2 (s : Int)) (loopS (goS l ws ta wd d) l ws wd (lastOf r) r len n s acc) := by
    intro n
    induction n with
    | zero =>
     intro s acc hs
     refine Ev.step (f := fun _ => some acc) (fun n => ?_) (Ev.now _)
     rw [spec_l15Best.l0]
     exact if_neg (by omega)
    | succ n ihn =>
     intro s acc hs
     have hwr : wrap64 ((s : Int) + 1) = ((s + 1 : Nat) : Int) := wrap_up (show s < 8 by omega) (by decide)
     have hin := legOf_in l ws (lastOf r) (s : Int)
     simp only [loopS]
     have hskip : ∀ x, Ev (fun n => spec_l15Best.l0 n l ws r ta wd (lastOf r) acc.1 acc.2 ((s + 1 : Nat) : Int)) x → Ev (fun n => spec_l15Best.j1 n l ws r ta wd (lastOf r) acc.1 acc.2 (s : Int) true) x := fun x h =>
      Ev.step (fun n => by rw [spec_l15Best.j1, if_pos rfl, hwr]) h
     refine Ev.step (f := fun k => (spec_l15Leg.f k l ws (lastOf r) (s : Int)).bind fun t174 => (if t174 < 0 then (spec_l15Best.j1 k l ws r ta wd (lastOf r) acc.1 acc.2 (s : Int) true) else (if 0 ≤ t174 then (if t174 < (ws.length : Int) then (if (rd ws t174) < wd then (spec_l15Best.j1 k l ws r ta wd (lastOf r) acc.1 acc.2 (s : Int) true) else ((spec_l1Has.f k r (s : Int)).bind fun t176 => (spec_l15Best.j1 k l ws r ta wd (lastOf r) acc.1 acc.2 (s : Int) t176))) else (none)) else (none)))) (fun k => by rw [spec_l15Best.l0, if_pos (by omega)]) (Ev.bind (specLeg_ev hl hwl (lastOf r) (s : Int)) ?_)
     by_cases c1 : legOf l ws (lastOf r) (s : Int) < 0
     ·rw [if_pos (.inr (.inl c1))]
      exact Ev.ite_pos c1 (hskip _ (ihn (s + 1) acc (by omega)))
     ·have hq : 0 ≤ legOf l ws (lastOf r) (s : Int) := by omega
      refine Ev.ite_neg c1 (Ev.ite_pos hq (Ev.ite_pos (by omega) ?_))
      by_cases c2 : rd ws (legOf l ws (lastOf r) (s : Int)) < wd
      ·rw [if_pos (.inr (.inr c2))]
       exact Ev.ite_pos c2 (hskip _ (ihn (s + 1) acc (by omega)))
      ·refine Ev.ite_neg c2 (Ev.bind (l1Has_ev (n := (s : Int)) (by omega)) ?_)
       by_cases c3 : (s : Int) ∈ r
       ·rw [if_pos (.inl c3), decide_eq_true c3]
        exact hskip _ (ihn (s + 1) acc (by omega))
       ·rw [if_neg (fun hh => hh.elim c3 (fun b => b.elim c1 c2)), decide_eq_false c3]
        have ha := h.add hl c3 (by omega : (0 : Int) ≤ (s : Int) ∧ (s : Int) < 8) hq
        have hcall := ih _ _ (by rw [List.length_append, List.length_singleton]; omega) ha.1
        refine Ev.step (f := fun k => (spec_l15Best.f k l ws (r ++ [(s : Int)]) ta wd).bind fun bt183 => (if bt183.2 ≥ 0 then (if acc.2 < 0 then (spec_l15Best.l0 k l ws r ta wd (lastOf r) bt183.1 bt183.2 ((s + 1 : Nat) : Int)) else (if bt183.2 < acc.2 then (spec_l15Best.l0 k l ws r ta wd (lastOf r) bt183.1 bt183.2 ((s + 1 : Nat) : Int)) else (spec_l15Best.l0 k l ws r ta wd (lastOf r) acc.1 acc.2 ((s + 1 : Nat) : Int)))) else (spec_l15Best.l0 k l ws r ta wd (lastOf r) acc.1 acc.2 ((s + 1 : Nat) : Int)))) (fun k => ?_) (Ev.bind hcall ?_)
        ·rw [spec_l15Best.j1, if_neg (by decide)]
         simp only [spec_l1Own.f, Option.bind_some, List.nil_append, List.length_nil, Nat.zero_add, hwr]
         rw [if_pos (by omega)]
         simp only [Option.bind_some]
         rw [if_pos (by omega)]
        ·generalize goS l ws ta wd d (r ++ [(s : Int)]) (wrap64 (len + tapeOf l (legOf l ws (lastOf r) (s : Int)))) = g
         by_cases g1 : g.2 ≥ 0
         ·refine Ev.ite_pos g1 ?_
          by_cases g2 : acc.2 < 0
          ·rw [if_pos ⟨g1, .inl g2⟩]
           exact Ev.ite_pos g2 (ihn (s + 1) _ (by omega))
          ·refine Ev.ite_neg g2 ?_
           by_cases g3 : g.2 < acc.2
           ·rw [if_pos ⟨g1, .inr g3⟩]
            exact Ev.ite_pos g3 (ihn (s + 1) _ (by omega))
           ·rw [if_neg (fun h => h.2.elim g2 g3)]
            exact Ev.ite_neg g3 (ihn (s + 1) acc (by omega))
         ·rw [if_neg (fun h => g1 h.1)]
          exact Ev.ite_neg g1 (ihn (s + 1) acc (by omega))
   refine Ev.step (f := fun k => spec_l15Best.l0 k l ws r ta wd (lastOf r) [] (-1) 0) (fun k => ?_) (key 8 0 ([], -1) (by omega))
   rw [spec_l15Best.f, if_pos (by omega), if_pos (by omega), if_neg (by rw [hlast]; exact ht), hlast]
def combR (st r : RtSt) : RtSt := if 0 ≤ r.2 ∧ (st.1 = [] ∨ r.2 < st.2) then r else st
def Found (r : RtSt) : Prop := r = ([], -1) ∨ (0 ≤ r.2 ∧ r.1 ≠ [])
theorem combR_combR (st acc r : RtSt) (ha : Found acc) : combR (combR st acc) r = combR st (if r.2 ≥ 0 ∧ (acc.2 < 0 ∨ r.2 < acc.2) then r else acc) := by
 rcases ha with rfl | ⟨a1, a2⟩
 ·have e : combR st ([], -1) = st := if_neg (fun h => absurd h.1 (by decide))
  rw [e]
  by_cases h : r.2 ≥ 0
  ·rw [if_pos ⟨h, .inl (by decide)⟩]
  ·rw [if_neg (fun hh => h hh.1), e]
   exact if_neg (fun hh => h hh.1)
 ·by_cases h : r.2 ≥ 0 ∧ (acc.2 < 0 ∨ r.2 < acc.2)
  ·rw [if_pos h]
   have h2 : r.2 < acc.2 := by omega
   by_cases c : st.1 = [] ∨ acc.2 < st.2
   ·have e : combR st acc = acc := if_pos ⟨a1, c⟩
    rw [e]
    have e1 : combR acc r = r := if_pos ⟨h.1, .inr h2⟩
    have e2 : combR st r = r := if_pos ⟨h.1, c.imp id (fun x => by omega)⟩
    rw [e1, e2]
   ·have e : combR st acc = st := if_neg (fun hh => c hh.2)
    rw [e]
  ·rw [if_neg h]
   by_cases c : st.1 = [] ∨ acc.2 < st.2
   ·have e : combR st acc = acc := if_pos ⟨a1, c⟩
    rw [e]
    exact if_neg (fun hh => h ⟨hh.1, .inr (hh.2.resolve_left a2)⟩)
   ·have e : combR st acc = st := if_neg (fun hh => c hh.2)
    rw [e]
    refine if_neg (fun hh => ?_)
    have h3 : ¬ r.2 < acc.2 := fun hx => h ⟨hh.1, .inr hx⟩
    exact c (hh.2.imp id (fun x => by omega))
theorem loopS_found {f : List Int → Int → RtSt} (hf : ∀ r len, 0 ≤ len → r ≠ [] → Found (f r len)) {l : List S58} {ws : List Int} {wd la : Int} {r : List Int} {len : Int} (hlen : ∀ s : Nat, s < 8 → ¬ ((s : Int) ∈ r ∨ legOf l ws la (s : Int) < 0 ∨ rd ws (legOf l ws la (s : Int)) < wd) → 0 ≤ wrap64 (len + tapeOf l (legOf l ws la (s : Int)))) : ∀ n s acc, s + n = 8 → Found acc → Found (loopS f l ws wd la r len n s acc)
 | 0, _, _, _, h => h
 | n + 1, s, acc, hs, h => by
  simp only [loopS]
  refine loopS_found hf hlen n (s + 1) _ (by omega) ?_
  split
  ·exact h
  ·rename_i hc
   split
   ·exact hf _ _ (hlen s (by omega) hc) (by simp)
   ·exact h
theorem go_same {l : List S58} {ws : List Int} (hl : okLegs l = true) (ta wd : Int) : ∀ d r (len : Int), RtOk l ws r len → Found (goS l ws ta wd d r len) ∧ (r.length + d = 10 → ∀ st, goB l ws ta wd d r len st = combR st (goS l ws ta wd d r len)) := by
 intro d
 induction d with
 | zero =>
  intro r len h
  refine ⟨.inl rfl, fun hd => ?_⟩
  have := h.len8
  omega
 | succ d ih =>
  intro r len h
  have hne : r ≠ [] := fun e => by have := h.ne; rw [e] at this; simp at this
  simp only [goS, goB]
  by_cases ht : lastOf r = ta
  ·rw [if_pos ht]
   refine ⟨.inr ⟨h.b0, hne⟩, fun _ st => ?_⟩
   rw [if_pos ht]
   unfold rtLeaf combR
   by_cases c : st.1 = [] ∨ len < st.2
   ·rw [if_pos c, if_pos ⟨h.b0, c⟩]
   ·rw [if_neg c, if_neg (fun hh => c hh.2)]
  ·rw [if_neg ht]
   have hadd : ∀ s : Nat, s < 8 → ¬ ((s : Int) ∈ r ∨ legOf l ws (lastOf r) (s : Int) < 0 ∨ rd ws (legOf l ws (lastOf r) (s : Int)) < wd) → RtOk l ws (r ++ [(s : Int)]) (wrap64 (len + tapeOf l (legOf l ws (lastOf r) (s : Int)))) := fun s hs hc =>
    (h.add hl (fun hm => hc (.inl hm)) (by omega : (0 : Int) ≤ (s : Int) ∧ (s : Int) < 8) (by have := fun hx => hc (.inr (.inl hx)); omega)).1
   have key : ∀ n s acc, s + n = 8 → Found acc → Found (loopS (goS l ws ta wd d) l ws wd (lastOf r) r len n s acc) ∧ (r.length + (d + 1) = 10 → ∀ st, loopB (goB l ws ta wd d) l ws wd (lastOf r) r len n s (combR st acc) = combR st (loopS (goS l ws ta wd d) l ws wd (lastOf r) r len n s acc)) := by
    intro n
    induction n with
    | zero => intro s acc _ ha; exact ⟨ha, fun _ _ => rfl⟩
    | succ n ihn =>
     intro s acc hs ha
     simp only [loopS, loopB]
     by_cases hc : (s : Int) ∈ r ∨ legOf l ws (lastOf r) (s : Int) < 0 ∨ rd ws (legOf l ws (lastOf r) (s : Int)) < wd
     ·rw [if_pos hc]
      have hh := ihn (s + 1) acc (by omega) ha
      refine ⟨hh.1, fun hd st => ?_⟩
      rw [if_pos hc]
      exact hh.2 hd st
     ·rw [if_neg hc]
      have hi := ih _ _ (hadd s (by omega) hc)
      have hf : Found (if (goS l ws ta wd d (r ++ [(s : Int)]) (wrap64 (len + tapeOf l (legOf l ws (lastOf r) (s : Int))))).2 ≥ 0 ∧ (acc.2 < 0 ∨ (goS l ws ta wd d (r ++ [(s : Int)]) (wrap64 (len + tapeOf l (legOf l ws (lastOf r) (s : Int))))).2 < acc.2) then goS l ws ta wd d (r ++ [(s : Int)]) (wrap64 (len + tapeOf l (legOf l ws (lastOf r) (s : Int)))) else acc) := by
       split
       ·exact hi.1
       ·exact ha
      have hh := ihn (s + 1) _ (by omega) hf
      refine ⟨hh.1, fun hd st => ?_⟩
      rw [if_neg hc, hi.2 (by rw [List.length_append, List.length_singleton]; omega), combR_combR st acc _ ha]
      exact hh.2 hd st
   have hk := key 8 0 ([], -1) (by omega) (.inl rfl)
   refine ⟨hk.1, fun hd st => ?_⟩
   rw [if_neg ht, ← hk.2 hd st]
   rw [show combR st ([], -1) = st from if_neg (fun h => absurd h.1 (by decide))]
theorem start_ok {l : List S58} {ws : List Int} {a : Int} (ha : 0 ≤ a ∧ a ≤ 7) : RtOk l ws [a] 0 :=
 ⟨by simp, by simp, fun x hx => by rw [List.mem_singleton] at hx; omega, fun j hj h0 => by rw [List.length_singleton] at hj; omega, rfl, Int.le_refl _, by simp⟩
theorem goS_len {l : List S58} {ws : List Int} (ta wd : Int) : ∀ d r (len : Int), (goS l ws ta wd d r len).1.length ≤ r.length + d := by
 intro d
 induction d with
 | zero => intro r len; exact Nat.zero_le _
 | succ d ih =>
  intro r len
  simp only [goS]
  split
  ·exact Nat.le_add_right _ _
  ·have key : ∀ n s acc, acc.1.length ≤ r.length + (d + 1) → (loopS (goS l ws ta wd d) l ws wd (lastOf r) r len n s acc).1.length ≤ r.length + (d + 1) := by
    intro n
    induction n with
    | zero => intro s acc h; exact h
    | succ n ihn =>
     intro s acc h
     simp only [loopS]
     refine ihn (s + 1) _ ?_
     split
     ·exact h
     ·split
      ·have := ih (r ++ [(s : Int)]) (wrap64 (len + tapeOf l (legOf l ws (lastOf r) (s : Int))))
       rw [List.length_append, List.length_singleton] at this
       omega
      ·exact h
   exact key 8 0 ([], -1) (Nat.zero_le _)
def routeAns (l : List S58) (ws : List Int) (a b wd : Int) : List Int × Bool := if okAsked l ws a b = true ∧ (0 ≤ wd ∧ wd ≤ 200) then ((goS l ws b wd 9 [a] 0).1, decide ((goS l ws b wd 9 [a] 0).2 ≥ 0)) else ([], false)
theorem routeAns_len (l : List S58) (ws : List Int) (a b wd : Int) : (routeAns l ws a b wd).1.length ≤ 10 := by
 unfold routeAns
 split
 ·exact goS_len b wd 9 [a] 0
 ·exact Nat.zero_le _
theorem implBR_ev (l : List S58) (ws : List Int) (a b wd : Int) (hm : l.length ≤ 9223372036854775807) : Ev (fun k => impl_BestRoute.f k l ws a b wd) (routeAns l ws a b wd) := by
 simp only [impl_BestRoute.f, within_eq, Option.bind_some]
 refine Ev.bind (areEnds_ev l ws a b hm) ?_
 unfold routeAns
 by_cases h : okAsked l ws a b = true
 ·refine Ev.ite_pos h ?_
  by_cases hw : 0 ≤ wd ∧ wd ≤ 200
  ·rw [if_pos ⟨h, hw⟩]
   refine Ev.ite_pos (decide_eq_true hw) ?_
   obtain ⟨h1, h2, h3⟩ := okAsked_says h
   have hs := start_ok (l := l) (ws := ws) h2
   have hg := go_same (okWidths_legs h1) b wd 9 [a] 0 hs
   have he := goB_ev h1 b wd 9 [a] 0 ([], 0) (by simp) hs
   rw [hg.2 (by simp) ([], 0)] at he
   refine Ev.bind he ?_
   rcases hg.1 with hf | hf
   ·rw [hf]
    exact Ev.now _
   ·rw [show combR ([], 0) (goS l ws b wd 9 [a] 0) = goS l ws b wd 9 [a] 0 from if_pos ⟨hf.1, .inl rfl⟩, decide_eq_true hf.2, show decide ((goS l ws b wd 9 [a] 0).2 ≥ 0) = true from decide_eq_true hf.1]
    exact Ev.now _
  ·rw [if_neg (fun hh => hw hh.2)]
   exact Ev.ite_neg (by rw [decide_eq_false hw]; decide) (Ev.now _)
 ·rw [if_neg (fun hh => h hh.1)]
  exact Ev.ite_neg h (Ev.now _)
theorem specBR_ev (l : List S58) (ws : List Int) (a b wd : Int) (hm : l.length ≤ 9223372036854775807) (hw : ws.length ≤ 9223372036854775807) : Ev (fun k => spec_BestRoute.f k l ws a b wd) (routeAns l ws a b wd) := by
 simp only [spec_BestRoute.f, spec_l12Far.f, l1In_eq, Option.bind_some]
 refine Ev.bind (l15Asked_ev l ws a b hm hw) ?_
 unfold routeAns
 by_cases h : okAsked l ws a b = true
 ·refine Ev.ite_pos h ?_
  by_cases hw : 0 ≤ wd ∧ wd ≤ 200
  ·rw [if_pos ⟨h, hw⟩]
   refine Ev.ite_pos (decide_eq_true hw) ?_
   obtain ⟨h1, h2, h3⟩ := okAsked_says h
   exact Ev.bind (goS_ev h1 b wd 9 [a] 0 (by simp) (start_ok h2)) (Ev.now _)
  ·rw [if_neg (fun hh => hw hh.2)]
   exact Ev.ite_neg (by rw [decide_eq_false hw]; decide) (Ev.now _)
 ·rw [if_neg (fun hh => h hh.1)]
  exact Ev.ite_neg h (Ev.now _)
set_option linter.unusedVariables false
set_option linter.unusedSimpArgs false
def insS (x : Int) : List Int → List Int
 | [] => [x]
 | y :: l => if y < x then y :: insS x l else if y = x then y :: l else x :: y :: l
theorem mem_insS {x z : Int} {l : List Int} : z ∈ insS x l ↔ z = x ∨ z ∈ l := by
 induction l with
 | nil => simp [insS]
 | cons y l ih =>
  simp only [insS]
  split
  ·simp only [List.mem_cons, ih]
   constructor
   ·rintro (h | h | h)
    ·exact .inr (.inl h)
    ·exact .inl h
    ·exact .inr (.inr h)
   ·rintro (h | h | h)
    ·exact .inr (.inl h)
    ·exact .inl h
    ·exact .inr (.inr h)
  ·split
   ·rename_i h1 h2
    subst h2
    simp only [List.mem_cons]
    constructor
    ·exact fun h => .inr h
    ·rintro (h | h)
     ·exact .inl h
     ·exact h
   ·simp only [List.mem_cons]
theorem up_insS {x : Int} {l : List Int} (h : l.Pairwise (· < ·)) : (insS x l).Pairwise (· < ·) := by
 induction l with
 | nil => simp [insS]
 | cons y l ih =>
  rw [List.pairwise_cons] at h
  simp only [insS]
  split
  ·rename_i h1
   rw [List.pairwise_cons]
   refine ⟨fun z hz => ?_, ih h.2⟩
   rcases mem_insS.1 hz with rfl | hz
   ·exact h1
   ·exact h.1 z hz
  ·split
   ·exact List.pairwise_cons.2 h
   ·rename_i h1 h2
    rw [List.pairwise_cons]
    refine ⟨fun z hz => ?_, List.pairwise_cons.2 h⟩
    rcases List.mem_cons.1 hz with rfl | hz
    ·omega
    ·have := h.1 z hz
     omega
def fires (ok : Bool) (a b : Int) (out : List Int) : Bool := ok && (decide (a ∈ out) != decide (b ∈ out))
def fire (ok : Bool) (a b : Int) (out : List Int) : List Int := if fires ok a b out = true then insS b (insS a out) else out
theorem fire_mem {ok : Bool} {a b z : Int} {out : List Int} (h : z ∈ out) : z ∈ fire ok a b out := by
 unfold fire
 split
 ·exact mem_insS.2 (.inr (mem_insS.2 (.inr h)))
 ·exact h
theorem fire_up {ok : Bool} {a b : Int} {out : List Int} (h : out.Pairwise (· < ·)) : (fire ok a b out).Pairwise (· < ·) := by
 unfold fire
 split
 ·exact up_insS (up_insS h)
 ·exact h
theorem fire_new {ok : Bool} {a b z : Int} {out : List Int} (h : z ∈ fire ok a b out) : z ∈ out ∨ z = a ∨ z = b := by
 unfold fire at h
 split at h
 ·rcases mem_insS.1 h with rfl | h
  ·exact .inr (.inr rfl)
  ·rcases mem_insS.1 h with rfl | h
   ·exact .inr (.inl rfl)
   ·exact .inl h
 ·exact .inl h
def iter {σ : Type} (f : Nat → σ → σ) : Nat → Nat → σ → σ
 | 0, _, s => s
 | d + 1, i, s => iter f d (i + 1) (f i s)
theorem foldN_iter {σ ρ : Type} (f : Nat → σ → σ) (fin : σ → ρ) : ∀ d i s, foldN (fun i s => Sum.inl (f i s)) fin d i s = fin (iter f d i s)
 | 0, _, _ => rfl
 | d + 1, i, s => by
  simp only [foldN, iter]
  exact foldN_iter f fin d (i + 1) (f i s)
def cnt (ok : Nat → Bool) (a b : Nat → Int) (out : List Int) : Nat → Nat
 | 0 => 0
 | n + 1 => cnt ok a b out n + if (ok n && (decide (a n ∈ out) && decide (b n ∈ out))) = true then 1 else 0
theorem cnt_le (ok : Nat → Bool) (a b : Nat → Int) (out : List Int) : ∀ n, cnt ok a b out n ≤ n
 | 0 => Nat.le_refl _
 | n + 1 => by
  have := cnt_le ok a b out n
  simp only [cnt]
  split <;> omega
theorem in_mono {ok : Bool} {a b : Int} {out out' : List Int} (h : ∀ z, z ∈ out → z ∈ out') (hi : (ok && (decide (a ∈ out) && decide (b ∈ out))) = true) : (ok && (decide (a ∈ out') && decide (b ∈ out'))) = true := by
 simp only [Bool.and_eq_true, decide_eq_true_eq] at hi ⊢
 exact ⟨hi.1, h _ hi.2.1, h _ hi.2.2⟩
theorem cnt_mono {ok : Nat → Bool} {a b : Nat → Int} {out out' : List Int} (h : ∀ z, z ∈ out → z ∈ out') : ∀ n, cnt ok a b out n ≤ cnt ok a b out' n
 | 0 => Nat.le_refl _
 | n + 1 => by
  have ih := cnt_mono (ok := ok) (a := a) (b := b) h n
  simp only [cnt]
  by_cases h1 : (ok n && (decide (a n ∈ out) && decide (b n ∈ out))) = true
  ·rw [if_pos h1, if_pos (in_mono h h1)]
   omega
  ·rw [if_neg h1]
   split <;> omega
theorem cnt_lt {ok : Nat → Bool} {a b : Nat → Int} {out out' : List Int} (h : ∀ z, z ∈ out → z ∈ out') {i : Nat} (h0 : ¬ (ok i && (decide (a i ∈ out) && decide (b i ∈ out))) = true) (h1 : (ok i && (decide (a i ∈ out') && decide (b i ∈ out'))) = true) : ∀ n, i < n → cnt ok a b out n < cnt ok a b out' n
 | 0, hi => by omega
 | n + 1, hi => by
  simp only [cnt]
  by_cases hin : i = n
  ·subst hin
   have := cnt_mono (ok := ok) (a := a) (b := b) h i
   rw [if_neg h0, if_pos h1]
   omega
  ·have ih := cnt_lt (ok := ok) (a := a) (b := b) h h0 h1 n (by omega)
   by_cases h2 : (ok n && (decide (a n ∈ out) && decide (b n ∈ out))) = true
   ·rw [if_pos h2, if_pos (in_mono h h2)]
    omega
   ·rw [if_neg h2]
    split <;> omega
def passStep (ok : Nat → Bool) (a b : Nat → Int) (i : Nat) (s : List Int × Bool) : List Int × Bool := (fire (ok i) (a i) (b i) s.1, s.2 || fires (ok i) (a i) (b i) s.1)
def pass (ok : Nat → Bool) (a b : Nat → Int) (n : Nat) (out : List Int) : List Int := iter (fun i s => fire (ok i) (a i) (b i) s) n 0 out
theorem passStep_iter {ok : Nat → Bool} {a b : Nat → Int} {N : Nat} : ∀ d i (out : List Int) (fl : Bool), i + d ≤ N →
  (iter (passStep ok a b) d i (out, fl)).1 = iter (fun i s => fire (ok i) (a i) (b i) s) d i out ∧
  (((iter (passStep ok a b) d i (out, fl)).2 = fl ∧ iter (fun i s => fire (ok i) (a i) (b i) s) d i out = out) ∨
   ((iter (passStep ok a b) d i (out, fl)).2 = true ∧ cnt ok a b out N < cnt ok a b (iter (fun i s => fire (ok i) (a i) (b i) s) d i out) N)) ∧
  (∀ z, z ∈ out → z ∈ iter (fun i s => fire (ok i) (a i) (b i) s) d i out) := by
 intro d
 induction d with
 | zero => intro i out fl _; exact ⟨rfl, .inl ⟨rfl, rfl⟩, fun z hz => hz⟩
 | succ d ih =>
  intro i out fl hi
  simp only [iter]
  obtain ⟨h1, h2, h3⟩ := ih (i + 1) (fire (ok i) (a i) (b i) out) (fl || fires (ok i) (a i) (b i) out) (by omega)
  have hm : ∀ z, z ∈ out → z ∈ fire (ok i) (a i) (b i) out := fun z hz => fire_mem hz
  refine ⟨h1, ?_, fun z hz => h3 z (hm z hz)⟩
  cases hf : fires (ok i) (a i) (b i) out with
  | false =>
   have he : fire (ok i) (a i) (b i) out = out := by unfold fire; rw [hf]; exact if_neg (by decide)
   rw [hf, Bool.or_false] at h2
   rw [he] at h2 ⊢
   simpa only [passStep, hf, Bool.or_false, he] using h2
  | true =>
   have he : fire (ok i) (a i) (b i) out = insS (b i) (insS (a i) out) := by unfold fire; rw [hf]; exact if_pos rfl
   have h0 : ¬ (ok i && (decide (a i ∈ out) && decide (b i ∈ out))) = true := by
    intro hh
    simp only [Bool.and_eq_true] at hh
    simp only [fires, hh.1, hh.2.1, hh.2.2] at hf
    exact absurd hf (by decide)
   have hok : ok i = true := by
    simp only [fires, Bool.and_eq_true] at hf
    exact hf.1
   have hin : (ok i && (decide (a i ∈ fire (ok i) (a i) (b i) out) && decide (b i ∈ fire (ok i) (a i) (b i) out))) = true := by
    simp only [Bool.and_eq_true, decide_eq_true_eq, he]
    exact ⟨hok, mem_insS.2 (.inr (mem_insS.2 (.inl rfl))), mem_insS.2 (.inl rfl)⟩
   have hlt := cnt_lt hm h0 hin N (by omega)
   right
   rw [hf, Bool.or_true] at h2
   simp only [passStep, hf, Bool.or_true]
   rcases h2 with ⟨h4, h5⟩ | ⟨h4, h5⟩
   ·refine ⟨h4, ?_⟩
    rw [h5]
    exact hlt
   ·exact ⟨h4, Nat.lt_trans hlt h5⟩
theorem pass_flag (ok : Nat → Bool) (a b : Nat → Int) (n : Nat) (out : List Int) :
  iter (passStep ok a b) n 0 (out, false) = (pass ok a b n out, decide (pass ok a b n out ≠ out)) ∧ (pass ok a b n out = out ∨ cnt ok a b out n < cnt ok a b (pass ok a b n out) n) := by
 obtain ⟨h1, h2, _⟩ := passStep_iter (ok := ok) (a := a) (b := b) (N := n) n 0 out false (by omega)
 rcases h2 with ⟨h3, h4⟩ | ⟨h3, h4⟩
 ·refine ⟨Prod.ext h1 ?_, .inl h4⟩
  rw [h3, eq_comm, decide_eq_false_iff_not]
  exact fun hh => hh h4
 ·refine ⟨Prod.ext h1 ?_, .inr h4⟩
  rw [h3, eq_comm, decide_eq_true_eq]
  intro hh
  rw [show iter (fun i s => fire (ok i) (a i) (b i) s) n 0 out = out from hh] at h4
  omega
def passes (ok : Nat → Bool) (a b : Nat → Int) (n : Nat) : Nat → List Int → List Int
 | 0, out => out
 | m + 1, out => passes ok a b n m (pass ok a b n out)
theorem passes_still {ok : Nat → Bool} {a b : Nat → Int} {n : Nat} {out : List Int} (h : pass ok a b n out = out) : ∀ m, passes ok a b n m out = out
 | 0 => rfl
 | m + 1 => by simp only [passes, h]; exact passes_still h m
theorem passes_enough (ok : Nat → Bool) (a b : Nat → Int) (n : Nat) : ∀ m out, n ≤ m + cnt ok a b out n → pass ok a b n (passes ok a b n m out) = passes ok a b n m out := by
 intro m
 induction m with
 | zero =>
  intro out h
  rcases (pass_flag ok a b n out).2 with h1 | h1
  ·exact h1
  ·have := cnt_le ok a b (pass ok a b n out) n
   omega
 | succ m ih =>
  intro out h
  simp only [passes]
  rcases (pass_flag ok a b n out).2 with h1 | h1
  ·rw [h1]
   rw [passes_still h1]
   exact h1
  ·exact ih _ (by omega)
def reached (ok : Nat → Bool) (a b : Nat → Int) (n : Nat) (out : List Int) : List Int := passes ok a b n n out
theorem reached_still (ok : Nat → Bool) (a b : Nat → Int) (n : Nat) (out : List Int) : pass ok a b n (reached ok a b n out) = reached ok a b n out := passes_enough ok a b n n out (by omega)
theorem reached_of {ok : Nat → Bool} {a b : Nat → Int} {n m : Nat} {out : List Int} (h : pass ok a b n (passes ok a b n m out) = passes ok a b n m out) (hm : m ≤ n) : passes ok a b n m out = reached ok a b n out := by
 have key : ∀ m k out, pass ok a b n (passes ok a b n m out) = passes ok a b n m out → passes ok a b n (m + k) out = passes ok a b n m out := by
  intro m
  induction m with
  | zero =>
   intro k out h
   rw [Nat.zero_add]
   exact passes_still h k
  | succ m ih =>
   intro k out h
   rw [show m + 1 + k = (m + k) + 1 by omega]
   simp only [passes] at h ⊢
   exact ih k _ h
 have := key m (n - m) out h
 rw [show m + (n - m) = n by omega] at this
 exact this.symm
theorem pass_up {ok : Nat → Bool} {a b : Nat → Int} {n : Nat} {out : List Int} (h : out.Pairwise (· < ·)) : (pass ok a b n out).Pairwise (· < ·) := by
 have key : ∀ d i (out : List Int), out.Pairwise (· < ·) → (iter (fun i s => fire (ok i) (a i) (b i) s) d i out).Pairwise (· < ·) := by
  intro d
  induction d with
  | zero => intro i out h; exact h
  | succ d ih => intro i out h; exact ih (i + 1) _ (fire_up h)
 exact key n 0 out h
theorem pass_in {ok : Nat → Bool} {a b : Nat → Int} {n : Nat} {P : Int → Prop} (hab : ∀ i, i < n → P (a i) ∧ P (b i)) {out : List Int} (h : ∀ z ∈ out, P z) : ∀ z ∈ pass ok a b n out, P z := by
 have key : ∀ d i (out : List Int), i + d = n → (∀ z ∈ out, P z) → ∀ z ∈ iter (fun i s => fire (ok i) (a i) (b i) s) d i out, P z := by
  intro d
  induction d with
  | zero => intro i out _ h; exact h
  | succ d ih =>
   intro i out hi h
   refine ih (i + 1) _ (by omega) (fun z hz => ?_)
   rcases fire_new hz with hz | rfl | rfl
   ·exact h z hz
   ·exact (hab i (by omega)).1
   ·exact (hab i (by omega)).2
 exact key n 0 out (by omega) h
theorem passes_up {ok : Nat → Bool} {a b : Nat → Int} {n : Nat} : ∀ m {out : List Int}, out.Pairwise (· < ·) → (passes ok a b n m out).Pairwise (· < ·)
 | 0, _, h => h
 | m + 1, _, h => passes_up m (pass_up h)
theorem passes_in {ok : Nat → Bool} {a b : Nat → Int} {n : Nat} {P : Int → Prop} (hab : ∀ i, i < n → P (a i) ∧ P (b i)) : ∀ m {out : List Int}, (∀ z ∈ out, P z) → ∀ z ∈ passes ok a b n m out, P z
 | 0, _, h => h
 | m + 1, _, h => passes_in hab m (pass_in hab h)
theorem pass_mem {ok : Nat → Bool} {a b : Nat → Int} {n : Nat} {z : Int} {out : List Int} (h : z ∈ out) : z ∈ pass ok a b n out :=
 (passStep_iter (ok := ok) (a := a) (b := b) (N := n) n 0 out false (by omega)).2.2 z h
theorem passes_mem {ok : Nat → Bool} {a b : Nat → Int} {n : Nat} {z : Int} : ∀ m {out : List Int}, z ∈ out → z ∈ passes ok a b n m out
 | 0, _, h => h
 | m + 1, _, h => passes_mem m (pass_mem h)
theorem rising_eq {l : List Int} (h : l.Pairwise (· < ·)) : ∀ (m : Nat) (c : Int), (∀ z ∈ l, c ≤ z ∧ z < c + (m : Int)) → l = ((List.range m).map (fun i : Nat => c + (i : Int))).filter (fun z => decide (z ∈ l)) := by
 intro m
 induction m generalizing l with
 | zero =>
  intro c hl
  cases l with
  | nil => rfl
  | cons y l =>
   have := hl y (by simp)
   omega
 | succ m ih =>
  intro c hl
  have hr : (List.range (m + 1)).map (fun i : Nat => c + (i : Int)) = c :: (List.range m).map (fun i : Nat => (c + 1) + (i : Int)) := by
   rw [List.range_succ_eq_map, List.map_cons, List.map_map]
   congr 1
   ·simp
   ·apply List.map_congr_left
    intro i _
    simp only [Function.comp, Nat.succ_eq_add_one]
    omega
  rw [hr]
  cases l with
  | nil => simp
  | cons y l =>
   rw [List.pairwise_cons] at h
   have hy := hl y (by simp)
   by_cases hyc : y = c
   ·subst hyc
    have hne : ∀ z ∈ (List.range m).map (fun i : Nat => (y + 1) + (i : Int)), decide (z ∈ y :: l) = decide (z ∈ l) := by
     intro z hz
     obtain ⟨i, _, rfl⟩ := List.mem_map.1 hz
     rw [decide_eq_decide, List.mem_cons]
     constructor
     ·rintro (h1 | h1)
      ·omega
      ·exact h1
     ·exact fun h1 => .inr h1
    rw [List.filter_cons, if_pos (by simp), List.filter_congr hne]
    congr 1
    exact ih h.2 (y + 1) (fun z hz => by have := h.1 z hz; have := hl z (by simp [hz]); omega)
   ·rw [List.filter_cons, if_neg ?_]
    ·exact ih (List.pairwise_cons.2 h) (c + 1) (fun z hz => by
      have h1 := hl z hz
      rcases List.mem_cons.1 hz with rfl | hz
      ·omega
      ·have := h.1 z hz
       omega)
    ·rw [decide_eq_true_eq, List.mem_cons]
     rintro (h1 | h1)
     ·omega
     ·have := h.1 c h1
      omega
set_option linter.unusedVariables false
set_option linter.unusedSimpArgs false
theorem putHit_same : ∀ {l : List Int} {n : Int}, putHit l n = true → insS n l = l
 | [], n, h => by simp [putHit] at h
 | x :: l, n, h => by
  simp only [putHit] at h
  simp only [insS]
  split at h
  ·rename_i hlt
   rw [if_pos hlt, putHit_same h]
  ·rename_i hlt
   rw [if_neg hlt, if_pos (by simpa using h)]
theorem putNew_at {l : List Int} {n : Int} (hm : l.length ≤ 1048576) : ∀ d i k, i + d = l.length → d < k → putHit (l.drop i) n = false → spec_l1PutNew.l0 k l n (i : Int) = some (l.take i ++ insS n (l.drop i)) := by
 intro d
 induction d with
 | zero =>
  intro i k hi hk hh
  obtain ⟨k, rfl⟩ : ∃ m, k = m + 1 := ⟨k - 1, by omega⟩
  simp only [spec_l1PutNew.l0, Option.bind_some, List.nil_append, List.length_append, List.length_nil, List.length_take, List.length_drop, List.length_cons, Int.toNat_natCast]
  rw [if_neg (by omega), if_pos (by omega), if_pos (by omega), if_pos (by omega), if_pos (by omega), if_pos (by omega), List.drop_eq_nil_of_le (by omega)]
  simp [insS]
 | succ d ih =>
  intro i k hi hk hh
  obtain ⟨k, rfl⟩ : ∃ m, k = m + 1 := ⟨k - 1, by omega⟩
  have hil : i < l.length := by omega
  have hd := List.drop_eq_getElem_cons hil
  rw [hd] at hh ⊢
  simp only [putHit] at hh
  simp only [insS]
  simp only [spec_l1PutNew.l0, Option.bind_some, List.nil_append, List.length_append, List.length_nil, List.length_take, List.length_drop, List.length_cons, Int.toNat_natCast, rd_nat, getD_lt _ _ _ hil]
  rw [if_pos (by omega), if_pos (by omega)]
  by_cases h1 : l[i] < n
  ·rw [if_pos h1] at hh ⊢
   rw [if_pos h1, wrap_up hil (by omega), ih (i + 1) k (by omega) (by omega) hh, List.take_succ_eq_append_getElem hil, List.append_assoc]
   rfl
  ·rw [if_neg h1] at hh ⊢
   have h2 : ¬ l[i] = n := by simpa using hh
   rw [if_neg h1, if_neg h2, if_neg h2, if_pos (by omega), if_pos (by omega), if_pos (by omega), if_pos (by omega), hd]
   simp
theorem l1Put_at {l : List Int} {n : Int} (hm : l.length ≤ 1048576) : ∀ k, l.length < k → spec_l1Put.f k l n = some (insS n l) := by
 intro k hk
 unfold spec_l1Put.f
 by_cases h : putHit l n = true
 ·rw [if_pos h, putHit_same h]
 ·rw [if_neg h]
  have := putNew_at (n := n) hm l.length 0 k (by omega) hk (by simpa using h)
  simpa [spec_l1PutNew.f] using this
theorem l1Put_ev {l : List Int} {n : Int} (hm : l.length ≤ 1048576) : Ev (fun k => spec_l1Put.f k l n) (insS n l) := Ev.past l.length fun k hk => l1Put_at hm k hk
def Good (o : List Int) : Prop := o.Pairwise (· < ·) ∧ ∀ z ∈ o, 0 ≤ z ∧ z < 8
theorem Good.len {o : List Int} (h : Good o) : o.length ≤ 8 := by
 have := rising_eq h.1 8 0 (fun z hz => by have := h.2 z hz; omega)
 rw [this]
 exact Nat.le_trans (List.length_filter_le _ _) (by simp)
theorem Good.fire {o : List Int} (h : Good o) {ok : Bool} {a b : Int} (ha : 0 ≤ a ∧ a < 8) (hb : 0 ≤ b ∧ b < 8) : Good (fire ok a b o) :=
 ⟨fire_up h.1, fun z hz => by
  rcases fire_new hz with hz | rfl | rfl
  ·exact h.2 z hz
  ·exact ha
  ·exact hb⟩
theorem Good.one {a : Int} (ha : 0 ≤ a ∧ a < 8) : Good [a] := ⟨by simp, fun z hz => by simp at hz; subst hz; exact ha⟩
def wideEnough (ws : List Int) (width : Int) (i : Nat) : Bool := decide (width ≤ ws.getD i 0)
def stationsOf (l : List S58) (ws : List Int) (from_ width : Int) : List Int := reached (wideEnough ws width) (fromOf l) (toOf l) l.length [from_]
theorem stationsOf_good {l : List S58} (ws : List Int) (hl : okLegs l = true) {from_ : Int} (hf : 0 ≤ from_ ∧ from_ < 8) (width : Int) : Good (stationsOf l ws from_ width) :=
 ⟨passes_up _ (Good.one hf).1, passes_in (P := fun z => 0 ≤ z ∧ z < 8) (ends_in hl) _ (Good.one hf).2⟩
def arrL (o : List Int) : List Bool := (List.range 8).map (fun s : Nat => decide ((s : Int) ∈ o))
theorem arrL_length (o : List Int) : (arrL o).length = 8 := by simp [arrL]
theorem arrL_at (o : List Int) {j : Nat} (h : j < 8) : (arrL o)[j]? = some (decide ((j : Int) ∈ o)) := by simp [arrL, h]
theorem arrL_get {o : List Int} {a : Int} (h : 0 ≤ a ∧ a < 8) : (arrL o).getD a.toNat false = decide (a ∈ o) := by
 rw [List.getD_eq_getElem?_getD, arrL_at o (by omega), Option.getD_some, Int.toNat_of_nonneg h.1]
theorem arrL_set {o : List Int} {a : Int} (h : 0 ≤ a ∧ a < 8) : (arrL o).set a.toNat true = arrL (insS a o) := by
 apply List.ext_getElem?
 intro j
 by_cases hj : j < 8
 ·rw [arrL_at _ hj]
  by_cases hja : a.toNat = j
  ·rw [hja, List.getElem?_set_self (by rw [arrL_length]; exact hj), decide_eq_true]
   exact mem_insS.2 (.inl (by omega))
  ·rw [List.getElem?_set_ne hja, arrL_at _ hj]
   congr 1
   rw [decide_eq_decide, mem_insS]
   constructor
   ·exact fun h => .inr h
   ·rintro (h1 | h1)
    ·omega
    ·exact h1
 ·rw [List.getElem?_eq_none (by rw [List.length_set, arrL_length]; omega), List.getElem?_eq_none (by rw [arrL_length]; omega)]
theorem reachStep_arr {l : List S58} (ws : List Int) (width : Int) (hl : okLegs l = true) {i : Nat} (hi : i < l.length) (o : List Int) : reachStep l ws width i (arrL o) = arrL (fire (wideEnough ws width i) (fromOf l i) (toOf l i) o) := by
 have he := ends_in hl i hi
 unfold reachStep fire fires
 rw [show (l.getD i z58).f0 = fromOf l i from rfl, show (l.getD i z58).f1 = toOf l i from rfl, arrL_get he.1, arrL_get he.2, arrL_set he.1, arrL_set he.2]
 rw [show wideEnough ws width i = decide (width ≤ ws.getD i 0) from rfl]
 split <;> rfl
theorem reachPass_arr {l : List S58} (ws : List Int) (width : Int) (hl : okLegs l = true) : ∀ d i (o : List Int), i + d = l.length → reachPass l ws width d i (arrL o) = arrL (iter (fun i s => fire (wideEnough ws width i) (fromOf l i) (toOf l i) s) d i o)
 | 0, _, _, _ => rfl
 | d + 1, i, o, h => by
  simp only [reachPass, iter]
  rw [reachStep_arr ws width hl (by omega) o]
  exact reachPass_arr ws width hl d (i + 1) _ (by omega)
theorem reachAll_arr {l : List S58} (ws : List Int) (width : Int) (hl : okLegs l = true) : ∀ m (o : List Int), reachAll l ws width m (arrL o) = arrL (passes (wideEnough ws width) (fromOf l) (toOf l) l.length m o)
 | 0, _ => rfl
 | m + 1, o => by
  simp only [reachAll, passes]
  rw [reachPass_arr ws width hl l.length 0 o (by omega)]
  exact reachAll_arr ws width hl m _
theorem start_arr {a : Int} (h : 0 ≤ a ∧ a < 8) : (List.replicate 8 false).set a.toNat true = arrL [a] := by
 have h0 : List.replicate 8 false = arrL [] := by simp [arrL, List.range_succ]
 rw [h0, arrL_set h]
 rfl
theorem reachOf_arr {l : List S58} (ws : List Int) (hl : okLegs l = true) {from_ : Int} (hf : 0 ≤ from_ ∧ from_ < 8) (width : Int) : reachOf l ws from_ width = arrL (stationsOf l ws from_ width) := by
 unfold reachOf
 rw [start_arr hf, reachAll_arr ws width hl]
 rfl
theorem reachOk_of {l : List S58} {ws : List Int} (hl : okLegs l = true) (hw : l.length ≤ ws.length) {from_ : Int} (hf : 0 ≤ from_ ∧ from_ < 8) : reachOk l ws from_ = true := by
 unfold reachOk
 simp only [Bool.and_eq_true, decide_eq_true_eq, List.all_eq_true]
 refine ⟨hw, ⟨hf.1, by omega⟩, fun x hx => ?_⟩
 obtain ⟨i, hi, rfl⟩ := List.mem_iff_getElem.1 hx
 have := okLeg_says (okLegs_at hl hi)
 rw [getD_lt _ _ _ hi] at this
 omega
theorem memFrom_eq (B : List Bool) : ∀ d i acc, memFrom B d i acc = acc ++ ((List.range d).map (fun j : Nat => ((i + j : Nat) : Int))).filter (fun z => B.getD z.toNat false)
 | 0, _, _ => by simp [memFrom]
 | d + 1, i, acc => by
  have hr : (List.range (d + 1)).map (fun j : Nat => ((i + j : Nat) : Int)) = (i : Int) :: (List.range d).map (fun j : Nat => ((i + 1 + j : Nat) : Int)) := by
   rw [List.range_succ_eq_map, List.map_cons, List.map_map]
   congr 1
   apply List.map_congr_left
   intro j _
   simp only [Function.comp, Nat.succ_eq_add_one]
   omega
  simp only [memFrom]
  rw [hr, memFrom_eq B d (i + 1), List.filter_cons, Int.toNat_natCast]
  cases B.getD i false with
  | true => simp
  | false => simp
theorem memFrom_arr {o : List Int} (h : Good o) : memFrom (arrL o) 8 0 [] = o := by
 rw [memFrom_eq, List.nil_append]
 have h1 := rising_eq h.1 8 0 (fun z hz => by have := h.2 z hz; omega)
 have h2 : (List.range 8).map (fun j : Nat => ((0 + j : Nat) : Int)) = (List.range 8).map (fun i : Nat => (0 : Int) + (i : Int)) := by
  apply List.map_congr_left
  intro j _
  omega
 rw [h2]
 conv => rhs; rw [h1]
 apply List.filter_congr
 intro z hz
 obtain ⟨i, hi, rfl⟩ := List.mem_map.1 hz
 have hi := List.mem_range.1 hi
 rw [arrL_get (by omega)]
set_option linter.unusedVariables false
set_option linter.unusedSimpArgs false
theorem specReach_inner {l : List S58} {ws : List Int} (hl : okLegs l = true) (hw : l.length ≤ ws.length) (hm : ws.length ≤ 1048576) (width : Int) (r : List Int) : ∀ d i (o : List Int) (fl : Bool), i + d = l.length → Good o →
  Ev (fun k => spec_l15Reach.l0 k l ws width (iter (passStep (wideEnough ws width) (fromOf l) (toOf l)) d i (o, fl)).1 (iter (passStep (wideEnough ws width) (fromOf l) (toOf l)) d i (o, fl)).2) r →
  Ev (fun k => spec_l15Reach.l1 k l ws width o fl (i : Int)) r := by
 intro d
 induction d with
 | zero =>
  intro i o fl hi hg h
  refine Ev.step (fun k => ?_) h
  simp only [spec_l15Reach.l1, iter]
  rw [if_neg (by omega)]
 | succ d ih =>
  intro i o fl hi hg h
  have hil : i < l.length := by omega
  have he := ends_in hl i hil
  have h8 := hg.len
  simp only [iter, passStep] at h
  have hnext := ih (i + 1) _ _ (by omega) (hg.fire (ok := wideEnough ws width i) he.1 he.2) h
  have hwr : wrap64 ((i : Int) + 1) = ((i + 1 : Nat) : Int) := by unfold wrap64; omega
  by_cases hlt : ws.getD i 0 < width
  ·have hok : wideEnough ws width i = false := decide_eq_false (by omega)
   have hf : fires (wideEnough ws width i) (fromOf l i) (toOf l i) o = false := by unfold fires; rw [hok]; rfl
   have hfi : fire (wideEnough ws width i) (fromOf l i) (toOf l i) o = o := by unfold fire; rw [hf]; exact if_neg (by decide)
   rw [hfi, hf, Bool.or_false] at hnext
   refine Ev.step (f := fun k => spec_l15Reach.j2 k l ws width o fl (i : Int) (fromOf l i) (toOf l i) true) (fun k => ?_) (Ev.step (fun k => ?_) hnext)
   ·simp only [spec_l15Reach.l1, rd_nat, rdL]
    rw [if_pos (by omega), if_pos (by omega), if_pos (by omega), if_pos hlt]
    rfl
   ·simp only [spec_l15Reach.j2, hwr, if_true]
  ·have hok : wideEnough ws width i = true := decide_eq_true (by omega)
   refine Ev.step (f := fun k => (spec_l1Has.f k o (fromOf l i)).bind fun t => (spec_l1Has.f k o (toOf l i)).bind fun t2 => spec_l15Reach.j2 k l ws width o fl (i : Int) (fromOf l i) (toOf l i) (t == t2)) (fun k => ?_) (Ev.bind (l1Has_ev (by omega)) (Ev.bind (l1Has_ev (by omega)) ?_))
   ·simp only [spec_l15Reach.l1, rd_nat, rdL]
    rw [if_pos (by omega), if_pos (by omega), if_pos (by omega), if_neg hlt]
    rfl
   ·cases hb : decide (fromOf l i ∈ o) == decide (toOf l i ∈ o) with
    | true =>
     have hf : fires (wideEnough ws width i) (fromOf l i) (toOf l i) o = false := by unfold fires; rw [hok, bne, hb]; rfl
     have hfi : fire (wideEnough ws width i) (fromOf l i) (toOf l i) o = o := by unfold fire; rw [hf]; exact if_neg (by decide)
     rw [hfi, hf, Bool.or_false] at hnext
     refine Ev.step (fun k => ?_) hnext
     simp only [spec_l15Reach.j2, hwr, if_true]
    | false =>
     have hf : fires (wideEnough ws width i) (fromOf l i) (toOf l i) o = true := by unfold fires; rw [hok, bne, hb]; rfl
     have hfi : fire (wideEnough ws width i) (fromOf l i) (toOf l i) o = insS (toOf l i) (insS (fromOf l i) o) := by unfold fire; rw [hf]; exact if_pos rfl
     rw [hfi, hf, Bool.or_true] at hnext
     refine Ev.step (f := fun k => (spec_l1Put.f k o (fromOf l i)).bind fun t => (spec_l1Put.f k t (toOf l i)).bind fun t2 => spec_l15Reach.l1 k l ws width t2 true ((i + 1 : Nat) : Int)) (fun k => ?_) (Ev.bind (l1Put_ev (by omega)) (Ev.bind (l1Put_ev ?_) hnext))
     ·simp only [spec_l15Reach.j2, hwr, Bool.false_eq_true, if_false]
     ·have hg1 : Good (insS (fromOf l i) o) := ⟨up_insS hg.1, fun z hz => by
       rcases mem_insS.1 hz with rfl | hz
       ·exact he.1
       ·exact hg.2 z hz⟩
      have := hg1.len
      omega
theorem specReach_outer {l : List S58} {ws : List Int} (hl : okLegs l = true) (hw : l.length ≤ ws.length) (hm : ws.length ≤ 1048576) (width : Int) : ∀ m (o : List Int), Good o → l.length ≤ m + cnt (wideEnough ws width) (fromOf l) (toOf l) o l.length →
  Ev (fun k => spec_l15Reach.l0 k l ws width o true) (passes (wideEnough ws width) (fromOf l) (toOf l) l.length m o) := by
 intro m
 induction m with
 | zero =>
  intro o hg hc
  obtain ⟨hp, hq⟩ := pass_flag (wideEnough ws width) (fromOf l) (toOf l) l.length o
  have hs : pass (wideEnough ws width) (fromOf l) (toOf l) l.length o = o := by
   rcases hq with hq | hq
   ·exact hq
   ·have := cnt_le (wideEnough ws width) (fromOf l) (toOf l) (pass (wideEnough ws width) (fromOf l) (toOf l) l.length o) l.length
    omega
  refine Ev.step (f := fun k => spec_l15Reach.l1 k l ws width o false ((0 : Nat) : Int)) (fun k => ?_) (specReach_inner hl hw hm width _ l.length 0 o false (by omega) hg ?_)
  ·simp only [spec_l15Reach.l0, if_true]
   rfl
  ·rw [hp, hs]
   simp only [ne_eq, not_true_eq_false, decide_false, passes]
   refine Ev.step (f := fun _ => some o) (fun k => ?_) (Ev.now _)
   simp only [spec_l15Reach.l0, Bool.false_eq_true, if_false]
 | succ m ih =>
  intro o hg hc
  obtain ⟨hp, hq⟩ := pass_flag (wideEnough ws width) (fromOf l) (toOf l) l.length o
  refine Ev.step (f := fun k => spec_l15Reach.l1 k l ws width o false ((0 : Nat) : Int)) (fun k => ?_) (specReach_inner hl hw hm width _ l.length 0 o false (by omega) hg ?_)
  ·simp only [spec_l15Reach.l0, if_true]
   rfl
  ·rw [hp]
   by_cases hs : pass (wideEnough ws width) (fromOf l) (toOf l) l.length o = o
   ·rw [hs, passes_still hs]
    simp only [ne_eq, not_true_eq_false, decide_false]
    refine Ev.step (f := fun _ => some o) (fun k => ?_) (Ev.now _)
    simp only [spec_l15Reach.l0, Bool.false_eq_true, if_false]
   ·simp only [ne_eq, hs, not_false_eq_true, decide_true, passes]
    refine ih _ ⟨pass_up hg.1, pass_in (P := fun z => 0 ≤ z ∧ z < 8) (ends_in hl) hg.2⟩ ?_
    rcases hq with hq | hq
    ·exact absurd hq hs
    ·omega
theorem specReach_ev {l : List S58} {ws : List Int} (hl : okLegs l = true) (hw : l.length ≤ ws.length) (hm : ws.length ≤ 1048576) {from_ : Int} (hf : 0 ≤ from_ ∧ from_ < 8) (width : Int) : Ev (fun k => spec_l15Reach.f k l ws from_ width) (stationsOf l ws from_ width) := by
 simp only [spec_l15Reach.f]
 exact specReach_outer hl hw hm width l.length [from_] (Good.one hf) (by omega)
set_option linter.unusedVariables false
set_option linter.unusedSimpArgs false
theorem reach_has {l : List S58} (ws : List Int) (hl : okLegs l = true) {a b : Int} (ha : 0 ≤ a ∧ a ≤ 7) (hb : 0 ≤ b ∧ b ≤ 7) (width : Int) : (reachOf l ws a width).getD b.toNat false = decide (b ∈ stationsOf l ws a width) := by
 rw [reachOf_arr ws hl (by omega), arrL_get (by omega)]
theorem specGreatest_ev {l : List S58} {ws : List Int} (hl : okLegs l = true) (hw : l.length ≤ ws.length) (hm : ws.length ≤ 1048576) {a b : Int} (ha : 0 ≤ a ∧ a ≤ 7) (hb : 0 ≤ b ∧ b ≤ 7) : Ev (fun k => spec_l15Greatest.f k l ws a b) (greatestDown l ws a b 201) := by
 have key : ∀ n : Nat, n ≤ 201 → Ev (fun k => spec_l15Greatest.l0 k l ws a b ((n : Int) - 1)) (greatestDown l ws a b n) := by
  intro n
  induction n with
  | zero =>
   intro _
   refine Ev.step (f := fun _ => some (-1)) (fun k => ?_) (Ev.now _)
   simp only [spec_l15Greatest.l0]
   rw [if_neg (by omega)]
  | succ n ih =>
   intro hn
   have hx : (((n + 1 : Nat) : Int) - 1) = (n : Int) := by omega
   have hwr : wrap64 ((n : Int) - 1) = (n : Int) - 1 := wrap_id (by omega) (by omega)
   rw [hx]
   have hg := (stationsOf_good ws hl (from_ := a) (by omega) (n : Int)).len
   refine Ev.step (f := fun k => (spec_l15Reach.f k l ws a (n : Int)).bind fun t => (spec_l1Has.f k t b).bind fun t2 => if t2 = true then some (n : Int) else spec_l15Greatest.l0 k l ws a b ((n : Int) - 1)) (fun k => ?_) (Ev.bind (specReach_ev hl hw hm (by omega) (n : Int)) (Ev.bind (l1Has_ev (by omega)) ?_))
   ·simp only [spec_l15Greatest.l0, hwr]
    rw [if_pos (by omega)]
   ·simp only [greatestDown, reach_has ws hl ha hb]
    by_cases h : decide (b ∈ stationsOf l ws a (n : Int)) = true
    ·rw [if_pos h]
     exact Ev.ite_pos h (Ev.now _)
    ·rw [if_neg h]
     exact Ev.ite_neg h (ih (by omega))
 simp only [spec_l15Greatest.f]
 exact key 201 (by omega)
def greatAns (l : List S58) (ws : List Int) (a b : Int) : Int × Bool := if okAsked l ws a b = true then (greatestDown l ws a b 201, true) else (0, false)
theorem specGreat_ev (l : List S58) (ws : List Int) (a b : Int) (hm : l.length ≤ 9223372036854775807) (hw : ws.length ≤ 9223372036854775807) : Ev (fun k => spec_GreatestWidth.f k l ws a b) (greatAns l ws a b) := by
 simp only [spec_GreatestWidth.f]
 refine Ev.bind (l15Asked_ev l ws a b hm hw) ?_
 unfold greatAns
 by_cases h : okAsked l ws a b = true
 ·have hs := okAsked_says h
  have hn := okWidths_len hs.1
  have hl := okWidths_legs hs.1
  have h12 := okLegs_len hl
  rw [if_pos h]
  exact Ev.ite_pos h (Ev.bind (specGreatest_ev hl (by omega) (by omega) hs.2.1 hs.2.2) (Ev.now _))
 ·rw [if_neg h]
  exact Ev.ite_neg h (Ev.now _)
theorem implGreatest_eq {l : List S58} {ws : List Int} (hl : okLegs l = true) (hw : l.length ≤ ws.length) {a b : Int} (ha : 0 ≤ a ∧ a ≤ 7) (hb : 0 ≤ b ∧ b ≤ 7) : impl_greatest.f l ws a b = some (greatestDown l ws a b 201) := by
 unfold impl_greatest.f
 rw [if_pos ⟨reachOk_of hl hw (by omega), hb.1, hb.2⟩]
theorem implGreat_ev (l : List S58) (ws : List Int) (a b : Int) (hm : l.length ≤ 9223372036854775807) : Ev (fun k => impl_GreatestWidth.f k l ws a b) (greatAns l ws a b) := by
 simp only [impl_GreatestWidth.f]
 refine Ev.bind (areEnds_ev l ws a b hm) ?_
 by_cases h : okAsked l ws a b = true
 ·have hs := okAsked_says h
  have hn := okWidths_len hs.1
  have hl := okWidths_legs hs.1
  rw [show greatAns l ws a b = (greatestDown l ws a b 201, true) from if_pos h]
  exact Ev.ite_pos h (Ev.bindc (implGreatest_eq hl (by omega) hs.2.1 hs.2.2) (Ev.now _))
 ·rw [show greatAns l ws a b = (0, false) from if_neg h]
  exact Ev.ite_neg h (Ev.now _)
set_option linter.unusedVariables false
set_option linter.unusedSimpArgs false
theorem fire_least {ok : Bool} {a b : Int} {out : List Int} {P : Int → Prop} (hab : ok = true → (P a ↔ P b)) (h : ∀ z ∈ out, P z) : ∀ z ∈ fire ok a b out, P z := by
 intro z hz
 unfold fire at hz
 split at hz
 ·rename_i hf
  unfold fires at hf
  rw [Bool.and_eq_true] at hf
  have hi := hab hf.1
  have hp : P a ∧ P b := by
   by_cases ha : a ∈ out
   ·exact ⟨h a ha, hi.1 (h a ha)⟩
   ·by_cases hb : b ∈ out
    ·exact ⟨hi.2 (h b hb), h b hb⟩
    ·simp [ha, hb] at hf
  rcases mem_insS.1 hz with rfl | hz
  ·exact hp.2
  ·rcases mem_insS.1 hz with rfl | hz
   ·exact hp.1
   ·exact h z hz
 ·exact h z hz
theorem iter_least {ok : Nat → Bool} {a b : Nat → Int} {n : Nat} {P : Int → Prop} (hab : ∀ i, i < n → ok i = true → (P (a i) ↔ P (b i))) : ∀ d i (out : List Int), i + d ≤ n → (∀ z ∈ out, P z) → ∀ z ∈ iter (fun i s => fire (ok i) (a i) (b i) s) d i out, P z
 | 0, _, _, _, h => h
 | d + 1, i, out, hi, h => iter_least hab d (i + 1) _ (by omega) (fire_least (hab i (by omega)) h)
theorem passes_least {ok : Nat → Bool} {a b : Nat → Int} {n : Nat} {P : Int → Prop} (hab : ∀ i, i < n → ok i = true → (P (a i) ↔ P (b i))) : ∀ m (out : List Int), (∀ z ∈ out, P z) → ∀ z ∈ passes ok a b n m out, P z
 | 0, _, h => h
 | m + 1, out, h => passes_least hab m _ (iter_least hab n 0 out (by omega) h)
theorem iter_mem {ok : Nat → Bool} {a b : Nat → Int} {z : Int} : ∀ d i (out : List Int), z ∈ out → z ∈ iter (fun i s => fire (ok i) (a i) (b i) s) d i out
 | 0, _, _, h => h
 | d + 1, i, _, h => iter_mem d (i + 1) _ (fire_mem h)
theorem iter_closed {ok : Nat → Bool} {a b : Nat → Int} : ∀ d i (out : List Int), (∀ z ∈ iter (fun i s => fire (ok i) (a i) (b i) s) d i out, z ∈ out) → ∀ j, i ≤ j → j < i + d → ok j = true → (a j ∈ out ↔ b j ∈ out) := by
 intro d
 induction d with
 | zero => intro i out _ j h1 h2; omega
 | succ d ih =>
  intro i out h j h1 h2 hj
  have hsame : ∀ z, z ∈ fire (ok i) (a i) (b i) out ↔ z ∈ out := fun z => ⟨fun hz => h z (iter_mem d (i + 1) _ hz), fire_mem⟩
  by_cases hji : j = i
  ·subst hji
   cases hf : fires (ok j) (a j) (b j) out with
   | false =>
    unfold fires at hf
    rw [hj, Bool.true_and] at hf
    by_cases ha : a j ∈ out <;> by_cases hb : b j ∈ out <;> simp [ha, hb] at hf ⊢
   | true =>
    have e : fire (ok j) (a j) (b j) out = insS (b j) (insS (a j) out) := by unfold fire; rw [if_pos hf]
    exact ⟨fun _ => (hsame _).1 (by rw [e]; exact mem_insS.2 (.inl rfl)), fun _ => (hsame _).1 (by rw [e]; exact mem_insS.2 (.inr (mem_insS.2 (.inl rfl))))⟩
  ·have := ih (i + 1) (fire (ok i) (a i) (b i) out) (fun z hz => (hsame z).2 (h z hz)) j (by omega) (by omega) hj
   rwa [hsame, hsame] at this
set_option linter.unusedVariables false
set_option linter.unusedSimpArgs false
theorem st_self (l : List S58) (ws : List Int) (a wd : Int) : a ∈ stationsOf l ws a wd := passes_mem _ (by simp)
theorem st_closed (l : List S58) (ws : List Int) (a wd : Int) {j : Nat} (hj : j < l.length) (hw : wideEnough ws wd j = true) : fromOf l j ∈ stationsOf l ws a wd ↔ toOf l j ∈ stationsOf l ws a wd := by
 have hs := reached_still (wideEnough ws wd) (fromOf l) (toOf l) l.length [a]
 refine iter_closed l.length 0 (stationsOf l ws a wd) (fun z hz => ?_) j (by omega) (by omega) hw
 have hz' : z ∈ pass (wideEnough ws wd) (fromOf l) (toOf l) l.length (stationsOf l ws a wd) := hz
 have e : pass (wideEnough ws wd) (fromOf l) (toOf l) l.length (stationsOf l ws a wd) = stationsOf l ws a wd := hs
 rwa [e] at hz'
theorem st_least {l : List S58} {ws : List Int} {a wd : Int} {P : Int → Prop} (h0 : P a) (hc : ∀ j, j < l.length → wideEnough ws wd j = true → (P (fromOf l j) ↔ P (toOf l j))) : ∀ z ∈ stationsOf l ws a wd, P z :=
 passes_least hc _ [a] (fun z hz => by simp at hz; subst hz; exact h0)
theorem st_anti {l : List S58} {ws : List Int} {a v w : Int} (h : v ≤ w) : ∀ z ∈ stationsOf l ws a w, z ∈ stationsOf l ws a v :=
 st_least (st_self l ws a v) (fun j hj hw => st_closed l ws a v hj (by
  simp only [wideEnough, decide_eq_true_eq] at hw ⊢
  omega))
theorem great_range (l : List S58) (ws : List Int) (a b : Int) : ∀ n : Nat, -1 ≤ greatestDown l ws a b n ∧ greatestDown l ws a b n < (n : Int)
 | 0 => by simp [greatestDown]
 | n + 1 => by
  have := great_range l ws a b n
  simp only [greatestDown]
  split <;> omega
theorem great_iff {l : List S58} (ws : List Int) (hl : okLegs l = true) {a b : Int} (ha : 0 ≤ a ∧ a ≤ 7) (hb : 0 ≤ b ∧ b ≤ 7) : ∀ n : Nat, ∀ wd : Int, 0 ≤ wd → wd < (n : Int) → (wd ≤ greatestDown l ws a b n ↔ b ∈ stationsOf l ws a wd)
 | 0, wd, h0, h1 => by omega
 | n + 1, wd, h0, h1 => by
  have ih := great_iff ws hl ha hb n
  have hr := great_range l ws a b n
  simp only [greatestDown, reach_has ws hl ha hb]
  by_cases h : b ∈ stationsOf l ws a (n : Int)
  ·rw [if_pos (decide_eq_true h)]
   exact ⟨fun _ => st_anti (by omega) b h, fun _ => by omega⟩
  ·rw [if_neg (fun hh => h (of_decide_eq_true hh))]
   by_cases e : wd = (n : Int)
   ·subst e
    exact ⟨fun hh => by omega, fun hh => absurd hh h⟩
   ·exact ih wd h0 (by omega)
set_option linter.unusedVariables false
set_option linter.unusedSimpArgs false
def newAt (r : List Int) (i : Nat) : Bool := decide (0 ≤ r.getD i 0 ∧ r.getD i 0 ≤ 7) && !decide (r.getD i 0 ∈ r.take i)
def routeFrom (l : List S58) (ws r : List Int) : Nat → Nat → Bool
 | 0, _ => true
 | d + 1, i => newAt r i && ((decide (i = 0) || decide (0 ≤ viaOf l ws r i)) && routeFrom l ws r d (i + 1))
def legsFrom (l : List S58) (ws r : List Int) : Nat → Nat → List Int → List Int
 | 0, _, acc => acc
 | d + 1, i, acc => legsFrom l ws r d (i + 1) (if i = 0 then acc else acc ++ [viaOf l ws r i])
theorem specRoute_loop {l : List S58} {ws : List Int} (hl : okLegs l = true) (hw : ws.length = l.length) {r : List Int} (hr : r.length ≤ 1048576) : ∀ d i, i + d = r.length → Ev (fun k => spec_l15Route.l0 k l ws r (i : Int)) (routeFrom l ws r d i) := by
 intro d
 induction d with
 | zero =>
  intro i hi
  refine Ev.step (f := fun _ => some true) (fun k => ?_) (Ev.now _)
  simp only [spec_l15Route.l0]
  rw [if_neg (by omega)]
 | succ d ih =>
  intro i hi
  have hwr : wrap64 ((i : Int) + 1) = ((i + 1 : Nat) : Int) := by unfold wrap64; omega
  have hnext := ih (i + 1) (by omega)
  simp only [routeFrom, newAt]
  by_cases h1 : 0 ≤ r.getD i 0 ∧ r.getD i 0 ≤ 7
  ·rw [decide_eq_true h1, Bool.true_and]
   refine Ev.step (f := fun k => (spec_l1Has.f k (r.take i) (r.getD i 0)).bind fun t => spec_l15Route.j2 k l ws r (i : Int) t) (fun k => ?_) (Ev.bind (l1Has_ev' (by rw [List.length_take]; omega)) ?_)
   ·simp only [spec_l15Route.l0, spec_l4Station.f, l1In_eq, rd_nat, Option.bind_some, Int.toNat_natCast]
    rw [if_pos (by omega), if_pos (by omega), if_pos (decide_eq_true h1), if_pos (by omega)]
   ·by_cases h2 : r.getD i 0 ∈ r.take i
    ·rw [decide_eq_true h2]
     refine Ev.step (f := fun _ => some false) (fun k => ?_) (Ev.now _)
     simp only [spec_l15Route.j2, if_true]
    ·rw [decide_eq_false h2, Bool.not_false, Bool.true_and]
     by_cases h3 : i = 0
     ·subst h3
      rw [decide_eq_true rfl, Bool.true_or, Bool.true_and]
      refine Ev.step (fun k => ?_) hnext
      simp only [spec_l15Route.j2, Bool.false_eq_true, if_false, hwr]
      rw [if_neg (by omega)]
     ·have hwd : wrap64 ((i : Int) - 1) = ((i - 1 : Nat) : Int) := by unfold wrap64; omega
      rw [decide_eq_false h3, Bool.false_or]
      refine Ev.step (f := fun k => (spec_l15Leg.f k l ws (r.getD (i - 1) 0) (r.getD i 0)).bind fun t => if t < 0 then some false else spec_l15Route.l0 k l ws r ((i + 1 : Nat) : Int)) (fun k => ?_) (Ev.bind (specLeg_ev hl hw _ _) ?_)
      ·simp only [spec_l15Route.j2, Bool.false_eq_true, if_false, hwr, hwd, rd_nat]
       rw [if_pos (by omega), if_pos (by omega), if_pos (by omega), if_pos (by omega), if_pos (by omega)]
      ·by_cases h4 : viaOf l ws r i < 0
       ·rw [decide_eq_false (show ¬ 0 ≤ viaOf l ws r i by omega), Bool.false_and]
        exact Ev.ite_pos h4 (Ev.now _)
       ·rw [decide_eq_true (show 0 ≤ viaOf l ws r i by omega), Bool.true_and]
        exact Ev.ite_neg h4 hnext
  ·rw [decide_eq_false h1, Bool.false_and, Bool.false_and]
   refine Ev.step (f := fun k => spec_l15Route.j2 k l ws r (i : Int) true) (fun k => ?_) (Ev.step (f := fun _ => some false) (fun k => ?_) (Ev.now _))
   ·simp only [spec_l15Route.l0, spec_l4Station.f, l1In_eq, rd_nat, Option.bind_some]
    rw [if_pos (by omega), if_pos (by omega), if_neg (by simpa using h1)]
   ·simp only [spec_l15Route.j2, if_true]
theorem implRoute_loop {l : List S58} {ws : List Int} (hl : okLegs l = true) (hw : ws.length = l.length) {r : List Int} (hr : r.length ≤ 1048576) : ∀ d i acc, i + d = r.length → acc.length ≤ i → (i = 0 ∨ (0 ≤ r.getD (i - 1) 0 ∧ r.getD (i - 1) 0 ≤ 7)) → Ev (fun k => impl_routeLegs.l0 k l ws r acc r (r.length : Int) (i : Int)) (if routeFrom l ws r d i = true then (legsFrom l ws r d i acc, true) else ([], false)) := by
 intro d
 induction d with
 | zero =>
  intro i acc hi ha hp
  refine Ev.step (f := fun _ => some (acc, true)) (fun k => ?_) (Ev.now _)
  simp only [impl_routeLegs.l0]
  rw [if_neg (by omega)]
 | succ d ih =>
  intro i acc hi ha hp
  have hwr : wrap64 ((i : Int) + 1) = ((i + 1 : Nat) : Int) := by unfold wrap64; omega
  have hno : ∀ (s : Int), Ev (fun k => impl_routeLegs.j2 k l ws r acc (i : Int) s r (r.length : Int) (i : Int) true) ([], false) := fun s => Ev.step (f := fun _ => some ([], false)) (fun k => by simp only [impl_routeLegs.j2, if_true]) (Ev.now _)
  rw [show routeFrom l ws r (d + 1) i = ((decide (0 ≤ r.getD i 0 ∧ r.getD i 0 ≤ 7) && !decide (r.getD i 0 ∈ r.take i)) && ((decide (i = 0) || decide (0 ≤ viaOf l ws r i)) && routeFrom l ws r d (i + 1))) from rfl]
  by_cases h1 : 0 ≤ r.getD i 0 ∧ r.getD i 0 ≤ 7
  ·rw [decide_eq_true h1, Bool.true_and]
   refine Ev.step (f := fun k => (impl_has.f k (r.take i) (r.getD i 0)).bind fun t => impl_routeLegs.j2 k l ws r acc (i : Int) (r.getD i 0) r (r.length : Int) (i : Int) t) (fun k => ?_) (Ev.bind (has_ev (by rw [List.length_take]; omega)) ?_)
   ·simp only [impl_routeLegs.l0, impl_isStation.f, within_eq, rd_nat, Option.bind_some, Int.toNat_natCast]
    rw [if_pos (by omega), if_pos (by omega), if_pos (by omega), if_pos (decide_eq_true h1), if_pos (by omega)]
   ·by_cases h2 : r.getD i 0 ∈ r.take i
    ·rw [decide_eq_true h2]
     exact hno _
    ·rw [decide_eq_false h2, Bool.not_false, Bool.true_and]
     by_cases h3 : i = 0
     ·subst h3
      have hnext := ih 1 acc (by omega) (by omega) (.inr h1)
      rw [decide_eq_true rfl, Bool.true_or, Bool.true_and]
      refine Ev.step (fun k => ?_) hnext
      simp only [impl_routeLegs.j2, Bool.false_eq_true, if_false, hwr]
      rw [if_neg (by omega)]
     ·have hwd : wrap64 ((i : Int) - 1) = ((i - 1 : Nat) : Int) := by unfold wrap64; omega
      have hp' : 0 ≤ r.getD (i - 1) 0 ∧ r.getD (i - 1) 0 ≤ 7 := hp.resolve_left h3
      have hnext := ih (i + 1) (acc ++ [viaOf l ws r i]) (by omega) (by simp; omega) (.inr h1)
      rw [decide_eq_false h3, Bool.false_or]
      refine Ev.step (f := fun k => (impl_between.f k l ws (r.getD (i - 1) 0) (r.getD i 0)).bind fun t => if t < 0 then some ([], false) else if acc.length < 17592186044416 then impl_routeLegs.l0 k l ws r (acc ++ [t]) r (r.length : Int) ((i + 1 : Nat) : Int) else none) (fun k => ?_) (Ev.bind (implLeg_ev hl hw hp' h1) ?_)
      ·simp only [impl_routeLegs.j2, Bool.false_eq_true, if_false, hwr, hwd, rd_nat]
       rw [if_pos (by omega), if_pos (by omega), if_pos (by omega)]
      ·by_cases h4 : viaOf l ws r i < 0
       ·rw [decide_eq_false (show ¬ 0 ≤ viaOf l ws r i by omega), Bool.false_and]
        exact Ev.ite_pos h4 (Ev.now _)
       ·rw [decide_eq_true (show 0 ≤ viaOf l ws r i by omega), Bool.true_and]
        refine Ev.ite_neg h4 (Ev.ite_pos (by omega) ?_)
        simp only [legsFrom, h3, if_false]
        exact hnext
  ·rw [decide_eq_false h1, Bool.false_and, Bool.false_and]
   refine Ev.step (f := fun k => impl_routeLegs.j2 k l ws r acc (i : Int) (r.getD i 0) r (r.length : Int) (i : Int) true) (fun k => ?_) (hno _)
   simp only [impl_routeLegs.l0, impl_isStation.f, within_eq, rd_nat, Option.bind_some]
   rw [if_pos (by omega), if_pos (by omega), if_pos (by omega), if_neg (by simpa using h1)]
def isRoute (l : List S58) (ws r : List Int) : Bool := okWidths l ws && (!decide (r.length = 0) && routeFrom l ws r r.length 0)
theorem specRoute_ev (l : List S58) (ws r : List Int) (hm : l.length ≤ 9223372036854775807) (hw : ws.length ≤ 9223372036854775807) (hr : r.length ≤ 1048576) : Ev (fun k => spec_l15Route.f k l ws r) (isRoute l ws r) := by
 have hno : Ev (fun k => spec_l15Route.j0 k l ws r true) false := Ev.step (f := fun _ => some false) (fun k => by rw [spec_l15Route.j0, if_pos rfl]) (Ev.now _)
 simp only [spec_l15Route.f]
 refine Ev.bind (l15Good_ev l ws hm hw) ?_
 unfold isRoute
 by_cases h : okWidths l ws = true
 ·refine Ev.ite_pos h ?_
  rw [h, Bool.true_and]
  by_cases h0 : r.length = 0
  ·rw [decide_eq_true h0, show ((r.length : Int) == 0) = true from beq_iff_eq.2 (by omega)]
   exact hno
  ·rw [decide_eq_false h0, show ((r.length : Int) == 0) = false from beq_eq_false_iff_ne.2 (by omega), Bool.not_false, Bool.true_and]
   exact Ev.step (f := fun k => spec_l15Route.l0 k l ws r ((0 : Nat) : Int)) (fun k => by rw [spec_l15Route.j0, if_neg (by decide)]; rfl) (specRoute_loop (okWidths_legs h) (okWidths_len h) hr r.length 0 (by omega))
 ·rw [show okWidths l ws = false by simpa using h, Bool.false_and]
  exact Ev.ite_neg (by decide) hno
theorem implRoute_ev (l : List S58) (ws r : List Int) (hm : l.length ≤ 9223372036854775807) (hr : r.length ≤ 1048576) : Ev (fun k => impl_routeLegs.f k l ws r) (if isRoute l ws r = true then (legsFrom l ws r r.length 0 [], true) else ([], false)) := by
 have hno : Ev (fun k => impl_routeLegs.j0 k l ws r true) ([], false) := Ev.step (f := fun _ => some ([], false)) (fun k => by rw [impl_routeLegs.j0, if_pos rfl]) (Ev.now _)
 simp only [impl_routeLegs.f]
 refine Ev.bind (areWidths_ev l ws hm) ?_
 unfold isRoute
 by_cases h : okWidths l ws = true
 ·refine Ev.ite_pos h ?_
  rw [h, Bool.true_and]
  by_cases h0 : r.length = 0
  ·rw [decide_eq_true h0, show ((r.length : Int) == 0) = true from beq_iff_eq.2 (by omega)]
   exact hno
  ·rw [decide_eq_false h0, show ((r.length : Int) == 0) = false from beq_eq_false_iff_ne.2 (by omega), Bool.not_false, Bool.true_and]
   exact Ev.step (f := fun k => impl_routeLegs.l0 k l ws r [] r (r.length : Int) ((0 : Nat) : Int)) (fun k => by rw [impl_routeLegs.j0, if_neg (by decide)]; rfl) (implRoute_loop (okWidths_legs h) (okWidths_len h) hr r.length 0 [] (by omega) (by simp) (.inl rfl))
 ·rw [show okWidths l ws = false by simpa using h, Bool.false_and]
  exact Ev.ite_neg (by decide) hno
theorem routeFrom_via {l : List S58} {ws r : List Int} : ∀ d i, routeFrom l ws r d i = true → ∀ j, i ≤ j → j < i + d → j ≠ 0 → 0 ≤ viaOf l ws r j
 | 0, i, _, j, h1, h2, _ => by omega
 | d + 1, i, h, j, h1, h2, h3 => by
  simp only [routeFrom, Bool.and_eq_true, Bool.or_eq_true, decide_eq_true_eq] at h
  by_cases hji : j = i
  ·subst hji
   exact h.2.1.resolve_left h3
  ·exact routeFrom_via d (i + 1) h.2.2 j (by omega) (by omega) h3
theorem legsFrom_eq (l : List S58) (ws r : List Int) : ∀ d i acc, i ≠ 0 → legsFrom l ws r d i acc = acc ++ (List.range d).map (fun j => viaOf l ws r (i + j))
 | 0, _, _, _ => by simp [legsFrom]
 | d + 1, i, acc, h => by
  simp only [legsFrom, h, if_false]
  rw [legsFrom_eq l ws r d (i + 1) _ (by omega), List.range_succ_eq_map, List.map_cons, List.map_map, List.append_assoc]
  congr 1
  simp only [List.singleton_append, Nat.add_zero]
  congr 1
  apply List.map_congr_left
  intro j _
  simp only [Function.comp, Nat.succ_eq_add_one]
  rw [show i + 1 + j = i + (j + 1) by omega]
theorem legsFrom_zero (l : List S58) (ws r : List Int) (hr : r.length ≠ 0) : legsFrom l ws r r.length 0 [] = (List.range (r.length - 1)).map (fun j => viaOf l ws r (1 + j)) := by
 obtain ⟨n, hn⟩ : ∃ n, r.length = n + 1 := ⟨r.length - 1, by omega⟩
 rw [hn]
 simp only [legsFrom, if_true]
 rw [legsFrom_eq l ws r n 1 [] (by omega)]
 simp
theorem legs_at (l : List S58) (ws r : List Int) (hr : r.length ≠ 0) {j : Nat} (hj : j < r.length - 1) : rd (legsFrom l ws r r.length 0 []) (j : Int) = viaOf l ws r (1 + j) := by
 rw [legsFrom_zero l ws r hr, rd_nat, List.getD_eq_getElem?_getD]
 simp [hj]
theorem legs_length (l : List S58) (ws r : List Int) (hr : r.length ≠ 0) : (legsFrom l ws r r.length 0 []).length = r.length - 1 := by
 rw [legsFrom_zero l ws r hr]
 simp
theorem isRoute_says {l : List S58} {ws r : List Int} (h : isRoute l ws r = true) : okWidths l ws = true ∧ r.length ≠ 0 ∧ ∀ j, j < r.length → j ≠ 0 → 0 ≤ viaOf l ws r j := by
 simp only [isRoute, Bool.and_eq_true, Bool.not_eq_true', decide_eq_false_iff_not] at h
 exact ⟨h.1, h.2.1, fun j hj h0 => routeFrom_via r.length 0 h.2.2 j (by omega) (by omega) h0⟩
theorem specSize_ev {l : List S58} {ws r : List Int} (hr : r.length ≤ 1048576) (h : isRoute l ws r = true) : Ev (fun k => spec_l15Size.f k l ws r) (sizeFrom l ws r (r.length - 1) 1 200 0) := by
 obtain ⟨h1, h2, h3⟩ := isRoute_says h
 exact specSize_loop (okWidths_legs h1) (okWidths_len h1) hr h3 (r.length - 1) 1 200 0 (by omega) (by omega)
set_option linter.unusedVariables false
set_option linter.unusedSimpArgs false
theorem mx_eq (a b : Int) : mx a b = max a b := by unfold mx; split <;> omega
theorem mn_eq (a b : Int) : mn a b = min a b := by unfold mn; split <;> omega
set_option linter.unusedVariables false
set_option linter.unusedSimpArgs false
def routeWidthAns (l : List S58) (ws r : List Int) : Int × Bool := if isRoute l ws r = true then ((sizeFrom l ws r (r.length - 1) 1 200 0).1, true) else (0, false)
def routeLengthAns (l : List S58) (ws r : List Int) : Int × Bool := if isRoute l ws r = true then ((sizeFrom l ws r (r.length - 1) 1 200 0).2, true) else (0, false)
theorem specRW_ev (l : List S58) (ws r : List Int) (hm : l.length ≤ 9223372036854775807) (hw : ws.length ≤ 9223372036854775807) (hr : r.length ≤ 1048576) : Ev (fun k => spec_RouteWidth.f k l ws r) (routeWidthAns l ws r) := by
 simp only [spec_RouteWidth.f]
 refine Ev.bind (specRoute_ev l ws r hm hw hr) ?_
 by_cases h : isRoute l ws r = true
 ·rw [show routeWidthAns l ws r = _ from if_pos h]
  exact Ev.ite_pos h (Ev.bind (specSize_ev hr h) (Ev.now _))
 ·rw [show routeWidthAns l ws r = _ from if_neg h]
  exact Ev.ite_neg h (Ev.now _)
theorem specRL_ev (l : List S58) (ws r : List Int) (hm : l.length ≤ 9223372036854775807) (hw : ws.length ≤ 9223372036854775807) (hr : r.length ≤ 1048576) : Ev (fun k => spec_RouteLength.f k l ws r) (routeLengthAns l ws r) := by
 simp only [spec_RouteLength.f]
 refine Ev.bind (specRoute_ev l ws r hm hw hr) ?_
 by_cases h : isRoute l ws r = true
 ·rw [show routeLengthAns l ws r = _ from if_pos h]
  exact Ev.ite_pos h (Ev.bind (specSize_ev hr h) (Ev.now _))
 ·rw [show routeLengthAns l ws r = _ from if_neg h]
  exact Ev.ite_neg h (Ev.now _)
theorem width_loop {l : List S58} {ws r : List Int} (hr : r.length ≤ 1048576) (h : isRoute l ws r = true) : ∀ d i (w s : Int), i + d = r.length - 1 → Ev (fun k => impl_RouteWidth.l0 k ws w (legsFrom l ws r r.length 0 []) ((r.length - 1 : Nat) : Int) (i : Int)) ((sizeFrom l ws r d (1 + i) w s).1, true) := by
 obtain ⟨h1, h2, h3⟩ := isRoute_says h
 have hn := okWidths_len h1
 have hlen := legs_length l ws r h2
 intro d
 induction d with
 | zero =>
  intro i w s hi
  refine Ev.step (f := fun _ => some (w, true)) (fun k => ?_) (Ev.now _)
  simp only [impl_RouteWidth.l0]
  rw [if_neg (by omega)]
 | succ d ih =>
  intro i w s hi
  have hwr : wrap64 ((i : Int) + 1) = ((i + 1 : Nat) : Int) := by unfold wrap64; omega
  have hv := h3 (1 + i) (by omega) (by omega)
  have hin : viaOf l ws r (1 + i) < (l.length : Int) := by
   have := legOf_in l ws (r.getD (1 + i - 1) 0) (r.getD (1 + i) 0)
   unfold viaOf at hv ⊢
   omega
  simp only [sizeFrom]
  refine Ev.step (fun k => ?_) (ih (i + 1) _ _ (by omega))
  simp only [impl_RouteWidth.l0, legs_at l ws r h2 (show i < r.length - 1 by omega), mn_eq, hwr, hlen]
  rw [if_pos (by omega), if_pos (by omega), if_pos (by omega), if_pos hv, if_pos (by omega)]
theorem length_loop {l : List S58} {ws r : List Int} (hr : r.length ≤ 1048576) (h : isRoute l ws r = true) : ∀ d i (w s : Int), i + d = r.length - 1 → Ev (fun k => impl_RouteLength.l0 k l s (legsFrom l ws r r.length 0 []) ((r.length - 1 : Nat) : Int) (i : Int)) ((sizeFrom l ws r d (1 + i) w s).2, true) := by
 obtain ⟨h1, h2, h3⟩ := isRoute_says h
 have hn := okWidths_len h1
 have hlen := legs_length l ws r h2
 intro d
 induction d with
 | zero =>
  intro i w s hi
  refine Ev.step (f := fun _ => some (s, true)) (fun k => ?_) (Ev.now _)
  simp only [impl_RouteLength.l0]
  rw [if_neg (by omega)]
 | succ d ih =>
  intro i w s hi
  have hwr : wrap64 ((i : Int) + 1) = ((i + 1 : Nat) : Int) := by unfold wrap64; omega
  have hv := h3 (1 + i) (by omega) (by omega)
  have hin : viaOf l ws r (1 + i) < (l.length : Int) := by
   have := legOf_in l ws (r.getD (1 + i - 1) 0) (r.getD (1 + i) 0)
   unfold viaOf at hv ⊢
   omega
  simp only [sizeFrom]
  refine Ev.step (fun k => ?_) (ih (i + 1) (min w (rd ws (viaOf l ws r (1 + i)))) _ (by omega))
  simp only [impl_RouteLength.l0, legs_at l ws r h2 (show i < r.length - 1 by omega), hwr, hlen]
  rw [if_pos (by omega), if_pos (by omega), if_pos (by omega), if_pos hv, if_pos (by omega)]
theorem implRW_ev (l : List S58) (ws r : List Int) (hm : l.length ≤ 9223372036854775807) (hr : r.length ≤ 1048576) : Ev (fun k => impl_RouteWidth.f k l ws r) (routeWidthAns l ws r) := by
 simp only [impl_RouteWidth.f]
 refine Ev.bind (implRoute_ev l ws r hm hr) ?_
 by_cases h : isRoute l ws r = true
 ·rw [show routeWidthAns l ws r = _ from if_pos h, if_pos h]
  refine Ev.ite_pos rfl ?_
  have := width_loop hr h (r.length - 1) 0 200 0 (by omega)
  simp only [legs_length l ws r (isRoute_says h).2.1]
  exact this
 ·rw [show routeWidthAns l ws r = _ from if_neg h, if_neg h]
  exact Ev.ite_neg (by decide) (Ev.now _)
theorem implRL_ev (l : List S58) (ws r : List Int) (hm : l.length ≤ 9223372036854775807) (hr : r.length ≤ 1048576) : Ev (fun k => impl_RouteLength.f k l ws r) (routeLengthAns l ws r) := by
 simp only [impl_RouteLength.f]
 refine Ev.bind (implRoute_ev l ws r hm hr) ?_
 by_cases h : isRoute l ws r = true
 ·rw [show routeLengthAns l ws r = _ from if_pos h, if_pos h]
  refine Ev.ite_pos rfl ?_
  have := length_loop hr h (r.length - 1) 0 200 0 (by omega)
  simp only [legs_length l ws r (isRoute_says h).2.1]
  exact this
 ·rw [show routeLengthAns l ws r = _ from if_neg h, if_neg h]
  exact Ev.ite_neg (by decide) (Ev.now _)
set_option linter.unusedVariables false
set_option linter.unusedSimpArgs false
def LegInv (l : List S58) (ws : List Int) (a b : Int) (n : Nat) (best : Int) : Prop := (best = -1 ∧ ∀ j, j < n → legFits (l.getD j z58) a b = false) ∨ (∃ q : Nat, best = (q : Int) ∧ q < n ∧ legFits (l.getD q z58) a b = true ∧ ∀ j, j < n → legFits (l.getD j z58) a b = true → ws.getD j 0 ≤ ws.getD q 0)
theorem legStep_inv {l : List S58} {ws : List Int} {a b : Int} {i : Nat} {best : Int} (h : LegInv l ws a b i best) : LegInv l ws a b (i + 1) (legStep l ws a b i best) := by
 unfold legStep
 by_cases hf : legFits (l.getD i z58) a b = true
 ·rw [if_pos hf]
  rcases h with ⟨rfl, h⟩ | ⟨q, rfl, h1, h2, h3⟩
  ·rw [if_pos (by decide)]
   refine .inr ⟨i, rfl, by omega, hf, fun j hj hfj => ?_⟩
   by_cases e : j = i
   ·subst e; exact Int.le_refl _
   ·rw [h j (by omega)] at hfj
    cases hfj
  ·rw [if_neg (by omega)]
   simp only [rd_nat]
   have hi : ∀ p : Nat, p < i + 1 → legFits (l.getD p z58) a b = true → (∀ j, j < i → legFits (l.getD j z58) a b = true → ws.getD j 0 ≤ ws.getD p 0) → ws.getD i 0 ≤ ws.getD p 0 → LegInv l ws a b (i + 1) (p : Int) := fun p hp hfp hall hip =>
    .inr ⟨p, rfl, hp, hfp, fun j hj hfj => by
     by_cases e : j = i
     ·subst e; exact hip
     ·exact hall j (by omega) hfj⟩
   have hq := hi q (by omega) h2 h3
   have hn : ws.getD q 0 ≤ ws.getD i 0 → LegInv l ws a b (i + 1) (i : Int) := fun hle => hi i (by omega) hf (fun j hj hfj => Int.le_trans (h3 j hj hfj) hle) (Int.le_refl _)
   split
   ·exact hn (by omega)
   ·split
    ·split
     ·exact hn (by omega)
     ·exact hq (by omega)
    ·exact hq (by omega)
 ·rw [if_neg hf]
  have hff : legFits (l.getD i z58) a b = false := by simpa using hf
  rcases h with ⟨rfl, h⟩ | ⟨q, rfl, h1, h2, h3⟩
  ·refine .inl ⟨rfl, fun j hj => ?_⟩
   by_cases e : j = i
   ·subst e; exact hff
   ·exact h j (by omega)
  ·refine .inr ⟨q, rfl, by omega, h2, fun j hj hfj => ?_⟩
   by_cases e : j = i
   ·subst e; exact absurd hfj hf
   ·exact h3 j (by omega) hfj
theorem legFrom_inv {l : List S58} {ws : List Int} {a b : Int} : ∀ (d i : Nat) (best : Int), LegInv l ws a b i best → LegInv l ws a b (i + d) (legFrom l ws a b d i best)
 | 0, _, _, h => h
 | d + 1, i, best, h => by
  have := legFrom_inv d (i + 1) _ (legStep_inv h)
  rw [show i + (d + 1) = i + 1 + d by omega]
  exact this
theorem legOf_inv (l : List S58) (ws : List Int) (a b : Int) : LegInv l ws a b l.length (legOf l ws a b) := by
 have := legFrom_inv (l := l) (ws := ws) (a := a) (b := b) l.length 0 (-1) (.inl ⟨rfl, fun j hj => by omega⟩)
 rw [Nat.zero_add] at this
 exact this
theorem legFits_iff (x : S58) (a b : Int) : legFits x a b = true ↔ (x.f0 = a ∧ x.f1 = b) ∨ (x.f0 = b ∧ x.f1 = a) := by
 simp [legFits]
theorem leg_wide {l : List S58} {ws : List Int} {a b wd : Int} {j : Nat} (hj : j < l.length) (hf : legFits (l.getD j z58) a b = true) (hw : wd ≤ ws.getD j 0) : 0 ≤ legOf l ws a b ∧ wd ≤ rd ws (legOf l ws a b) := by
 rcases legOf_inv l ws a b with ⟨-, h⟩ | ⟨q, e, h1, h2, h3⟩
 ·rw [h j hj] at hf
  cases hf
 ·rw [e, rd_nat]
  have := h3 j hj hf
  omega
theorem leg_is {l : List S58} {ws : List Int} {a b : Int} (h : 0 ≤ legOf l ws a b) : ∃ q : Nat, q < l.length ∧ legOf l ws a b = (q : Int) ∧ ((fromOf l q = a ∧ toOf l q = b) ∨ (fromOf l q = b ∧ toOf l q = a)) := by
 rcases legOf_inv l ws a b with ⟨e, -⟩ | ⟨q, e, h1, h2, -⟩
 ·omega
 ·exact ⟨q, h1, e, (legFits_iff _ _ _).1 h2⟩
structure Pth (l : List S58) (ws : List Int) (wd : Int) (r : List Int) : Prop where
 ne : 0 < r.length
 nod : r.Nodup
 inn : ∀ x ∈ r, 0 ≤ x ∧ x < 8
 via : ∀ j, j < r.length → j ≠ 0 → 0 ≤ viaOf l ws r j ∧ wd ≤ rd ws (viaOf l ws r j)
theorem Pth.one {l : List S58} {ws : List Int} {wd a : Int} (ha : 0 ≤ a ∧ a ≤ 7) : Pth l ws wd [a] :=
 ⟨by simp, by simp, fun x hx => by rw [List.mem_singleton] at hx; omega, fun j hj h0 => by rw [List.length_singleton] at hj; omega⟩
theorem Pth.add {l : List S58} {ws r : List Int} {wd s : Int} (h : Pth l ws wd r) (hs : s ∉ r) (hb : 0 ≤ s ∧ s < 8) (hq : 0 ≤ legOf l ws (lastOf r) s) (hw : wd ≤ rd ws (legOf l ws (lastOf r) s)) : Pth l ws wd (r ++ [s]) := by
 refine ⟨by rw [List.length_append]; have := h.ne; omega, ?_, ?_, ?_⟩
 ·rw [List.nodup_append]
  refine ⟨h.nod, by simp, fun a ha b hb2 e => ?_⟩
  rw [List.mem_singleton] at hb2
  exact hs (by rw [← hb2, ← e]; exact ha)
 ·intro x hx
  rcases List.mem_append.1 hx with hx | hx
  ·exact h.inn x hx
  ·rw [List.mem_singleton] at hx
   rw [hx]
   exact hb
 ·intro j hj h0
  rw [List.length_append, List.length_singleton] at hj
  by_cases hjr : j < r.length
  ·rw [via_app hjr]
   exact h.via j hjr h0
  ·obtain rfl : j = r.length := by omega
   rw [via_last h.ne]
   exact ⟨hq, hw⟩
theorem getD_take {r : List Int} {n i : Nat} (h : i < n) (hn : n ≤ r.length) : (r.take n).getD i 0 = r.getD i 0 := by
 rw [getD_lt _ _ _ (by rw [List.length_take]; omega), getD_lt _ _ _ (by omega), List.getElem_take]
theorem Pth.take {l : List S58} {ws r : List Int} {wd : Int} (h : Pth l ws wd r) {n : Nat} (h0 : 0 < n) (hn : n ≤ r.length) : Pth l ws wd (r.take n) := by
 refine ⟨by rw [List.length_take]; omega, h.nod.sublist (List.take_sublist _ _), fun x hx => h.inn x (List.mem_of_mem_take hx), fun j hj hj0 => ?_⟩
 rw [List.length_take] at hj
 have e : viaOf l ws (r.take n) j = viaOf l ws r j := by
  unfold viaOf
  rw [getD_take (by omega) hn, getD_take (by omega) hn]
 rw [e]
 exact h.via j (by omega) hj0
theorem last_take {r : List Int} {n : Nat} (h0 : 0 < n) (hn : n ≤ r.length) : lastOf (r.take n) = r.getD (n - 1) 0 := by
 unfold lastOf
 rw [List.length_take, Nat.min_eq_left hn, getD_take (by omega) hn]
theorem take_snoc {r : List Int} {n : Nat} (hn : n < r.length) : r.take (n + 1) = r.take n ++ [r.getD n 0] := by
 rw [List.take_succ_eq_append_getElem hn, getD_lt _ _ _ hn]
theorem Pth.new {l : List S58} {ws r : List Int} {wd : Int} (h : Pth l ws wd r) {n : Nat} (hn : n < r.length) : r.getD n 0 ∉ r.take n := by
 have hs : (r.take (n + 1)).Nodup := h.nod.sublist (List.take_sublist _ _)
 rw [take_snoc hn, List.nodup_append] at hs
 intro hm
 exact hs.2.2 _ hm _ (List.mem_singleton.2 rfl) rfl
theorem Pth.ok {l : List S58} {ws r : List Int} {wd : Int} (h : Pth l ws wd r) (hl : okLegs l = true) : ∃ len, RtOk l ws r len := by
 have key : ∀ n, n + 1 ≤ r.length → ∃ len, RtOk l ws (r.take (n + 1)) len := by
  intro n
  induction n with
  | zero =>
   intro hn
   have h0 := h.inn (r.getD 0 0) (by rw [getD_lt _ _ _ h.ne]; exact List.getElem_mem _)
   refine ⟨0, ?_⟩
   rw [take_snoc h.ne, List.take_zero, List.nil_append]
   exact start_ok (by omega)
  | succ n ih =>
   intro hn
   obtain ⟨len, hk⟩ := ih (by omega)
   have hin := h.inn (r.getD (n + 1) 0) (by rw [getD_lt _ _ _ (by omega)]; exact List.getElem_mem _)
   have hv := (h.via (n + 1) (by omega) (by omega)).1
   have hla : lastOf (r.take (n + 1)) = r.getD n 0 := last_take (by omega) (by omega)
   unfold viaOf at hv
   rw [show n + 1 - 1 = n by omega, ← hla] at hv
   have := (hk.add hl (h.new (by omega)) (by omega) hv).1
   rw [← take_snoc (by omega)] at this
   exact ⟨_, this⟩
 have hne := h.ne
 obtain ⟨len, hk⟩ := key (r.length - 1) (by omega)
 rw [show r.length - 1 + 1 = r.length by omega, List.take_length] at hk
 exact ⟨len, hk⟩
theorem Pth.reach {l : List S58} {ws r : List Int} {wd : Int} (h : Pth l ws wd r) : ∀ j, j < r.length → r.getD j 0 ∈ stationsOf l ws (r.getD 0 0) wd := by
 intro j
 induction j with
 | zero => intro _; exact st_self l ws _ wd
 | succ j ih =>
  intro hj
  have hp := ih (by omega)
  obtain ⟨h1, h2⟩ := h.via (j + 1) hj (by omega)
  obtain ⟨q, hq, e, hft⟩ := leg_is h1
  have hw : wideEnough ws wd q = true := by
   unfold viaOf at h2
   rw [e, rd_nat] at h2
   exact decide_eq_true h2
  have hc := st_closed l ws (r.getD 0 0) wd hq hw
  rw [show j + 1 - 1 = j by omega] at hft
  rcases hft with ⟨ha, hb⟩ | ⟨ha, hb⟩
  ·rw [ha, hb] at hc
   exact hc.1 hp
  ·rw [ha, hb] at hc
   exact hc.2 hp
theorem Pth.reach_last {l : List S58} {ws r : List Int} {wd : Int} (h : Pth l ws wd r) : lastOf r ∈ stationsOf l ws (r.getD 0 0) wd := h.reach _ (by have := h.ne; omega)
theorem reach_pth {l : List S58} {ws : List Int} (hl : okLegs l = true) {a wd : Int} (ha : 0 ≤ a ∧ a ≤ 7) : ∀ z ∈ stationsOf l ws a wd, ∃ r, Pth l ws wd r ∧ r.getD 0 0 = a ∧ lastOf r = z := by
 have go : ∀ {x y : Int} {j : Nat}, j < l.length → wideEnough ws wd j = true → legFits (l.getD j z58) x y = true → (0 ≤ y ∧ y < 8) → (∃ r, Pth l ws wd r ∧ r.getD 0 0 = a ∧ lastOf r = x) → ∃ r, Pth l ws wd r ∧ r.getD 0 0 = a ∧ lastOf r = y := by
  rintro x y j hj hw hf hy ⟨r, h1, h2, h3⟩
  by_cases hm : y ∈ r
  ·obtain ⟨i, hi, e⟩ := List.getElem_of_mem hm
   refine ⟨r.take (i + 1), h1.take (by omega) (by omega), ?_, ?_⟩
   ·rw [getD_take (by omega) (by omega), h2]
   ·rw [last_take (by omega) (by omega), Nat.add_sub_cancel, getD_lt _ _ _ hi, e]
  ·obtain ⟨g1, g2⟩ := leg_wide (ws := ws) hj hf (of_decide_eq_true hw)
   rw [← h3] at g1 g2
   refine ⟨r ++ [y], h1.add hm hy g1 g2, ?_, ?_⟩
   ·rw [getD_app h1.ne, h2]
   ·unfold lastOf
    rw [List.length_append, List.length_singleton, Nat.add_sub_cancel, getD_app_last]
 refine st_least ⟨[a], Pth.one ha, rfl, rfl⟩ (fun j hj hw => ?_)
 have he := ends_in hl j hj
 exact ⟨go hj hw ((legFits_iff _ _ _).2 (.inl ⟨rfl, rfl⟩)) he.2, go hj hw ((legFits_iff _ _ _).2 (.inr ⟨rfl, rfl⟩)) he.1⟩
def Got (l : List S58) (ws : List Int) (ta wd : Int) (r : List Int) (g : RtSt) : Prop := g = ([], -1) ∨ ∃ t, g.1 = r ++ t ∧ RtOk l ws g.1 g.2 ∧ Pth l ws wd g.1 ∧ lastOf g.1 = ta
theorem goS_got {l : List S58} {ws : List Int} (hl : okLegs l = true) (ta wd : Int) : ∀ d r (len : Int), RtOk l ws r len → Pth l ws wd r → Got l ws ta wd r (goS l ws ta wd d r len) := by
 intro d
 induction d with
 | zero => intro r len _ _; exact .inl rfl
 | succ d ih =>
  intro r len h hp
  simp only [goS]
  by_cases ht : lastOf r = ta
  ·rw [if_pos ht]
   exact .inr ⟨[], by simp, h, hp, ht⟩
  ·rw [if_neg ht]
   have key : ∀ n s acc, s + n = 8 → Got l ws ta wd r acc → Got l ws ta wd r (loopS (goS l ws ta wd d) l ws wd (lastOf r) r len n s acc) := by
    intro n
    induction n with
    | zero => intro s acc _ ha; exact ha
    | succ n ihn =>
     intro s acc hs ha
     simp only [loopS]
     refine ihn (s + 1) _ (by omega) ?_
     by_cases hc : (s : Int) ∈ r ∨ legOf l ws (lastOf r) (s : Int) < 0 ∨ rd ws (legOf l ws (lastOf r) (s : Int)) < wd
     ·rw [if_pos hc]
      exact ha
     ·rw [if_neg hc]
      split
      ·have h1 := h.add hl (fun hm => hc (.inl hm)) (by omega : (0 : Int) ≤ (s : Int) ∧ (s : Int) < 8) (by have := fun hx => hc (.inr (.inl hx)); omega)
       have h2 := hp.add (s := (s : Int)) (fun hm => hc (.inl hm)) (by omega) (by have := fun hx => hc (.inr (.inl hx)); omega) (by have := fun hx => hc (.inr (.inr hx)); omega)
       rcases ih _ _ h1.1 h2 with e | ⟨t, e, g⟩
       ·exact .inl e
       ·exact .inr ⟨(s : Int) :: t, by rw [e]; simp, g⟩
      ·exact ha
   exact key 8 0 ([], -1) (by omega) (.inl rfl)
theorem loopS_least {f : List Int → Int → RtSt} {l : List S58} {ws : List Int} {wd la : Int} {r : List Int} {len : Int} : ∀ n s acc, acc.2 ≥ 0 → 0 ≤ (loopS f l ws wd la r len n s acc).2 ∧ (loopS f l ws wd la r len n s acc).2 ≤ acc.2
 | 0, _, acc, h => ⟨h, Int.le_refl _⟩
 | n + 1, s, acc, h => by
  simp only [loopS]
  split
  ·exact loopS_least n (s + 1) acc h
  ·split
   ·rename_i hc
    have := loopS_least (f := f) (l := l) (ws := ws) (wd := wd) (la := la) (r := r) (len := len) n (s + 1) (f (r ++ [(s : Int)]) (wrap64 (len + tapeOf l (legOf l ws la (s : Int))))) hc.1
    omega
   ·exact loopS_least n (s + 1) acc h
theorem loopS_hits {f : List Int → Int → RtSt} {l : List S58} {ws : List Int} {wd la : Int} {r : List Int} {len : Int} {q : Nat} (hc : ¬ ((q : Int) ∈ r ∨ legOf l ws la (q : Int) < 0 ∨ rd ws (legOf l ws la (q : Int)) < wd)) (hg : (f (r ++ [(q : Int)]) (wrap64 (len + tapeOf l (legOf l ws la (q : Int))))).2 ≥ 0) : ∀ n s acc, s ≤ q → q < s + n → 0 ≤ (loopS f l ws wd la r len n s acc).2 ∧ (loopS f l ws wd la r len n s acc).2 ≤ (f (r ++ [(q : Int)]) (wrap64 (len + tapeOf l (legOf l ws la (q : Int))))).2
 | 0, s, acc, h1, h2 => by omega
 | n + 1, s, acc, h1, h2 => by
  by_cases e : s = q
  ·subst e
   simp only [loopS]
   rw [if_neg hc]
   split
   ·exact loopS_least n (s + 1) _ hg
   ·rename_i hn
    have hacc : acc.2 ≥ 0 ∧ acc.2 ≤ (f (r ++ [(s : Int)]) (wrap64 (len + tapeOf l (legOf l ws la (s : Int))))).2 := by
     have h3 : ¬ (acc.2 < 0 ∨ (f (r ++ [(s : Int)]) (wrap64 (len + tapeOf l (legOf l ws la (s : Int))))).2 < acc.2) := fun hh => hn ⟨hg, hh⟩
     omega
    have := loopS_least (f := f) (l := l) (ws := ws) (wd := wd) (la := la) (r := r) (len := len) n (s + 1) acc hacc.1
    omega
  ·simp only [loopS]
   exact loopS_hits hc hg n (s + 1) _ (by omega) (by omega)
theorem last_mem {r : List Int} (h : 0 < r.length) : lastOf r ∈ r := by
 unfold lastOf
 rw [getD_lt _ _ _ (by omega)]
 exact List.getElem_mem _
theorem last_app (r : List Int) (s : Int) : lastOf (r ++ [s]) = s := by
 unfold lastOf
 rw [List.length_append, List.length_singleton, Nat.add_sub_cancel, getD_app_last]
theorem goS_least {l : List S58} {ws : List Int} (hl : okLegs l = true) (ta wd : Int) : ∀ (t r : List Int) (len n : Int) (d : Nat), RtOk l ws r len → RtOk l ws (r ++ t) n → Pth l ws wd (r ++ t) → lastOf (r ++ t) = ta → r.length + d ≥ 10 → 0 ≤ (goS l ws ta wd d r len).2 ∧ (goS l ws ta wd d r len).2 ≤ n := by
 intro t
 induction t with
 | nil =>
  intro r len n d h h2 hp hla hd
  rw [List.append_nil] at h2 hla
  have h8 := h.len8
  obtain ⟨d, rfl⟩ : ∃ e, d = e + 1 := ⟨d - 1, by omega⟩
  simp only [goS]
  rw [if_pos hla]
  have : len = n := h.sz.symm.trans h2.sz
  have := h.b0
  omega
 | cons s t ih =>
  intro r len n d h h2 hp hla hd
  have h8 := h.len8
  obtain ⟨d, rfl⟩ : ∃ e, d = e + 1 := ⟨d - 1, by omega⟩
  have he : r ++ s :: t = (r ++ [s]) ++ t := by simp
  have hnod := hp.nod
  rw [List.nodup_append] at hnod
  have hne : lastOf r ≠ ta := by
   intro e
   have h3 : lastOf (r ++ s :: t) ∈ s :: t := by
    unfold lastOf
    rw [getD_lt _ _ _ (by rw [List.length_append, List.length_cons]; omega), List.getElem_append_right (by rw [List.length_append, List.length_cons]; omega)]
    exact List.getElem_mem _
   rw [hla, ← e] at h3
   exact hnod.2.2 _ (last_mem h.ne) _ h3 rfl
  have hsr : s ∉ r := fun hm => hnod.2.2 _ hm _ List.mem_cons_self rfl
  have hin := hp.inn s (by simp)
  have hvia := hp.via r.length (by rw [List.length_append, List.length_cons]; omega) (by have := h.ne; omega)
  have hv : viaOf l ws (r ++ s :: t) r.length = legOf l ws (lastOf r) s := by
   have hne0 := h.ne
   unfold viaOf lastOf
   have e1 : (r ++ s :: t).getD r.length 0 = s := by simp [List.getD_eq_getElem?_getD]
   have e2 : (r ++ s :: t).getD (r.length - 1) 0 = r.getD (r.length - 1) 0 := by
    rw [getD_lt _ _ _ (by rw [List.length_append]; omega), getD_lt _ _ _ (by omega), List.getElem_append_left (by omega)]
   rw [e1, e2]
  rw [hv] at hvia
  obtain ⟨q, hq⟩ := Int.eq_ofNat_of_zero_le hin.1
  subst hq
  have hadd := (h.add hl hsr (by omega) hvia.1).1
  rw [he] at h2 hp hla
  have hi := ih (r ++ [(q : Int)]) _ n d hadd h2 hp hla (by rw [List.length_append, List.length_singleton]; omega)
  simp only [goS]
  rw [if_neg hne]
  have hh := loopS_hits (f := goS l ws ta wd d) (l := l) (ws := ws) (wd := wd) (la := lastOf r) (r := r) (len := len) (q := q) (fun hx => hx.elim hsr (fun hy => hy.elim (fun a => by omega) (fun b => by omega))) hi.1 8 0 ([], -1) (by omega) (by omega)
  omega
theorem best_says {l : List S58} {ws : List Int} {a b wd : Int} (h : okAsked l ws a b = true) (hw : 0 ≤ wd ∧ wd ≤ 200) :
  ((routeAns l ws a b wd).2 = true ↔ b ∈ stationsOf l ws a wd) ∧ ((routeAns l ws a b wd).2 = true → ∃ len, RtOk l ws (routeAns l ws a b wd).1 len ∧ Pth l ws wd (routeAns l ws a b wd).1 ∧ (routeAns l ws a b wd).1.getD 0 0 = a ∧ lastOf (routeAns l ws a b wd).1 = b ∧ ∀ r n, RtOk l ws r n → Pth l ws wd r → r.getD 0 0 = a → lastOf r = b → len ≤ n) := by
 obtain ⟨h1, h2, h3⟩ := okAsked_says h
 have hl := okWidths_legs h1
 have e : routeAns l ws a b wd = _ := if_pos ⟨h, hw⟩
 rw [e]
 have hs := start_ok (l := l) (ws := ws) h2
 have hgot := goS_got hl b wd 9 [a] 0 hs (Pth.one h2)
 have hleast : ∀ r n, RtOk l ws r n → Pth l ws wd r → r.getD 0 0 = a → lastOf r = b → 0 ≤ (goS l ws b wd 9 [a] 0).2 ∧ (goS l ws b wd 9 [a] 0).2 ≤ n := by
  intro r n hr hp ha hb
  cases r with
  | nil => have := hp.ne; simp at this
  | cons x t =>
   simp only [List.getD_cons_zero] at ha
   subst ha
   exact goS_least hl b wd t [x] 0 n 9 hs hr hp hb (by simp)
 refine ⟨?_, ?_⟩
 ·simp only [decide_eq_true_eq]
  constructor
  ·intro hg
   rcases hgot with e2 | ⟨t, e2, g1, g2, g3⟩
   ·rw [e2] at hg
    exact absurd hg (by decide)
   ·have := g2.reach_last
    rw [g3] at this
    rw [e2] at this
    simpa using this
  ·intro hm
   obtain ⟨r, hp, ha, hb⟩ := reach_pth hl h2 b hm
   obtain ⟨n, hn⟩ := hp.ok hl
   exact (hleast r n hn hp ha hb).1
 ·intro hg
  simp only [decide_eq_true_eq] at hg
  rcases hgot with e2 | ⟨t, e2, g1, g2, g3⟩
  ·rw [e2] at hg
   exact absurd hg (by decide)
  ·exact ⟨_, g1, g2, by rw [e2]; simp, g3, fun r n hr hp ha hb => (hleast r n hr hp ha hb).2⟩
theorem size_fst {l : List S58} {ws r : List Int} : ∀ d i (w s : Int), (sizeFrom l ws r d i w s).1 ≤ w ∧ (∀ j, i ≤ j → j < i + d → (sizeFrom l ws r d i w s).1 ≤ rd ws (viaOf l ws r j)) ∧ ∀ v, v ≤ w → (∀ j, i ≤ j → j < i + d → v ≤ rd ws (viaOf l ws r j)) → v ≤ (sizeFrom l ws r d i w s).1
 | 0, i, w, s => ⟨Int.le_refl _, fun j h1 h2 => by omega, fun v h _ => h⟩
 | d + 1, i, w, s => by
  obtain ⟨h1, h2, h3⟩ := size_fst (l := l) (ws := ws) (r := r) d (i + 1) (min w (rd ws (viaOf l ws r i))) (wrap64 (s + (rd_T58 l (viaOf l ws r i)).f2))
  simp only [sizeFrom]
  refine ⟨by omega, fun j hj1 hj2 => ?_, fun v hv hall => h3 v ?_ (fun j hj1 hj2 => hall j (by omega) (by omega))⟩
  ·by_cases e : j = i
   ·subst e; omega
   ·exact h2 j (by omega) (by omega)
  ·have := hall i (by omega) (by omega)
   omega
theorem isRoute_of {l : List S58} {ws r : List Int} {wd : Int} (hw : okWidths l ws = true) (h : Pth l ws wd r) : isRoute l ws r = true := by
 have key : ∀ d i, i + d = r.length → routeFrom l ws r d i = true := by
  intro d
  induction d with
  | zero => intro i _; rfl
  | succ d ih =>
   intro i hi
   have hin := h.inn (r.getD i 0) (by rw [getD_lt _ _ _ (by omega)]; exact List.getElem_mem _)
   have hn := h.new (n := i) (by omega)
   simp only [routeFrom, newAt, ih (i + 1) (by omega), Bool.and_true, Bool.and_eq_true, decide_eq_true_eq, Bool.or_eq_true, Bool.not_eq_true', decide_eq_false_iff_not]
   refine ⟨⟨by omega, hn⟩, ?_⟩
   by_cases e : i = 0
   ·exact .inl e
   ·exact .inr (h.via i (by omega) e).1
 have hne := h.ne
 unfold isRoute
 rw [hw, key r.length 0 (by omega), decide_eq_false (by omega)]
 rfl
theorem pth_of {l : List S58} {ws r : List Int} (h : isRoute l ws r = true) : Pth l ws (sizeFrom l ws r (r.length - 1) 1 200 0).1 r := by
 obtain ⟨h1, h2, h3⟩ := isRoute_says h
 unfold isRoute at h
 rw [Bool.and_eq_true, Bool.and_eq_true] at h
 have key : ∀ d i, i + d = r.length → routeFrom l ws r d i = true → ∀ j, i ≤ j → j < r.length → newAt r j = true := by
  intro d
  induction d with
  | zero => intro i hi _ j hj hj2; omega
  | succ d ih =>
   intro i hi hr j hj hj2
   simp only [routeFrom, Bool.and_eq_true] at hr
   by_cases e : j = i
   ·subst e; exact hr.1
   ·exact ih (i + 1) (by omega) hr.2.2 j (by omega) hj2
 have hnew := key r.length 0 (by omega) h.2.2
 have hinn : ∀ j, j < r.length → (0 ≤ r.getD j 0 ∧ r.getD j 0 ≤ 7) ∧ r.getD j 0 ∉ r.take j := fun j hj => by
  have := hnew j (by omega) hj
  simpa only [newAt, Bool.and_eq_true, decide_eq_true_eq, Bool.not_eq_true', decide_eq_false_iff_not] using this
 refine ⟨by omega, ?_, ?_, fun j hj h0 => ⟨h3 j hj h0, (size_fst (r.length - 1) 1 200 0).2.1 j (by omega) (by omega)⟩⟩
 ·have hk : ∀ n, n ≤ r.length → (r.take n).Nodup := by
   intro n
   induction n with
   | zero => intro _; simp
   | succ n ih =>
    intro hn
    rw [take_snoc (by omega), List.nodup_append]
    refine ⟨ih (by omega), by simp, fun x hx y hy e => ?_⟩
    rw [List.mem_singleton] at hy
    subst hy
    subst e
    exact (hinn n (by omega)).2 hx
  have := hk r.length (Nat.le_refl _)
  rwa [List.take_length] at this
 ·intro x hx
  obtain ⟨j, hj, e⟩ := List.getElem_of_mem hx
  have := (hinn j hj).1
  rw [getD_lt _ _ _ hj, e] at this
  omega
theorem widths_at {l : List S58} {ws : List Int} (h : okWidths l ws = true) {q : Int} (h0 : 0 ≤ q) (h1 : q < l.length) : 0 ≤ rd ws q ∧ rd ws q ≤ 200 := by
 have hlen := okWidths_len h
 unfold okWidths at h
 rw [Bool.and_eq_true, Bool.and_eq_true] at h
 obtain ⟨p, hp⟩ := Int.eq_ofNat_of_zero_le h0
 subst hp
 rw [rd_nat, getD_lt _ _ _ (by omega)]
 have := List.all_eq_true.1 h.2.2 _ (List.getElem_mem (show p < ws.length by omega))
 exact of_decide_eq_true this
theorem route_le {l : List S58} {ws r : List Int} (h : isRoute l ws r = true) (ha : okAsked l ws (r.getD 0 0) (lastOf r) = true) : (sizeFrom l ws r (r.length - 1) 1 200 0).1 ≤ greatestDown l ws (r.getD 0 0) (lastOf r) 201 := by
 have hp := pth_of h
 obtain ⟨h1, h2, h3⟩ := okAsked_says ha
 have hl := okWidths_legs h1
 have h0 : 0 ≤ (sizeFrom l ws r (r.length - 1) 1 200 0).1 := (size_fst (r.length - 1) 1 200 0).2.2 0 (by omega) (fun j hj1 hj2 => by
  have hv := (hp.via j (by have := hp.ne; omega) (by omega)).1
  obtain ⟨q, hq, e, -⟩ := leg_is hv
  unfold viaOf
  rw [e]
  exact (widths_at h1 (by omega) (by omega)).1)
 have h200 := (size_fst (l := l) (ws := ws) (r := r) (r.length - 1) 1 200 0).1
 exact (great_iff ws hl h2 h3 201 _ h0 (by omega)).2 hp.reach_last
theorem asked_of {l : List S58} {ws r : List Int} (h : isRoute l ws r = true) : okAsked l ws (r.getD 0 0) (lastOf r) = true := by
 have hp := pth_of h
 have h1 := (isRoute_says h).1
 have ha := hp.inn (r.getD 0 0) (by rw [getD_lt _ _ _ hp.ne]; exact List.getElem_mem _)
 have hb := hp.inn (lastOf r) (last_mem hp.ne)
 simp only [okAsked, h1, Bool.true_and, Bool.and_eq_true, decide_eq_true_eq]
 omega
set_option linter.unusedVariables false
set_option linter.unusedSimpArgs false
theorem vInts_ev (l : List Int) (hm : l.length ≤ 9223372036854775807) : Ev (fun k => laws_vInts.f k l l) true := by
 simp only [laws_vInts.f]
 refine Ev.ite_pos (by trivial) ?_
 refine loopV_ev (fun k i (_ : Unit) => laws_vInts.l0 k l l i) l.length 0 (fun _ _ => True) true () trivial ?_ ?_
 ·rintro k i - - hi -
  refine .inl ⟨(), trivial, ?_⟩
  simp only [laws_vInts.l0]
  rw [if_pos (by omega), if_pos (by omega), if_pos (by omega), if_pos trivial, wrap_up hi hm]
 ·rintro k - - -
  simp only [laws_vInts.l0]
  rw [if_neg (by omega)]
end Go.Proofs.Ytoljdjgndogegaa.Pure
