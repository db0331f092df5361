/- The plain part of the law FnPassages: what the program's and the reference's functions answer. -/
import Derived.Test.YtffdglecmjbolaaMPx3
import Derived.Test.YtffdglecmjbolaaMPx4
import Derived.Test.YtffdglecmjbolaaMPx2
import Derived.Test.YtffdglecmjbolaaMPx5
import Derived.Test.YtffdglecmjbolaaMPx6
import Derived.Test.YtffdglecmjbolaaMPx8
import Derived.Test.YtffdglecmjbolaaMPx9
import Derived.Test.YtffdglecmjbolaaMPx11
import Derived.Test.YtffdglecmjbolaaMPx13
/-! PBase -/
namespace Go.Proofs.Ytffdglecmjbolaa.Pure
open Go.RowKit Go.Proofs.Ytffdglecmjbolaa.MP Go.Proofs.YtffdglecmjbolaaW.PrintWords Go.Proofs.YtffdglecmjbolaaW.PrintLast Go.Proofs.YtffdglecmjbolaaW.PrintMore
set_option linter.unusedVariables false
set_option linter.unusedSimpArgs false

theorem within_eq (a b c : Int) : impl_within.f a b c = some (decide (b ≤ a ∧ a ≤ c)) := by
 unfold impl_within.f
 by_cases h : a ≥ b
 ·rw [if_pos h]; simp [show b ≤ a from h]
 ·rw [if_neg h]; simp [show ¬ b ≤ a from h]
theorem l1In_eq (a b c : Int) : spec_l1In.f a b c = some (decide (b ≤ a ∧ a ≤ c)) := by
 unfold spec_l1In.f
 by_cases h : a ≥ b
 ·rw [if_pos h]; simp [show b ≤ a from h]
 ·rw [if_neg h]; simp [show ¬ b ≤ a from h]
theorem wrap_id {x : Int} (h0 : -9223372036854775808 ≤ x) (h1 : x ≤ 9223372036854775807) : wrap64 x = x := by
 unfold wrap64
 omega
theorem wrap_up {i : Nat} {n : Nat} (h : i < n) (hn : n ≤ 9223372036854775807) : wrap64 ((i : Int) + 1) = ((i + 1 : Nat) : Int) := by
 unfold wrap64
 omega

/-! rounds -/
theorem Ev.ite_pos {α : Type} {c : Prop} [Decidable c] {g g' : Nat → Option α} {r : α} (hc : c) (h : Ev g r) : Ev (fun k => if c then g k else g' k) r := by
 simpa only [if_pos hc] using h
theorem Ev.ite_neg {α : Type} {c : Prop} [Decidable c] {g g' : Nat → Option α} {r : α} (hc : ¬ c) (h : Ev g' r) : Ev (fun k => if c then g k else g' k) r := by
 simpa only [if_neg hc] using h
theorem Ev.past {α : Type} {g : Nat → Option α} {r : α} (d : Nat) (h : ∀ k, d < k → g k = some r) : Ev g r := ⟨d + 1, fun k hk => h k (by omega)⟩
theorem Ev.eq {α : Type} {g : Nat → Option α} {r : α} (h : ∀ k, g k = some r) : Ev g r := ⟨0, fun k _ => h k⟩
theorem Ev.bindc {α β : Type} {x : Option α} {f : Nat → α → Option β} {a : α} {r : β} (h : x = some a) (k : Ev (fun n => f n a) r) : Ev (fun n => x.bind (f n)) r := by
 subst h
 exact k

/-! counted loops -/
def foldN {σ ρ : Type} (step : Nat → σ → σ ⊕ ρ) (fin : σ → ρ) : Nat → Nat → σ → ρ
 | 0, _, s => fin s
 | n + 1, i, s => match step i s with
  | .inl s' => foldN step fin n (i + 1) s'
  | .inr r => r
theorem loopN {σ ρ : Type} (L : Nat → Int → σ → Option ρ) (n K : Nat) (Inv : Nat → σ → Prop) (step : Nat → σ → σ ⊕ ρ) (fin : σ → ρ)
  (h1 : ∀ k i s, K ≤ k → i < n → Inv i s → (∃ s', step i s = .inl s' ∧ Inv (i + 1) s' ∧ L (k + 1) (i : Int) s = L k ((i + 1 : Nat) : Int) s') ∨ (∃ r, step i s = .inr r ∧ L (k + 1) (i : Int) s = some r))
  (h2 : ∀ k s, K ≤ k → Inv n s → L (k + 1) (n : Int) s = some (fin s)) : ∀ d i s k, i + d = n → K + d < k → Inv i s → L k (i : Int) s = some (foldN step fin d i s) := by
 intro d
 induction d with
 | zero =>
  intro i s k hi hk hv
  obtain ⟨k, rfl⟩ : ∃ m, k = m + 1 := ⟨k - 1, by omega⟩
  obtain rfl : i = n := by omega
  exact h2 k s (by omega) hv
 | succ d ih =>
  intro i s k hi hk hv
  obtain ⟨k, rfl⟩ : ∃ m, k = m + 1 := ⟨k - 1, by omega⟩
  simp only [foldN]
  rcases h1 k i s (by omega) (by omega) hv with ⟨s', hs, hv', hL⟩ | ⟨r, hs, hL⟩
  ·rw [hs, hL]
   exact ih (i + 1) s' k (by omega) (by omega) hv'
  ·rw [hs, hL]
/-- A counted loop from its head. -/
theorem loopN_ev {σ ρ : Type} (L : Nat → Int → σ → Option ρ) (n K : Nat) (Inv : Nat → σ → Prop) (step : Nat → σ → σ ⊕ ρ) (fin : σ → ρ) (s : σ) (hv : Inv 0 s)
  (h1 : ∀ k i s, K ≤ k → i < n → Inv i s → (∃ s', step i s = .inl s' ∧ Inv (i + 1) s' ∧ L (k + 1) (i : Int) s = L k ((i + 1 : Nat) : Int) s') ∨ (∃ r, step i s = .inr r ∧ L (k + 1) (i : Int) s = some r))
  (h2 : ∀ k s, K ≤ k → Inv n s → L (k + 1) (n : Int) s = some (fin s)) : Ev (fun k => L k 0 s) (foldN step fin n 0 s) :=
 Ev.past (K + n) fun k hk => loopN L n K Inv step fin h1 h2 n 0 s k (by omega) hk hv
/-- The same where nothing need be kept. -/
theorem loopT_ev {σ ρ : Type} (L : Nat → Int → σ → Option ρ) (n K : Nat) (step : Nat → σ → σ ⊕ ρ) (fin : σ → ρ) (s : σ)
  (h1 : ∀ k i s, K ≤ k → i < n → (∃ s', step i s = .inl s' ∧ L (k + 1) (i : Int) s = L k ((i + 1 : Nat) : Int) s') ∨ (∃ r, step i s = .inr r ∧ L (k + 1) (i : Int) s = some r))
  (h2 : ∀ k s, K ≤ k → L (k + 1) (n : Int) s = some (fin s)) : Ev (fun k => L k 0 s) (foldN step fin n 0 s) :=
 loopN_ev L n K (fun _ _ => True) step fin s trivial (fun k i s hk hi _ => (h1 k i s hk hi).imp (fun ⟨s', a, b⟩ => ⟨s', a, trivial, b⟩) id) (fun k s hk _ => h2 k s hk)
/-- A counted loop whose answer is known from what it keeps. -/
theorem loopV_ev {σ ρ : Type} (L : Nat → Int → σ → Option ρ) (n K : Nat) (Inv : Nat → σ → Prop) (r : ρ) (s : σ) (hv : Inv 0 s)
  (h1 : ∀ k i s, K ≤ k → i < n → Inv i s → (∃ s', Inv (i + 1) s' ∧ L (k + 1) (i : Int) s = L k ((i + 1 : Nat) : Int) s') ∨ L (k + 1) (i : Int) s = some r)
  (h2 : ∀ k s, K ≤ k → Inv n s → L (k + 1) (n : Int) s = some r) : Ev (fun k => L k 0 s) r := by
 have key : ∀ d i s k, i + d = n → K + d < k → Inv i s → L k (i : Int) s = some r := by
  intro d
  induction d with
  | zero =>
   intro i s k hi hk hv
   obtain ⟨k, rfl⟩ : ∃ m, k = m + 1 := ⟨k - 1, by omega⟩
   obtain rfl : i = n := by omega
   exact h2 k s (by omega) hv
  | succ d ih =>
   intro i s k hi hk hv
   obtain ⟨k, rfl⟩ : ∃ m, k = m + 1 := ⟨k - 1, by omega⟩
   rcases h1 k i s (by omega) (by omega) hv with ⟨s', hv', hL⟩ | hL
   ·rw [hL]
    exact ih (i + 1) s' k (by omega) (by omega) hv'
   ·exact hL
 exact Ev.past (K + n) fun k hk => key n 0 s k (by omega) hk hv
theorem foldN_rel {σ1 σ2 ρ1 ρ2 : Type} {step1 : Nat → σ1 → σ1 ⊕ ρ1} {fin1 : σ1 → ρ1} {step2 : Nat → σ2 → σ2 ⊕ ρ2} {fin2 : σ2 → ρ2} (n : Nat) (R : Nat → σ1 → σ2 → Prop) (Q : ρ1 → ρ2 → Prop)
  (hs : ∀ i a b, R i a b → i < n → (∃ a' b', step1 i a = .inl a' ∧ step2 i b = .inl b' ∧ R (i + 1) a' b') ∨ (∃ a' b', step1 i a = .inr a' ∧ step2 i b = .inr b' ∧ Q a' b'))
  (hf : ∀ a b, R n a b → Q (fin1 a) (fin2 b)) : ∀ d i a b, i + d = n → R i a b → Q (foldN step1 fin1 d i a) (foldN step2 fin2 d i b) := by
 intro d
 induction d with
 | zero =>
  intro i a b hi hr
  obtain rfl : i = n := by omega
  exact hf a b hr
 | succ d ih =>
  intro i a b hi hr
  simp only [foldN]
  rcases hs i a b hr (by omega) with ⟨a', b', h1, h2, h3⟩ | ⟨a', b', h1, h2, h3⟩
  ·rw [h1, h2]
   exact ih (i + 1) a' b' (by omega) h3
  ·rw [h1, h2]
   exact h3
theorem foldN_congr {σ ρ : Type} {step1 step2 : Nat → σ → σ ⊕ ρ} {fin1 fin2 : σ → ρ} (n : Nat) (hs : ∀ i s, i < n → step1 i s = step2 i s) (hf : ∀ s, fin1 s = fin2 s) (s : σ) :
  foldN step1 fin1 n 0 s = foldN step2 fin2 n 0 s := by
 refine foldN_rel n (fun _ a b => a = b) (fun a b => a = b) ?_ ?_ n 0 s s (by omega) rfl
 ·rintro i a _ rfl hi
  rw [hs i a hi]
  cases step2 i a with
  | inl x => exact .inl ⟨x, x, rfl, rfl, rfl⟩
  | inr x => exact .inr ⟨x, x, rfl, rfl, rfl⟩
 ·rintro a _ rfl
  exact hf a
/-- What a counted loop keeps. -/
theorem foldN_inv {σ ρ : Type} {step : Nat → σ → σ ⊕ ρ} {fin : σ → ρ} (n : Nat) (R : Nat → σ → Prop) (Q : ρ → Prop)
  (hs : ∀ i a, R i a → i < n → (∃ a', step i a = .inl a' ∧ R (i + 1) a') ∨ (∃ r, step i a = .inr r ∧ Q r))
  (hf : ∀ a, R n a → Q (fin a)) : ∀ d i a, i + d = n → R i a → Q (foldN step fin d i a) := by
 intro d
 induction d with
 | zero =>
  intro i a hi hr
  obtain rfl : i = n := by omega
  exact hf a hr
 | succ d ih =>
  intro i a hi hr
  simp only [foldN]
  rcases hs i a hr (by omega) with ⟨a', h1, h3⟩ | ⟨a', h1, h3⟩
  ·rw [h1]
   exact ih (i + 1) a' (by omega) h3
  ·rw [h1]
   exact h3
theorem foldN_all {α : Type} (l : List α) (d : α) (p : α → Bool) (b : Bool) :
  foldN (fun i (_ : Unit) => if p (l.getD i d) = true then Sum.inl () else Sum.inr false) (fun _ => b) l.length 0 () = (l.all p && b) := by
 have key : ∀ e i, i + e = l.length → foldN (fun i (_ : Unit) => if p (l.getD i d) = true then Sum.inl () else Sum.inr false) (fun _ => b) e i () = ((l.drop i).all p && b) := by
  intro e
  induction e with
  | zero =>
   intro i hi
   rw [List.drop_eq_nil_of_le (by omega)]
   rfl
  | succ e ih =>
   intro i hi
   have hl : i < l.length := by omega
   have hg : l.getD i d = l[i] := by simp [List.getD_eq_getElem?_getD, List.getElem?_eq_getElem hl]
   rw [List.drop_eq_getElem_cons hl]
   simp only [foldN, hg, List.all_cons]
   cases hp : p l[i] with
   | true => simpa using ih (i + 1) (by omega)
   | false => simp
 simpa using key l.length 0 (by omega)
theorem rd_nat (l : List Int) (i : Nat) : rd l (i : Int) = l.getD i 0 := by simp [rd]
theorem getD_lt {α : Type} (l : List α) (d : α) (i : Nat) (h : i < l.length) : l.getD i d = l[i] := by simp [List.getD_eq_getElem?_getD, List.getElem?_eq_getElem h]
theorem set_take {α : Type} (l : List α) (i : Nat) (v : α) (h : i < l.length) : (l.set i v).take (i + 1) = l.take i ++ [v] := by
 rw [List.take_succ_eq_append_getElem (by simpa using h), List.take_set_of_le (Nat.le_refl _)]
 simp
end Go.Proofs.Ytffdglecmjbolaa.Pure

/-! PCur -/
namespace Go.Proofs.Ytffdglecmjbolaa.Pure
open Go.RowKit Go.Proofs.Ytffdglecmjbolaa.MP Go.Proofs.YtffdglecmjbolaaW.PrintWords Go.Proofs.YtffdglecmjbolaaW.PrintLast Go.Proofs.YtffdglecmjbolaaW.PrintMore
set_option linter.unusedVariables false
set_option linter.unusedSimpArgs false
def Bytes (l : List Int) : Prop := ∀ x ∈ l, 0 ≤ x ∧ x ≤ 255
theorem bytes_of {l : List Int} (h : ∀ x ∈ l, (Lit.int .u8 x).wf = true) : Bytes l := fun x hx => by
 have := h x hx
 simp [Lit.wf, IntKind.min, IntKind.max, IntKind.signed, IntKind.bits] at this
 omega
theorem wrap_u64 (x : Int) : 0 ≤ IntKind.u64.wrap x ∧ IntKind.u64.wrap x < 18446744073709551616 := by
 have h : IntKind.u64.wrap x = x % 18446744073709551616 := by
  simp [IntKind.wrap, IntKind.signed, IntKind.bits]
 rw [h]
 omega
theorem bits_255 (x : Int) : 0 ≤ Go.bits .and .u64 x 255 ∧ Go.bits .and .u64 x 255 ≤ 255 := by
 have h : ((BitVec.ofInt 64 x) &&& (BitVec.ofInt 64 255)).toNat ≤ 255 := by
  rw [BitVec.toNat_and]
  exact Nat.le_trans Nat.and_le_right (by decide)
 have e : Go.bits .and .u64 x 255 = IntKind.u64.wrap (((BitVec.ofInt 64 x) &&& (BitVec.ofInt 64 255)).toNat : Int) := rfl
 have hw : ∀ y : Int, IntKind.u64.wrap y = y % 18446744073709551616 := fun y => by simp [IntKind.wrap, IntKind.signed, IntKind.bits]
 rw [e, hw]
 omega
theorem cur_next {l : List Int} (hb : Bytes l) {i s : Int} (h0 : 0 ≤ i) (h1 : i ≤ 1000000000) : ∃ v t, spec_l1Cur_next.f l i s = some (v, i + 1, t) ∧ 0 ≤ v ∧ v ≤ 255 := by
 have hw : wrap64 (i + 1) = i + 1 := wrap_id (by omega) (by omega)
 have hv : i < l.length → 0 ≤ wrap64 (rd l i) ∧ wrap64 (rd l i) ≤ 255 := fun h => by
  have hi : i.toNat < l.length := by omega
  have h2 := hb _ (List.getElem_mem hi)
  have h3 : rd l i = l[i.toNat] := by simp only [rd]; exact getD_lt l 0 i.toNat hi
  rw [h3, wrap_id (by omega) (by omega)]
  exact h2
 have hc : ∀ x : Int, 0 ≤ wrap64 (Go.bits .and .u64 x 255) ∧ wrap64 (Go.bits .and .u64 x 255) ≤ 255 := fun x => by
  have := bits_255 x
  rw [wrap_id (by omega) (by omega)]
  exact this
 unfold spec_l1Cur_next.f
 simp only [hw]
 by_cases ha : i < l.length
 ·rw [if_pos ha, if_pos h0, if_pos (by omega)]
  exact ⟨_, _, rfl, hv ha⟩
 ·rw [if_neg ha, if_neg (by omega)]
  exact ⟨_, _, rfl, hc _⟩
theorem cur_pick {l : List Int} (hb : Bytes l) {i s n : Int} (h0 : 0 ≤ i) (h1 : i ≤ 999999990) (hn : n ≤ 1000000) : ∃ v j t, spec_l1Cur_pick.f l i s n = some (v, j, t) ∧ i ≤ j ∧ j ≤ i + 2 ∧ 0 ≤ v ∧ (v < n ∨ v = 0) := by
 unfold spec_l1Cur_pick.f
 by_cases c : n ≤ 1
 ·rw [if_pos c]
  exact ⟨_, _, _, rfl, by omega, by omega, by omega, .inr rfl⟩
 ·rw [if_neg c]
  obtain ⟨v, t, e, g0, g1⟩ := cur_next (s := s) hb h0 (by omega)
  rw [e]
  simp only [Option.bind_some]
  by_cases c2 : n > 200
  ·rw [if_pos c2]
   obtain ⟨u, t2, e2, g2, g3⟩ := cur_next (i := i + 1) (s := t) hb (by omega) (by omega)
   rw [e2]
   simp only [Option.bind_some]
   rw [if_neg (by omega)]
   have h1 : wrap64 (v * 256) = v * 256 := wrap_id (by omega) (by omega)
   have h2 : wrap64 (v * 256 + u) = v * 256 + u := wrap_id (by omega) (by omega)
   rw [h1, h2]
   exact ⟨_, _, _, rfl, by omega, by omega, Int.tmod_nonneg _ (by omega), .inl (Int.tmod_lt_of_pos _ (by omega))⟩
  ·rw [if_neg c2, if_neg (by omega)]
   exact ⟨_, _, _, rfl, by omega, by omega, Int.tmod_nonneg _ (by omega), .inl (Int.tmod_lt_of_pos _ (by omega))⟩
theorem cur_among {l : List Int} (hb : Bytes l) {i s : Int} (xs : List Int) (h0 : 0 ≤ i) (h1 : i ≤ 999999990) (hx : 0 < xs.length) (hx2 : xs.length ≤ 1000000) : ∃ v j t, spec_l1Cur_among.f l i s xs = some (v, j, t) ∧ i ≤ j ∧ j ≤ i + 2 ∧ v ∈ xs := by
 obtain ⟨v, j, t, e, g0, g1, g2, g3⟩ := cur_pick (s := s) (n := (xs.length : Int)) hb h0 h1 (by omega)
 unfold spec_l1Cur_among.f
 rw [e]
 simp only [Option.bind_some]
 rw [if_pos g2, if_pos (by omega)]
 refine ⟨_, _, _, rfl, g0, g1, ?_⟩
 have hi : v.toNat < xs.length := by omega
 have h3 : rd xs v = xs[v.toNat] := by simp only [rd]; exact getD_lt xs 0 v.toNat hi
 rw [h3]
 exact List.getElem_mem hi
/-- A cut literal. -/
theorem cur_cut {b v : Int} {n : Int} (h : 0 ≤ v) (hn : v < n ∨ v = 0) (hb : 0 ≤ b) (hb2 : b ≤ 1000) (hn2 : n ≤ 1000) : wrap64 (b + wrap64 (Int.tdiv v 11)) = b + v / 11 := by
 have e : Int.tdiv v 11 = v / 11 := Int.tdiv_eq_ediv_of_nonneg h
 rw [e, wrap_id (x := v / 11) (by omega) (by omega), wrap_id (by omega) (by omega)]
end Go.Proofs.Ytffdglecmjbolaa.Pure

/-! PDr -/
namespace Go.Proofs.Ytffdglecmjbolaa.Pure
open Go.RowKit Go.Proofs.Ytffdglecmjbolaa.MP Go.Proofs.YtffdglecmjbolaaW.PrintWords Go.Proofs.YtffdglecmjbolaaW.PrintLast Go.Proofs.YtffdglecmjbolaaW.PrintMore
set_option linter.unusedVariables false
set_option linter.unusedSimpArgs false
def Dr {α : Type} (g : Nat → Option α) (P : α → Prop) : Prop := ∃ r, Ev g r ∧ P r
theorem Dr.now {α : Type} {P : α → Prop} (r : α) (h : P r) : Dr (fun _ => some r) P := ⟨r, Ev.now r, h⟩
theorem Dr.none {α : Type} {P : α → Prop} (h : False) : Dr (fun _ => (none : Option α)) P := h.elim
theorem Dr.ite {α : Type} {c : Prop} [Decidable c] {g g' : Nat → Option α} {P : α → Prop} (h : c → Dr g P) (h' : ¬ c → Dr g' P) : Dr (fun k => if c then g k else g' k) P := by
 by_cases hc : c
 ·obtain ⟨r, h1, h2⟩ := h hc
  exact ⟨r, Ev.ite_pos hc h1, h2⟩
 ·obtain ⟨r, h1, h2⟩ := h' hc
  exact ⟨r, Ev.ite_neg hc h1, h2⟩
theorem Dr.step {α : Type} {g f : Nat → Option α} {P : α → Prop} (he : ∀ k, g (k + 1) = f k) (h : Dr f P) : Dr g P := by
 obtain ⟨r, h1, h2⟩ := h
 exact ⟨r, Ev.step he h1, h2⟩
theorem Dr.bind {α β : Type} {g : Nat → Option α} {f : Nat → α → Option β} {Q : α → Prop} {P : β → Prop} (h : Dr g Q) (k : ∀ r, Q r → Dr (fun n => f n r) P) : Dr (fun n => (g n).bind (f n)) P := by
 obtain ⟨a, h1, h2⟩ := h
 obtain ⟨b, h3, h4⟩ := k a h2
 exact ⟨b, Ev.bind h1 h3, h4⟩
theorem Dr.bindc {α β : Type} {x : Option α} {f : Nat → α → Option β} {P : β → Prop} {a : α} (h : x = some a) (k : Dr (fun n => f n a) P) : Dr (fun n => x.bind (f n)) P := by
 subst h
 exact k
theorem Dr.mono {α : Type} {g : Nat → Option α} {P Q : α → Prop} (h : Dr g P) (hpq : ∀ r, P r → Q r) : Dr g Q := by
 obtain ⟨r, h1, h2⟩ := h
 exact ⟨r, h1, hpq r h2⟩
theorem Dr.pick {α : Type} {l : List Int} (hb : Bytes l) {i s n : Int} {f : Nat → Int × Int × Int → Option α} {P : α → Prop} (h0 : 0 ≤ i) (h1 : i ≤ 999999990) (hn : n ≤ 1000000) (k : ∀ v j t, i ≤ j → j ≤ i + 2 → 0 ≤ v → (v < n ∨ v = 0) → Dr (fun m => f m (v, j, t)) P) : Dr (fun m => (spec_l1Cur_pick.f l i s n).bind (f m)) P := by
 obtain ⟨v, j, t, e, g0, g1, g2, g3⟩ := cur_pick (s := s) hb h0 h1 hn
 exact Dr.bindc e (k v j t g0 g1 g2 g3)
theorem Dr.among {α : Type} {l : List Int} (hb : Bytes l) {i s : Int} {xs : List Int} {f : Nat → Int × Int × Int → Option α} {P : α → Prop} (h0 : 0 ≤ i) (h1 : i ≤ 999999990) (hx : 0 < xs.length) (hx2 : xs.length ≤ 1000000) (k : ∀ v j t, i ≤ j → j ≤ i + 2 → v ∈ xs → Dr (fun m => f m (v, j, t)) P) : Dr (fun m => (spec_l1Cur_among.f l i s xs).bind (f m)) P := by
 obtain ⟨v, j, t, e, g0, g1, g2⟩ := cur_among (s := s) hb xs h0 h1 hx hx2
 exact Dr.bindc e (k v j t g0 g1 g2)
theorem Dr.one {α : Type} {l : List Int} (hb : Bytes l) {i s n : Int} {f : Nat → Bool × Int × Int → Option α} {P : α → Prop} (h0 : 0 ≤ i) (h1 : i ≤ 999999990) (hn : n ≤ 1000000) (k : ∀ b j t, i ≤ j → j ≤ i + 2 → Dr (fun m => f m (b, j, t)) P) : Dr (fun m => (spec_l1Cur_one.f l i s n).bind (f m)) P := by
 obtain ⟨v, j, t, e, g0, g1, g2, g3⟩ := cur_pick (s := s) hb h0 h1 hn
 refine Dr.bindc (a := (v == 0, j, t)) ?_ (k _ j t g0 g1)
 unfold spec_l1Cur_one.f
 rw [e]
 rfl
theorem snoc_len {α : Type} (l : List α) (x : α) : (l ++ [x]).length = l.length + 1 := by simp
theorem wrap_pred (d : Nat) (h : d < 1000000) : wrap64 (((d + 1 : Nat) : Int) - 1) = (d : Int) := by
 unfold wrap64
 omega
theorem wrap_succ (d : Nat) (h : d < 1000000) : wrap64 ((d : Int) + 1) = ((d + 1 : Nat) : Int) := by
 unfold wrap64
 omega
end Go.Proofs.Ytffdglecmjbolaa.Pure

/-! PDrawPass -/
namespace Go.Proofs.Ytffdglecmjbolaa.Pure
open Go.RowKit Go.Proofs.Ytffdglecmjbolaa.MP Go.Proofs.YtffdglecmjbolaaW.PrintWords Go.Proofs.YtffdglecmjbolaaW.PrintLast Go.Proofs.YtffdglecmjbolaaW.PrintMore
set_option linter.unusedVariables false
set_option linter.unusedSimpArgs false
theorem dr_passes0 {l : List Int} (hb : Bytes l) : ∀ (d q : Nat) (xs : List S60) (i s : Int), q + d = 7 → xs.length ≤ q → 0 ≤ i → i + 10 * d ≤ 999000000 → Dr (fun k => spec_l1Cur_passages.l0 k xs (q : Int) l i s) (fun r => r.1.length ≤ 8 ∧ i ≤ r.2.1 ∧ r.2.1 ≤ i + 10 * d + 10) := by
 intro d
 induction d with
 | zero =>
  intro q xs i s hq hx h0 h1
  refine Dr.step (fun k => by rw [spec_l1Cur_passages.l0]) ?_
  refine Dr.ite (fun c => by omega) (fun _ => ?_)
  refine Dr.one hb (by omega) (by omega) (by omega) (fun b j t g0 g1 => ?_)
  dsimp only
  refine Dr.ite (fun _ => ?_) (fun _ => Dr.now _ ⟨by dsimp only; omega, by dsimp only; omega, by dsimp only; omega⟩)
  refine Dr.among hb (by omega) (by omega) (by decide) (by decide) (fun v2 j2 t2 g2 g3 _ => ?_)
  dsimp only
  refine Dr.among hb (by omega) (by omega) (by decide) (by decide) (fun v3 j3 t3 g4 g5 _ => ?_)
  dsimp only
  exact Dr.ite (fun _ => Dr.now _ ⟨by dsimp only; rw [snoc_len]; omega, by dsimp only; omega, by dsimp only; omega⟩) (fun _ => Dr.none (by omega))
 | succ d ih =>
  intro q xs i s hq hx h0 h1
  refine Dr.step (fun k => by rw [spec_l1Cur_passages.l0]) ?_
  refine Dr.ite (fun _ => ?_) (fun c => by omega)
  refine Dr.one hb (by omega) (by omega) (by omega) (fun b j t g0 g1 => ?_)
  dsimp only
  rw [wrap_succ q (by omega)]
  refine Dr.ite (fun _ => (ih (q + 1) xs j t (by omega) (by omega) (by omega) (by omega)).mono (fun r hr => ⟨hr.1, by omega, by omega⟩)) (fun _ => ?_)
  refine Dr.among hb (by omega) (by omega) (by decide) (by decide) (fun v2 j2 t2 g2 g3 _ => ?_)
  dsimp only
  refine Dr.among hb (by omega) (by omega) (by decide) (by decide) (fun v3 j3 t3 g4 g5 _ => ?_)
  dsimp only
  refine Dr.among hb (by omega) (by omega) (by decide) (by decide) (fun v4 j4 t4 g6 g7 _ => ?_)
  dsimp only
  refine Dr.among hb (by omega) (by omega) (by decide) (by decide) (fun v5 j5 t5 g8 g9 _ => ?_)
  dsimp only
  exact Dr.ite (fun _ => (ih (q + 1) _ j5 t5 (by omega) (by rw [snoc_len]; omega) (by omega) (by omega)).mono (fun r hr => ⟨hr.1, by omega, by omega⟩)) (fun _ => Dr.none (by omega))
theorem dr_passes {l : List Int} (hb : Bytes l) {i s : Int} (h0 : 0 ≤ i) (h1 : i ≤ 900000000) : Dr (fun k => spec_l1Cur_passages.f k l i s) (fun r => r.1.length ≤ 8 ∧ i ≤ r.2.1 ∧ r.2.1 ≤ i + 80) := by
 simp only [spec_l1Cur_passages.f]
 exact (dr_passes0 hb 7 0 [] i s (by omega) (by simp) h0 (by omega)).mono (fun r hr => ⟨hr.1, by omega, by omega⟩)
end Go.Proofs.Ytffdglecmjbolaa.Pure

/-! PDrawLeg -/
namespace Go.Proofs.Ytffdglecmjbolaa.Pure
open Go.RowKit Go.Proofs.Ytffdglecmjbolaa.MP Go.Proofs.YtffdglecmjbolaaW.PrintWords Go.Proofs.YtffdglecmjbolaaW.PrintLast Go.Proofs.YtffdglecmjbolaaW.PrintMore
set_option linter.unusedVariables false
set_option linter.unusedSimpArgs false
theorem dr_leg0 {l : List Int} (hb : Bytes l) (a b c d e : Int) {i s : Int} (h0 : 0 ≤ i) (h1 : i ≤ 999000000) : Dr (fun k => spec_l1Cur_leg.j0 k l i s a b c d e) (fun r => i ≤ r.2.2.2.2.2.1 ∧ r.2.2.2.2.2.1 ≤ i + 4) := by
 refine Dr.step (fun k => by rw [spec_l1Cur_leg.j0]) ?_
 refine Dr.pick hb (by omega) (by omega) (by omega) (fun v j t g0 g1 g2 g3 => ?_)
 dsimp only
 refine Dr.ite (fun _ => ?_) (fun _ => Dr.ite (fun _ => ?_) (fun _ => Dr.ite (fun _ => ?_) (fun _ => Dr.ite (fun _ => ?_) (fun _ => Dr.now _ ⟨by dsimp only; omega, by dsimp only; omega⟩))))
 all_goals
  refine Dr.among hb (by omega) (by omega) (by simp) (by simp) (fun v2 j2 t2 g4 g5 g6 => ?_)
  exact Dr.now _ ⟨by dsimp only; omega, by dsimp only; omega⟩
theorem dr_leg {l : List Int} (hb : Bytes l) {i s : Int} (h0 : 0 ≤ i) (h1 : i ≤ 998000000) : Dr (fun k => spec_l1Cur_leg.f k l i s) (fun r => i ≤ r.2.2.2.2.2.1 ∧ r.2.2.2.2.2.1 ≤ i + 14) := by
 simp only [spec_l1Cur_leg.f]
 refine Dr.pick hb (by omega) (by omega) (by omega) (fun v j t g0 g1 g2 g3 => ?_)
 dsimp only
 refine Dr.pick hb (by omega) (by omega) (by omega) (fun v2 j2 t2 g4 g5 g6 g7 => ?_)
 dsimp only
 refine Dr.among hb (by omega) (by omega) (by decide) (by decide) (fun v3 j3 t3 g8 g9 _ => ?_)
 dsimp only
 refine Dr.among hb (by omega) (by omega) (by decide) (by decide) (fun v4 j4 t4 g10 g11 _ => ?_)
 dsimp only
 refine Dr.among hb (by omega) (by omega) (by decide) (by decide) (fun v5 j5 t5 g12 g13 _ => ?_)
 dsimp only
 exact Dr.ite (fun _ => (dr_leg0 hb _ _ _ _ _ (by omega) (by omega)).mono (fun r hr => ⟨by omega, by omega⟩)) (fun _ => (dr_leg0 hb _ _ _ _ _ (by omega) (by omega)).mono (fun r hr => ⟨by omega, by omega⟩))
end Go.Proofs.Ytffdglecmjbolaa.Pure

/-! PDrawLegs -/
namespace Go.Proofs.Ytffdglecmjbolaa.Pure
open Go.RowKit Go.Proofs.Ytffdglecmjbolaa.MP Go.Proofs.YtffdglecmjbolaaW.PrintWords Go.Proofs.YtffdglecmjbolaaW.PrintLast Go.Proofs.YtffdglecmjbolaaW.PrintMore
set_option linter.unusedVariables false
set_option linter.unusedSimpArgs false
theorem dr_legs1 {l : List Int} (hb : Bytes l) : ∀ (d q : Nat) (xs : List S55) (i s : Int), q + d = 14 → xs.length ≤ 13 → 0 ≤ i → i + 2 * d ≤ 999000000 → Dr (fun k => spec_l1Cur_legs.l1 k xs (q : Int) l i s) (fun r => r.1.length ≤ 13) := by
 intro d
 induction d with
 | zero =>
  intro q xs i s hq hx h0 h1
  refine Dr.step (fun k => by rw [spec_l1Cur_legs.l1]) ?_
  refine Dr.pick hb (by omega) (by omega) (by omega) (fun v j t g0 g1 g2 g3 => ?_)
  dsimp only
  exact Dr.ite (fun _ => Dr.ite (fun c => by omega) (fun _ => Dr.now _ hx)) (fun _ => Dr.now _ hx)
 | succ d ih =>
  intro q xs i s hq hx h0 h1
  refine Dr.step (fun k => by rw [spec_l1Cur_legs.l1]) ?_
  refine Dr.pick hb (by omega) (by omega) (by omega) (fun v j t g0 g1 g2 g3 => ?_)
  dsimp only
  rw [wrap_id (x := 12 + v) (by omega) (by omega), wrap_succ q (by omega)]
  refine Dr.ite (fun c => ?_) (fun c => Dr.now _ hx)
  refine Dr.ite (fun _ => Dr.ite (fun _ => ?_) (fun _ => Dr.none (by omega))) (fun _ => Dr.now _ hx)
  exact ih (q + 1) _ j t (by omega) (by rw [snoc_len]; omega) (by omega) (by omega)
theorem dr_legs0 {l : List Int} (hb : Bytes l) : ∀ (d : Nat) (xs : List S55) (i s : Int), xs.length + d ≤ 8 → 0 ≤ i → i + 20 * d ≤ 990000000 → Dr (fun k => spec_l1Cur_legs.l0 k xs (d : Int) l i s) (fun r => r.1.length ≤ 13) := by
 intro d
 induction d with
 | zero =>
  intro xs i s hd h0 h1
  refine Dr.step (fun k => by rw [spec_l1Cur_legs.l0]) ?_
  refine Dr.ite (fun c => by omega) (fun _ => ?_)
  refine Dr.one hb (by omega) (by omega) (by omega) (fun b j t g0 g1 => ?_)
  dsimp only
  exact Dr.ite (fun _ => dr_legs1 hb 14 0 xs j t (by omega) (by omega) (by omega) (by omega)) (fun _ => Dr.now _ (by dsimp only; omega))
 | succ d ih =>
  intro xs i s hd h0 h1
  refine Dr.step (fun k => by rw [spec_l1Cur_legs.l0]) ?_
  refine Dr.ite (fun _ => ?_) (fun c => by omega)
  refine Dr.bind (dr_leg hb h0 (by omega)) (fun r hr => ?_)
  rw [wrap_pred d (by omega)]
  exact Dr.ite (fun _ => ih _ _ _ (by rw [snoc_len]; omega) (by omega) (by omega)) (fun _ => Dr.none (by omega))
theorem dr_legs {l : List Int} (hb : Bytes l) {i s : Int} (h0 : 0 ≤ i) (h1 : i ≤ 900000000) : Dr (fun k => spec_l1Cur_legs.f k l i s) (fun r => r.1.length ≤ 13) := by
 simp only [spec_l1Cur_legs.f]
 refine Dr.pick hb (by omega) (by omega) (by omega) (fun v j t g0 g1 g2 g3 => ?_)
 dsimp only
 obtain ⟨n, hn⟩ : ∃ n : Nat, v = (n : Int) := ⟨v.toNat, by omega⟩
 rw [hn]
 exact dr_legs0 hb n [] j t (by simp; omega) (by omega) (by omega)
end Go.Proofs.Ytffdglecmjbolaa.Pure

/-! PPass -/
namespace Go.Proofs.Ytffdglecmjbolaa.Pure
open Go.RowKit Go.Proofs.Ytffdglecmjbolaa.MP Go.Proofs.YtffdglecmjbolaaW.PrintWords Go.Proofs.YtffdglecmjbolaaW.PrintLast Go.Proofs.YtffdglecmjbolaaW.PrintMore
set_option linter.unusedVariables false
set_option linter.unusedSimpArgs false
theorem rdA (l : List S60) (i : Nat) : rd_T60 l (i : Int) = l.getD i z60 := by simp [rd_T60]
def okPass (x : S60) : Bool := decide (0 ≤ x.f0 ∧ x.f0 ≤ 7) && decide (0 ≤ x.f1 ∧ x.f1 ≤ 200) && decide (0 ≤ x.f2 ∧ x.f2 ≤ 200) && decide (0 ≤ x.f3 ∧ x.f3 ≤ 200) && decide (0 ≤ x.f4 ∧ x.f4 ≤ 200)
theorem l12One_eq (x : S60) : spec_l12One.f x.f0 x.f1 x.f2 x.f3 x.f4 = some (okPass x) := by
 simp only [spec_l12One.f, spec_l4Station.f, spec_l12Far.f, l1In_eq, Option.bind_some, okPass]
 by_cases h0 : 0 ≤ x.f0 ∧ x.f0 ≤ 7 <;> by_cases h1 : 0 ≤ x.f1 ∧ x.f1 ≤ 200 <;> by_cases h2 : 0 ≤ x.f2 ∧ x.f2 ≤ 200 <;> by_cases h3 : 0 ≤ x.f3 ∧ x.f3 ≤ 200 <;> simp [h0, h1, h2, h3]
theorem isPassage_eq (x : S60) : impl_isPassage.f x.f0 x.f1 x.f2 x.f3 x.f4 = some (okPass x) := by
 simp only [impl_isPassage.f, impl_isStation.f, within_eq, Option.bind_some, okPass]
 by_cases h0 : 0 ≤ x.f0 ∧ x.f0 ≤ 7 <;> by_cases h1 : 0 ≤ x.f1 ∧ x.f1 ≤ 200 <;> by_cases h2 : 0 ≤ x.f2 ∧ x.f2 ≤ 200 <;> by_cases h3 : 0 ≤ x.f3 ∧ x.f3 ≤ 200 <;> simp [h0, h1, h2, h3]
/-- A passage fits behind the one before it. -/
def passAt (l : List S60) (i : Nat) : Bool := okPass (l.getD i z60) && (i == 0 || decide ((l.getD (i - 1) z60).f0 < (l.getD i z60).f0))
def okPasses (l : List S60) : Bool := foldN (fun i (_ : Unit) => if passAt l i = true then Sum.inl () else Sum.inr false) (fun _ => true) l.length 0 ()
theorem spec_l12Good_step (l : List S60) (hm : l.length ≤ 9223372036854775807) (k i : Nat) (hi : i < l.length) : spec_l12Good.l0 (k + 1) l (i : Int) = if passAt l i = true then spec_l12Good.l0 k l ((i + 1 : Nat) : Int) else some false := by
 simp only [spec_l12Good.l0, rdA, l12One_eq, Option.bind_some]
 rw [if_pos (by omega), if_pos (by omega), wrap_up hi hm]
 cases hp : okPass (l.getD i z60) with
 | false => simp only [passAt, hp, Bool.false_and, Bool.false_eq_true, if_false]
 | true =>
  simp only [if_true]
  rcases Nat.eq_zero_or_pos i with rfl | h0
  ·simp only [passAt, hp, beq_self_eq_true, Bool.true_or, Bool.and_true, if_true]
   rw [if_neg (by omega)]
  ·have hw : wrap64 ((i : Int) - 1) = ((i - 1 : Nat) : Int) := by unfold wrap64; omega
   rw [if_pos (by omega), hw, if_pos (by omega), if_pos (by omega), rdA]
   have hne : (i == 0) = false := by simp; omega
   by_cases hlt : (l.getD (i - 1) z60).f0 < (l.getD i z60).f0
   ·rw [if_neg (by omega)]
    simp only [passAt, hp, hne, decide_eq_true hlt, Bool.or_true, Bool.and_true, if_true]
   ·rw [if_pos (by omega)]
    simp only [passAt, hp, hne, decide_eq_false hlt, Bool.or_false, Bool.and_false, Bool.false_eq_true, if_false]
theorem l12Good_ev (l : List S60) (hm : l.length ≤ 9223372036854775807) : Ev (fun k => spec_l12Good.f k l) (okPasses l) := by
 simp only [spec_l12Good.f]
 refine loopT_ev (fun k i (_ : Unit) => spec_l12Good.l0 k l i) l.length 0 (fun i (_ : Unit) => if passAt l i = true then Sum.inl () else Sum.inr false) (fun _ => true) () ?_ ?_
 ·rintro k i - - hi
  have h := spec_l12Good_step l hm k i hi
  cases hp : passAt l i with
  | true => exact .inl ⟨(), by simp only [if_true], by simp only [h, hp, if_true]⟩
  | false => exact .inr ⟨false, by simp only [Bool.false_eq_true, if_false], by simp only [h, hp, Bool.false_eq_true, if_false]⟩
 ·rintro k - -
  simp only [spec_l12Good.l0]
  rw [if_neg (by omega)]
theorem impl_ArePassages_step (l : List S60) (hm : l.length ≤ 9223372036854775807) (k i : Nat) (hi : i < l.length) : impl_ArePassages.l0 (k + 1) l l (l.length : Int) (i : Int) = if passAt l i = true then impl_ArePassages.l0 k l l (l.length : Int) ((i + 1 : Nat) : Int) else some false := by
 simp only [impl_ArePassages.l0, rdA, isPassage_eq, Option.bind_some]
 rw [if_pos (by omega), if_pos (by omega), if_pos (by omega), wrap_up hi hm]
 cases hp : okPass (l.getD i z60) with
 | false => simp only [passAt, hp, Bool.false_and, Bool.false_eq_true, if_false]
 | true =>
  simp only [if_true]
  rcases Nat.eq_zero_or_pos i with rfl | h0
  ·simp only [passAt, hp, beq_self_eq_true, Bool.true_or, Bool.and_true, if_true]
   rw [if_neg (by omega)]
  ·have hw : wrap64 ((i : Int) - 1) = ((i - 1 : Nat) : Int) := by unfold wrap64; omega
   rw [if_pos (by omega), hw, if_pos (by omega), if_pos (by omega), rdA]
   have hne : (i == 0) = false := by simp; omega
   by_cases hlt : (l.getD (i - 1) z60).f0 < (l.getD i z60).f0
   ·rw [if_neg (by omega)]
    simp only [passAt, hp, hne, decide_eq_true hlt, Bool.or_true, Bool.and_true, if_true]
   ·rw [if_pos (by omega)]
    simp only [passAt, hp, hne, decide_eq_false hlt, Bool.or_false, Bool.and_false, Bool.false_eq_true, if_false]
theorem arePasses_ev (l : List S60) (hm : l.length ≤ 9223372036854775807) : Ev (fun k => impl_ArePassages.f k l) (okPasses l) := by
 simp only [impl_ArePassages.f]
 refine loopT_ev (fun k i (_ : Unit) => impl_ArePassages.l0 k l l (l.length : Int) i) l.length 0 (fun i (_ : Unit) => if passAt l i = true then Sum.inl () else Sum.inr false) (fun _ => true) () ?_ ?_
 ·rintro k i - - hi
  have h := impl_ArePassages_step l hm k i hi
  cases hp : passAt l i with
  | true => exact .inl ⟨(), by simp only [if_true], by simp only [h, hp, if_true]⟩
  | false => exact .inr ⟨false, by simp only [Bool.false_eq_true, if_false], by simp only [h, hp, Bool.false_eq_true, if_false]⟩
 ·rintro k - -
  simp only [impl_ArePassages.l0]
  rw [if_neg (by omega)]
/-- Every passage of a good list fits. -/
theorem okPasses_at {l : List S60} (h : okPasses l = true) : ∀ i, i < l.length → passAt l i = true := by
 have key : ∀ d i, i + d = l.length → foldN (fun i (_ : Unit) => if passAt l i = true then Sum.inl () else Sum.inr false) (fun _ => true) d i () = true → ∀ j, i ≤ j → j < l.length → passAt l j = true := by
  intro d
  induction d with
  | zero => intro i hi _ j h1 h2; omega
  | succ d ih =>
   intro i hi hf j h1 h2
   simp only [foldN] at hf
   cases hp : passAt l i with
   | false => simp [hp] at hf
   | true =>
    simp only [hp, if_true] at hf
    rcases Nat.eq_or_lt_of_le h1 with rfl | h3
    ·exact hp
    ·exact ih (i + 1) (by omega) hf j h3 h2
 intro i hi
 exact key l.length 0 (by omega) h i (by omega) hi
theorem okPasses_one {l : List S60} (h : okPasses l = true) {i : Nat} (hi : i < l.length) : okPass (l.getD i z60) = true := by
 have h1 := okPasses_at h i hi
 simp only [passAt, Bool.and_eq_true] at h1
 exact h1.1
theorem okPasses_up {l : List S60} (h : okPasses l = true) : ∀ i, i < l.length → (i : Int) ≤ (l.getD i z60).f0 := by
 intro i
 induction i with
 | zero =>
  intro hi
  have h1 := okPasses_one h hi
  simp only [okPass, Bool.and_eq_true, decide_eq_true_eq] at h1
  omega
 | succ i ih =>
  intro hi
  have h1 := okPasses_at h (i + 1) hi
  have h2 := ih (by omega)
  simp only [passAt, Bool.and_eq_true, Bool.or_eq_true, decide_eq_true_eq, Nat.add_sub_cancel, beq_iff_eq, Nat.add_eq_zero_iff, Nat.one_ne_zero, and_false, false_or] at h1
  omega
theorem okPasses_len {l : List S60} (h : okPasses l = true) : l.length ≤ 8 := by
 rcases Nat.lt_or_ge 8 l.length with h8 | h8
 ·have h1 := okPasses_up h 8 h8
  have h2 := okPasses_one h h8
  simp only [okPass, Bool.and_eq_true, decide_eq_true_eq] at h2
  omega
 ·exact h8
end Go.Proofs.Ytffdglecmjbolaa.Pure

/-! PFindI -/
namespace Go.Proofs.Ytffdglecmjbolaa.Pure
open Go.RowKit Go.Proofs.Ytffdglecmjbolaa.MP Go.Proofs.YtffdglecmjbolaaW.PrintWords Go.Proofs.YtffdglecmjbolaaW.PrintLast Go.Proofs.YtffdglecmjbolaaW.PrintMore
set_option linter.unusedVariables false
set_option linter.unusedSimpArgs false
theorem specFind_at (l : List S60) (a : Int) (hm : l.length ≤ 9223372036854775807) : ∀ k, l.length < k → spec_l12Find.f k l a = some (impl_passageAt.at l a) := by
 have key : ∀ d i k, i + d = l.length → d < k → spec_l12Find.l0 k l a (i : Int) = some (idxF (fun x : S60 => x.f0 == a) (l.drop i) (i : Int)) := by
  intro d
  induction d with
  | zero =>
   intro i k hi hk
   obtain ⟨k, rfl⟩ : ∃ m, k = m + 1 := ⟨k - 1, by omega⟩
   have := idxF_end (fun x : S60 => x.f0 == a) l (i : Int) (by omega)
   rw [Int.toNat_natCast] at this
   rw [this]
   simp only [spec_l12Find.l0]
   rw [if_neg (by omega)]
  | succ d ih =>
   intro i k hi hk
   obtain ⟨k, rfl⟩ : ∃ m, k = m + 1 := ⟨k - 1, by omega⟩
   have hil : i < l.length := by omega
   have hs := idxF_step (fun x : S60 => x.f0 == a) l z60 (i : Int) (by omega) (by omega) hm
   rw [Int.toNat_natCast, wrap_up hil hm, Int.toNat_natCast] at hs
   rw [hs]
   simp only [spec_l12Find.l0, rdA]
   rw [if_pos (by omega), if_pos (by omega), wrap_up hil hm]
   by_cases h : (l.getD i z60).f0 = a
   ·rw [if_pos h, if_pos (beq_iff_eq.2 h)]
   ·rw [if_neg h, if_neg (fun hh => h (beq_iff_eq.1 hh))]
    exact ih (i + 1) k (by omega) (by omega)
 intro k hk
 exact key l.length 0 k (by omega) hk
theorem specFind_ev (l : List S60) (a : Int) (hm : l.length ≤ 9223372036854775807) : Ev (fun k => spec_l12Find.f k l a) (impl_passageAt.at l a) := Ev.past l.length fun k hk => specFind_at l a hm k hk
theorem at_range (l : List S60) (a : Int) : impl_passageAt.at l a = -1 ∨ (0 ≤ impl_passageAt.at l a ∧ impl_passageAt.at l a < (l.length : Int)) := by
 have := idxF_range (fun x : S60 => x.f0 == a) l 0
 unfold impl_passageAt.at
 omega
end Go.Proofs.Ytffdglecmjbolaa.Pure

/-! PArea -/
namespace Go.Proofs.Ytffdglecmjbolaa.Pure
open Go.RowKit Go.Proofs.Ytffdglecmjbolaa.MP Go.Proofs.YtffdglecmjbolaaW.PrintWords Go.Proofs.YtffdglecmjbolaaW.PrintLast Go.Proofs.YtffdglecmjbolaaW.PrintMore
set_option linter.unusedVariables false
set_option linter.unusedSimpArgs false
def areaOf (x : S60) : Int := wrap64 (wrap64 (x.f1 + x.f2) * wrap64 (x.f3 + x.f4))
theorem l12Area_eq (x : S60) : spec_l12Area.f x.f0 x.f1 x.f2 x.f3 x.f4 = some (areaOf x) := rfl
theorem area_eq (x : S60) : impl_Passage_area.f x.f0 x.f1 x.f2 x.f3 x.f4 = some (areaOf x) := rfl
theorem area_small {x : S60} (h : okPass x = true) : 0 ≤ areaOf x ∧ areaOf x ≤ 160000 := by
 simp only [okPass, Bool.and_eq_true, decide_eq_true_eq] at h
 obtain ⟨⟨⟨⟨h0, h1⟩, h2⟩, h3⟩, h4⟩ := h
 have e1 : wrap64 (x.f1 + x.f2) = x.f1 + x.f2 := by unfold wrap64; omega
 have e2 : wrap64 (x.f3 + x.f4) = x.f3 + x.f4 := by unfold wrap64; omega
 have m1 : 0 ≤ (x.f1 + x.f2) * (x.f3 + x.f4) := Int.mul_nonneg (by omega) (by omega)
 have m2 : (x.f1 + x.f2) * (x.f3 + x.f4) ≤ 400 * 400 := Int.mul_le_mul (by omega) (by omega) (by omega) (by omega)
 have e3 : areaOf x = (x.f1 + x.f2) * (x.f3 + x.f4) := by
  unfold areaOf
  rw [e1, e2]
  unfold wrap64
  omega
 omega
end Go.Proofs.Ytffdglecmjbolaa.Pure

/-! PFindA -/
namespace Go.Proofs.Ytffdglecmjbolaa.Pure
open Go.RowKit Go.Proofs.Ytffdglecmjbolaa.MP Go.Proofs.YtffdglecmjbolaaW.PrintWords Go.Proofs.YtffdglecmjbolaaW.PrintLast Go.Proofs.YtffdglecmjbolaaW.PrintMore
set_option linter.unusedVariables false
set_option linter.unusedSimpArgs false
def areaAtOf (l : List S60) (a : Int) : Int := if impl_passageAt.at l a < 0 then 0 else areaOf (rd_T60 l (impl_passageAt.at l a))
theorem specAt_at (l : List S60) (a : Int) (hm : l.length ≤ 9223372036854775807) : ∀ k, l.length < k → spec_l12At.f k l a = some (areaAtOf l a) := by
 intro k hk
 have hr := at_range l a
 simp only [spec_l12At.f, specFind_at l a hm k hk, Option.bind_some, l12Area_eq]
 unfold areaAtOf
 by_cases h : impl_passageAt.at l a < 0
 ·rw [if_neg (by omega), if_pos h]
 ·rw [if_pos (by omega), if_pos (by omega), if_pos (by omega), if_neg h]
theorem implAt_eq (l : List S60) (a : Int) : impl_areaAt.f l a = some (areaAtOf l a) := by
 unfold impl_areaAt.f impl_passageAt.f areaAtOf
 by_cases h : impl_passageAt.at l a < 0
 ·rw [if_pos h, if_pos h]
  first | rfl | (simp [impl_Passage_area.f, wrap64])
 ·rw [if_neg h, if_neg h]
  rfl
theorem areaAt_small {l : List S60} (h : okPasses l = true) (a : Int) : 0 ≤ areaAtOf l a ∧ areaAtOf l a ≤ 160000 := by
 have hr := at_range l a
 unfold areaAtOf
 by_cases h0 : impl_passageAt.at l a < 0
 ·rw [if_pos h0]; omega
 ·rw [if_neg h0]
  exact area_small (okPasses_one h (i := (impl_passageAt.at l a).toNat) (by omega))
end Go.Proofs.Ytffdglecmjbolaa.Pure

/-! PMnMx -/
namespace Go.Proofs.Ytffdglecmjbolaa.Pure
open Go.RowKit Go.Proofs.Ytffdglecmjbolaa.MP Go.Proofs.YtffdglecmjbolaaW.PrintWords Go.Proofs.YtffdglecmjbolaaW.PrintLast Go.Proofs.YtffdglecmjbolaaW.PrintMore
set_option linter.unusedVariables false
set_option linter.unusedSimpArgs false
theorem mx_eq (a b : Int) : mx a b = max a b := by unfold mx; split <;> omega
theorem mn_eq (a b : Int) : mn a b = min a b := by unfold mn; split <;> omega
end Go.Proofs.Ytffdglecmjbolaa.Pure

/-! PMinMax -/
namespace Go.Proofs.Ytffdglecmjbolaa.Pure
open Go.RowKit Go.Proofs.Ytffdglecmjbolaa.MP Go.Proofs.YtffdglecmjbolaaW.PrintWords Go.Proofs.YtffdglecmjbolaaW.PrintLast Go.Proofs.YtffdglecmjbolaaW.PrintMore
set_option linter.unusedVariables false
set_option linter.unusedSimpArgs false
theorem l1Most_eq (a b : Int) : spec_l1Most.f a b = some (max a b) := by
 unfold spec_l1Most.f
 split <;> (congr 1; omega)
end Go.Proofs.Ytffdglecmjbolaa.Pure

/-! PGcd -/
namespace Go.Proofs.Ytffdglecmjbolaa.Pure
open Go.RowKit Go.Proofs.Ytffdglecmjbolaa.MP Go.Proofs.YtffdglecmjbolaaW.PrintWords Go.Proofs.YtffdglecmjbolaaW.PrintLast Go.Proofs.YtffdglecmjbolaaW.PrintMore
set_option linter.unusedVariables false
set_option linter.unusedSimpArgs false
theorem gcd_step (x y : Nat) : Nat.gcd x y = Nat.gcd y (x % y) := by
 rw [Nat.gcd_comm x y, Nat.gcd_rec y x, Nat.gcd_comm]
theorem specGcd_ev (a b : Int) (y : Nat) : ∀ x : Nat, Nat.gcd x y ≠ 0 → Ev (fun k => spec_l9Reduce.l0 k a b (x : Int) (y : Int)) (wrap64 (Int.tdiv a (Nat.gcd x y : Nat)), wrap64 (Int.tdiv b (Nat.gcd x y : Nat))) := by
 induction y using Nat.strongRecOn with
 | ind y ih =>
  intro x hg
  rcases Nat.eq_zero_or_pos y with rfl | h0
  ·rw [Nat.gcd_zero_right] at hg ⊢
   refine Ev.step (f := fun _ => some (wrap64 (Int.tdiv a (x : Nat)), wrap64 (Int.tdiv b (x : Nat)))) (fun k => ?_) (Ev.now _)
   rw [spec_l9Reduce.l0, if_pos (by omega), if_neg (by omega)]
  ·rw [gcd_step] at hg ⊢
   refine Ev.step (f := fun k => spec_l9Reduce.l0 k a b (y : Int) ((x % y : Nat) : Int)) (fun k => ?_) (ih (x % y) (Nat.mod_lt _ h0) y hg)
   rw [spec_l9Reduce.l0, if_neg (by omega), Int.ofNat_tmod]
theorem implGcd_ev (y : Nat) : ∀ x : Nat, x ≤ 9223372036854775807 → y ≤ 9223372036854775807 → Ev (fun k => impl_gcd.l0 k (x : Int) (y : Int)) ((Nat.gcd x y : Nat) : Int) := by
 induction y using Nat.strongRecOn with
 | ind y ih =>
  intro x hx hy
  rcases Nat.eq_zero_or_pos y with rfl | h0
  ·rw [Nat.gcd_zero_right]
   refine Ev.step (f := fun _ => some (x : Int)) (fun k => ?_) (Ev.now _)
   rw [impl_gcd.l0, if_pos (by omega)]
   simp only [impl_absolute.f, mx_eq, Option.bind_some, Option.some.injEq]
   unfold wrap64
   omega
  ·rw [gcd_step]
   have hlt := Nat.mod_lt x h0
   refine Ev.step (f := fun k => impl_gcd.l0 k (y : Int) ((x % y : Nat) : Int)) (fun k => ?_) (ih (x % y) hlt y hy (by omega))
   rw [impl_gcd.l0, if_neg (by omega), Int.ofNat_tmod]
/-- A fraction in its lowest terms. -/
def lowest (s n : Nat) : Int × Int := (wrap64 (Int.tdiv (s : Int) (Nat.gcd s n : Nat)), wrap64 (Int.tdiv (n : Int) (Nat.gcd s n : Nat)))
theorem gcd_ne (s : Nat) {n : Nat} (h : n ≠ 0) : Nat.gcd s n ≠ 0 := fun hg => h (Nat.gcd_eq_zero_iff.1 hg).2
theorem reduce_ev {s n : Nat} (hs : s ≤ 9223372036854775807) (h : n ≠ 0) : Ev (fun k => spec_l9Reduce.f k (s : Int) (n : Int)) (lowest s n) := by
 simp only [spec_l9Reduce.f, l1Most_eq, Option.bind_some]
 rw [show max (s : Int) (wrap64 (-(s : Int))) = (s : Int) by unfold wrap64; omega]
 exact specGcd_ev _ _ n s (gcd_ne s h)
theorem reduced_ev {s n : Nat} (hs : s ≤ 9223372036854775807) (hn : n ≤ 9223372036854775807) (h : n ≠ 0) : Ev (fun k => impl_reduced.f k (s : Int) (n : Int)) (lowest s n) := by
 simp only [impl_reduced.f, impl_gcd.f]
 refine Ev.bind (implGcd_ev n s hs hn) (Ev.ite_neg ?_ (Ev.now _))
 have := gcd_ne s h
 omega
end Go.Proofs.Ytffdglecmjbolaa.Pure

/-! PLegs -/
namespace Go.Proofs.Ytffdglecmjbolaa.Pure
open Go.RowKit Go.Proofs.Ytffdglecmjbolaa.MP Go.Proofs.YtffdglecmjbolaaW.PrintWords Go.Proofs.YtffdglecmjbolaaW.PrintLast Go.Proofs.YtffdglecmjbolaaW.PrintMore
set_option linter.unusedVariables false
set_option linter.unusedSimpArgs false
theorem rdL (l : List S55) (i : Nat) : rd_T55 l (i : Int) = l.getD i z55 := by simp [rd_T55]
def okLeg (x : S55) : Bool := decide (0 ≤ x.f0 ∧ x.f0 ≤ 7) && (decide (0 ≤ x.f1 ∧ x.f1 ≤ 7) && (decide (x.f0 ≠ x.f1) && (decide (1 ≤ x.f2 ∧ x.f2 ≤ 500) && (decide (0 ≤ x.f3 ∧ x.f3 ≤ 359) && decide (-90 ≤ x.f4 ∧ x.f4 ≤ 90)))))
theorem l4Leg_eq (x : S55) : spec_l4Leg.f x.f0 x.f1 x.f2 x.f3 x.f4 = some (okLeg x) := by
 simp only [spec_l4Leg.f, spec_l4Station.f, spec_l2Bearing.f, l1In_eq, Option.bind_some, okLeg]
 by_cases h0 : 0 ≤ x.f0 ∧ x.f0 ≤ 7 <;> by_cases h1 : 0 ≤ x.f1 ∧ x.f1 ≤ 7 <;> by_cases h2 : x.f0 = x.f1 <;> by_cases h3 : 1 ≤ x.f2 ∧ x.f2 ≤ 500 <;> by_cases h4 : 0 ≤ x.f3 ∧ x.f3 ≤ 359 <;> simp [h0, h1, h2, h3, h4]
theorem isLeg_eq (x : S55) : impl_IsLeg.f x.f0 x.f1 x.f2 x.f3 x.f4 = some (okLeg x) := by
 simp only [impl_IsLeg.f, impl_isStation.f, impl_isBearing.f, within_eq, Option.bind_some, okLeg]
 by_cases h0 : 0 ≤ x.f0 ∧ x.f0 ≤ 7 <;> by_cases h1 : 0 ≤ x.f1 ∧ x.f1 ≤ 7 <;> by_cases h2 : x.f0 = x.f1 <;> by_cases h3 : 1 ≤ x.f2 ∧ x.f2 ≤ 500 <;> by_cases h4 : 0 ≤ x.f3 ∧ x.f3 ≤ 359 <;> simp [h0, h1, h2, h3, h4]
def okLegs (l : List S55) : Bool := l.all okLeg && decide (l.length ≤ 12)
theorem l4Legs_ev (l : List S55) (hm : l.length ≤ 9223372036854775807) : Ev (fun k => spec_l4Legs.f k l) (okLegs l) := by
 have h := loopT_ev (fun k i (_ : Unit) => spec_l4Legs.l0 k l i) l.length 0 (fun i (_ : Unit) => if okLeg (l.getD i z55) = true then Sum.inl () else Sum.inr false) (fun _ => decide (l.length ≤ 12)) () ?_ ?_
 ·rw [foldN_all] at h
  exact h
 ·rintro k i - - hi
  cases hp : okLeg (l.getD i z55) with
  | true =>
   refine .inl ⟨(), by simp, ?_⟩
   simp only [spec_l4Legs.l0, rdL, l4Leg_eq, Option.bind_some, hp]
   rw [if_pos (by omega), if_pos (by omega), wrap_up hi hm, if_pos trivial]
  | false =>
   refine .inr ⟨false, by simp, ?_⟩
   simp only [spec_l4Legs.l0, rdL, l4Leg_eq, Option.bind_some, hp]
   rw [if_pos (by omega), if_pos (by omega)]
   rfl
 ·rintro k - -
  simp only [spec_l4Legs.l0]
  rw [if_neg (by omega)]
  simp only [Option.some.injEq, decide_eq_decide]
  omega
theorem areLegs_ev (l : List S55) (hm : l.length ≤ 9223372036854775807) : Ev (fun k => impl_areLegs.f k l) (okLegs l) := by
 simp only [impl_areLegs.f]
 have h := loopT_ev (fun k i (_ : Unit) => impl_areLegs.l0 k l l (l.length : Int) i) l.length 0 (fun i (_ : Unit) => if okLeg (l.getD i z55) = true then Sum.inl () else Sum.inr false) (fun _ => decide (l.length ≤ 12)) () ?_ ?_
 ·rw [foldN_all] at h
  exact h
 ·rintro k i - - hi
  cases hp : okLeg (l.getD i z55) with
  | true =>
   refine .inl ⟨(), by simp, ?_⟩
   simp only [impl_areLegs.l0, rdL, isLeg_eq, Option.bind_some, hp]
   rw [if_pos (by omega), if_pos (by omega), if_pos (by omega), wrap_up hi hm, if_pos trivial]
  | false =>
   refine .inr ⟨false, by simp, ?_⟩
   simp only [impl_areLegs.l0, rdL, isLeg_eq, Option.bind_some, hp]
   rw [if_pos (by omega), if_pos (by omega), if_pos (by omega)]
   rfl
 ·rintro k - -
  simp only [impl_areLegs.l0]
  rw [if_neg (by omega)]
  simp only [Option.some.injEq, decide_eq_decide]
  omega
theorem okLegs_len {l : List S55} (h : okLegs l = true) : l.length ≤ 12 := by
 simp only [okLegs, Bool.and_eq_true, decide_eq_true_eq] at h
 exact h.2
theorem okLegs_at {l : List S55} (h : okLegs l = true) {i : Nat} (hi : i < l.length) : okLeg (l.getD i z55) = true := by
 simp only [okLegs, Bool.and_eq_true, List.all_eq_true] at h
 rw [getD_lt _ _ _ hi]
 exact h.1 _ (List.getElem_mem hi)
theorem okLeg_says {x : S55} (h : okLeg x = true) : (0 ≤ x.f0 ∧ x.f0 ≤ 7) ∧ (0 ≤ x.f1 ∧ x.f1 ≤ 7) ∧ x.f0 ≠ x.f1 ∧ (1 ≤ x.f2 ∧ x.f2 ≤ 500) ∧ (0 ≤ x.f3 ∧ x.f3 ≤ 359) ∧ (-90 ≤ x.f4 ∧ x.f4 ≤ 90) := by
 simpa only [okLeg, Bool.and_eq_true, decide_eq_true_eq] using h
def fromOf (l : List S55) (i : Nat) : Int := (l.getD i z55).f0
def toOf (l : List S55) (i : Nat) : Int := (l.getD i z55).f1
theorem ends_in {l : List S55} (h : okLegs l = true) : ∀ i, i < l.length → (0 ≤ fromOf l i ∧ fromOf l i < 8) ∧ (0 ≤ toOf l i ∧ toOf l i < 8) := by
 intro i hi
 have := okLeg_says (okLegs_at h hi)
 unfold fromOf toOf
 omega
end Go.Proofs.Ytffdglecmjbolaa.Pure

/-! PVolume -/
namespace Go.Proofs.Ytffdglecmjbolaa.Pure
open Go.RowKit Go.Proofs.Ytffdglecmjbolaa.MP Go.Proofs.YtffdglecmjbolaaW.PrintWords Go.Proofs.YtffdglecmjbolaaW.PrintLast Go.Proofs.YtffdglecmjbolaaW.PrintMore
set_option linter.unusedVariables false
set_option linter.unusedSimpArgs false
/-- The sum along the first legs. -/
def volSum (l : List S60) (g : List S55) : Nat → Int
 | 0 => 0
 | i + 1 => volSum l g i + (areaAtOf l (g.getD i z55).f0 + areaAtOf l (g.getD i z55).f1) * (g.getD i z55).f2
theorem vol_part {l : List S60} (h : okPasses l = true) {x : S55} (hx : okLeg x = true) : 0 ≤ (areaAtOf l x.f0 + areaAtOf l x.f1) * x.f2 ∧ (areaAtOf l x.f0 + areaAtOf l x.f1) * x.f2 ≤ 160000000 := by
 have h1 := areaAt_small h x.f0
 have h2 := areaAt_small h x.f1
 have h3 := okLeg_says hx
 have m1 : 0 ≤ (areaAtOf l x.f0 + areaAtOf l x.f1) * x.f2 := Int.mul_nonneg (by omega) (by omega)
 have m2 : (areaAtOf l x.f0 + areaAtOf l x.f1) * x.f2 ≤ 320000 * 500 := Int.mul_le_mul (by omega) (by omega) (by omega) (by omega)
 omega
theorem volSum_small {l : List S60} {g : List S55} (h : okPasses l = true) (hg : okLegs g = true) : ∀ i, i ≤ g.length → 0 ≤ volSum l g i ∧ volSum l g i ≤ 160000000 * (i : Int) := by
 intro i
 induction i with
 | zero => intro _; simp [volSum]
 | succ i ih =>
  intro hi
  have h1 := ih (by omega)
  have h2 := vol_part h (okLegs_at hg (show i < g.length by omega))
  simp only [volSum]
  omega
theorem vol_step {l : List S60} {g : List S55} (h : okPasses l = true) (hg : okLegs g = true) {i : Nat} (hi : i < g.length) : wrap64 (volSum l g i + wrap64 (wrap64 (areaAtOf l (g.getD i z55).f0 + areaAtOf l (g.getD i z55).f1) * (g.getD i z55).f2)) = volSum l g (i + 1) := by
 have h12 := okLegs_len hg
 have h1 := areaAt_small h (g.getD i z55).f0
 have h2 := areaAt_small h (g.getD i z55).f1
 have h3 := vol_part h (okLegs_at hg hi)
 have h4 := volSum_small h hg i (by omega)
 rw [wrap_id (x := areaAtOf l (g.getD i z55).f0 + areaAtOf l (g.getD i z55).f1) (by omega) (by omega), wrap_id (x := (areaAtOf l (g.getD i z55).f0 + areaAtOf l (g.getD i z55).f1) * (g.getD i z55).f2) (by omega) (by omega), wrap_id (by omega) (by omega)]
 rfl
def volAns (l : List S60) (g : List S55) : Int × Int × Bool := if okPasses l = true ∧ okLegs g = true then ((lowest (volSum l g g.length).toNat 2).1, (lowest (volSum l g g.length).toNat 2).2, true) else (0, 0, false)
theorem specVol_ev (l : List S60) (g : List S55) (hm : l.length ≤ 9223372036854775807) (hm2 : g.length ≤ 9223372036854775807) : Ev (fun k => spec_VolumeOf.f k l g) (volAns l g) := by
 have hno : Ev (fun k => spec_VolumeOf.j0 k l g true) (0, 0, false) := Ev.step (f := fun _ => some (0, 0, false)) (fun k => by rw [spec_VolumeOf.j0, if_pos rfl]) (Ev.now _)
 simp only [spec_VolumeOf.f]
 refine Ev.bind (l12Good_ev l hm) ?_
 by_cases h : okPasses l = true
 ·refine Ev.ite_pos h (Ev.bind (l4Legs_ev g hm2) ?_)
  by_cases hg : okLegs g = true
  ·rw [show volAns l g = _ from if_pos ⟨h, hg⟩, hg]
   have h12 := okLegs_len hg
   have h8 := okPasses_len h
   have hs := volSum_small h hg g.length (by omega)
   obtain ⟨K, hK⟩ := reduce_ev (s := (volSum l g g.length).toNat) (n := 2) (by omega) (by decide)
   refine Ev.step (f := fun k => spec_VolumeOf.l0 k l g 0 0) (fun k => by rw [spec_VolumeOf.j0, if_neg (by decide)]) ?_
   refine loopV_ev (fun k i (s : Int) => spec_VolumeOf.l0 k l g s i) g.length (K + l.length + 1) (fun i s => s = volSum l g i) _ 0 rfl ?_ ?_
   ·rintro k i _ hk hi rfl
    refine .inl ⟨volSum l g (i + 1), rfl, ?_⟩
    simp only [spec_VolumeOf.l0, rdL, specAt_at l _ hm k (by omega), Option.bind_some]
    rw [if_pos (by omega), if_pos (by omega), wrap_up hi hm2, vol_step h hg hi]
   ·rintro k _ hk rfl
    have hK2 : spec_l9Reduce.f k (volSum l g g.length) 2 = some (lowest (volSum l g g.length).toNat 2) := by
     have := hK k (by omega)
     rw [Int.toNat_of_nonneg hs.1] at this
     exact this
    simp only [spec_VolumeOf.l0, hK2, Option.bind_some]
    rw [if_neg (by omega)]
  ·rw [show volAns l g = _ from if_neg (fun hh => hg hh.2), show okLegs g = false by simpa using hg]
   exact hno
 ·rw [show volAns l g = _ from if_neg (fun hh => h hh.1)]
  exact Ev.ite_neg h hno
theorem implVol_ev (l : List S60) (g : List S55) (hm : l.length ≤ 9223372036854775807) (hm2 : g.length ≤ 9223372036854775807) : Ev (fun k => impl_VolumeOf.f k l g) (volAns l g) := by
 have hno : Ev (fun k => impl_VolumeOf.j0 k l g true) (0, 0, false) := Ev.step (f := fun _ => some (0, 0, false)) (fun k => by rw [impl_VolumeOf.j0, if_pos rfl]) (Ev.now _)
 simp only [impl_VolumeOf.f]
 refine Ev.bind (arePasses_ev l hm) ?_
 by_cases h : okPasses l = true
 ·refine Ev.ite_pos h (Ev.bind (areLegs_ev g hm2) ?_)
  by_cases hg : okLegs g = true
  ·rw [show volAns l g = _ from if_pos ⟨h, hg⟩, hg]
   have h12 := okLegs_len hg
   have hs := volSum_small h hg g.length (by omega)
   obtain ⟨K, hK⟩ := reduced_ev (s := (volSum l g g.length).toNat) (n := 2) (by omega) (by decide) (by decide)
   refine Ev.step (f := fun k => impl_VolumeOf.l0 k l 0 g (g.length : Int) 0) (fun k => by rw [impl_VolumeOf.j0, if_neg (by decide)]) ?_
   refine loopV_ev (fun k i (s : Int) => impl_VolumeOf.l0 k l s g (g.length : Int) i) g.length K (fun i s => s = volSum l g i) _ 0 rfl ?_ ?_
   ·rintro k i _ hk hi rfl
    refine .inl ⟨volSum l g (i + 1), rfl, ?_⟩
    simp only [impl_VolumeOf.l0, rdL, implAt_eq, Option.bind_some]
    rw [if_pos (by omega), if_pos (by omega), if_pos (by omega), wrap_up hi hm2, vol_step h hg hi]
   ·rintro k _ hk rfl
    have hK2 : impl_reduced.f k (volSum l g g.length) 2 = some (lowest (volSum l g g.length).toNat 2) := by
     have := hK k (by omega)
     rw [Int.toNat_of_nonneg hs.1] at this
     exact this
    simp only [impl_VolumeOf.l0, hK2, Option.bind_some]
    rw [if_neg (by omega)]
  ·rw [show volAns l g = _ from if_neg (fun hh => hg hh.2), show okLegs g = false by simpa using hg]
   exact hno
 ·rw [show volAns l g = _ from if_neg (fun hh => h hh.1)]
  exact Ev.ite_neg h hno
end Go.Proofs.Ytffdglecmjbolaa.Pure

/-! PVolAdd -/
namespace Go.Proofs.Ytffdglecmjbolaa.Pure
open Go.RowKit Go.Proofs.Ytffdglecmjbolaa.MP Go.Proofs.YtffdglecmjbolaaW.PrintWords Go.Proofs.YtffdglecmjbolaaW.PrintLast Go.Proofs.YtffdglecmjbolaaW.PrintMore
set_option linter.unusedVariables false
set_option linter.unusedSimpArgs false
theorem volSum_take (l : List S60) (g : List S55) (k : Nat) : ∀ i, i ≤ k → k ≤ g.length → volSum l (g.take k) i = volSum l g i
 | 0, _, _ => rfl
 | i + 1, h1, h2 => by
  simp only [volSum]
  rw [volSum_take l g k i (by omega) h2]
  have e : (g.take k).getD i z55 = g.getD i z55 := by
   rw [getD_lt _ _ _ (by rw [List.length_take]; omega), getD_lt _ _ _ (by omega), List.getElem_take]
  rw [e]
theorem volSum_drop (l : List S60) (g : List S55) (k : Nat) : ∀ i, k + i ≤ g.length → volSum l g (k + i) = volSum l g k + volSum l (g.drop k) i
 | 0, _ => by simp [volSum]
 | i + 1, h => by
  rw [show k + (i + 1) = k + i + 1 by omega]
  simp only [volSum]
  rw [volSum_drop l g k i (by omega)]
  have e : (g.drop k).getD i z55 = g.getD (k + i) z55 := by
   rw [getD_lt _ _ _ (by rw [List.length_drop]; omega), getD_lt _ _ _ (by omega), List.getElem_drop]
  rw [e]
  omega
theorem okLegs_part {g : List S55} (h : okLegs g = true) (k : Nat) : okLegs (g.take k) = true ∧ okLegs (g.drop k) = true := by
 simp only [okLegs, Bool.and_eq_true, List.all_eq_true, decide_eq_true_eq] at h ⊢
 refine ⟨⟨fun x hx => h.1 x (List.mem_of_mem_take hx), ?_⟩, ⟨fun x hx => h.1 x (List.mem_of_mem_drop hx), ?_⟩⟩
 ·rw [List.length_take]; omega
 ·rw [List.length_drop]; omega
/-- A half, in lowest terms. -/
theorem lowest_two (s : Nat) (h : s ≤ 2000000000) : (lowest s 2).1 * 2 = (s : Int) * (lowest s 2).2 ∧ ((lowest s 2).2 = 1 ∨ (lowest s 2).2 = 2) := by
 unfold lowest
 rcases Nat.mod_two_eq_zero_or_one s with h2 | h2
 ·have hg : Nat.gcd s 2 = 2 := by
   rw [Nat.gcd_comm]
   exact Nat.gcd_eq_left (Nat.dvd_of_mod_eq_zero h2)
  have e1 : Int.tdiv (s : Int) ((2 : Nat) : Int) = (s : Int) / 2 := Int.tdiv_eq_ediv_of_nonneg (by omega)
  rw [hg, e1, wrap_id (x := (s : Int) / 2) (by omega) (by omega), show Int.tdiv ((2 : Nat) : Int) ((2 : Nat) : Int) = 1 from rfl, wrap_id (x := 1) (by omega) (by omega)]
  dsimp only
  omega
 ·have hg : Nat.gcd s 2 = 1 := by
   have hd := Nat.gcd_dvd_right s 2
   have hl := Nat.gcd_dvd_left s 2
   have hle := Nat.le_of_dvd (by decide) hd
   have hp := Nat.gcd_pos_of_pos_right s (show 0 < 2 by decide)
   have h12 : Nat.gcd s 2 = 1 ∨ Nat.gcd s 2 = 2 := by omega
   rcases h12 with e | e
   ·exact e
   ·rw [e] at hl
    omega
  have e1 : Int.tdiv (s : Int) ((1 : Nat) : Int) = (s : Int) := by simp
  rw [hg, e1, wrap_id (x := (s : Int)) (by omega) (by omega), show Int.tdiv ((2 : Nat) : Int) ((1 : Nat) : Int) = 2 from rfl, wrap_id (x := 2) (by omega) (by omega)]
  dsimp only
  omega
theorem vol_adds {l : List S60} {g : List S55} (h : okPasses l = true) (hg : okLegs g = true) (k : Nat) (hk : k ≤ g.length) :
  ∃ a b c d, volAns l (g.take k) = (a, b, true) ∧ volAns l (g.drop k) = (c, d, true) ∧ wrap64 (wrap64 (wrap64 (a * d) + wrap64 (c * b)) * (volAns l g).2.1) = wrap64 (wrap64 ((volAns l g).1 * b) * d) := by
 have h12 := okLegs_len hg
 obtain ⟨h1, h2⟩ := okLegs_part hg k
 have e0 : volAns l g = _ := if_pos ⟨h, hg⟩
 have e1 : volAns l (g.take k) = _ := if_pos ⟨h, h1⟩
 have e2 : volAns l (g.drop k) = _ := if_pos ⟨h, h2⟩
 have hs := volSum_small h hg g.length (Nat.le_refl _)
 have s1 := volSum_small h h1 (g.take k).length (Nat.le_refl _)
 have s2 := volSum_small h h2 (g.drop k).length (Nat.le_refl _)
 have hsum : volSum l g g.length = volSum l (g.take k) (g.take k).length + volSum l (g.drop k) (g.drop k).length := by
  have := volSum_drop l g k (g.length - k) (by omega)
  rw [show k + (g.length - k) = g.length by omega] at this
  rw [this, List.length_drop, List.length_take, Nat.min_eq_left hk, volSum_take l g k k (Nat.le_refl _) hk]
 have l1 : (g.take k).length ≤ 12 := okLegs_len h1
 have l2 : (g.drop k).length ≤ 12 := okLegs_len h2
 refine ⟨_, _, _, _, e1, e2, ?_⟩
 rw [e0]
 dsimp only
 generalize volSum l g g.length = S at hs hsum
 generalize volSum l (g.take k) (g.take k).length = S1 at s1 hsum
 generalize volSum l (g.drop k) (g.drop k).length = S2 at s2 hsum
 obtain ⟨p0, q0⟩ := lowest_two S.toNat (by omega)
 obtain ⟨p1, q1⟩ := lowest_two S1.toNat (by omega)
 obtain ⟨p2, q2⟩ := lowest_two S2.toNat (by omega)
 rw [Int.toNat_of_nonneg hs.1] at p0
 rw [Int.toNat_of_nonneg s1.1] at p1
 rw [Int.toNat_of_nonneg s2.1] at p2
 generalize (lowest S.toNat 2).1 = num at *
 generalize (lowest S.toNat 2).2 = den at *
 generalize (lowest S1.toNat 2).1 = a at *
 generalize (lowest S1.toNat 2).2 = b at *
 generalize (lowest S2.toNat 2).1 = c at *
 generalize (lowest S2.toNat 2).2 = d at *
 have hb : S ≤ 2000000000 ∧ S1 ≤ 2000000000 ∧ S2 ≤ 2000000000 ∧ 0 ≤ S1 ∧ 0 ≤ S2 := by omega
 clear hs s1 s2 e0 e1 e2 h h1 h2 hg hk h12 l1 l2
 unfold wrap64
 rcases q0 with rfl | rfl <;> rcases q1 with rfl | rfl <;> rcases q2 with rfl | rfl <;> omega
end Go.Proofs.Ytffdglecmjbolaa.Pure

/-! PLeast -/
namespace Go.Proofs.Ytffdglecmjbolaa.Pure
open Go.RowKit Go.Proofs.Ytffdglecmjbolaa.MP Go.Proofs.YtffdglecmjbolaaW.PrintWords Go.Proofs.YtffdglecmjbolaaW.PrintLast Go.Proofs.YtffdglecmjbolaaW.PrintMore
set_option linter.unusedVariables false
set_option linter.unusedSimpArgs false
theorem l1Least_eq (a b : Int) : spec_l1Least.f a b = some (min a b) := by
 unfold spec_l1Least.f
 split <;> (congr 1; omega)
end Go.Proofs.Ytffdglecmjbolaa.Pure

/-! PMerge -/
namespace Go.Proofs.Ytffdglecmjbolaa.Pure
open Go.RowKit Go.Proofs.Ytffdglecmjbolaa.MP Go.Proofs.YtffdglecmjbolaaW.PrintWords Go.Proofs.YtffdglecmjbolaaW.PrintLast Go.Proofs.YtffdglecmjbolaaW.PrintMore
set_option linter.unusedVariables false
set_option linter.unusedSimpArgs false
/-- One station more. -/
def mergeStep (a b : List S60) (s : Nat) (out : List S60) : List S60 :=
 if 0 ≤ impl_passageAt.at a (s : Int) then
  if 0 ≤ impl_passageAt.at b (s : Int) then out ++ [⟨(s : Int), min (rd_T60 a (impl_passageAt.at a (s : Int))).f1 (rd_T60 b (impl_passageAt.at b (s : Int))).f1, min (rd_T60 a (impl_passageAt.at a (s : Int))).f2 (rd_T60 b (impl_passageAt.at b (s : Int))).f2, min (rd_T60 a (impl_passageAt.at a (s : Int))).f3 (rd_T60 b (impl_passageAt.at b (s : Int))).f3, min (rd_T60 a (impl_passageAt.at a (s : Int))).f4 (rd_T60 b (impl_passageAt.at b (s : Int))).f4⟩]
  else out ++ [rd_T60 a (impl_passageAt.at a (s : Int))]
 else if 0 ≤ impl_passageAt.at b (s : Int) then out ++ [rd_T60 b (impl_passageAt.at b (s : Int))] else out
def mergeFrom (a b : List S60) : Nat → Nat → List S60 → List S60
 | 0, _, out => out
 | d + 1, s, out => mergeFrom a b d (s + 1) (mergeStep a b s out)
theorem mergeStep_len (a b : List S60) (s : Nat) (out : List S60) : (mergeStep a b s out).length ≤ out.length + 1 := by
 unfold mergeStep
 split <;> split <;> simp
theorem mergeFrom_len (a b : List S60) : ∀ d s out, (mergeFrom a b d s out).length ≤ out.length + d
 | 0, _, _ => Nat.le_refl _
 | d + 1, s, out => by
  have h1 := mergeFrom_len a b d (s + 1) (mergeStep a b s out)
  have h2 := mergeStep_len a b s out
  simp only [mergeFrom]
  omega
theorem specMerge_loop (a b : List S60) (ha : a.length ≤ 9223372036854775807) (hb : b.length ≤ 9223372036854775807) : ∀ d i (out : List S60), i + d = 8 → out.length ≤ i → Ev (fun k => spec_MergePassages.l0 k a b out (i : Int)) (mergeFrom a b d i out, true) := by
 intro d
 induction d with
 | zero =>
  intro i out hi ho
  refine Ev.step (f := fun _ => some (out, true)) (fun k => ?_) (Ev.now _)
  simp only [spec_MergePassages.l0]
  rw [if_neg (by omega)]
 | succ d ih =>
  intro i out hi ho
  have hwr : wrap64 ((i : Int) + 1) = ((i + 1 : Nat) : Int) := by unfold wrap64; omega
  have hlen := mergeStep_len a b i out
  have hnext := ih (i + 1) (mergeStep a b i out) (by omega) (by omega)
  have ra := at_range a (i : Int)
  have rb := at_range b (i : Int)
  simp only [mergeFrom]
  refine Ev.step (f := fun k => (spec_l12Find.f k a (i : Int)).bind fun t => (spec_l12Find.f k b (i : Int)).bind fun t2 => if t ≥ 0 then spec_MergePassages.j2 k a b out (i : Int) t t2 (decide (t2 ≥ 0)) else spec_MergePassages.j2 k a b out (i : Int) t t2 false) (fun k => ?_) (Ev.bind (specFind_ev a _ ha) (Ev.bind (specFind_ev b _ hb) ?_))
  ·simp only [spec_MergePassages.l0]
   rw [if_pos (by omega)]
  ·by_cases h1 : 0 ≤ impl_passageAt.at a (i : Int)
   ·refine Ev.ite_pos h1 ?_
    by_cases h2 : 0 ≤ impl_passageAt.at b (i : Int)
    ·rw [decide_eq_true (show impl_passageAt.at b (i : Int) ≥ 0 from h2)]
     refine Ev.step (fun k => ?_) hnext
     simp only [spec_MergePassages.j2, l1Least_eq, Option.bind_some, if_true, hwr]
     rw [if_pos (by omega), if_pos (by omega), if_pos (by omega), if_pos (by omega), if_pos (by omega)]
     simp only [mergeStep, h1, h2, if_true]
    ·rw [decide_eq_false (show ¬ impl_passageAt.at b (i : Int) ≥ 0 from h2)]
     refine Ev.step (fun k => ?_) hnext
     simp only [spec_MergePassages.j2, Bool.false_eq_true, if_false, hwr]
     rw [if_pos (by omega), if_pos (by omega), if_pos (by omega), if_pos (by omega)]
     simp only [mergeStep, h1, h2, if_true, if_false]
   ·refine Ev.ite_neg h1 ?_
    by_cases h2 : 0 ≤ impl_passageAt.at b (i : Int)
    ·refine Ev.step (fun k => ?_) hnext
     simp only [spec_MergePassages.j2, Bool.false_eq_true, if_false, hwr]
     rw [if_neg (by omega), if_pos (by omega), if_pos (by omega), if_pos (by omega), if_pos (by omega)]
     simp only [mergeStep, h1, h2, if_true, if_false]
    ·refine Ev.step (fun k => ?_) hnext
     simp only [spec_MergePassages.j2, Bool.false_eq_true, if_false, hwr]
     rw [if_neg (by omega), if_neg (by omega)]
     simp only [mergeStep, h1, h2, if_false]
theorem passAt_no {l : List S60} {s : Int} (h : ¬ 0 ≤ impl_passageAt.at l s) : impl_passageAt.f l s = some (0, 0, 0, 0, 0, false) := by
 unfold impl_passageAt.f
 rw [if_pos (by omega)]
theorem passAt_yes {l : List S60} {s : Int} (h : 0 ≤ impl_passageAt.at l s) : impl_passageAt.f l s = some ((rd_T60 l (impl_passageAt.at l s)).f0, (rd_T60 l (impl_passageAt.at l s)).f1, (rd_T60 l (impl_passageAt.at l s)).f2, (rd_T60 l (impl_passageAt.at l s)).f3, (rd_T60 l (impl_passageAt.at l s)).f4, true) := by
 unfold impl_passageAt.f
 rw [if_neg (by omega)]
theorem implMerge_loop (a b : List S60) : ∀ d i (out : List S60), i + d = 8 → out.length ≤ i → Ev (fun k => impl_MergePassages.l0 k a b out (i : Int)) (mergeFrom a b d i out, true) := by
 intro d
 induction d with
 | zero =>
  intro i out hi ho
  refine Ev.step (f := fun _ => some (out, true)) (fun k => ?_) (Ev.now _)
  simp only [impl_MergePassages.l0]
  rw [if_neg (by omega)]
 | succ d ih =>
  intro i out hi ho
  have hwr : wrap64 ((i : Int) + 1) = ((i + 1 : Nat) : Int) := by unfold wrap64; omega
  have hlen := mergeStep_len a b i out
  have hnext := ih (i + 1) (mergeStep a b i out) (by omega) (by omega)
  simp only [mergeFrom]
  by_cases h1 : 0 ≤ impl_passageAt.at a (i : Int)
  ·by_cases h2 : 0 ≤ impl_passageAt.at b (i : Int)
   ·refine Ev.step (f := fun k => impl_MergePassages.j2 k a b out (i : Int) true true (i : Int) true ((rd_T60 a (impl_passageAt.at a (i : Int))).f0) ((rd_T60 a (impl_passageAt.at a (i : Int))).f1) ((rd_T60 a (impl_passageAt.at a (i : Int))).f2) ((rd_T60 a (impl_passageAt.at a (i : Int))).f3) ((rd_T60 a (impl_passageAt.at a (i : Int))).f4) ((rd_T60 b (impl_passageAt.at b (i : Int))).f0) ((rd_T60 b (impl_passageAt.at b (i : Int))).f1) ((rd_T60 b (impl_passageAt.at b (i : Int))).f2) ((rd_T60 b (impl_passageAt.at b (i : Int))).f3) ((rd_T60 b (impl_passageAt.at b (i : Int))).f4)) (fun k => ?_) (Ev.step (fun k => ?_) hnext)
    ·simp only [impl_MergePassages.l0, passAt_yes h1, passAt_yes h2, Option.bind_some]
     rw [if_pos (by omega)]
     first | rfl | (rw [if_pos rfl]) | (rw [if_pos trivial])
    ·simp only [impl_MergePassages.j2, mn_eq, if_true, hwr]
     rw [if_pos (by omega)]
     simp only [mergeStep, h1, h2, if_true]
   ·refine Ev.step (f := fun k => impl_MergePassages.j2 k a b out (i : Int) true false (i : Int) false ((rd_T60 a (impl_passageAt.at a (i : Int))).f0) ((rd_T60 a (impl_passageAt.at a (i : Int))).f1) ((rd_T60 a (impl_passageAt.at a (i : Int))).f2) ((rd_T60 a (impl_passageAt.at a (i : Int))).f3) ((rd_T60 a (impl_passageAt.at a (i : Int))).f4) 0 0 0 0 0) (fun k => ?_) (Ev.step (fun k => ?_) hnext)
    ·simp only [impl_MergePassages.l0, passAt_yes h1, passAt_no h2, Option.bind_some]
     rw [if_pos (by omega)]
     first | rfl | (rw [if_pos rfl]) | (rw [if_pos trivial])
    ·simp only [impl_MergePassages.j2, Bool.false_eq_true, if_false, if_true, hwr]
     rw [if_pos (by omega)]
     simp only [mergeStep, h1, h2, if_true, if_false]
  ·by_cases h2 : 0 ≤ impl_passageAt.at b (i : Int)
   ·refine Ev.step (f := fun k => impl_MergePassages.j2 k a b out (i : Int) false true (i : Int) false 0 0 0 0 0 ((rd_T60 b (impl_passageAt.at b (i : Int))).f0) ((rd_T60 b (impl_passageAt.at b (i : Int))).f1) ((rd_T60 b (impl_passageAt.at b (i : Int))).f2) ((rd_T60 b (impl_passageAt.at b (i : Int))).f3) ((rd_T60 b (impl_passageAt.at b (i : Int))).f4)) (fun k => ?_) (Ev.step (fun k => ?_) hnext)
    ·simp only [impl_MergePassages.l0, passAt_no h1, passAt_yes h2, Option.bind_some]
     rw [if_pos (by omega), if_neg (by decide)]
    ·simp only [impl_MergePassages.j2, Bool.false_eq_true, if_false, if_true, hwr]
     rw [if_pos (by omega)]
     simp only [mergeStep, h1, h2, if_true, if_false]
   ·refine Ev.step (f := fun k => impl_MergePassages.j2 k a b out (i : Int) false false (i : Int) false 0 0 0 0 0 0 0 0 0 0) (fun k => ?_) (Ev.step (fun k => ?_) hnext)
    ·simp only [impl_MergePassages.l0, passAt_no h1, passAt_no h2, Option.bind_some]
     rw [if_pos (by omega), if_neg (by decide)]
    ·simp only [impl_MergePassages.j2, Bool.false_eq_true, if_false, hwr]
     simp only [mergeStep, h1, h2, if_false]
def mergeAns (a b : List S60) : List S60 × Bool := if okPasses a = true ∧ okPasses b = true then (mergeFrom a b 8 0 [], true) else ([], false)
theorem mergeAns_len (a b : List S60) : (mergeAns a b).1.length ≤ 8 := by
 unfold mergeAns
 split
 ·have := mergeFrom_len a b 8 0 []
  simpa using this
 ·simp
theorem specMerge_ev (a b : List S60) (ha : a.length ≤ 9223372036854775807) (hb : b.length ≤ 9223372036854775807) : Ev (fun k => spec_MergePassages.f k a b) (mergeAns a b) := by
 have hno : Ev (fun k => spec_MergePassages.j0 k a b [] true) ([], false) := Ev.step (f := fun _ => some ([], false)) (fun k => by rw [spec_MergePassages.j0, if_pos rfl]) (Ev.now _)
 simp only [spec_MergePassages.f, Option.bind_some]
 refine Ev.bind (l12Good_ev a ha) ?_
 by_cases h : okPasses a = true
 ·refine Ev.ite_pos h (Ev.bind (l12Good_ev b hb) ?_)
  by_cases h2 : okPasses b = true
  ·rw [show mergeAns a b = _ from if_pos ⟨h, h2⟩, h2]
   exact Ev.step (f := fun k => spec_MergePassages.l0 k a b [] ((0 : Nat) : Int)) (fun k => by rw [Bool.not_true, spec_MergePassages.j0, if_neg (by decide)]; rfl) (specMerge_loop a b ha hb 8 0 [] (by omega) (by simp))
  ·rw [show mergeAns a b = _ from if_neg (fun hh => h2 hh.2), show okPasses b = false by simpa using h2]
   exact hno
 ·rw [show mergeAns a b = _ from if_neg (fun hh => h hh.1)]
  exact Ev.ite_neg h hno
theorem implMerge_ev (a b : List S60) (ha : a.length ≤ 9223372036854775807) (hb : b.length ≤ 9223372036854775807) : Ev (fun k => impl_MergePassages.f k a b) (mergeAns a b) := by
 have hno : Ev (fun k => impl_MergePassages.j0 k a b true) ([], false) := Ev.step (f := fun _ => some ([], false)) (fun k => by rw [impl_MergePassages.j0, if_pos rfl]) (Ev.now _)
 simp only [impl_MergePassages.f]
 refine Ev.bind (arePasses_ev a ha) ?_
 by_cases h : okPasses a = true
 ·refine Ev.ite_pos h (Ev.bind (arePasses_ev b hb) ?_)
  by_cases h2 : okPasses b = true
  ·rw [show mergeAns a b = _ from if_pos ⟨h, h2⟩, h2]
   exact Ev.step (f := fun k => impl_MergePassages.l0 k a b [] ((0 : Nat) : Int)) (fun k => by rw [Bool.not_true, impl_MergePassages.j0, if_neg (by decide)]; rfl) (implMerge_loop a b 8 0 [] (by omega) (by simp))
  ·rw [show mergeAns a b = _ from if_neg (fun hh => h2 hh.2), show okPasses b = false by simpa using h2]
   exact hno
 ·rw [show mergeAns a b = _ from if_neg (fun hh => h hh.1)]
  exact Ev.ite_neg h hno
end Go.Proofs.Ytffdglecmjbolaa.Pure

/-! PMergeX -/
namespace Go.Proofs.Ytffdglecmjbolaa.Pure
open Go.RowKit Go.Proofs.Ytffdglecmjbolaa.MP Go.Proofs.YtffdglecmjbolaaW.PrintWords Go.Proofs.YtffdglecmjbolaaW.PrintLast Go.Proofs.YtffdglecmjbolaaW.PrintMore
set_option linter.unusedVariables false
set_option linter.unusedSimpArgs false
def look (l : List S60) (s : Int) : Option S60 := l.find? (fun x => x.f0 == s)
theorem idx_find {α : Type} (p : α → Bool) (z : α) : ∀ (l : List α) (o : Int), 0 ≤ o → (if 0 ≤ idxF p l o then some (l.getD (idxF p l o - o).toNat z) else none) = l.find? p
 | [], o, _ => by simp [idxF]
 | x :: l, o, h => by
  cases hp : p x with
  | true => simp [idxF, hp, h]
  | false =>
   have ih := idx_find p z l (o + 1) (by omega)
   simp only [idxF, hp, Bool.false_eq_true, if_false, List.find?_cons_of_neg (p := p) (a := x) (l := l) (by simp [hp])]
   rw [← ih]
   rcases idxF_range p l (o + 1) with h2 | h2
   ·rw [h2]
    rfl
   ·rw [if_pos (by omega), if_pos (by omega), show (idxF p l (o + 1) - o).toNat = (idxF p l (o + 1) - (o + 1)).toNat + 1 by omega, List.getD_cons_succ]
theorem look_at (l : List S60) (s : Int) : look l s = if 0 ≤ impl_passageAt.at l s then some (rd_T60 l (impl_passageAt.at l s)) else none := by
 have h := idx_find (fun x : S60 => x.f0 == s) z60 l 0 (by omega)
 unfold look
 rw [← h]
 simp only [impl_passageAt.at, rd_T60, Int.sub_zero]
 rfl
def mOpt (s : Int) : Option S60 → Option S60 → Option S60
 | some x, some y => some ⟨s, min x.f1 y.f1, min x.f2 y.f2, min x.f3 y.f3, min x.f4 y.f4⟩
 | some x, none => some x
 | none, some y => some y
 | none, none => none
def mrg (a b : List S60) (s : Nat) : Option S60 := mOpt (s : Int) (look a s) (look b s)
theorem mergeStep_eq (a b : List S60) (s : Nat) (out : List S60) : mergeStep a b s out = out ++ (mrg a b s).toList := by
 unfold mergeStep mrg
 rw [look_at, look_at]
 by_cases ha : 0 ≤ impl_passageAt.at a (s : Int) <;> by_cases hb : 0 ≤ impl_passageAt.at b (s : Int) <;> simp [ha, hb, mOpt]
def tl (m : Nat → Option S60) : Nat → List S60
 | 0 => []
 | n + 1 => tl m n ++ (m n).toList
theorem merge_tl (a b : List S60) : ∀ d s, mergeFrom a b d s (tl (mrg a b) s) = tl (mrg a b) (s + d)
 | 0, s => rfl
 | d + 1, s => by
  simp only [mergeFrom]
  rw [mergeStep_eq, show s + (d + 1) = s + 1 + d by omega, ← merge_tl a b d (s + 1)]
  rfl
theorem merge_is (a b : List S60) : mergeFrom a b 8 0 [] = tl (mrg a b) 8 := by
 have := merge_tl a b 8 0
 simpa [tl] using this
theorem tl_congr {m m' : Nat → Option S60} : ∀ n, (∀ s, s < n → m s = m' s) → tl m n = tl m' n
 | 0, _ => rfl
 | n + 1, h => by
  simp only [tl]
  rw [tl_congr n (fun s hs => h s (by omega)), h n (by omega)]
theorem tl_find {m : Nat → Option S60} (hm : ∀ s x, m s = some x → x.f0 = (s : Int)) : ∀ (n s : Nat), look (tl m n) (s : Int) = if s < n then m s else none
 | 0, s => by simp [look, tl]
 | n + 1, s => by
  have ih := tl_find hm n s
  simp only [look] at ih ⊢
  simp only [tl, List.find?_append]
  rw [ih]
  by_cases h1 : s < n
  ·rw [if_pos h1, if_pos (by omega)]
   cases hs : m s with
   | some x => rfl
   | none =>
    cases hn : m n with
    | none => rfl
    | some y =>
     have := hm n y hn
     have hne : (y.f0 == (s : Int)) = false := beq_eq_false_iff_ne.2 (by omega)
     simp [hne]
  ·rw [if_neg h1]
   by_cases h2 : s = n
   ·subst h2
    rw [if_pos (by omega)]
    cases hs : m s with
    | none => rfl
    | some x => simp [hm s x hs]
   ·rw [if_neg (by omega)]
    cases hn : m n with
    | none => rfl
    | some y =>
     have := hm n y hn
     have hne : (y.f0 == (s : Int)) = false := beq_eq_false_iff_ne.2 (by omega)
     simp [hne]
theorem look_says {l : List S60} {s : Int} {x : S60} (h : look l s = some x) : x ∈ l ∧ x.f0 = s := by
 refine ⟨List.mem_of_find?_eq_some h, ?_⟩
 have := List.find?_some h
 simpa using this
theorem mrg_f0 (a b : List S60) : ∀ s x, mrg a b s = some x → x.f0 = (s : Int) := by
 intro s x h
 unfold mrg at h
 cases ha : look a (s : Int) with
 | some u =>
  cases hb : look b (s : Int) with
  | some v =>
   rw [ha, hb] at h
   simp only [mOpt, Option.some.injEq] at h
   rw [← h]
  | none =>
   rw [ha, hb] at h
   simp only [mOpt, Option.some.injEq] at h
   rw [← h]
   exact (look_says ha).2
 | none =>
  cases hb : look b (s : Int) with
  | some v =>
   rw [ha, hb] at h
   simp only [mOpt, Option.some.injEq] at h
   rw [← h]
   exact (look_says hb).2
  | none =>
   rw [ha, hb] at h
   simp [mOpt] at h
theorem mrg_comm (a b : List S60) (s : Nat) : mrg a b s = mrg b a s := by
 unfold mrg
 cases look a (s : Int) <;> cases look b (s : Int) <;> simp [mOpt, Int.min_comm]
theorem mrg_again (a b : List S60) (s : Nat) (hs : s < 8) : mrg (tl (mrg a b) 8) a s = mrg a b s := by
 have h := tl_find (mrg_f0 a b) 8 s
 rw [if_pos hs] at h
 show mOpt (s : Int) (look (tl (mrg a b) 8) (s : Int)) (look a (s : Int)) = mOpt (s : Int) (look a (s : Int)) (look b (s : Int))
 rw [h]
 show mOpt (s : Int) (mOpt (s : Int) (look a (s : Int)) (look b (s : Int))) (look a (s : Int)) = mOpt (s : Int) (look a (s : Int)) (look b (s : Int))
 cases ha : look a (s : Int) with
 | none => cases hb : look b (s : Int) <;> rfl
 | some u =>
  have hu := (look_says ha).2
  cases hb : look b (s : Int) with
  | some v =>
   simp only [mOpt, Option.some.injEq]
   have e : ∀ x y : Int, min (min x y) x = min x y := fun x y => by omega
   simp only [e]
  | none =>
   have e : ∀ x : Int, min x x = x := fun x => by omega
   obtain ⟨u0, u1, u2, u3, u4⟩ := u
   simp only [mOpt, Option.some.injEq, e]
   simp only at hu
   rw [hu]
theorem okPasses_of {l : List S60} (h : ∀ i, i < l.length → passAt l i = true) : okPasses l = true := by
 unfold okPasses
 refine foldN_inv l.length (fun _ _ => True) (fun r => r = true) ?_ (fun _ _ => rfl) l.length 0 () (by omega) trivial
 intro i _ _ hi
 exact .inl ⟨(), by rw [if_pos (h i hi)], trivial⟩
theorem okPasses_mem {l : List S60} (h : okPasses l = true) {x : S60} (hx : x ∈ l) : okPass x = true := by
 obtain ⟨i, hi, rfl⟩ := List.getElem_of_mem hx
 have := okPasses_one h hi
 rwa [getD_lt _ _ _ hi] at this
theorem okPass_iff (x : S60) : okPass x = true ↔ ((0 ≤ x.f0 ∧ x.f0 ≤ 7) ∧ (0 ≤ x.f1 ∧ x.f1 ≤ 200) ∧ (0 ≤ x.f2 ∧ x.f2 ≤ 200) ∧ (0 ≤ x.f3 ∧ x.f3 ≤ 200) ∧ (0 ≤ x.f4 ∧ x.f4 ≤ 200)) := by
 simp only [okPass, Bool.and_eq_true, decide_eq_true_eq, and_assoc]
theorem mrg_ok {a b : List S60} (ha : okPasses a = true) (hb : okPasses b = true) {s : Nat} (hs : s < 8) {x : S60} (h : mrg a b s = some x) : okPass x = true := by
 unfold mrg at h
 cases ea : look a (s : Int) with
 | some u =>
  have hu := (okPass_iff u).1 (okPasses_mem ha (look_says ea).1)
  cases eb : look b (s : Int) with
  | some v =>
   have hv := (okPass_iff v).1 (okPasses_mem hb (look_says eb).1)
   rw [ea, eb] at h
   simp only [mOpt, Option.some.injEq] at h
   rw [← h, okPass_iff]
   dsimp only
   omega
  | none =>
   rw [ea, eb] at h
   simp only [mOpt, Option.some.injEq] at h
   rw [← h, okPass_iff]
   exact hu
 | none =>
  cases eb : look b (s : Int) with
  | some v =>
   rw [ea, eb] at h
   simp only [mOpt, Option.some.injEq] at h
   rw [← h]
   exact okPasses_mem hb (look_says eb).1
  | none =>
   rw [ea, eb] at h
   simp [mOpt] at h
theorem tl_mem {m : Nat → Option S60} : ∀ n x, x ∈ tl m n → ∃ s, s < n ∧ m s = some x
 | 0, x, h => by simp [tl] at h
 | n + 1, x, h => by
  simp only [tl, List.mem_append, Option.mem_toList] at h
  rcases h with h | h
  ·obtain ⟨s, h1, h2⟩ := tl_mem n x h
   exact ⟨s, by omega, h2⟩
  ·exact ⟨n, by omega, h⟩
theorem tl_sorted {m : Nat → Option S60} (hm : ∀ s x, m s = some x → x.f0 = (s : Int)) : ∀ n, (tl m n).Pairwise (fun x y => x.f0 < y.f0)
 | 0 => List.Pairwise.nil
 | n + 1 => by
  simp only [tl, List.pairwise_append]
  refine ⟨tl_sorted hm n, ?_, ?_⟩
  ·cases m n <;> simp
  ·intro x hx y hy
   obtain ⟨s, h1, h2⟩ := tl_mem n x hx
   have e1 := hm s x h2
   have e2 := hm n y (by simpa using hy)
   omega
theorem merged_ok {a b : List S60} (ha : okPasses a = true) (hb : okPasses b = true) : okPasses (tl (mrg a b) 8) = true := by
 have hs := List.pairwise_iff_getElem.1 (tl_sorted (mrg_f0 a b) 8)
 refine okPasses_of (fun i hi => ?_)
 unfold passAt
 rw [Bool.and_eq_true]
 refine ⟨?_, ?_⟩
 ·rw [getD_lt _ _ _ hi]
  obtain ⟨s, h1, h2⟩ := tl_mem 8 _ (List.getElem_mem hi)
  exact mrg_ok ha hb h1 h2
 ·by_cases h0 : i = 0
  ·simp [h0]
  ·have := hs (i - 1) i (by omega) hi (by omega)
   rw [Bool.or_eq_true]
   refine .inr (decide_eq_true ?_)
   rw [getD_lt _ _ _ hi, getD_lt _ _ _ (by omega)]
   exact this
theorem mergeAns_is {a b : List S60} (ha : okPasses a = true) (hb : okPasses b = true) : mergeAns a b = (tl (mrg a b) 8, true) ∧ mergeAns b a = (tl (mrg a b) 8, true) ∧ mergeAns (tl (mrg a b) 8) a = (tl (mrg a b) 8, true) := by
 have e1 : mergeAns a b = _ := if_pos ⟨ha, hb⟩
 have e2 : mergeAns b a = _ := if_pos ⟨hb, ha⟩
 have e3 : mergeAns (tl (mrg a b) 8) a = _ := if_pos ⟨merged_ok ha hb, ha⟩
 rw [e1, e2, e3, merge_is, merge_is, merge_is]
 refine ⟨rfl, ?_, ?_⟩
 ·rw [tl_congr 8 (fun s _ => mrg_comm b a s)]
 ·rw [tl_congr 8 (fun s hs => mrg_again a b s hs)]
end Go.Proofs.Ytffdglecmjbolaa.Pure

/-! PFitting -/
namespace Go.Proofs.Ytffdglecmjbolaa.Pure
open Go.RowKit Go.Proofs.Ytffdglecmjbolaa.MP Go.Proofs.YtffdglecmjbolaaW.PrintWords Go.Proofs.YtffdglecmjbolaaW.PrintLast Go.Proofs.YtffdglecmjbolaaW.PrintMore
set_option linter.unusedVariables false
set_option linter.unusedSimpArgs false
def fits (x : S60) (a b : Int) : Bool := decide (wrap64 (x.f1 + x.f2) ≥ a) && decide (wrap64 (x.f3 + x.f4) ≥ b)
theorem fits_eq (x : S60) (a b : Int) : impl_Passage_fits.f x.f0 x.f1 x.f2 x.f3 x.f4 a b = some (fits x a b) := by
 unfold impl_Passage_fits.f fits
 by_cases h : wrap64 (x.f1 + x.f2) ≥ a
 ·rw [if_pos h, decide_eq_true h, Bool.true_and]
 ·rw [if_neg h, decide_eq_false h, Bool.false_and]
def fitStep (l : List S60) (a b : Int) (i : Nat) (s : List Int) : List Int ⊕ (List Int × Bool) := .inl (if fits (l.getD i z60) a b = true then s ++ [(l.getD i z60).f0] else s)
def fitAnswer (l : List S60) (a b : Int) : List Int × Bool := if okPasses l = true ∧ ¬ a < 1 ∧ ¬ b < 1 then foldN (fitStep l a b) (fun s => (s, true)) l.length 0 [] else ([], false)
theorem fitAnswer_len (l : List S60) (a b : Int) : (fitAnswer l a b).1.length ≤ 8 := by
 unfold fitAnswer
 split
 ·rename_i h
  have h8 := okPasses_len h.1
  refine foldN_inv l.length (fun i (s : List Int) => s.length ≤ i) (fun (r : List Int × Bool) => r.1.length ≤ 8) ?_ ?_ l.length 0 [] (by omega) (by simp)
  ·intro i s hs hi
   refine .inl ⟨_, rfl, ?_⟩
   split
   ·rw [List.length_append, List.length_singleton]; omega
   ·omega
  ·intro s hs
   exact Nat.le_trans hs h8
 ·simp
theorem fit_len {l : List S60} {a b : Int} {i : Nat} {s : List Int} (hs : s.length ≤ i) : (if fits (l.getD i z60) a b = true then s ++ [(l.getD i z60).f0] else s).length ≤ i + 1 := by
 split
 ·rw [List.length_append, List.length_singleton]; omega
 ·omega
theorem specFitting_ev (l : List S60) (a b : Int) (hm : l.length ≤ 9223372036854775807) : Ev (fun k => spec_FittingStations.f k l a b) (fitAnswer l a b) := by
 have hno : Ev (fun k => spec_FittingStations.j0 k l a b [] true) ([], false) := Ev.step (f := fun _ => some ([], false)) (fun k => by rw [spec_FittingStations.j0, if_pos rfl]) (Ev.now _)
 simp only [spec_FittingStations.f, Option.bind_some]
 refine Ev.bind (l12Good_ev l hm) ?_
 unfold fitAnswer
 by_cases h : okPasses l = true
 ·refine Ev.ite_pos h ?_
  by_cases ha : a < 1
  ·rw [if_neg (fun hh => hh.2.1 ha)]
   exact Ev.ite_pos ha hno
  ·refine Ev.ite_neg ha ?_
   by_cases hb : b < 1
   ·rw [if_neg (fun hh => hh.2.2 hb), decide_eq_true hb]
    exact hno
   ·rw [if_pos ⟨h, ha, hb⟩, decide_eq_false hb]
    have h8 := okPasses_len h
    refine Ev.step (f := fun k => spec_FittingStations.l0 k l a b [] 0) (fun k => by rw [spec_FittingStations.j0, if_neg (by decide)]) ?_
    refine loopN_ev (fun k i (s : List Int) => spec_FittingStations.l0 k l a b s i) l.length 0 (fun i s => s.length ≤ i) (fitStep l a b) (fun s => (s, true)) [] (by simp) ?_ ?_
    ·rintro k i s - hi hs
     refine .inl ⟨_, rfl, fit_len hs, ?_⟩
     simp only [spec_FittingStations.l0, rdA]
     rw [if_pos (by omega), if_pos (by omega), wrap_up hi hm]
     by_cases h1 : wrap64 ((l.getD i z60).f1 + (l.getD i z60).f2) ≥ a
     ·by_cases h2 : wrap64 ((l.getD i z60).f3 + (l.getD i z60).f4) ≥ b
      ·rw [if_pos h1, if_pos h2, if_pos (by omega), if_pos (show fits (l.getD i z60) a b = true by unfold fits; rw [decide_eq_true h1, decide_eq_true h2]; rfl)]
      ·rw [if_pos h1, if_neg h2, if_neg (show ¬ fits (l.getD i z60) a b = true by unfold fits; rw [decide_eq_false h2, Bool.and_false]; decide)]
     ·rw [if_neg h1, if_neg (show ¬ fits (l.getD i z60) a b = true by unfold fits; rw [decide_eq_false h1, Bool.false_and]; decide)]
    ·rintro k s - -
     simp only [spec_FittingStations.l0]
     rw [if_neg (by omega)]
 ·rw [if_neg (fun hh => h hh.1)]
  exact Ev.ite_neg h hno
theorem implFitting_ev (l : List S60) (a b : Int) (hm : l.length ≤ 9223372036854775807) : Ev (fun k => impl_FittingStations.f k l a b) (fitAnswer l a b) := by
 have hno : Ev (fun k => impl_FittingStations.j0 k l a b true) ([], false) := Ev.step (f := fun _ => some ([], false)) (fun k => by rw [impl_FittingStations.j0, if_pos rfl]) (Ev.now _)
 simp only [impl_FittingStations.f]
 refine Ev.bind (arePasses_ev l hm) ?_
 unfold fitAnswer
 by_cases h : okPasses l = true
 ·refine Ev.ite_pos h ?_
  by_cases ha : a < 1
  ·rw [if_neg (fun hh => hh.2.1 ha)]
   exact Ev.ite_pos ha hno
  ·refine Ev.ite_neg ha ?_
   by_cases hb : b < 1
   ·rw [if_neg (fun hh => hh.2.2 hb), decide_eq_true hb]
    exact hno
   ·rw [if_pos ⟨h, ha, hb⟩, decide_eq_false hb]
    have h8 := okPasses_len h
    refine Ev.step (f := fun k => impl_FittingStations.l0 k a b [] l (l.length : Int) 0) (fun k => by rw [impl_FittingStations.j0, if_neg (by decide)]) ?_
    refine loopN_ev (fun k i (s : List Int) => impl_FittingStations.l0 k a b s l (l.length : Int) i) l.length 0 (fun i s => s.length ≤ i) (fitStep l a b) (fun s => (s, true)) [] (by simp) ?_ ?_
    ·rintro k i s - hi hs
     refine .inl ⟨_, rfl, fit_len hs, ?_⟩
     simp only [impl_FittingStations.l0, rdA, fits_eq, Option.bind_some]
     rw [if_pos (by omega), if_pos (by omega), if_pos (by omega), wrap_up hi hm]
     cases hf : fits (l.getD i z60) a b with
     | true => rw [if_pos rfl, if_pos (by omega), if_pos rfl]
     | false => rw [if_neg (by decide), if_neg (by decide)]
    ·rintro k s - -
     simp only [impl_FittingStations.l0]
     rw [if_neg (by omega)]
 ·rw [if_neg (fun hh => h hh.1)]
  exact Ev.ite_neg h hno
end Go.Proofs.Ytffdglecmjbolaa.Pure

/-! PFitMono -/
namespace Go.Proofs.Ytffdglecmjbolaa.Pure
open Go.RowKit Go.Proofs.Ytffdglecmjbolaa.MP Go.Proofs.YtffdglecmjbolaaW.PrintWords Go.Proofs.YtffdglecmjbolaaW.PrintLast Go.Proofs.YtffdglecmjbolaaW.PrintMore
set_option linter.unusedVariables false
set_option linter.unusedSimpArgs false
theorem fit_filter (l : List S60) (a b : Int) : ∀ d i (s : List Int), i + d = l.length → foldN (fitStep l a b) (fun s => (s, true)) d i s = (s ++ ((l.drop i).filter (fun x => fits x a b)).map (fun x => x.f0), true) := by
 intro d
 induction d with
 | zero =>
  intro i s hi
  have : l.drop i = [] := List.drop_eq_nil_of_le (by omega)
  simp [foldN, this]
 | succ d ih =>
  intro i s hi
  have hil : i < l.length := by omega
  have e : l.drop i = l.getD i z60 :: l.drop (i + 1) := by rw [getD_lt _ _ _ hil, List.drop_eq_getElem_cons hil]
  rw [e]
  simp only [foldN, fitStep]
  rw [ih (i + 1) _ (by omega)]
  cases hf : fits (l.getD i z60) a b with
  | true => simp only [if_true, List.filter_cons, hf, List.map_cons, List.append_assoc, List.singleton_append]
  | false => simp only [Bool.false_eq_true, if_false, List.filter_cons, hf]
theorem fit_is {l : List S60} {a b : Int} (h : okPasses l = true ∧ ¬ a < 1 ∧ ¬ b < 1) : fitAnswer l a b = ((l.filter (fun x => fits x a b)).map (fun x => x.f0), true) := by
 have e : fitAnswer l a b = _ := if_pos h
 rw [e, fit_filter l a b l.length 0 [] (by omega)]
 simp
theorem fit_mono {l : List S60} {a b : Int} (h : okPasses l = true ∧ ¬ a < 1 ∧ ¬ b < 1) (h2 : a ≤ 1000) : (fitAnswer l (wrap64 (a + 1)) b).2 = true ∧ ∀ x ∈ (fitAnswer l (wrap64 (a + 1)) b).1, x ∈ (fitAnswer l a b).1 := by
 have hw : wrap64 (a + 1) = a + 1 := wrap_id (by omega) (by omega)
 rw [hw, fit_is (a := a + 1) ⟨h.1, by omega, h.2.2⟩, fit_is h]
 refine ⟨rfl, fun x hx => ?_⟩
 simp only [List.mem_map, List.mem_filter] at hx ⊢
 obtain ⟨y, ⟨h1, h3⟩, h4⟩ := hx
 refine ⟨y, ⟨h1, ?_⟩, h4⟩
 simp only [fits, Bool.and_eq_true, decide_eq_true_eq] at h3 ⊢
 exact ⟨by omega, h3.2⟩
end Go.Proofs.Ytffdglecmjbolaa.Pure

/-! PMean -/
namespace Go.Proofs.Ytffdglecmjbolaa.Pure
open Go.RowKit Go.Proofs.Ytffdglecmjbolaa.MP Go.Proofs.YtffdglecmjbolaaW.PrintWords Go.Proofs.YtffdglecmjbolaaW.PrintLast Go.Proofs.YtffdglecmjbolaaW.PrintMore
set_option linter.unusedVariables false
set_option linter.unusedSimpArgs false
/-- The sum of the first areas. -/
def areaSum (l : List S60) : Nat → Int
 | 0 => 0
 | i + 1 => areaSum l i + areaOf (l.getD i z60)
theorem areaSum_small {l : List S60} (h : okPasses l = true) : ∀ i, i ≤ l.length → 0 ≤ areaSum l i ∧ areaSum l i ≤ 160000 * (i : Int) := by
 intro i
 induction i with
 | zero => intro _; simp [areaSum]
 | succ i ih =>
  intro hi
  have h1 := ih (by omega)
  have h2 := area_small (okPasses_one h (show i < l.length by omega))
  simp only [areaSum]
  omega
def meanAnswer (l : List S60) : Int × Int × Bool := if okPasses l = true ∧ l.length ≠ 0 then ((lowest (areaSum l l.length).toNat l.length).1, (lowest (areaSum l l.length).toNat l.length).2, true) else (0, 0, false)
theorem specMean_ev (l : List S60) (hm : l.length ≤ 9223372036854775807) : Ev (fun k => spec_MeanArea.f k l) (meanAnswer l) := by
 simp only [spec_MeanArea.f]
 refine Ev.bind (l12Good_ev l hm) ?_
 unfold meanAnswer
 by_cases h : okPasses l = true
 ·refine Ev.ite_pos h ?_
  by_cases h2 : l.length = 0
  ·rw [if_neg (fun hh => hh.2 h2)]
   refine Ev.step (f := fun _ => some (0, 0, false)) (fun k => ?_) (Ev.now _)
   rw [spec_MeanArea.j0, if_pos (by simp [h2])]
  ·rw [if_pos ⟨h, h2⟩]
   have h8 := okPasses_len h
   obtain ⟨K, hK⟩ := reduce_ev (s := (areaSum l l.length).toNat) (n := l.length) (by have := areaSum_small h l.length (by omega); omega) h2
   refine Ev.step (f := fun k => spec_MeanArea.l0 k l 0 0) (fun k => by rw [spec_MeanArea.j0, if_neg (fun hh => h2 (by have := beq_iff_eq.1 hh; omega))]) ?_
   refine loopV_ev (fun k i (s : Int) => spec_MeanArea.l0 k l s i) l.length K (fun i s => s = areaSum l i) _ 0 rfl ?_ ?_
   ·rintro k i _ - hi rfl
    have hs := areaSum_small h i (by omega)
    have ha := area_small (okPasses_one h hi)
    refine .inl ⟨areaSum l (i + 1), rfl, ?_⟩
    simp only [spec_MeanArea.l0, rdA, l12Area_eq, Option.bind_some]
    rw [if_pos (by omega), if_pos (by omega), wrap_up hi hm, show wrap64 (areaSum l i + areaOf (l.getD i z60)) = areaSum l (i + 1) by simp only [areaSum]; unfold wrap64; omega]
   ·rintro k _ hk rfl
    have hs := areaSum_small h l.length (by omega)
    have hK2 := hK k hk
    rw [Int.toNat_of_nonneg hs.1] at hK2
    simp only [spec_MeanArea.l0, hK2, Option.bind_some]
    rw [if_neg (by omega)]
 ·rw [if_neg (fun hh => h hh.1)]
  refine Ev.ite_neg h (Ev.step (f := fun _ => some (0, 0, false)) (fun k => ?_) (Ev.now _))
  rw [spec_MeanArea.j0, if_pos rfl]
theorem implMean_ev (l : List S60) (hm : l.length ≤ 9223372036854775807) : Ev (fun k => impl_MeanArea.f k l) (meanAnswer l) := by
 simp only [impl_MeanArea.f]
 refine Ev.bind (arePasses_ev l hm) ?_
 unfold meanAnswer
 by_cases h : okPasses l = true
 ·refine Ev.ite_pos h ?_
  by_cases h2 : l.length = 0
  ·rw [if_neg (fun hh => hh.2 h2)]
   refine Ev.step (f := fun _ => some (0, 0, false)) (fun k => ?_) (Ev.now _)
   rw [impl_MeanArea.j0, if_pos (by simp [h2])]
  ·rw [if_pos ⟨h, h2⟩]
   have h8 := okPasses_len h
   obtain ⟨K, hK⟩ := reduced_ev (s := (areaSum l l.length).toNat) (n := l.length) (by have := areaSum_small h l.length (by omega); omega) hm h2
   refine Ev.step (f := fun k => impl_MeanArea.l0 k l 0 l (l.length : Int) 0) (fun k => by rw [impl_MeanArea.j0, if_neg (fun hh => h2 (by have := beq_iff_eq.1 hh; omega))]) ?_
   refine loopV_ev (fun k i (s : Int) => impl_MeanArea.l0 k l s l (l.length : Int) i) l.length K (fun i s => s = areaSum l i) _ 0 rfl ?_ ?_
   ·rintro k i _ - hi rfl
    have hs := areaSum_small h i (by omega)
    have ha := area_small (okPasses_one h hi)
    refine .inl ⟨areaSum l (i + 1), rfl, ?_⟩
    simp only [impl_MeanArea.l0, rdA, area_eq, Option.bind_some]
    rw [if_pos (by omega), if_pos (by omega), if_pos (by omega), wrap_up hi hm, show wrap64 (areaSum l i + areaOf (l.getD i z60)) = areaSum l (i + 1) by simp only [areaSum]; unfold wrap64; omega]
   ·rintro k _ hk rfl
    have hs := areaSum_small h l.length (by omega)
    have hK2 := hK k hk
    rw [Int.toNat_of_nonneg hs.1] at hK2
    simp only [impl_MeanArea.l0, hK2, Option.bind_some]
    rw [if_neg (by omega)]
 ·rw [if_neg (fun hh => h hh.1)]
  refine Ev.ite_neg h (Ev.step (f := fun _ => some (0, 0, false)) (fun k => ?_) (Ev.now _))
  rw [impl_MeanArea.j0, if_pos rfl]
end Go.Proofs.Ytffdglecmjbolaa.Pure

/-! PWidest -/
namespace Go.Proofs.Ytffdglecmjbolaa.Pure
open Go.RowKit Go.Proofs.Ytffdglecmjbolaa.MP Go.Proofs.YtffdglecmjbolaaW.PrintWords Go.Proofs.YtffdglecmjbolaaW.PrintLast Go.Proofs.YtffdglecmjbolaaW.PrintMore
set_option linter.unusedVariables false
set_option linter.unusedSimpArgs false
def Widest (l : List S60) (n : Nat) (x : S60) : Prop := (∃ j, j < l.length ∧ l.getD j z60 = x) ∧ ∀ i, i < n → areaOf (l.getD i z60) ≤ areaOf x
theorem widest_loop {l : List S60} (hm : l.length ≤ 9223372036854775807) : ∀ d i (x : S60), i + d = l.length → Widest l i x → ∃ y, Ev (fun k => impl_WidestPassage.l0 k l (l.length : Int) (i : Int) x.f0 x.f1 x.f2 x.f3 x.f4) (y.f0, true) ∧ Widest l l.length y := by
 intro d
 induction d with
 | zero =>
  intro i x hi hw
  obtain rfl : i = l.length := by omega
  refine ⟨x, Ev.step (fun k => by rw [impl_WidestPassage.l0]) (Ev.ite_neg (by omega) (Ev.now _)), hw⟩
 | succ d ih =>
  intro i x hi hw
  have hil : i < l.length := by omega
  by_cases hc : areaOf (l.getD i z60) > areaOf x
  ·obtain ⟨y, h1, h2⟩ := ih (i + 1) (l.getD i z60) (by omega) ⟨⟨i, hil, rfl⟩, fun j hj => by
    by_cases e : j = i
    ·subst e; exact Int.le_refl _
    ·have := hw.2 j (by omega)
     omega⟩
   refine ⟨y, Ev.step (fun k => by rw [impl_WidestPassage.l0]) ?_, h2⟩
   refine Ev.ite_pos (by omega) (Ev.ite_pos (by omega) (Ev.ite_pos (by omega) ?_))
   simp only [rdA, area_eq, Option.bind_some]
   rw [wrap_up hil hm]
   exact Ev.ite_pos hc h1
  ·obtain ⟨y, h1, h2⟩ := ih (i + 1) x (by omega) ⟨hw.1, fun j hj => by
    by_cases e : j = i
    ·subst e; omega
    ·exact hw.2 j (by omega)⟩
   refine ⟨y, Ev.step (fun k => by rw [impl_WidestPassage.l0]) ?_, h2⟩
   refine Ev.ite_pos (by omega) (Ev.ite_pos (by omega) (Ev.ite_pos (by omega) ?_))
   simp only [rdA, area_eq, Option.bind_some]
   rw [wrap_up hil hm]
   exact Ev.ite_neg hc h1
theorem widest_ev {l : List S60} (hm : l.length ≤ 9223372036854775807) (h : okPasses l = true) (hn : l.length ≠ 0) : ∃ y, Ev (fun k => impl_WidestPassage.f k l) (y.f0, true) ∧ Widest l l.length y := by
 obtain ⟨y, h1, h2⟩ := widest_loop hm l.length 0 (l.getD 0 z60) (by omega) ⟨⟨0, by omega, rfl⟩, fun i hi => by omega⟩
 refine ⟨y, ?_, h2⟩
 simp only [impl_WidestPassage.f]
 refine Ev.bind (arePasses_ev l hm) (Ev.ite_pos h ?_)
 refine Ev.step (fun k => by rw [impl_WidestPassage.j0]) ?_
 refine Ev.ite_neg (fun hh => hn (by have := beq_iff_eq.1 hh; omega)) (Ev.ite_pos (by omega) ?_)
 have e : ∀ k, impl_WidestPassage.l0 k l (l.length : Int) 0 (rd_T60 l 0).f0 (rd_T60 l 0).f1 (rd_T60 l 0).f2 (rd_T60 l 0).f3 (rd_T60 l 0).f4 = impl_WidestPassage.l0 k l (l.length : Int) ((0 : Nat) : Int) (l.getD 0 z60).f0 (l.getD 0 z60).f1 (l.getD 0 z60).f2 (l.getD 0 z60).f3 (l.getD 0 z60).f4 := fun k => by
  have := rdA l 0
  rw [show ((0 : Nat) : Int) = 0 from rfl] at this
  rw [this]; rfl
 simp only [e]
 exact h1
/-- Stations rise. -/
theorem rises {l : List S60} (h : okPasses l = true) : ∀ d i, i + d + 1 < l.length + 1 → i + d < l.length → 0 < d → (l.getD i z60).f0 < (l.getD (i + d) z60).f0 := by
 intro d
 induction d with
 | zero => intro i _ _ h0; omega
 | succ d ih =>
  intro i h1 h2 _
  have hs := okPasses_at h (i + (d + 1)) h2
  simp only [passAt, Bool.and_eq_true, Bool.or_eq_true, decide_eq_true_eq, beq_iff_eq] at hs
  have h3 := hs.2.resolve_left (by omega)
  rw [show i + (d + 1) - 1 = i + d by omega] at h3
  by_cases e : d = 0
  ·subst e; exact h3
  ·exact Int.lt_trans (ih i (by omega) (by omega) (by omega)) h3
theorem idx_first {α : Type} (p : α → Bool) (z : α) : ∀ (l : List α) (o : Int) (j : Nat), j < l.length → p (l.getD j z) = true → (∀ i, i < j → p (l.getD i z) = false) → idxF p l o = o + j
 | [], _, j, h, _, _ => by simp at h
 | x :: l, o, 0, _, h1, _ => by
  simp only [List.getD_cons_zero] at h1
  simp [idxF, h1]
 | x :: l, o, j + 1, h, h1, h2 => by
  have h0 := h2 0 (by omega)
  simp only [List.getD_cons_zero] at h0
  simp only [idxF, h0, Bool.false_eq_true, if_false]
  rw [idx_first p z l (o + 1) j (by simpa using h) (by simpa using h1) (fun i hi => by simpa using h2 (i + 1) (by omega))]
  omega
theorem at_own {l : List S60} (h : okPasses l = true) {j : Nat} (hj : j < l.length) : impl_passageAt.at l (l.getD j z60).f0 = (j : Int) := by
 unfold impl_passageAt.at
 rw [idx_first _ z60 l 0 j hj (by simp) (fun i hi => ?_)]
 ·omega
 ·have := rises h (j - i) i (by omega) (by omega) (by omega)
  rw [show i + (j - i) = j by omega] at this
  exact beq_eq_false_iff_ne.2 (by omega)
theorem areaSum_most {l : List S60} {m : Int} (h : ∀ i, i < l.length → areaOf (l.getD i z60) ≤ m) : ∀ i, i ≤ l.length → areaSum l i ≤ m * (i : Int)
 | 0, _ => by simp [areaSum]
 | i + 1, hi => by
  have h1 := areaSum_most h i (by omega)
  have h2 := h i (by omega)
  simp only [areaSum]
  have : m * ((i + 1 : Nat) : Int) = m * (i : Int) + m := by rw [Int.natCast_add, Int.mul_add]; simp
  omega
/-- The widest area is no smaller than the mean. -/
theorem mean_le {l : List S60} (h : okPasses l = true) (hn : l.length ≠ 0) {y : S60} (hy : Widest l l.length y) : areaAtOf l y.f0 = areaOf y ∧ (0 ≤ y.f0 ∧ y.f0 ≤ 7) ∧ wrap64 (areaOf y * (meanAnswer l).2.1) ≥ (meanAnswer l).1 ∧ (meanAnswer l).2.2 = true := by
 obtain ⟨⟨j, hj, rfl⟩, hmax⟩ := hy
 have h8 := okPasses_len h
 have hat := at_own h hj
 have hone := okPasses_one h hj
 have harea := area_small hone
 refine ⟨?_, ?_, ?_⟩
 ·unfold areaAtOf
  rw [hat, if_neg (by omega), rdA]
 ·simp only [okPass, Bool.and_eq_true, decide_eq_true_eq] at hone
  exact hone.1.1.1.1
 have e : meanAnswer l = ((lowest (areaSum l l.length).toNat l.length).1, (lowest (areaSum l l.length).toNat l.length).2, true) := if_pos ⟨h, hn⟩
 rw [e]
 refine ⟨?_, rfl⟩
 have hs := areaSum_small h l.length (Nat.le_refl _)
 have hm := areaSum_most hmax l.length (Nat.le_refl _)
 dsimp only
 generalize hS : (areaSum l l.length).toNat = s
 have hse : areaSum l l.length = (s : Int) := by omega
 rw [hse] at hs hm
 have hsb : s ≤ 1280000 := by omega
 generalize l.length = n at *
 generalize areaOf (l.getD j z60) = A at *
 have hg := gcd_ne s hn
 have d1 : Nat.gcd s n ∣ s := Nat.gcd_dvd_left s n
 have d2 : Nat.gcd s n ∣ n := Nat.gcd_dvd_right s n
 unfold lowest
 dsimp only
 generalize Nat.gcd s n = g at *
 obtain ⟨u, rfl⟩ := d1
 obtain ⟨v, rfl⟩ := d2
 have hgp : 0 < g := Nat.pos_of_ne_zero hg
 have e1 : Int.tdiv ((g * u : Nat) : Int) (g : Int) = (u : Int) := by
  rw [Int.natCast_mul, Int.mul_tdiv_cancel_left _ (by omega)]
 have e2 : Int.tdiv ((g * v : Nat) : Int) (g : Int) = (v : Int) := by
  rw [Int.natCast_mul, Int.mul_tdiv_cancel_left _ (by omega)]
 have hu : u ≤ g * u := Nat.le_mul_of_pos_left u hgp
 have hv : v ≤ g * v := Nat.le_mul_of_pos_left v hgp
 rw [e1, e2, wrap_id (x := (u : Int)) (by omega) (by omega), wrap_id (x := (v : Int)) (by omega) (by omega)]
 have hAv0 : 0 ≤ A * (v : Int) := Int.mul_nonneg harea.1 (by omega)
 have hAv1 : A * (v : Int) ≤ 160000 * 8 := Int.mul_le_mul harea.2 (by omega) (by omega) (by omega)
 rw [wrap_id (x := A * (v : Int)) (by omega) (by omega)]
 have hle : (u : Int) * (g : Int) ≤ A * (v : Int) * (g : Int) := by
  have : A * ((g * v : Nat) : Int) = A * (v : Int) * (g : Int) := by rw [Int.natCast_mul, Int.mul_assoc, Int.mul_comm (g : Int) (v : Int)]
  rw [← this]
  have : ((g * u : Nat) : Int) = (u : Int) * (g : Int) := by rw [Int.natCast_mul, Int.mul_comm]
  rw [← this]
  exact hm
 exact Int.le_of_mul_le_mul_right hle (by omega)
end Go.Proofs.Ytffdglecmjbolaa.Pure

/-! PVInts -/
namespace Go.Proofs.Ytffdglecmjbolaa.Pure
open Go.RowKit Go.Proofs.Ytffdglecmjbolaa.MP Go.Proofs.YtffdglecmjbolaaW.PrintWords Go.Proofs.YtffdglecmjbolaaW.PrintLast Go.Proofs.YtffdglecmjbolaaW.PrintMore
set_option linter.unusedVariables false
set_option linter.unusedSimpArgs false
theorem vInts_ev (l : List Int) (hm : l.length ≤ 9223372036854775807) : Ev (fun k => laws_vInts.f k l l) true := by
 simp only [laws_vInts.f]
 refine Ev.ite_pos (by trivial) ?_
 refine loopV_ev (fun k i (_ : Unit) => laws_vInts.l0 k l l i) l.length 0 (fun _ _ => True) true () trivial ?_ ?_
 ·rintro k i - - hi -
  refine .inl ⟨(), trivial, ?_⟩
  simp only [laws_vInts.l0]
  rw [if_pos (by omega), if_pos (by omega), if_pos (by omega), if_pos trivial, wrap_up hi hm]
 ·rintro k - - -
  simp only [laws_vInts.l0]
  rw [if_neg (by omega)]
end Go.Proofs.Ytffdglecmjbolaa.Pure

/-! PVWithin -/
namespace Go.Proofs.Ytffdglecmjbolaa.Pure
open Go.RowKit Go.Proofs.Ytffdglecmjbolaa.MP Go.Proofs.YtffdglecmjbolaaW.PrintWords Go.Proofs.YtffdglecmjbolaaW.PrintLast Go.Proofs.YtffdglecmjbolaaW.PrintMore
set_option linter.unusedVariables false
set_option linter.unusedSimpArgs false
theorem vHas_ev (l : List Int) (hm : l.length ≤ 9223372036854775807) (x : Int) : Ev (fun k => laws_vHas.f k l x) (decide (x ∈ l)) := by
 simp only [laws_vHas.f]
 have key : ∀ d i, i + d = l.length → Ev (fun k => laws_vHas.l0 k l x (i : Int)) (decide (x ∈ l.drop i)) := by
  intro d
  induction d with
  | zero =>
   intro i hi
   have : l.drop i = [] := List.drop_eq_nil_of_le (by omega)
   rw [this, decide_eq_false (by simp)]
   refine Ev.step (fun k => by rw [laws_vHas.l0]) ?_
   exact Ev.ite_neg (by omega) (Ev.now _)
  | succ d ih =>
   intro i hi
   have hil : i < l.length := by omega
   have h := ih (i + 1) (by omega)
   refine Ev.step (fun k => by rw [laws_vHas.l0]) ?_
   refine Ev.ite_pos (by omega) (Ev.ite_pos (by omega) ?_)
   rw [rd_nat, getD_lt _ _ _ hil, wrap_up hil hm, List.drop_eq_getElem_cons hil]
   by_cases hx : l[i] = x
   ·rw [decide_eq_true (by simp [hx])]
    exact Ev.ite_pos hx (Ev.now _)
   ·rw [show decide (x ∈ l[i] :: l.drop (i + 1)) = decide (x ∈ l.drop (i + 1)) from decide_eq_decide.2 ⟨fun h => (List.mem_cons.1 h).resolve_left (fun e => hx e.symm), fun h => List.mem_cons_of_mem _ h⟩]
    exact Ev.ite_neg hx h
 have := key l.length 0 (by omega)
 simpa using this
theorem vWithin_ev (a b : List Int) (ha : a.length ≤ 9223372036854775807) (hb : b.length ≤ 9223372036854775807) (h : ∀ x ∈ a, x ∈ b) : Ev (fun k => laws_vWithin.f k a b) true := by
 simp only [laws_vWithin.f]
 have key : ∀ d i, i + d = a.length → Ev (fun k => laws_vWithin.l0 k a b (i : Int)) true := by
  intro d
  induction d with
  | zero =>
   intro i hi
   refine Ev.step (fun k => by rw [laws_vWithin.l0]) ?_
   exact Ev.ite_neg (by omega) (Ev.now _)
  | succ d ih =>
   intro i hi
   have hil : i < a.length := by omega
   refine Ev.step (fun k => by rw [laws_vWithin.l0]) ?_
   refine Ev.ite_pos (by omega) (Ev.ite_pos (by omega) ?_)
   rw [rd_nat, getD_lt _ _ _ hil, wrap_up hil ha]
   have hv := vHas_ev b hb a[i]
   rw [decide_eq_true (h _ (List.getElem_mem hil))] at hv
   exact Ev.bind hv (Ev.ite_pos rfl (ih (i + 1) (by omega)))
 exact key a.length 0 (by omega)
end Go.Proofs.Ytffdglecmjbolaa.Pure
