/- The plain part of the law FnPlans: what the program's and the reference's functions answer. -/
import Derived.Test.YtckidmhkhlbkeaaMPx3
import Derived.Test.YtckidmhkhlbkeaaMPx0
import Derived.Test.YtckidmhkhlbkeaaMPx6
import Derived.Test.YtckidmhkhlbkeaaMPx7
import Derived.Test.YtckidmhkhlbkeaaMPx8
import Derived.Test.YtckidmhkhlbkeaaMPx2
import Derived.Laws.Strings
import Derived.Test.YtckidmhkhlbkeaaMPx4
import Derived.Test.YtckidmhkhlbkeaaMPx5
namespace Go.Proofs.Ytckidmhkhlbkeaa.Pure
open Go.RowKit Go.Proofs.Ytckidmhkhlbkeaa.MP Go.Proofs.YtckidmhkhlbkeaaW.PrintWords Go.Proofs.YtckidmhkhlbkeaaW.PrintLast
set_option linter.unusedVariables false
set_option linter.unusedSimpArgs false

theorem within_eq (a b c : Int) : impl_within.f a b c = some (decide (b ≤ a ∧ a ≤ c)) := by
 unfold impl_within.f
 by_cases h : a ≥ b
 ·rw [if_pos h]; simp [show b ≤ a from h]
 ·rw [if_neg h]; simp [show ¬ b ≤ a from h]
theorem l1In_eq (a b c : Int) : spec_l1In.f a b c = some (decide (b ≤ a ∧ a ≤ c)) := by
 unfold spec_l1In.f
 by_cases h : a ≥ b
 ·rw [if_pos h]; simp [show b ≤ a from h]
 ·rw [if_neg h]; simp [show ¬ b ≤ a from h]
theorem wrap_id {x : Int} (h0 : -9223372036854775808 ≤ x) (h1 : x ≤ 9223372036854775807) : wrap64 x = x := by
 unfold wrap64
 omega
theorem wrap_up {i : Nat} {n : Nat} (h : i < n) (hn : n ≤ 9223372036854775807) : wrap64 ((i : Int) + 1) = ((i + 1 : Nat) : Int) := by
 unfold wrap64
 omega

theorem Ev.ite_pos {α : Type} {c : Prop} [Decidable c] {g g' : Nat → Option α} {r : α} (hc : c) (h : Ev g r) : Ev (fun k => if c then g k else g' k) r := by
 simpa only [if_pos hc] using h
theorem Ev.ite_neg {α : Type} {c : Prop} [Decidable c] {g g' : Nat → Option α} {r : α} (hc : ¬ c) (h : Ev g' r) : Ev (fun k => if c then g k else g' k) r := by
 simpa only [if_neg hc] using h
theorem Ev.past {α : Type} {g : Nat → Option α} {r : α} (d : Nat) (h : ∀ k, d < k → g k = some r) : Ev g r := ⟨d + 1, fun k hk => h k (by omega)⟩
theorem Ev.eq {α : Type} {g : Nat → Option α} {r : α} (h : ∀ k, g k = some r) : Ev g r := ⟨0, fun k _ => h k⟩
theorem Ev.bindc {α β : Type} {x : Option α} {f : Nat → α → Option β} {a : α} {r : β} (h : x = some a) (k : Ev (fun n => f n a) r) : Ev (fun n => x.bind (f n)) r := by
 subst h
 exact k

def foldN {σ ρ : Type} (step : Nat → σ → σ ⊕ ρ) (fin : σ → ρ) : Nat → Nat → σ → ρ
 | 0, _, s => fin s
 | n + 1, i, s => match step i s with
  | .inl s' => foldN step fin n (i + 1) s'
  | .inr r => r
theorem loopN {σ ρ : Type} (L : Nat → Int → σ → Option ρ) (n K : Nat) (Inv : Nat → σ → Prop) (step : Nat → σ → σ ⊕ ρ) (fin : σ → ρ)
  (h1 : ∀ k i s, K ≤ k → i < n → Inv i s → (∃ s', step i s = .inl s' ∧ Inv (i + 1) s' ∧ L (k + 1) (i : Int) s = L k ((i + 1 : Nat) : Int) s') ∨ (∃ r, step i s = .inr r ∧ L (k + 1) (i : Int) s = some r))
  (h2 : ∀ k s, K ≤ k → Inv n s → L (k + 1) (n : Int) s = some (fin s)) : ∀ d i s k, i + d = n → K + d < k → Inv i s → L k (i : Int) s = some (foldN step fin d i s) := by
 intro d
 induction d with
 | zero =>
  intro i s k hi hk hv
  obtain ⟨k, rfl⟩ : ∃ m, k = m + 1 := ⟨k - 1, by omega⟩
  obtain rfl : i = n := by omega
  exact h2 k s (by omega) hv
 | succ d ih =>
  intro i s k hi hk hv
  obtain ⟨k, rfl⟩ : ∃ m, k = m + 1 := ⟨k - 1, by omega⟩
  simp only [foldN]
  rcases h1 k i s (by omega) (by omega) hv with ⟨s', hs, hv', hL⟩ | ⟨r, hs, hL⟩
  ·rw [hs, hL]
   exact ih (i + 1) s' k (by omega) (by omega) hv'
  ·rw [hs, hL]
theorem loopN_ev {σ ρ : Type} (L : Nat → Int → σ → Option ρ) (n K : Nat) (Inv : Nat → σ → Prop) (step : Nat → σ → σ ⊕ ρ) (fin : σ → ρ) (s : σ) (hv : Inv 0 s)
  (h1 : ∀ k i s, K ≤ k → i < n → Inv i s → (∃ s', step i s = .inl s' ∧ Inv (i + 1) s' ∧ L (k + 1) (i : Int) s = L k ((i + 1 : Nat) : Int) s') ∨ (∃ r, step i s = .inr r ∧ L (k + 1) (i : Int) s = some r))
  (h2 : ∀ k s, K ≤ k → Inv n s → L (k + 1) (n : Int) s = some (fin s)) : Ev (fun k => L k 0 s) (foldN step fin n 0 s) :=
 Ev.past (K + n) fun k hk => loopN L n K Inv step fin h1 h2 n 0 s k (by omega) hk hv
theorem loopT_ev {σ ρ : Type} (L : Nat → Int → σ → Option ρ) (n K : Nat) (step : Nat → σ → σ ⊕ ρ) (fin : σ → ρ) (s : σ)
  (h1 : ∀ k i s, K ≤ k → i < n → (∃ s', step i s = .inl s' ∧ L (k + 1) (i : Int) s = L k ((i + 1 : Nat) : Int) s') ∨ (∃ r, step i s = .inr r ∧ L (k + 1) (i : Int) s = some r))
  (h2 : ∀ k s, K ≤ k → L (k + 1) (n : Int) s = some (fin s)) : Ev (fun k => L k 0 s) (foldN step fin n 0 s) :=
 loopN_ev L n K (fun _ _ => True) step fin s trivial (fun k i s hk hi _ => (h1 k i s hk hi).imp (fun ⟨s', a, b⟩ => ⟨s', a, trivial, b⟩) id) (fun k s hk _ => h2 k s hk)
theorem loopV_ev {σ ρ : Type} (L : Nat → Int → σ → Option ρ) (n K : Nat) (Inv : Nat → σ → Prop) (r : ρ) (s : σ) (hv : Inv 0 s)
  (h1 : ∀ k i s, K ≤ k → i < n → Inv i s → (∃ s', Inv (i + 1) s' ∧ L (k + 1) (i : Int) s = L k ((i + 1 : Nat) : Int) s') ∨ L (k + 1) (i : Int) s = some r)
  (h2 : ∀ k s, K ≤ k → Inv n s → L (k + 1) (n : Int) s = some r) : Ev (fun k => L k 0 s) r := by
 have key : ∀ d i s k, i + d = n → K + d < k → Inv i s → L k (i : Int) s = some r := by
  intro d
  induction d with
  | zero =>
   intro i s k hi hk hv
   obtain ⟨k, rfl⟩ : ∃ m, k = m + 1 := ⟨k - 1, by omega⟩
   obtain rfl : i = n := by omega
   exact h2 k s (by omega) hv
  | succ d ih =>
   intro i s k hi hk hv
   obtain ⟨k, rfl⟩ : ∃ m, k = m + 1 := ⟨k - 1, by omega⟩
   rcases h1 k i s (by omega) (by omega) hv with ⟨s', hv', hL⟩ | hL
   ·rw [hL]
    exact ih (i + 1) s' k (by omega) (by omega) hv'
   ·exact hL
 exact Ev.past (K + n) fun k hk => key n 0 s k (by omega) hk hv
theorem getD_lt {α : Type} (l : List α) (d : α) (i : Nat) (h : i < l.length) : l.getD i d = l[i] := by simp [List.getD_eq_getElem?_getD, List.getElem?_eq_getElem h]
def Bytes (l : List Int) : Prop := ∀ x ∈ l, 0 ≤ x ∧ x ≤ 255
theorem bytes_of {l : List Int} (h : ∀ x ∈ l, (Lit.int .u8 x).wf = true) : Bytes l := fun x hx => by
 have := h x hx
 simp [Lit.wf, IntKind.min, IntKind.max, IntKind.signed, IntKind.bits] at this
 omega
theorem bits_255 (x : Int) : 0 ≤ Go.bits .and .u64 x 255 ∧ Go.bits .and .u64 x 255 ≤ 255 := by
 have h : ((BitVec.ofInt 64 x) &&& (BitVec.ofInt 64 255)).toNat ≤ 255 := by
  rw [BitVec.toNat_and]
  exact Nat.le_trans Nat.and_le_right (by decide)
 have e : Go.bits .and .u64 x 255 = IntKind.u64.wrap (((BitVec.ofInt 64 x) &&& (BitVec.ofInt 64 255)).toNat : Int) := rfl
 have hw : ∀ y : Int, IntKind.u64.wrap y = y % 18446744073709551616 := fun y => by simp [IntKind.wrap, IntKind.signed, IntKind.bits]
 rw [e, hw]
 omega
theorem cur_next {l : List Int} (hb : Bytes l) {i s : Int} (h0 : 0 ≤ i) (h1 : i ≤ 1000000000) : ∃ v t, spec_l1Cur_next.f l i s = some (v, i + 1, t) ∧ 0 ≤ v ∧ v ≤ 255 := by
 have hw : wrap64 (i + 1) = i + 1 := wrap_id (by omega) (by omega)
 have hv : i < l.length → 0 ≤ wrap64 (rd l i) ∧ wrap64 (rd l i) ≤ 255 := fun h => by
  have hi : i.toNat < l.length := by omega
  have h2 := hb _ (List.getElem_mem hi)
  have h3 : rd l i = l[i.toNat] := by simp only [rd]; exact getD_lt l 0 i.toNat hi
  rw [h3, wrap_id (by omega) (by omega)]
  exact h2
 have hc : ∀ x : Int, 0 ≤ wrap64 (Go.bits .and .u64 x 255) ∧ wrap64 (Go.bits .and .u64 x 255) ≤ 255 := fun x => by
  have := bits_255 x
  rw [wrap_id (by omega) (by omega)]
  exact this
 unfold spec_l1Cur_next.f
 simp only [hw]
 by_cases ha : i < l.length
 ·rw [if_pos ha, if_pos h0, if_pos (by omega)]
  exact ⟨_, _, rfl, hv ha⟩
 ·rw [if_neg ha, if_neg (by omega)]
  exact ⟨_, _, rfl, hc _⟩
theorem cur_pick {l : List Int} (hb : Bytes l) {i s n : Int} (h0 : 0 ≤ i) (h1 : i ≤ 999999990) (hn : n ≤ 1000000) : ∃ v j t, spec_l1Cur_pick.f l i s n = some (v, j, t) ∧ i ≤ j ∧ j ≤ i + 2 ∧ 0 ≤ v ∧ (v < n ∨ v = 0) := by
 unfold spec_l1Cur_pick.f
 by_cases c : n ≤ 1
 ·rw [if_pos c]
  exact ⟨_, _, _, rfl, by omega, by omega, by omega, .inr rfl⟩
 ·rw [if_neg c]
  obtain ⟨v, t, e, g0, g1⟩ := cur_next (s := s) hb h0 (by omega)
  rw [e]
  simp only [Option.bind_some]
  by_cases c2 : n > 200
  ·rw [if_pos c2]
   obtain ⟨u, t2, e2, g2, g3⟩ := cur_next (i := i + 1) (s := t) hb (by omega) (by omega)
   rw [e2]
   simp only [Option.bind_some]
   rw [if_neg (by omega)]
   have h1 : wrap64 (v * 256) = v * 256 := wrap_id (by omega) (by omega)
   have h2 : wrap64 (v * 256 + u) = v * 256 + u := wrap_id (by omega) (by omega)
   rw [h1, h2]
   exact ⟨_, _, _, rfl, by omega, by omega, Int.tmod_nonneg _ (by omega), .inl (Int.tmod_lt_of_pos _ (by omega))⟩
  ·rw [if_neg c2, if_neg (by omega)]
   exact ⟨_, _, _, rfl, by omega, by omega, Int.tmod_nonneg _ (by omega), .inl (Int.tmod_lt_of_pos _ (by omega))⟩
theorem cur_among {l : List Int} (hb : Bytes l) {i s : Int} (xs : List Int) (h0 : 0 ≤ i) (h1 : i ≤ 999999990) (hx : 0 < xs.length) (hx2 : xs.length ≤ 1000000) : ∃ v j t, spec_l1Cur_among.f l i s xs = some (v, j, t) ∧ i ≤ j ∧ j ≤ i + 2 ∧ v ∈ xs := by
 obtain ⟨v, j, t, e, g0, g1, g2, g3⟩ := cur_pick (s := s) (n := (xs.length : Int)) hb h0 h1 (by omega)
 unfold spec_l1Cur_among.f
 rw [e]
 simp only [Option.bind_some]
 rw [if_pos g2, if_pos (by omega)]
 refine ⟨_, _, _, rfl, g0, g1, ?_⟩
 have hi : v.toNat < xs.length := by omega
 have h3 : rd xs v = xs[v.toNat] := by simp only [rd]; exact getD_lt xs 0 v.toNat hi
 rw [h3]
 exact List.getElem_mem hi
theorem cur_cut {b v : Int} {n : Int} (h : 0 ≤ v) (hn : v < n ∨ v = 0) (hb : 0 ≤ b) (hb2 : b ≤ 1000) (hn2 : n ≤ 1000) : wrap64 (b + wrap64 (Int.tdiv v 11)) = b + v / 11 := by
 have e : Int.tdiv v 11 = v / 11 := Int.tdiv_eq_ediv_of_nonneg h
 rw [e, wrap_id (x := v / 11) (by omega) (by omega), wrap_id (by omega) (by omega)]
def Dr {α : Type} (g : Nat → Option α) (P : α → Prop) : Prop := ∃ r, Ev g r ∧ P r
theorem Dr.now {α : Type} {P : α → Prop} (r : α) (h : P r) : Dr (fun _ => some r) P := ⟨r, Ev.now r, h⟩
theorem Dr.none {α : Type} {P : α → Prop} (h : False) : Dr (fun _ => (none : Option α)) P := h.elim
theorem Dr.ite {α : Type} {c : Prop} [Decidable c] {g g' : Nat → Option α} {P : α → Prop} (h : c → Dr g P) (h' : ¬ c → Dr g' P) : Dr (fun k => if c then g k else g' k) P := by
 by_cases hc : c
 ·obtain ⟨r, h1, h2⟩ := h hc
  exact ⟨r, Ev.ite_pos hc h1, h2⟩
 ·obtain ⟨r, h1, h2⟩ := h' hc
  exact ⟨r, Ev.ite_neg hc h1, h2⟩
theorem Dr.step {α : Type} {g f : Nat → Option α} {P : α → Prop} (he : ∀ k, g (k + 1) = f k) (h : Dr f P) : Dr g P := by
 obtain ⟨r, h1, h2⟩ := h
 exact ⟨r, Ev.step he h1, h2⟩
theorem Dr.bind {α β : Type} {g : Nat → Option α} {f : Nat → α → Option β} {Q : α → Prop} {P : β → Prop} (h : Dr g Q) (k : ∀ r, Q r → Dr (fun n => f n r) P) : Dr (fun n => (g n).bind (f n)) P := by
 obtain ⟨a, h1, h2⟩ := h
 obtain ⟨b, h3, h4⟩ := k a h2
 exact ⟨b, Ev.bind h1 h3, h4⟩
theorem Dr.bindc {α β : Type} {x : Option α} {f : Nat → α → Option β} {P : β → Prop} {a : α} (h : x = some a) (k : Dr (fun n => f n a) P) : Dr (fun n => x.bind (f n)) P := by
 subst h
 exact k
theorem Dr.mono {α : Type} {g : Nat → Option α} {P Q : α → Prop} (h : Dr g P) (hpq : ∀ r, P r → Q r) : Dr g Q := by
 obtain ⟨r, h1, h2⟩ := h
 exact ⟨r, h1, hpq r h2⟩
theorem Dr.pick {α : Type} {l : List Int} (hb : Bytes l) {i s n : Int} {f : Nat → Int × Int × Int → Option α} {P : α → Prop} (h0 : 0 ≤ i) (h1 : i ≤ 999999990) (hn : n ≤ 1000000) (k : ∀ v j t, i ≤ j → j ≤ i + 2 → 0 ≤ v → (v < n ∨ v = 0) → Dr (fun m => f m (v, j, t)) P) : Dr (fun m => (spec_l1Cur_pick.f l i s n).bind (f m)) P := by
 obtain ⟨v, j, t, e, g0, g1, g2, g3⟩ := cur_pick (s := s) hb h0 h1 hn
 exact Dr.bindc e (k v j t g0 g1 g2 g3)
theorem Dr.among {α : Type} {l : List Int} (hb : Bytes l) {i s : Int} {xs : List Int} {f : Nat → Int × Int × Int → Option α} {P : α → Prop} (h0 : 0 ≤ i) (h1 : i ≤ 999999990) (hx : 0 < xs.length) (hx2 : xs.length ≤ 1000000) (k : ∀ v j t, i ≤ j → j ≤ i + 2 → v ∈ xs → Dr (fun m => f m (v, j, t)) P) : Dr (fun m => (spec_l1Cur_among.f l i s xs).bind (f m)) P := by
 obtain ⟨v, j, t, e, g0, g1, g2⟩ := cur_among (s := s) hb xs h0 h1 hx hx2
 exact Dr.bindc e (k v j t g0 g1 g2)
theorem snoc_len {α : Type} (l : List α) (x : α) : (l ++ [x]).length = l.length + 1 := by simp
theorem wrap_pred (d : Nat) (h : d < 1000000) : wrap64 (((d + 1 : Nat) : Int) - 1) = (d : Int) := by
 unfold wrap64
 omega
theorem wrap_succ (d : Nat) (h : d < 1000000) : wrap64 ((d : Int) + 1) = ((d + 1 : Nat) : Int) := by
 unfold wrap64
 omega
theorem Dr.of {α : Type} {l : List Int} (hb : Bytes l) {i s : Int} {xs : List ByteArray} {f : Nat → ByteArray × Int × Int → Option α} {P : α → Prop} (h0 : 0 ≤ i) (h1 : i ≤ 999999990) (hx : 0 < xs.length) (hx2 : xs.length ≤ 1000000) (k : ∀ v j t, i ≤ j → j ≤ i + 2 → v ∈ xs → Dr (fun m => f m (v, j, t)) P) : Dr (fun m => (spec_l1Cur_of.f l i s xs).bind (f m)) P := by
 obtain ⟨v, j, t, e, g0, g1, g2, g3⟩ := cur_pick (s := s) (n := (xs.length : Int)) hb h0 h1 (by omega)
 have hi : v.toNat < xs.length := by omega
 refine Dr.bindc (a := (xs[v.toNat], j, t)) ?_ (k _ j t g0 g1 (List.getElem_mem hi))
 unfold spec_l1Cur_of.f
 rw [e]
 simp only [Option.bind_some]
 rw [if_pos g2, if_pos (by omega)]
 simp [rdOf, List.getD_eq_getElem?_getD, List.getElem?_eq_getElem hi]
abbrev DM := fun (r : List S44 × Int × Int) => r.1.length ≤ 13 ∧ 0 ≤ r.2.1 ∧ r.2.1 ≤ 1000
theorem dr_marks1 {l : List Int} (hb : Bytes l) : ∀ (d q : Nat) (xs : List S44) (i s : Int), q + d = 14 → xs.length = q → 0 ≤ i → i + 2 * d ≤ 990 → q ≤ 13 → Dr (fun k => spec_l1Cur_marks13.l1 k xs (q : Int) l i s) DM := by
 intro d
 induction d with
 | zero => intro q xs i s hq hx h0 h1 h2; omega
 | succ d ih =>
  intro q xs i s hq hx h0 h1 h2
  refine Dr.step (fun k => by rw [spec_l1Cur_marks13.l1]) ?_
  refine Dr.pick hb (by omega) (by omega) (by omega) (fun v j t g0 g1 g2 g3 => ?_)
  dsimp only
  rw [wrap_id (x := 12 + v) (by omega) (by omega), wrap_succ q (by omega)]
  refine Dr.ite (fun c => ?_) (fun c => Dr.now _ ⟨by dsimp only; omega, by dsimp only; omega, by dsimp only; omega⟩)
  refine Dr.ite (fun _ => ?_) (fun _ => Dr.none (by omega))
  exact ih (q + 1) _ j t (by omega) (by rw [snoc_len]; omega) (by omega) (by omega) (by omega)
theorem dr_marks0 {l : List Int} (hb : Bytes l) : ∀ (d : Nat) (xs : List S44) (c i s : Int), xs.length + d ≤ 7 → 0 ≤ i → i + 6 * d ≤ 900 → Dr (fun k => spec_l1Cur_marks13.l0 k xs c (d : Int) l i s) DM := by
 intro d
 induction d with
 | zero =>
  intro xs c i s hd h0 h1
  refine Dr.step (fun k => by rw [spec_l1Cur_marks13.l0]) ?_
  refine Dr.ite (fun c => by omega) (fun _ => ?_)
  refine Dr.ite (fun c => Dr.now _ ⟨by dsimp only; omega, by dsimp only; omega, by dsimp only; omega⟩) (fun hne => ?_)
  refine Dr.pick hb (by omega) (by omega) (by omega) (fun v j t g0 g1 g2 g3 => ?_)
  dsimp only
  refine Dr.ite (fun _ => Dr.ite (fun _ => ?_) (fun h => Dr.none (by omega))) (fun h => Dr.none (by omega))
  refine Dr.pick hb (by omega) (by omega) (by omega) (fun v2 j2 t2 g4 g5 g6 g7 => ?_)
  dsimp only
  refine Dr.ite (fun _ => ?_) (fun _ => Dr.ite (fun _ => ?_) (fun _ => Dr.ite (fun _ => ?_) (fun _ => Dr.ite (fun _ => ?_) (fun _ => ?_))))
  ·refine Dr.of hb (by omega) (by omega) (by simp) (by simp) (fun v3 j3 t3 g8 g9 _ => ?_)
   exact Dr.now _ ⟨by simp only [List.length_set]; omega, by dsimp only; omega, by dsimp only; omega⟩
  ·refine Dr.among hb (by omega) (by omega) (by simp) (by simp) (fun v3 j3 t3 g8 g9 _ => ?_)
   exact Dr.now _ ⟨by simp only [List.length_set]; omega, by dsimp only; omega, by dsimp only; omega⟩
  ·refine Dr.among hb (by omega) (by omega) (by simp) (by simp) (fun v3 j3 t3 g8 g9 _ => ?_)
   exact Dr.now _ ⟨by simp only [List.length_set]; omega, by dsimp only; omega, by dsimp only; omega⟩
  ·exact dr_marks1 hb 14 0 [] j2 t2 (by omega) rfl (by omega) (by omega) (by omega)
  ·exact Dr.now _ ⟨by simp only [List.length_set]; omega, by dsimp only; omega, by dsimp only; omega⟩
 | succ d ih =>
  intro xs c i s hd h0 h1
  refine Dr.step (fun k => by rw [spec_l1Cur_marks13.l0]) ?_
  refine Dr.ite (fun _ => ?_) (fun c => by omega)
  refine Dr.among hb (by omega) (by omega) (by simp) (by simp) (fun v j t g0 g1 _ => ?_)
  refine Dr.among hb (by dsimp only; omega) (by dsimp only; omega) (by simp) (by simp) (fun v2 j2 t2 g2 g3 _ => ?_)
  dsimp only at g2 g3 ⊢
  refine Dr.ite (fun _ => ?_) (fun _ => Dr.none (by omega))
  refine Dr.pick hb (by omega) (by omega) (by omega) (fun v3 j3 t3 g4 g5 g6 g7 => ?_)
  dsimp only
  rw [wrap_pred d (by omega)]
  exact ih _ _ _ _ (by rw [snoc_len]; omega) (by omega) (by omega)
theorem dr_marks {l : List Int} (hb : Bytes l) (s : Int) : Dr (fun k => spec_l1Cur_marks13.f k l 0 s) DM := by
 simp only [spec_l1Cur_marks13.f]
 refine Dr.pick hb (by omega) (by omega) (by omega) (fun v j t g0 g1 g2 g3 => ?_)
 dsimp only
 obtain ⟨n, hn⟩ : ∃ n : Nat, v = (n : Int) := ⟨v.toNat, by omega⟩
 rw [hn]
 exact dr_marks0 hb n [] 65 j t (by simp; omega) (by omega) (by omega)
theorem cut_len {xs : List Int} {b v : Int} (h : 0 ≤ v) (hn : v < 24 ∨ v = 0) (hb : 1 ≤ b) (hl : b + 2 ≤ xs.length) (hb2 : b ≤ 100) : 0 ≤ wrap64 (b + wrap64 (Int.tdiv v 11)) ∧ wrap64 (b + wrap64 (Int.tdiv v 11)) ≤ xs.length ∧ 0 < (xs.take (wrap64 (b + wrap64 (Int.tdiv v 11))).toNat).length ∧ (xs.take (wrap64 (b + wrap64 (Int.tdiv v 11))).toNat).length ≤ xs.length := by
 rw [cur_cut (n := 24) h hn (by omega) (by omega) (by omega)]
 have h1 : v / 11 ≤ 2 := by omega
 have h2 : 0 ≤ v / 11 := by omega
 refine ⟨by omega, by omega, ?_, ?_⟩ <;> rw [List.length_take] <;> omega
theorem Dr.scale13 {α : Type} {l : List Int} (hb : Bytes l) {i s : Int} {f : Nat → Int × Int × Int → Option α} {P : α → Prop} (h0 : 0 ≤ i) (h1 : i ≤ 999999) (k : ∀ v j t, i ≤ j → j ≤ i + 4 → Dr (fun m => f m (v, j, t)) P) : Dr (fun m => (spec_l1Cur_scale13.f l i s).bind (f m)) P := by
 obtain ⟨v, j, t, e, g0, g1, g2, g3⟩ := cur_pick (s := s) (n := 24) hb h0 (by omega) (by omega)
 obtain ⟨c1, c2, c3, c4⟩ := cut_len (xs := [1, 3, 5, 10, 10, 60, 500, 0, 501]) (b := 7) g2 g3 (by omega) (by simp) (by omega)
 obtain ⟨v2, j2, t2, e2, g4, g5, _⟩ := cur_among (s := t) hb (([1, 3, 5, 10, 10, 60, 500, 0, 501] : List Int).take (wrap64 (7 + wrap64 (Int.tdiv v 11))).toNat) (show 0 ≤ j by omega) (by omega) c3 (Nat.le_trans c4 (by decide))
 refine Dr.bindc (a := (v2, j2, t2)) ?_ (k v2 j2 t2 (by omega) (by omega))
 unfold spec_l1Cur_scale13.f
 simp only [Option.bind_some, e]
 rw [if_pos c1, if_pos c2, e2]
 rfl
theorem dr_planText {l : List Int} (hb : Bytes l) : Dr (fun k => spec_DrawPlanText.f k l) (fun r => r.1.length ≤ 13) := by
 simp only [spec_DrawPlanText.f, spec_DrawPlanSize.f]
 refine Dr.bind (Q := fun r => r.1.length ≤ 13) (Dr.bind (dr_marks hb 0) (fun r hr => ?_)) (fun r hr => Dr.now _ hr)
 refine Dr.scale13 hb hr.2.1 (by have := hr.2.2; omega) (fun v j t _ _ => ?_)
 exact Dr.now _ hr.1
theorem dr_smallest {l : List Int} (hb : Bytes l) : Dr (fun k => spec_DrawSmallestScale.f k l) (fun r => r.1.length ≤ 13) := by
 simp only [spec_DrawSmallestScale.f]
 refine Dr.bind (dr_marks hb 0) (fun r hr => ?_)
 have h1 := hr.2.1
 have h2 := hr.2.2
 refine Dr.bindc rfl ?_
 refine Dr.pick hb h1 (by omega) (by omega) (fun v j t g0 g1 g2 g3 => ?_)
 dsimp only
 obtain ⟨c1, c2, c3, c4⟩ := cut_len (xs := [1, 3, 10, 20, 0, 21]) (b := 4) g2 g3 (by omega) (by simp) (by omega)
 refine Dr.ite (fun _ => Dr.ite (fun _ => ?_) (fun c => absurd c2 c)) (fun c => absurd c1 c)
 refine Dr.among hb (by omega) (by omega) c3 (Nat.le_trans c4 (by decide)) (fun v2 j2 t2 g4 g5 _ => ?_)
 dsimp only
 refine Dr.bindc rfl ?_
 refine Dr.pick hb (by omega) (by omega) (by omega) (fun v3 j3 t3 g6 g7 g8 g9 => ?_)
 dsimp only
 obtain ⟨c1, c2, c3, c4⟩ := cut_len (xs := [1, 3, 10, 20, 0, 21]) (b := 4) g8 g9 (by omega) (by simp) (by omega)
 refine Dr.ite (fun _ => Dr.ite (fun _ => ?_) (fun c => absurd c2 c)) (fun c => absurd c1 c)
 refine Dr.among hb (by omega) (by omega) c3 (Nat.le_trans c4 (by decide)) (fun v4 j4 t4 g10 g11 _ => ?_)
 exact Dr.now _ hr.1
theorem dr_squareOf {l : List Int} (hb : Bytes l) : Dr (fun k => spec_DrawSquareOf.f k l) (fun r => r.1.length ≤ 13) := by
 simp only [spec_DrawSquareOf.f]
 refine Dr.bind (dr_marks hb 0) (fun r hr => ?_)
 have h1 := hr.2.1
 have h2 := hr.2.2
 refine Dr.scale13 hb h1 (by omega) (fun v j t g0 g1 => ?_)
 dsimp only
 refine Dr.of hb (by omega) (by omega) (by simp) (by simp) (fun v2 j2 t2 _ _ _ => ?_)
 exact Dr.now _ hr.1
theorem rdM (l : List S44) (i : Nat) : rd_T44 l (i : Int) = l.getD i z44 := by simp [rd_T44]
def okLetter (s : ByteArray) : Bool := decide (s.size = 1) && decide (65 ≤ bt s 0 ∧ bt s 0 ≤ 90)
theorem l13Letter_eq (s : ByteArray) : spec_l13Letter.f s = some (okLetter s) := by
 simp only [spec_l13Letter.f, okLetter]
 by_cases h : s.size = 1
 ·rw [if_pos (by omega), if_pos (by omega)]
  by_cases h1 : bt s 0 ≥ 65
  ·rw [if_pos h1]
   simp [h, show 65 ≤ bt s 0 from h1]
  ·rw [if_neg h1]
   simp [h, show ¬ 65 ≤ bt s 0 from h1]
 ·rw [if_neg (by omega)]
  simp [h]
theorem one_letter {s : ByteArray} (h : s.size = 1) : ∃ b : UInt8, s.toList = [b] ∧ bt s 0 = (b.toNat : Int) := by
 have hd : s.data.toList.length = 1 := by rw [Array.length_toList]; exact h
 obtain ⟨b, hb⟩ := List.length_eq_one_iff.1 hd
 refine ⟨b, by rw [ByteArray.toList_eq]; exact hb, ?_⟩
 have h0 : (0 : Int).toNat < s.size := by simp; omega
 rw [← bt_at s 0 h0]
 congr 2
 have : s[(0 : Int).toNat] = s.data.toList[0]'(by omega) := by rfl
 rw [this]
 simp [hb]
theorem letter_less {s : ByteArray} (h : s.size = 1) : (Op.bytesLess s.toList [65] = true ↔ bt s 0 < 65) ∧ (Op.bytesLess [90] s.toList = true ↔ 90 < bt s 0) := by
 obtain ⟨b, hb, e⟩ := one_letter h
 rw [hb, e]
 constructor
 ·simp [Op.bytesLess, UInt8.lt_iff_toNat_lt]
  omega
 ·simp [Op.bytesLess, UInt8.lt_iff_toNat_lt]
  omega
def okMark (x : S44) : Bool := okLetter x.f0 && (decide (-1000 ≤ x.f1 ∧ x.f1 ≤ 1000) && decide (-1000 ≤ x.f2 ∧ x.f2 ≤ 1000))
def markStep (l : List S44) (i : Nat) : Bool := okMark (l.getD i z44) && (decide (i = 0) || Op.bytesLess (l.getD (i - 1) z44).f0.toList (l.getD i z44).f0.toList)
def okMarks (l : List S44) : Bool := foldN (fun i (_ : Unit) => if markStep l i = true then Sum.inl () else Sum.inr false) (fun _ => decide (l.length ≤ 12)) l.length 0 ()
theorem wrap_down {i n : Nat} (h : i < n) (hn : n ≤ 9223372036854775807) (h0 : i ≠ 0) : wrap64 ((i : Int) - 1) = ((i - 1 : Nat) : Int) := by
 unfold wrap64
 omega
theorem l13Good_ev (l : List S44) (hm : l.length ≤ 9223372036854775807) : Ev (fun k => spec_l13Good.f k l) (okMarks l) := by
 refine loopT_ev (fun k i (_ : Unit) => spec_l13Good.l0 k l i) l.length 0 _ _ () ?_ ?_
 ·rintro k i - - hi
  have hb : spec_l13Good.l0 (k + 1) l (i : Int) = if markStep l i = true then spec_l13Good.l0 k l ((i + 1 : Nat) : Int) else some false := by
   simp only [spec_l13Good.l0, rdM, l13Letter_eq, l1In_eq, Option.bind_some]
   rw [if_pos (by omega), if_pos (by omega), wrap_up hi hm]
   rw [show markStep l i = ((okLetter (l.getD i z44).f0 && (decide (-1000 ≤ (l.getD i z44).f1 ∧ (l.getD i z44).f1 ≤ 1000) && decide (-1000 ≤ (l.getD i z44).f2 ∧ (l.getD i z44).f2 ≤ 1000))) && (decide (i = 0) || Op.bytesLess (l.getD (i - 1) z44).f0.toList (l.getD i z44).f0.toList)) from rfl]
   cases okLetter (l.getD i z44).f0 with
   | false => simp
   | true =>
    cases decide (-1000 ≤ (l.getD i z44).f1 ∧ (l.getD i z44).f1 ≤ 1000) with
    | false => simp
    | true =>
     cases decide (-1000 ≤ (l.getD i z44).f2 ∧ (l.getD i z44).f2 ≤ 1000) with
     | false => simp
     | true =>
      by_cases h0 : i = 0
      ·subst h0
       simp
      ·rw [wrap_down hi hm h0, rdM]
       simp only [if_true, h0, decide_false, Bool.false_or, Bool.true_and]
       rw [if_pos (by omega), if_pos (by omega), if_pos (by omega)]
  rw [hb]
  cases hq : markStep l i with
  | true => exact .inl ⟨(), by simp only [if_true], by simp only [if_true]⟩
  | false => exact .inr ⟨false, by simp only [Bool.false_eq_true, if_false], by simp only [Bool.false_eq_true, if_false]⟩
 ·rintro k - -
  simp only [spec_l13Good.l0]
  rw [if_neg (by omega)]
  simp only [Option.some.injEq, decide_eq_decide]
  omega
theorem areMarks_pre (l : List S44) {i : Nat} (hi : i < l.length) (k : Nat) : impl_AreMarks.l0 (k + 1) l l (l.length : Int) (i : Int) = impl_AreMarks.j1 k l (i : Int) l (l.length : Int) (i : Int) (!okMark (l.getD i z44)) (l.getD i z44).f0 (l.getD i z44).f1 (l.getD i z44).f2 := by
 simp only [impl_AreMarks.l0, rdM, within_eq, Option.bind_some]
 rw [if_pos (by omega), if_pos (by omega), if_pos (by omega)]
 unfold okMark okLetter
 by_cases h : (l.getD i z44).f0.size = 1
 ·obtain ⟨hl, hg⟩ := letter_less h
  rw [if_pos (by omega), decide_eq_true h, Bool.true_and]
  by_cases h1 : bt (l.getD i z44).f0 0 < 65
  ·rw [if_pos (hl.2 h1), decide_eq_false (show ¬ (65 ≤ bt (l.getD i z44).f0 0 ∧ bt (l.getD i z44).f0 0 ≤ 90) by omega)]
   rfl
  ·rw [if_neg (fun hh => h1 (hl.1 hh))]
   by_cases h2 : 90 < bt (l.getD i z44).f0 0
   ·rw [if_pos (hg.2 h2), decide_eq_false (show ¬ (65 ≤ bt (l.getD i z44).f0 0 ∧ bt (l.getD i z44).f0 0 ≤ 90) by omega)]
    rfl
   ·rw [if_neg (fun hh => h2 (hg.1 hh)), decide_eq_true (show 65 ≤ bt (l.getD i z44).f0 0 ∧ bt (l.getD i z44).f0 0 ≤ 90 by omega), Bool.true_and]
    by_cases h3 : -1000 ≤ (l.getD i z44).f1 ∧ (l.getD i z44).f1 ≤ 1000
    ·rw [if_pos (decide_eq_true h3), decide_eq_true h3, Bool.true_and]
    ·rw [if_neg (by simpa using h3), decide_eq_false h3]
     rfl
 ·rw [if_neg (by omega), decide_eq_false h]
  rfl
theorem areMarks_loop (l : List S44) (hm : l.length ≤ 9223372036854775807) : ∀ d i, i + d = l.length → Ev (fun k => impl_AreMarks.l0 k l l (l.length : Int) (i : Int)) (foldN (fun i (_ : Unit) => if markStep l i = true then Sum.inl () else Sum.inr false) (fun _ => decide (l.length ≤ 12)) d i ()) := by
 intro d
 induction d with
 | zero =>
  intro i hi
  refine Ev.step (f := fun _ => some (decide (l.length ≤ 12))) (fun k => ?_) (Ev.now _)
  simp only [impl_AreMarks.l0]
  rw [if_neg (by omega)]
  simp only [Option.some.injEq, decide_eq_decide]
  omega
 | succ d ih =>
  intro i hi
  have hil : i < l.length := by omega
  have hnext := ih (i + 1) (by omega)
  refine Ev.step (areMarks_pre l hil) ?_
  simp only [foldN]
  rw [show markStep l i = (okMark (l.getD i z44) && (decide (i = 0) || Op.bytesLess (l.getD (i - 1) z44).f0.toList (l.getD i z44).f0.toList)) from rfl]
  cases hk : okMark (l.getD i z44) with
  | false =>
   simp only [Bool.false_and, Bool.false_eq_true, if_false, Bool.not_false]
   exact Ev.step (f := fun _ => some false) (fun k => by simp only [impl_AreMarks.j1, if_true]) (Ev.now _)
  | true =>
   simp only [Bool.true_and, Bool.not_true]
   by_cases h0 : i = 0
   ·subst h0
    simp only [decide_true, Bool.true_or, if_true]
    refine Ev.step (fun k => ?_) hnext
    simp only [impl_AreMarks.j1, Bool.false_eq_true, if_false]
    rw [if_neg (by omega), wrap_up hil hm]
   ·rw [decide_eq_false h0, Bool.false_or]
    cases hb : Op.bytesLess (l.getD (i - 1) z44).f0.toList (l.getD i z44).f0.toList with
    | true =>
     simp only [if_true]
     refine Ev.step (fun k => ?_) hnext
     simp only [impl_AreMarks.j1, Bool.false_eq_true, if_false, wrap_down hil hm h0, rdM, hb, if_true]
     rw [if_pos (by omega), if_pos (by omega), if_pos (by omega), wrap_up hil hm]
    | false =>
     simp only [Bool.false_eq_true, if_false]
     refine Ev.step (f := fun _ => some false) (fun k => ?_) (Ev.now _)
     simp only [impl_AreMarks.j1, Bool.false_eq_true, if_false, wrap_down hil hm h0, rdM, hb]
     rw [if_pos (by omega), if_pos (by omega), if_pos (by omega)]
theorem areMarks_ev (l : List S44) (hm : l.length ≤ 9223372036854775807) : Ev (fun k => impl_AreMarks.f k l) (okMarks l) := areMarks_loop l hm l.length 0 (by omega)
theorem okMarks_says (l : List S44) : ∀ d i, i + d = l.length → foldN (fun i (_ : Unit) => if markStep l i = true then Sum.inl () else Sum.inr false) (fun _ => decide (l.length ≤ 12)) d i () = true → l.length ≤ 12 ∧ ∀ j, i ≤ j → j < l.length → okMark (l.getD j z44) = true := by
 intro d
 induction d with
 | zero =>
  intro i hi h
  simp only [foldN, decide_eq_true_eq] at h
  exact ⟨h, fun j h1 h2 => by omega⟩
 | succ d ih =>
  intro i hi h
  simp only [foldN] at h
  cases hk : markStep l i with
  | false => rw [hk] at h; simp at h
  | true =>
   rw [hk] at h
   obtain ⟨h1, h2⟩ := ih (i + 1) (by omega) (by simpa using h)
   refine ⟨h1, fun j h3 h4 => ?_⟩
   by_cases hj : j = i
   ·subst hj
    unfold markStep at hk
    rw [Bool.and_eq_true] at hk
    exact hk.1
   ·exact h2 j (by omega) h4
theorem okMarks_len {l : List S44} (h : okMarks l = true) : l.length ≤ 12 := (okMarks_says l l.length 0 (by omega) h).1
theorem okMarks_at {l : List S44} (h : okMarks l = true) {i : Nat} (hi : i < l.length) : -1000 ≤ (l.getD i z44).f1 ∧ (l.getD i z44).f1 ≤ 1000 ∧ -1000 ≤ (l.getD i z44).f2 ∧ (l.getD i z44).f2 ≤ 1000 := by
 have := (okMarks_says l l.length 0 (by omega) h).2 i (by omega) hi
 simp only [okMark, Bool.and_eq_true, decide_eq_true_eq] at this
 exact ⟨this.2.1.1, this.2.1.2, this.2.2.1, this.2.2.2⟩
theorem l1Least_eq (a b : Int) : spec_l1Least.f a b = some (min a b) := by
 unfold spec_l1Least.f
 split <;> (congr 1; omega)
theorem mx_eq (a b : Int) : mx a b = max a b := by unfold mx; split <;> omega
theorem mn_eq (a b : Int) : mn a b = min a b := by unfold mn; split <;> omega
theorem l1Most_eq (a b : Int) : spec_l1Most.f a b = some (max a b) := by
 unfold spec_l1Most.f
 split <;> (congr 1; omega)
theorem small_div {x s : Int} (hx : -1000 ≤ x ∧ x ≤ 1000) (hs : 1 ≤ s ∧ s ≤ 500) : -1000 ≤ x / s ∧ x / s ≤ 1000 := by
 constructor
 ·rw [Int.le_ediv_iff_mul_le (by omega)]
  omega
 ·have h1 : x / s ≤ 1000 / s := Int.ediv_le_ediv (by omega) hx.2
  have h2 : 1000 / s ≤ 1000 := Int.ediv_le_self _ (by omega)
  omega
theorem square_eq {x s : Int} (hx : -1000 ≤ x ∧ x ≤ 1000) (hs : 1 ≤ s ∧ s ≤ 500) : spec_l13Square.f x s = some (x / s) := by
 unfold spec_l13Square.f
 rw [if_neg (by omega)]
 have e1 : wrap64 (1000 * s) = 1000 * s := wrap_id (by omega) (by omega)
 have e2 : wrap64 (x + 1000 * s) = x + 1000 * s := wrap_id (by omega) (by omega)
 have e3 : Int.tdiv (x + 1000 * s) s = (x + 1000 * s) / s := Int.tdiv_eq_ediv_of_nonneg (by omega)
 have e4 : (x + 1000 * s) / s = x / s + 1000 := Int.add_mul_ediv_right x 1000 (by omega)
 have e5 := small_div hx hs
 have e6 : wrap64 (x / s + 1000) = x / s + 1000 := wrap_id (by omega) (by omega)
 have e7 : wrap64 (x / s + 1000 - 1000) = x / s := by rw [show x / s + 1000 - 1000 = x / s by omega]; exact wrap_id (by omega) (by omega)
 rw [e1, e2, e3, e4, e6, e7]
theorem floorDiv_eq {x s : Int} (hx : -1000 ≤ x ∧ x ≤ 1000) (hs : 1 ≤ s ∧ s ≤ 500) : impl_floorDiv.f x s = some (x / s) := by
 have hm : impl_modulo.f x s = some (x % s) := by
  unfold impl_modulo.f
  rw [if_neg (by omega)]
  have h1 := Int.tmod_lt_of_pos x (show 0 < s by omega)
  have h2 : -s < Int.tmod x s := by
   have := Int.tmod_lt_of_pos (-x) (show 0 < s by omega)
   rw [Int.neg_tmod] at this
   omega
  have e1 : wrap64 (Int.tmod x s + s) = Int.tmod x s + s := wrap_id (by omega) (by omega)
  rw [e1, Int.tmod_eq_emod_of_nonneg (by omega)]
  congr 1
  have hd : (Int.tmod x s + s) % s = Int.tmod x s % s := Int.add_emod_right _ _
  rw [hd]
  have hq := Int.mul_tdiv_add_tmod x s
  rw [show Int.tmod x s = x - s * Int.tdiv x s by omega, Int.sub_mul_emod_self_left]
 have h0 := Int.emod_nonneg x (show s ≠ 0 by omega)
 have h1 := Int.emod_lt_of_pos x (show 0 < s by omega)
 have e1 : wrap64 (x - x % s) = x - x % s := wrap_id (by omega) (by omega)
 have e2 : x - x % s = s * (x / s) := by have := Int.mul_ediv_add_emod x s; omega
 have e5 := small_div hx hs
 have e3 : Int.tdiv (s * (x / s)) s = x / s := Int.mul_tdiv_cancel_left _ (by omega)
 unfold impl_floorDiv.f
 rw [hm, Option.bind_some, if_neg (by omega), e1, e2, e3]
 congr 1
 exact wrap_id (by omega) (by omega)
def bd (l : List S44) (s : Int) : Nat → Int × Int × Int × Int
 | 0 => ((l.getD 0 z44).f1 / s, (l.getD 0 z44).f1 / s, (l.getD 0 z44).f2 / s, (l.getD 0 z44).f2 / s)
 | i + 1 => (min (bd l s i).1 ((l.getD (i + 1) z44).f1 / s), max (bd l s i).2.1 ((l.getD (i + 1) z44).f1 / s), min (bd l s i).2.2.1 ((l.getD (i + 1) z44).f2 / s), max (bd l s i).2.2.2 ((l.getD (i + 1) z44).f2 / s))
theorem bd_small {l : List S44} (h : okMarks l = true) {s : Int} (hs : 1 ≤ s ∧ s ≤ 500) : ∀ i, i < l.length → (-1000 ≤ (bd l s i).1 ∧ (bd l s i).1 ≤ 1000) ∧ (-1000 ≤ (bd l s i).2.1 ∧ (bd l s i).2.1 ≤ 1000) ∧ (-1000 ≤ (bd l s i).2.2.1 ∧ (bd l s i).2.2.1 ≤ 1000) ∧ (-1000 ≤ (bd l s i).2.2.2 ∧ (bd l s i).2.2.2 ≤ 1000) := by
 intro i
 induction i with
 | zero =>
  intro hi
  have h1 := okMarks_at h hi
  have h2 := small_div ⟨h1.1, h1.2.1⟩ hs
  have h3 := small_div ⟨h1.2.2.1, h1.2.2.2⟩ hs
  exact ⟨h2, h2, h3, h3⟩
 | succ i ih =>
  intro hi
  have h0 := ih (by omega)
  have h1 := okMarks_at h hi
  have h2 := small_div ⟨h1.1, h1.2.1⟩ hs
  have h3 := small_div ⟨h1.2.2.1, h1.2.2.2⟩ hs
  simp only [bd]
  omega
theorem bounds_loop {l : List S44} (h : okMarks l = true) {s : Int} (hs : 1 ≤ s ∧ s ≤ 500) : ∀ (d i : Nat), i + d + 1 = l.length → Ev (fun k => spec_l13Bounds.l0 k l s (bd l s i).1 (bd l s i).2.2.1 (bd l s i).2.1 (bd l s i).2.2.2 ((i + 1 : Nat) : Int)) (bd l s (l.length - 1)) := by
 have h12 := okMarks_len h
 intro d
 induction d with
 | zero =>
  intro i hi
  have e : l.length - 1 = i := by omega
  rw [e]
  refine Ev.step (f := fun _ => some (bd l s i)) (fun k => ?_) (Ev.now _)
  simp only [spec_l13Bounds.l0]
  rw [if_neg (by omega)]
 | succ d ih =>
  intro i hi
  have h1 := okMarks_at h (show i + 1 < l.length by omega)
  have hw : wrap64 (((i + 1 : Nat) : Int) + 1) = ((i + 1 + 1 : Nat) : Int) := wrap_up (by omega) (show l.length ≤ 9223372036854775807 by omega)
  refine Ev.step (fun k => ?_) (ih (i + 1) (by omega))
  simp only [spec_l13Bounds.l0, rdM, square_eq ⟨h1.1, h1.2.1⟩ hs, square_eq ⟨h1.2.2.1, h1.2.2.2⟩ hs, l1Least_eq, l1Most_eq, Option.bind_some, hw]
  rw [if_pos (by omega), if_pos (by omega)]
  rfl
theorem bounds_ev {l : List S44} (h : okMarks l = true) (h0 : l.length ≠ 0) {s : Int} (hs : 1 ≤ s ∧ s ≤ 500) : Ev (fun k => spec_l13Bounds.f k l s) (bd l s (l.length - 1)) := by
 have h1 := okMarks_at h (show 0 < l.length by omega)
 have hr : rd_T44 l 0 = l.getD 0 z44 := rdM l 0
 simp only [spec_l13Bounds.f, hr, square_eq ⟨h1.1, h1.2.1⟩ hs, square_eq ⟨h1.2.2.1, h1.2.2.2⟩ hs, Option.bind_some]
 exact Ev.ite_pos (by omega) (bounds_loop h hs (l.length - 1) 0 (by omega))
def planOf (l : List S44) (s : Int) : List S44 × Int × Int × Int × Int × Int := (l, s, (bd l s (l.length - 1)).1, (bd l s (l.length - 1)).2.2.2, (bd l s (l.length - 1)).2.1 - (bd l s (l.length - 1)).1 + 1, (bd l s (l.length - 1)).2.2.2 - (bd l s (l.length - 1)).2.2.1 + 1)
theorem newPlan_loop {l : List S44} (h : okMarks l = true) {s : Int} (hs : 1 ≤ s ∧ s ≤ 500) : ∀ (d i : Nat), i + d + 1 = l.length → Ev (fun k => impl_newPlan.l0 k s (bd l s i).2.1 (bd l s i).2.2.1 l (l.length : Int) ((i + 1 : Nat) : Int) l s (bd l s i).1 (bd l s i).2.2.2 0 0) (planOf l s) := by
 have h12 := okMarks_len h
 intro d
 induction d with
 | zero =>
  intro i hi
  have hb := bd_small h hs i (by omega)
  have e : l.length - 1 = i := by omega
  have e1 : wrap64 (wrap64 ((bd l s i).2.1 - (bd l s i).1) + 1) = (bd l s i).2.1 - (bd l s i).1 + 1 := by
   rw [wrap_id (x := (bd l s i).2.1 - (bd l s i).1) (by omega) (by omega)]
   exact wrap_id (by omega) (by omega)
  have e2 : wrap64 (wrap64 ((bd l s i).2.2.2 - (bd l s i).2.2.1) + 1) = (bd l s i).2.2.2 - (bd l s i).2.2.1 + 1 := by
   rw [wrap_id (x := (bd l s i).2.2.2 - (bd l s i).2.2.1) (by omega) (by omega)]
   exact wrap_id (by omega) (by omega)
  unfold planOf
  rw [e]
  refine Ev.step (f := fun _ => some (l, s, (bd l s i).1, (bd l s i).2.2.2, (bd l s i).2.1 - (bd l s i).1 + 1, (bd l s i).2.2.2 - (bd l s i).2.2.1 + 1)) (fun k => ?_) (Ev.now _)
  simp only [impl_newPlan.l0, e1, e2]
  rw [if_neg (by omega)]
 | succ d ih =>
  intro i hi
  have h1 := okMarks_at h (show i + 1 < l.length by omega)
  have hw : wrap64 (((i + 1 : Nat) : Int) + 1) = ((i + 1 + 1 : Nat) : Int) := wrap_up (by omega) (show l.length ≤ 9223372036854775807 by omega)
  refine Ev.step (fun k => ?_) (ih (i + 1) (by omega))
  simp only [impl_newPlan.l0, rdM, floorDiv_eq ⟨h1.1, h1.2.1⟩ hs, floorDiv_eq ⟨h1.2.2.1, h1.2.2.2⟩ hs, mx_eq, mn_eq, Option.bind_some, hw]
  rw [if_pos (by omega), if_pos (by omega), if_pos (by omega), if_neg (by omega)]
  rfl
theorem newPlan_ev {l : List S44} (h : okMarks l = true) (h0 : l.length ≠ 0) {s : Int} (hs : 1 ≤ s ∧ s ≤ 500) : Ev (fun k => impl_newPlan.f k l s) (planOf l s) := by
 have h12 := okMarks_len h
 have h1 := okMarks_at h (show 0 < l.length by omega)
 have hr : rd_T44 l 0 = l.getD 0 z44 := rdM l 0
 have hw : wrap64 ((0 : Int) + 1) = ((0 + 1 : Nat) : Int) := by unfold wrap64; omega
 refine Ev.step (fun k => ?_) (newPlan_loop h hs (l.length - 1) 0 (by omega))
 simp only [impl_newPlan.f, impl_newPlan.l0, hr, floorDiv_eq ⟨h1.1, h1.2.1⟩ hs, floorDiv_eq ⟨h1.2.2.1, h1.2.2.2⟩ hs, mx_eq, mn_eq, Option.bind_some, hw]
 rw [if_pos (by omega), if_pos (by omega), if_pos (by omega), if_pos trivial]
 simp only [bd, Int.min_self, Int.max_self]
def fits20 (l : List S44) (s : Int) : Bool := decide ((bd l s (l.length - 1)).2.1 - (bd l s (l.length - 1)).1 < 20) && decide ((bd l s (l.length - 1)).2.2.2 - (bd l s (l.length - 1)).2.2.1 < 20)
def mayFit (l : List S44) (s : Int) : Bool := okMarks l && (decide (1 ≤ s ∧ s ≤ 500) && !decide (l.length = 0))
theorem mayFit_says {l : List S44} {s : Int} (h : mayFit l s = true) : okMarks l = true ∧ (1 ≤ s ∧ s ≤ 500) ∧ l.length ≠ 0 := by
 simpa [mayFit] using h
theorem specFits_ev (l : List S44) (s : Int) (hm : l.length ≤ 9223372036854775807) : Ev (fun k => spec_l13Fits.f k l s) (mayFit l s && fits20 l s) := by
 simp only [spec_l13Fits.f, l1In_eq, Option.bind_some]
 refine Ev.bind (l13Good_ev l hm) ?_
 by_cases h : okMarks l = true
 ·refine Ev.ite_pos h ?_
  by_cases hs : 1 ≤ s ∧ s ≤ 500
  ·refine Ev.ite_pos (decide_eq_true hs) ?_
   by_cases h0 : l.length = 0
   ·rw [show mayFit l s = false by simp [mayFit, h0], Bool.false_and]
    exact Ev.ite_pos (by omega) (Ev.now _)
   ·rw [show mayFit l s = true by simp [mayFit, h, hs, h0], Bool.true_and]
    have hb := bd_small h hs (l.length - 1) (by omega)
    refine Ev.ite_neg (by omega) (Ev.bind (bounds_ev h h0 hs) ?_)
    rw [wrap_id (x := (bd l s (l.length - 1)).2.1 - (bd l s (l.length - 1)).1) (by omega) (by omega), wrap_id (x := (bd l s (l.length - 1)).2.2.2 - (bd l s (l.length - 1)).2.2.1) (by omega) (by omega)]
    unfold fits20
    by_cases c1 : (bd l s (l.length - 1)).2.1 - (bd l s (l.length - 1)).1 < 20
    ·rw [decide_eq_true c1, Bool.true_and]
     exact Ev.ite_pos c1 (Ev.now _)
    ·rw [decide_eq_false c1, Bool.false_and]
     exact Ev.ite_neg c1 (Ev.now _)
  ·rw [show mayFit l s = false by simp [mayFit]; omega, Bool.false_and]
   exact Ev.ite_neg (by simpa using hs) (Ev.now _)
 ·rw [show mayFit l s = false by simp [mayFit, h], Bool.false_and]
  exact Ev.ite_neg h (Ev.now _)
theorem implPlanOf_ev (l : List S44) (s : Int) (hm : l.length ≤ 9223372036854775807) : Ev (fun k => impl_planOf.f k l s) (if mayFit l s = true then some (planOf l s) else none) := by
 simp only [impl_planOf.f, within_eq, Option.bind_some]
 refine Ev.bind (areMarks_ev l hm) ?_
 by_cases h : okMarks l = true
 ·refine Ev.ite_pos h ?_
  by_cases h0 : l.length = 0
  ·rw [if_neg (show ¬ mayFit l s = true by simp [mayFit, h0])]
   exact Ev.ite_pos (by omega) (Ev.now _)
  ·refine Ev.ite_neg (by omega) ?_
   by_cases hs : 1 ≤ s ∧ s ≤ 500
   ·rw [if_pos (show mayFit l s = true by simp [mayFit, h, hs, h0])]
    exact Ev.ite_pos (decide_eq_true hs) (Ev.bind (newPlan_ev h h0 hs) (Ev.now _))
   ·rw [if_neg (show ¬ mayFit l s = true by simp [mayFit]; omega)]
    exact Ev.ite_neg (by simpa using hs) (Ev.now _)
 ·rw [if_neg (show ¬ mayFit l s = true by simp [mayFit, h])]
  exact Ev.ite_neg h (Ev.now _)
theorem fits20_plan (l : List S44) (s : Int) : (decide ((planOf l s).2.2.2.2.1 ≤ 20) && decide ((planOf l s).2.2.2.2.2 ≤ 20)) = fits20 l s := by
 unfold planOf fits20
 rw [Bool.eq_iff_iff]
 simp only [Bool.and_eq_true, decide_eq_true_eq]
 omega
abbrev M13 := S44
theorem okMarks_let {l : List M13} (h : okMarks l = true) {i : Nat} (hi : i < l.length) : okLetter (l.getD i z44).f0 = true := by
 have h1 := (okMarks_says l l.length 0 (by omega) h).2 i (by omega) hi
 simp only [okMark, Bool.and_eq_true] at h1
 exact h1.1
theorem okMarks_mem {l : List M13} (h : okMarks l = true) {m : M13} (hm : m ∈ l) : okLetter m.f0 = true ∧ -1000 ≤ m.f1 ∧ m.f1 ≤ 1000 ∧ -1000 ≤ m.f2 ∧ m.f2 ≤ 1000 := by
 obtain ⟨i, hi, e⟩ := List.getElem_of_mem hm
 have e2 : l.getD i z44 = m := by rw [getD_lt _ _ _ hi, e]
 have h1 := okMarks_let h hi
 have h2 := okMarks_at h hi
 rw [e2] at h1 h2
 exact ⟨h1, h2⟩
theorem find_congr {α : Type} {p q : α → Bool} : ∀ {l : List α}, (∀ m, m ∈ l → p m = q m) → l.find? p = l.find? q
 | [], _ => rfl
 | a :: l, h => by
  rw [List.find?_cons, List.find?_cons, h a List.mem_cons_self, find_congr (l := l) (fun m hm => h m (List.mem_cons_of_mem _ hm))]
theorem bd_holds (l : List M13) (s : Int) : ∀ j i, i ≤ j → (bd l s j).1 ≤ (l.getD i z44).f1 / s ∧ (l.getD i z44).f1 / s ≤ (bd l s j).2.1 ∧ (bd l s j).2.2.1 ≤ (l.getD i z44).f2 / s ∧ (l.getD i z44).f2 / s ≤ (bd l s j).2.2.2
 | 0, i, h => by
  obtain rfl : i = 0 := by omega
  simp [bd]
 | j + 1, i, h => by
  simp only [bd]
  by_cases hi : i = j + 1
  ·subst hi
   exact ⟨Int.min_le_right _ _, Int.le_max_right _ _, Int.min_le_right _ _, Int.le_max_right _ _⟩
  ·have ih := bd_holds l s j i (by omega)
   exact ⟨Int.le_trans (Int.min_le_left _ _) ih.1, Int.le_trans ih.2.1 (Int.le_max_left _ _), Int.le_trans (Int.min_le_left _ _) ih.2.2.1, Int.le_trans ih.2.2.2 (Int.le_max_left _ _)⟩
theorem bd_mem {l : List M13} (s : Int) {m : M13} (hm : m ∈ l) : (bd l s (l.length - 1)).1 ≤ m.f1 / s ∧ m.f1 / s ≤ (bd l s (l.length - 1)).2.1 ∧ (bd l s (l.length - 1)).2.2.1 ≤ m.f2 / s ∧ m.f2 / s ≤ (bd l s (l.length - 1)).2.2.2 := by
 obtain ⟨i, hi, e⟩ := List.getElem_of_mem hm
 have h := bd_holds l s (l.length - 1) i (by omega)
 rwa [getD_lt _ _ _ hi, e] at h
theorem plan_sq {l : List M13} {s : Int} (h : mayFit l s = true) {m : M13} (hm : m ∈ l) : pl_sq (planOf l s) m = some (m.f1 / s - (bd l s (l.length - 1)).1, (bd l s (l.length - 1)).2.2.2 - m.f2 / s, (planOf l s).2) := by
 obtain ⟨ho, hs, h0⟩ := mayFit_says h
 obtain ⟨_, h1, h2, h3, h4⟩ := okMarks_mem ho hm
 have hb := bd_small ho hs (l.length - 1) (by omega)
 have d1 := small_div ⟨h1, h2⟩ hs
 have d2 := small_div ⟨h3, h4⟩ hs
 unfold pl_sq impl_plan_square.f planOf
 simp only [floorDiv_eq ⟨h1, h2⟩ hs, floorDiv_eq ⟨h3, h4⟩ hs, Option.bind_some]
 rw [wrap_id (by omega) (by omega), wrap_id (by omega) (by omega)]
theorem plan_X {l : List M13} {s : Int} (h : mayFit l s = true) {m : M13} (hm : m ∈ l) : pl_X (planOf l s) m = m.f1 / s - (bd l s (l.length - 1)).1 := by
 unfold pl_X
 rw [plan_sq h hm]
theorem plan_Y {l : List M13} {s : Int} (h : mayFit l s = true) {m : M13} (hm : m ∈ l) : pl_Y (planOf l s) m = (bd l s (l.length - 1)).2.2.2 - m.f2 / s := by
 unfold pl_Y
 rw [plan_sq h hm]
theorem plan_good {l : List M13} {s : Int} (h : mayFit l s = true) {m : M13} (hm : m ∈ l) : pl_good (planOf l s) m = true := by
 obtain ⟨ho, hs, h0⟩ := mayFit_says h
 obtain ⟨h5, _⟩ := okMarks_mem ho hm
 have hb := bd_mem s hm
 simp only [okLetter, Bool.and_eq_true, decide_eq_true_eq] at h5
 simp only [pl_good, Bool.and_eq_true, decide_eq_true_eq]
 rw [plan_X h hm, plan_Y h hm, plan_sq h hm]
 refine ⟨h5.1, rfl, by omega, ?_, by omega, ?_⟩
 ·simp only [planOf]; omega
 ·simp only [planOf]; omega
theorem plan_fit {l : List M13} {s : Int} (h : mayFit l s = true) (h2 : fits20 l s = true) : pl_fit (planOf l s) = true := by
 obtain ⟨ho, hs, h0⟩ := mayFit_says h
 have hne : l ≠ [] := fun e => h0 (by simp [e])
 have hb := bd_mem s (List.head_mem hne)
 simp only [fits20, Bool.and_eq_true, decide_eq_true_eq] at h2
 simp only [pl_fit, Bool.and_eq_true, decide_eq_true_eq, List.all_eq_true]
 refine ⟨?_, ?_, ?_, ?_, hne, fun m hm => plan_good h hm⟩ <;> simp only [planOf] <;> omega
def at13 (l : List M13) (s x y : Int) : ByteArray := match l.find? (fun m => decide (m.f2 / s = y) && decide (m.f1 / s = x)) with
 | some m => m.f0
 | none => ⟨#[46]⟩
theorem specAt_loop {l : List M13} (h : okMarks l = true) {s : Int} (hs : 1 ≤ s ∧ s ≤ 500) (x y : Int) : ∀ (d i : Nat), i + d = l.length → Ev (fun k => spec_l13At.l0 k l s x y (i : Int)) (at13 (l.drop i) s x y) := by
 have h12 := okMarks_len h
 intro d
 induction d with
 | zero =>
  intro i hi
  refine Ev.step (f := fun _ => some (at13 (l.drop i) s x y)) (fun k => ?_) (Ev.now _)
  simp only [spec_l13At.l0]
  rw [if_neg (by omega), List.drop_of_length_le (by omega)]
  rfl
 | succ d ih =>
  intro i hi
  have hil : i < l.length := by omega
  have h1 := okMarks_at h hil
  have hw := wrap_up hil (by omega)
  have hd : l.drop i = l.getD i z44 :: l.drop (i + 1) := by rw [getD_lt _ _ _ hil]; exact List.drop_eq_getElem_cons hil
  have hat : at13 (l.drop i) s x y = if (l.getD i z44).f1 / s = x then (if (l.getD i z44).f2 / s = y then (l.getD i z44).f0 else at13 (l.drop (i + 1)) s x y) else at13 (l.drop (i + 1)) s x y := by
   unfold at13
   rw [hd, List.find?_cons]
   by_cases c1 : (l.getD i z44).f1 / s = x <;> by_cases c2 : (l.getD i z44).f2 / s = y <;> simp only [c1, c2, if_true, if_false, decide_true, decide_false, Bool.and_true, Bool.and_false, Bool.true_and, Bool.false_and]
  by_cases c1 : (l.getD i z44).f1 / s = x
  ·by_cases c2 : (l.getD i z44).f2 / s = y
   ·rw [hat, if_pos c1, if_pos c2]
    refine Ev.step (f := fun _ => some (l.getD i z44).f0) (fun k => ?_) (Ev.now _)
    simp only [spec_l13At.l0, rdM, square_eq ⟨h1.1, h1.2.1⟩ hs, square_eq ⟨h1.2.2.1, h1.2.2.2⟩ hs, Option.bind_some]
    rw [if_pos (by omega), if_pos (by omega), if_pos c1, if_pos c2]
   ·rw [hat, if_pos c1, if_neg c2]
    refine Ev.step (fun k => ?_) (ih (i + 1) (by omega))
    simp only [spec_l13At.l0, rdM, square_eq ⟨h1.1, h1.2.1⟩ hs, square_eq ⟨h1.2.2.1, h1.2.2.2⟩ hs, Option.bind_some, hw]
    rw [if_pos (by omega), if_pos (by omega), if_pos c1, if_neg c2]
  ·rw [hat, if_neg c1]
   refine Ev.step (fun k => ?_) (ih (i + 1) (by omega))
   simp only [spec_l13At.l0, rdM, square_eq ⟨h1.1, h1.2.1⟩ hs, square_eq ⟨h1.2.2.1, h1.2.2.2⟩ hs, Option.bind_some, hw]
   rw [if_pos (by omega), if_pos (by omega), if_neg c1]
theorem specAt_ev {l : List M13} (h : okMarks l = true) {s : Int} (hs : 1 ≤ s ∧ s ≤ 500) (x y : Int) : Ev (fun k => spec_l13At.f k l s x y) (at13 l s x y) := specAt_loop h hs x y l.length 0 (by omega)
theorem at13_byte {l : List M13} {s : Int} (h : mayFit l s = true) (x y : Nat) : (at13 l s ((bd l s (l.length - 1)).1 + (x : Int)) ((bd l s (l.length - 1)).2.2.2 - (y : Int))).data.toList = [UInt8.ofNat (pl_at (pl_X (planOf l s)) (pl_Y (planOf l s)) l y x).toNat] := by
 obtain ⟨ho, hs, h0⟩ := mayFit_says h
 have e : l.find? (fun m => decide (pl_Y (planOf l s) m = (y : Int)) && decide (pl_X (planOf l s) m = (x : Int))) = l.find? (fun m => decide (m.f2 / s = (bd l s (l.length - 1)).2.2.2 - (y : Int)) && decide (m.f1 / s = (bd l s (l.length - 1)).1 + (x : Int))) := by
  refine find_congr (fun m hm => ?_)
  rw [plan_X h hm, plan_Y h hm]
  congr 1 <;> rw [decide_eq_decide] <;> omega
 unfold at13 pl_at
 rw [e]
 cases hf : l.find? (fun m => decide (m.f2 / s = (bd l s (l.length - 1)).2.2.2 - (y : Int)) && decide (m.f1 / s = (bd l s (l.length - 1)).1 + (x : Int))) with
 | none => rfl
 | some m =>
  obtain ⟨h5, _⟩ := okMarks_mem ho (List.mem_of_find?_eq_some hf)
  simp only [okLetter, Bool.and_eq_true, decide_eq_true_eq] at h5
  obtain ⟨b, hb, e⟩ := one_letter h5.1
  simp only
  rw [← ByteArray.toList_eq, hb, e]
  simp
def hiddenAns (l : List M13) (s : Int) : List ByteArray × Bool := if (mayFit l s && fits20 l s) = true then (pl_hidden (planOf l s) l, true) else ([], false)
theorem hiddenAns_len (l : List M13) (s : Int) : (hiddenAns l s).1.length ≤ 12 := by
 unfold hiddenAns
 by_cases h : (mayFit l s && fits20 l s) = true
 ·rw [if_pos h]
  rw [Bool.and_eq_true] at h
  have := okMarks_len (mayFit_says h.1).1
  exact Nat.le_trans (pl_hidden_len _ _) this
 ·rw [if_neg h]; simp
theorem implHidden_ev (l : List M13) (s : Int) (hm : l.length ≤ 9223372036854775807) : Ev (fun k => impl_HiddenMarks.f k l s) (hiddenAns l s) := by
 unfold impl_HiddenMarks.f
 refine Ev.bind (implPlanOf_ev l s hm) ?_
 refine Ev.eq (fun _ => ?_)
 by_cases h : mayFit l s = true
 ·rw [if_pos h]
  simp only [impl_HiddenMarks.of, fits20_plan]
  by_cases h2 : fits20 l s = true
  ·have h12 := okMarks_len (mayFit_says h).1
   rw [if_pos h2, if_pos (by simp only [Bool.and_eq_true, List.all_eq_true, decide_eq_true_eq]; exact ⟨plan_fit h h2, fun m hm => plan_good h hm, by omega⟩), hiddenAns, if_pos (by rw [h, h2]; rfl)]
  ·rw [if_neg h2, hiddenAns, if_neg (by simp [h, h2])]
 ·rw [if_neg h]
  simp only [impl_HiddenMarks.of]
  rw [hiddenAns, if_neg (by simp [h])]
theorem hides_spec {l : List M13} {s : Int} (h : mayFit l s = true) (h2 : fits20 l s = true) {m : M13} (hm : m ∈ l) : pl_hides (planOf l s) m = true ↔ (at13 l s (m.f1 / s) (m.f2 / s)).toList ≠ m.f0.toList := by
 obtain ⟨ho, hs, h0⟩ := mayFit_says h
 obtain ⟨h5, _⟩ := okMarks_mem ho hm
 have hb := bd_mem s hm
 simp only [okLetter, Bool.and_eq_true, decide_eq_true_eq] at h5
 obtain ⟨b, hbl, e⟩ := one_letter h5.1
 have hx : (bd l s (l.length - 1)).1 + (((m.f1 / s - (bd l s (l.length - 1)).1).toNat : Nat) : Int) = m.f1 / s := by omega
 have hy : (bd l s (l.length - 1)).2.2.2 - ((((bd l s (l.length - 1)).2.2.2 - m.f2 / s).toNat : Nat) : Int) = m.f2 / s := by omega
 have hat := at13_byte h (m.f1 / s - (bd l s (l.length - 1)).1).toNat ((bd l s (l.length - 1)).2.2.2 - m.f2 / s).toNat
 rw [hx, hy] at hat
 have hr : 0 ≤ pl_at (pl_X (planOf l s)) (pl_Y (planOf l s)) l ((bd l s (l.length - 1)).2.2.2 - m.f2 / s).toNat (m.f1 / s - (bd l s (l.length - 1)).1).toNat ∧ pl_at (pl_X (planOf l s)) (pl_Y (planOf l s)) l ((bd l s (l.length - 1)).2.2.2 - m.f2 / s).toNat (m.f1 / s - (bd l s (l.length - 1)).1).toNat ≤ 255 := by
  unfold pl_at
  split
  ·exact bt_range _ _
  ·omega
 unfold pl_hides
 rw [plan_X h hm, plan_Y h hm, ByteArray.toList_eq, hat, hbl, e, decide_eq_true_eq]
 rw [show (planOf l s).1 = l from rfl]
 generalize pl_at (pl_X (planOf l s)) (pl_Y (planOf l s)) l ((bd l s (l.length - 1)).2.2.2 - m.f2 / s).toNat (m.f1 / s - (bd l s (l.length - 1)).1).toNat = v at hr
 have hb2 := b.toNat_lt
 constructor
 ·intro h1 h3
  apply h1
  have h4 := congrArg UInt8.toNat (List.cons.inj h3).1
  simp only [UInt8.toNat_ofNat'] at h4
  omega
 ·intro h1 h3
  apply h1
  rw [h3]
  simp
theorem specHidden_loop {l : List M13} {s : Int} (h : mayFit l s = true) (h2 : fits20 l s = true) : ∀ (d i : Nat), i + d = l.length → Ev (fun k => spec_HiddenMarks.l0 k l s (pl_hidden (planOf l s) (l.take i)) (i : Int)) (pl_hidden (planOf l s) l, true) := by
 obtain ⟨ho, hs, h0⟩ := mayFit_says h
 have h12 := okMarks_len ho
 intro d
 induction d with
 | zero =>
  intro i hi
  obtain rfl : i = l.length := by omega
  refine Ev.step (f := fun _ => some (pl_hidden (planOf l s) l, true)) (fun k => ?_) (Ev.now _)
  simp only [spec_HiddenMarks.l0]
  rw [if_neg (by omega), List.take_length]
 | succ d ih =>
  intro i hi
  have hil : i < l.length := by omega
  have h1 := okMarks_at ho hil
  have hw := wrap_up hil (by omega)
  have hg : l.getD i z44 = l[i] := getD_lt _ _ _ hil
  have hlen := pl_hidden_len (planOf l s) (l.take i)
  rw [List.length_take] at hlen
  have hsp := hides_spec h h2 (List.getElem_mem hil)
  rw [← hg] at hsp
  have ih' := ih (i + 1) (by omega)
  rw [pl_hidden_take _ _ _ hil, ← hg] at ih'
  refine Ev.step (fun k => by rw [spec_HiddenMarks.l0]) ?_
  refine Ev.ite_pos (by omega) (Ev.ite_pos (by omega) ?_)
  simp only [rdM, square_eq ⟨h1.1, h1.2.1⟩ hs, square_eq ⟨h1.2.2.1, h1.2.2.2⟩ hs, Option.bind_some, hw]
  refine Ev.bind (specAt_ev ho hs _ _) ?_
  by_cases hh : pl_hides (planOf l s) (l.getD i z44) = true
  ·rw [if_pos hh] at ih'
   exact Ev.ite_neg (hsp.1 hh) (Ev.ite_pos (by omega) ih')
  ·rw [if_neg hh] at ih'
   exact Ev.ite_pos (Decidable.byContradiction (fun hc => hh (hsp.2 hc))) ih'
theorem specHidden_ev (l : List M13) (s : Int) (hm : l.length ≤ 9223372036854775807) : Ev (fun k => spec_HiddenMarks.f k l s) (hiddenAns l s) := by
 unfold spec_HiddenMarks.f
 simp only [Option.bind_some]
 refine Ev.bind (specFits_ev l s hm) ?_
 by_cases h : (mayFit l s && fits20 l s) = true
 ·have h' := h
  rw [Bool.and_eq_true] at h'
  rw [hiddenAns, if_pos h]
  exact Ev.ite_pos h (specHidden_loop h'.1 h'.2 l.length 0 (Nat.zero_add _))
 ·rw [hiddenAns, if_neg h]
  exact Ev.ite_neg h (Ev.now _)
def planTextAns (l : List M13) (s : Int) : ByteArray × Bool := if (mayFit l s && fits20 l s) = true then (pl_text (planOf l s), true) else (⟨#[]⟩, false)
theorem implPlanText_ev (l : List M13) (s : Int) (hm : l.length ≤ 9223372036854775807) : Ev (fun k => impl_PlanText.f k l s) (planTextAns l s) := by
 unfold impl_PlanText.f
 refine Ev.bind (implPlanOf_ev l s hm) ?_
 refine Ev.eq (fun _ => ?_)
 by_cases h : mayFit l s = true
 ·rw [if_pos h]
  simp only [impl_PlanText.of, fits20_plan]
  by_cases h2 : fits20 l s = true
  ·rw [if_pos h2, if_pos (plan_fit h h2), planTextAns, if_pos (by rw [h, h2]; rfl)]
  ·rw [if_neg h2, planTextAns, if_neg (by simp [h, h2])]
 ·rw [if_neg h]
  simp only [impl_PlanText.of]
  rw [planTextAns, if_neg (by simp [h])]
theorem bytes_add (L : List UInt8) (b : ByteArray) : (⟨L.toArray⟩ : ByteArray) ++ b = ⟨(L ++ b.data.toList).toArray⟩ := by
 apply ByteArray.ext
 simp
theorem bytes_size (L : List UInt8) : (⟨L.toArray⟩ : ByteArray).size = L.length := by simp [ByteArray.size]
def part13 (G : Nat → Nat → Int) (i j : Nat) : List UInt8 := (List.range j).map (fun x => UInt8.ofNat (G i x).toNat)
theorem part13_succ (G : Nat → Nat → Int) (i j : Nat) : part13 G i (j + 1) = part13 G i j ++ [UInt8.ofNat (G i j).toNat] := by simp [part13, List.range_succ]
theorem part13_len (G : Nat → Nat → Int) (i j : Nat) : (part13 G i j).length = j := by simp [part13]
def plG (l : List M13) (s : Int) : Nat → Nat → Int := pl_at (pl_X (planOf l s)) (pl_Y (planOf l s)) l
theorem specText_row {l : List M13} {s : Int} (h : mayFit l s = true) (cols : Nat) (hc : cols ≤ 20) (hcols : (bd l s (l.length - 1)).2.1 = (bd l s (l.length - 1)).1 + (cols : Int) - 1) (c : Int) (i : Nat) (hi : i ≤ 20) (L : List UInt8) (hL : L.length ≤ 1000) (R : ByteArray × Bool)
  (hR : Ev (fun k => spec_PlanText.l0 k l s (bd l s (l.length - 1)).1 (bd l s (l.length - 1)).2.1 c ⟨(L ++ (part13 (plG l s) i cols ++ [10])).toArray⟩ (wrap64 ((bd l s (l.length - 1)).2.2.2 - (i : Int) - 1))) R) :
  ∀ (d j : Nat), j + d = cols → Ev (fun k => spec_PlanText.l1 k l s (bd l s (l.length - 1)).1 (bd l s (l.length - 1)).2.1 c ⟨(L ++ part13 (plG l s) i j).toArray⟩ ((bd l s (l.length - 1)).2.2.2 - (i : Int)) ((bd l s (l.length - 1)).1 + (j : Int))) R := by
 obtain ⟨ho, hs, h0⟩ := mayFit_says h
 have hb := bd_small ho hs (l.length - 1) (by omega)
 intro d
 induction d with
 | zero =>
  intro j hj
  obtain rfl : j = cols := by omega
  refine Ev.step (fun k => ?_) hR
  simp only [spec_PlanText.l1]
  rw [if_neg (by omega), if_pos (by rw [bytes_size, List.length_append, part13_len]; omega), bytes_add, List.append_assoc]
 | succ d ih =>
  intro j hj
  have hw : wrap64 ((bd l s (l.length - 1)).1 + (j : Int) + 1) = (bd l s (l.length - 1)).1 + ((j + 1 : Nat) : Int) := by rw [wrap_id (by omega) (by omega)]; omega
  have hbt := at13_byte h j i
  have hsz : (at13 l s ((bd l s (l.length - 1)).1 + (j : Int)) ((bd l s (l.length - 1)).2.2.2 - (i : Int))).size = 1 := by
   rw [← ByteArray.size_data, ← Array.length_toList, hbt]; rfl
  refine Ev.step (fun k => by rw [spec_PlanText.l1]) ?_
  refine Ev.ite_pos (by omega) (Ev.bind (specAt_ev ho hs _ _) (Ev.ite_pos (by rw [bytes_size, List.length_append, part13_len, hsz]; omega) ?_))
  have ih' := ih (j + 1) (by omega)
  rw [part13_succ, ← List.append_assoc] at ih'
  simp only [bytes_add, hbt, hw]
  exact ih'
theorem specText_rows {l : List M13} {s : Int} (h : mayFit l s = true) (cols rows : Nat) (hc : cols ≤ 20) (hr : rows ≤ 20) (hcols : (bd l s (l.length - 1)).2.1 = (bd l s (l.length - 1)).1 + (cols : Int) - 1) (hrows : (bd l s (l.length - 1)).2.2.1 = (bd l s (l.length - 1)).2.2.2 - (rows : Int) + 1) :
  ∀ (d i : Nat), i + d = rows → Ev (fun k => spec_PlanText.l0 k l s (bd l s (l.length - 1)).1 (bd l s (l.length - 1)).2.1 (bd l s (l.length - 1)).2.2.1 ⟨(pl_lines cols (plG l s) i).toArray⟩ ((bd l s (l.length - 1)).2.2.2 - (i : Int))) (⟨(pl_lines cols (plG l s) rows).toArray⟩, true) := by
 obtain ⟨ho, hs, h0⟩ := mayFit_says h
 have hb := bd_small ho hs (l.length - 1) (by omega)
 intro d
 induction d with
 | zero =>
  intro i hi
  obtain rfl : i = rows := by omega
  refine Ev.step (f := fun _ => some _) (fun k => ?_) (Ev.now _)
  simp only [spec_PlanText.l0]
  rw [if_neg (by omega)]
 | succ d ih =>
  intro i hi
  have hl : (pl_lines cols (plG l s) i).length ≤ 1000 := by
   rw [pl_lines_length]
   have : i * (cols + 1) ≤ 20 * 21 := Nat.mul_le_mul (by omega) (by omega)
   omega
  have hw : wrap64 ((bd l s (l.length - 1)).2.2.2 - (i : Int) - 1) = (bd l s (l.length - 1)).2.2.2 - ((i + 1 : Nat) : Int) := by rw [wrap_id (by omega) (by omega)]; omega
  have ih' := ih (i + 1) (by omega)
  rw [pl_lines_succ] at ih'
  have hrow := specText_row h cols hc hcols (bd l s (l.length - 1)).2.2.1 i (by omega) (pl_lines cols (plG l s) i) hl _ (by rw [hw]; exact ih') cols 0 (by omega)
  have e0 : part13 (plG l s) i 0 = [] := rfl
  rw [e0, List.append_nil, Int.natCast_zero, Int.add_zero] at hrow
  refine Ev.step (fun k => ?_) hrow
  simp only [spec_PlanText.l0]
  rw [if_pos (by omega)]
theorem specPlanText_ev (l : List M13) (s : Int) (hm : l.length ≤ 9223372036854775807) : Ev (fun k => spec_PlanText.f k l s) (planTextAns l s) := by
 unfold spec_PlanText.f
 refine Ev.bind (specFits_ev l s hm) ?_
 by_cases h : (mayFit l s && fits20 l s) = true
 ·have h' := h
  rw [Bool.and_eq_true] at h'
  obtain ⟨hm1, hf⟩ := h'
  obtain ⟨ho, hs, h0⟩ := mayFit_says hm1
  refine Ev.ite_pos h (Ev.bind (bounds_ev ho h0 hs) ?_)
  have hb := bd_small ho hs (l.length - 1) (by omega)
  have hne : l ≠ [] := fun e => h0 (by simp [e])
  have hq := bd_mem s (List.head_mem hne)
  simp only [fits20, Bool.and_eq_true, decide_eq_true_eq] at hf
  have key := specText_rows hm1 ((bd l s (l.length - 1)).2.1 - (bd l s (l.length - 1)).1 + 1).toNat ((bd l s (l.length - 1)).2.2.2 - (bd l s (l.length - 1)).2.2.1 + 1).toNat (by omega) (by omega) (by omega) (by omega) _ 0 (Nat.zero_add _)
  rw [planTextAns, if_pos h]
  have e0 : pl_lines ((bd l s (l.length - 1)).2.1 - (bd l s (l.length - 1)).1 + 1).toNat (plG l s) 0 = [] := rfl
  rw [e0, Int.natCast_zero, Int.sub_zero] at key
  exact key
 ·rw [planTextAns, if_neg h]
  exact Ev.ite_neg h (Ev.now _)
theorem lines_at (cols : Nat) (G : Nat → Nat → Int) : ∀ (n y x : Nat), y < n → x < cols → (pl_lines cols G n)[y * (cols + 1) + x]? = some (UInt8.ofNat (G y x).toNat)
 | 0, y, x, h, _ => by omega
 | n + 1, y, x, h, hx => by
  rw [pl_lines_succ]
  by_cases hy : y < n
  ·have hlt : y * (cols + 1) + x < (pl_lines cols G n).length := by
    rw [pl_lines_length]
    have : (y + 1) * (cols + 1) ≤ n * (cols + 1) := Nat.mul_le_mul_right _ hy
    rw [Nat.succ_mul] at this
    omega
   rw [List.getElem?_append_left hlt]
   exact lines_at cols G n y x hy hx
  ·obtain rfl : y = n := by omega
   rw [List.getElem?_append_right (by rw [pl_lines_length]; omega), pl_lines_length, Nat.add_sub_cancel_left]
   simp [pl_line, hx, List.getElem?_append]
theorem text_size (p : PlanT) : (pl_text p).size = p.2.2.2.2.2.toNat * (p.2.2.2.2.1.toNat + 1) := by
 unfold pl_text
 rw [bytes_size, pl_lines_length]
theorem at_range (X Y : M13 → Int) (l : List M13) (y x : Nat) : 0 ≤ pl_at X Y l y x ∧ pl_at X Y l y x ≤ 255 := by
 unfold pl_at
 split
 ·exact bt_range _ _
 ·omega
theorem text_bt (p : PlanT) (y x : Nat) (hy : y < p.2.2.2.2.2.toNat) (hx : x < p.2.2.2.2.1.toNat) : bt (pl_text p) ((y * (p.2.2.2.2.1.toNat + 1) + x : Nat) : Int) = pl_at (pl_X p) (pl_Y p) p.1 y x := by
 have h := lines_at p.2.2.2.2.1.toNat (pl_at (pl_X p) (pl_Y p) p.1) p.2.2.2.2.2.toNat y x hy hx
 obtain ⟨hlt, he⟩ := List.getElem?_eq_some_iff.1 h
 have hsz : (((y * (p.2.2.2.2.1.toNat + 1) + x : Nat) : Int)).toNat < (pl_text p).size := by
  rw [text_size, Int.toNat_natCast]
  rwa [pl_lines_length] at hlt
 rw [← bt_at (pl_text p) _ hsz]
 have e : (pl_text p)[(((y * (p.2.2.2.2.1.toNat + 1) + x : Nat) : Int)).toNat]'hsz = UInt8.ofNat (pl_at (pl_X p) (pl_Y p) p.1 y x).toNat := by
  rw [← he]
  rfl
 rw [e]
 have hr := at_range (pl_X p) (pl_Y p) p.1 y x
 rw [UInt8.toNat_ofNat']
 omega
theorem okMarks_steps (l : List M13) : ∀ d i, i + d = l.length → foldN (fun i (_ : Unit) => if markStep l i = true then Sum.inl () else Sum.inr false) (fun _ => decide (l.length ≤ 12)) d i () = true → ∀ j, i ≤ j → j < l.length → markStep l j = true := by
 intro d
 induction d with
 | zero => intro i hi h j h1 h2; omega
 | succ d ih =>
  intro i hi h j h1 h2
  simp only [foldN] at h
  cases hk : markStep l i with
  | false => rw [hk] at h; simp at h
  | true =>
   rw [hk] at h
   by_cases hj : j = i
   ·subst hj; exact hk
   ·exact ih (i + 1) (by omega) (by simpa using h) j (by omega) h2
theorem less_one {a b : ByteArray} (ha : a.size = 1) (hb : b.size = 1) : Op.bytesLess a.toList b.toList = true ↔ bt a 0 < bt b 0 := by
 obtain ⟨x, hx, ex⟩ := one_letter ha
 obtain ⟨y, hy, ey⟩ := one_letter hb
 rw [hx, hy, ex, ey]
 simp [Op.bytesLess, UInt8.lt_iff_toNat_lt]
theorem same_one {a b : ByteArray} (ha : a.size = 1) (hb : b.size = 1) : a.toList = b.toList ↔ bt a 0 = bt b 0 := by
 obtain ⟨x, hx, ex⟩ := one_letter ha
 obtain ⟨y, hy, ey⟩ := one_letter hb
 rw [hx, hy, ex, ey]
 constructor
 ·intro h; rw [(List.cons.inj h).1]
 ·intro h
  have : x = y := UInt8.toNat_inj.1 (by omega)
  rw [this]
theorem let_size {l : List M13} (h : okMarks l = true) {i : Nat} (hi : i < l.length) : (l.getD i z44).f0.size = 1 := by
 have := okMarks_let h hi
 simp only [okLetter, Bool.and_eq_true, decide_eq_true_eq] at this
 exact this.1
theorem let_up {l : List M13} (h : okMarks l = true) : ∀ (d i : Nat), i + d + 1 < l.length → bt (l.getD i z44).f0 0 < bt (l.getD (i + d + 1) z44).f0 0 := by
 have step : ∀ i, i + 1 < l.length → bt (l.getD i z44).f0 0 < bt (l.getD (i + 1) z44).f0 0 := fun i hi => by
  have h1 := okMarks_steps l l.length 0 (by omega) h (i + 1) (by omega) hi
  unfold markStep at h1
  rw [Bool.and_eq_true] at h1
  have h2 := h1.2
  rw [show decide (i + 1 = 0) = false from decide_eq_false (by omega), Bool.false_or, show i + 1 - 1 = i by omega] at h2
  exact (less_one (let_size h (by omega)) (let_size h hi)).1 h2
 intro d
 induction d with
 | zero => intro i hi; exact step i hi
 | succ d ih =>
  intro i hi
  have h1 := ih i (by omega)
  have h2 := step (i + d + 1) (by omega)
  have e : i + (d + 1) + 1 = i + d + 1 + 1 := by omega
  rw [e]
  omega
theorem let_ne {l : List M13} (h : okMarks l = true) {i j : Nat} (hi : i < l.length) (hj : j < l.length) (hij : i ≠ j) : (l.getD i z44).f0.toList ≠ (l.getD j z44).f0.toList := by
 intro e
 have e2 := (same_one (let_size h hi) (let_size h hj)).1 e
 rcases Nat.lt_or_gt_of_ne hij with hlt | hlt
 ·have h1 := let_up h (j - i - 1) i (by omega)
  rw [show i + (j - i - 1) + 1 = j by omega] at h1
  omega
 ·have h1 := let_up h (i - j - 1) j (by omega)
  rw [show j + (i - j - 1) + 1 = i by omega] at h1
  omega
theorem idxF_first {α : Type} (p : α → Bool) (d : α) : ∀ (l : List α) (b : Int) (i : Nat), i < l.length → p (l.getD i d) = true → (∀ j, j < i → p (l.getD j d) = false) → idxF p l b = b + (i : Int)
 | [], _, _, h, _, _ => by simp at h
 | x :: l, b, 0, _, hp, _ => by
  have : p x = true := by simpa using hp
  simp [idxF, this]
 | x :: l, b, i + 1, h, hp, hn => by
  have h0 : p x = false := by simpa using hn 0 (by omega)
  have ih := idxF_first p d l (b + 1) i (by simpa using h) (by simpa using hp) (fun j hj => by simpa using hn (j + 1) (by omega))
  simp only [idxF, h0, Bool.false_eq_true, if_false]
  rw [ih]
  omega
theorem let_found {l : List M13} (h : okMarks l = true) {i : Nat} (hi : i < l.length) : idxF (fun x : M13 => x.f0.toList == (l.getD i z44).f0.toList) l 0 = (i : Int) := by
 have := idxF_first (fun x : M13 => x.f0.toList == (l.getD i z44).f0.toList) z44 l 0 i hi (by simp) (fun j hj => beq_eq_false_iff_ne.2 (let_ne h (by omega) hi (by omega)))
 omega
def sizeAns (l : List S44) (s : Int) : Int × Int × Bool := if (mayFit l s && fits20 l s) = true then ((bd l s (l.length - 1)).2.1 - (bd l s (l.length - 1)).1 + 1, (bd l s (l.length - 1)).2.2.2 - (bd l s (l.length - 1)).2.2.1 + 1, true) else (0, 0, false)
theorem specSize_ev (l : List S44) (s : Int) (hm : l.length ≤ 9223372036854775807) : Ev (fun k => spec_PlanSize.f k l s) (sizeAns l s) := by
 simp only [spec_PlanSize.f]
 refine Ev.bind (specFits_ev l s hm) ?_
 unfold sizeAns
 by_cases h : (mayFit l s && fits20 l s) = true
 ·rw [if_pos h]
  rw [Bool.and_eq_true] at h
  obtain ⟨h1, hs, h0⟩ := mayFit_says h.1
  have hb := bd_small h1 hs (l.length - 1) (by omega)
  refine Ev.ite_pos (by rw [h.1, h.2]; rfl) (Ev.bind (bounds_ev h1 h0 hs) ?_)
  rw [wrap_id (x := (bd l s (l.length - 1)).2.1 - (bd l s (l.length - 1)).1) (by omega) (by omega), wrap_id (x := (bd l s (l.length - 1)).2.2.2 - (bd l s (l.length - 1)).2.2.1) (by omega) (by omega), wrap_id (x := (bd l s (l.length - 1)).2.1 - (bd l s (l.length - 1)).1 + 1) (by omega) (by omega), wrap_id (x := (bd l s (l.length - 1)).2.2.2 - (bd l s (l.length - 1)).2.2.1 + 1) (by omega) (by omega)]
  exact Ev.now _
 ·rw [if_neg h]
  exact Ev.ite_neg h (Ev.now _)
theorem implSize_ev (l : List S44) (s : Int) (hm : l.length ≤ 9223372036854775807) : Ev (fun k => impl_PlanSize.f k l s) (sizeAns l s) := by
 simp only [impl_PlanSize.f]
 refine Ev.bind (implPlanOf_ev l s hm) ?_
 unfold sizeAns
 by_cases h : mayFit l s = true
 ·rw [if_pos h, h, Bool.true_and]
  simp only [impl_PlanSize.of, fits20_plan]
  by_cases h2 : fits20 l s = true
  ·rw [if_pos h2, if_pos h2]
   exact Ev.now _
  ·rw [if_neg h2, if_neg h2]
   exact Ev.now _
 ·rw [if_neg h, if_neg (show ¬ (mayFit l s && fits20 l s) = true by simp [h])]
  exact Ev.now _
def sqA (l : List S44) (s V N : Int) (i : Int) : Int × Int × Bool := if i < 0 then (0, 0, false) else ((l.getD i.toNat z44).f1 / s - V, N - (l.getD i.toNat z44).f2 / s, true)
def sqAns (l : List S44) (s : Int) (i : Int) : Int × Int × Bool := sqA l s (bd l s (l.length - 1)).1 (bd l s (l.length - 1)).2.2.2 i
def squareAns (l : List S44) (s : Int) (a : ByteArray) : Int × Int × Bool := if (mayFit l s && fits20 l s) = true then sqAns l s (impl_SquareOf.at l a) else (0, 0, false)
theorem specSq_loop {l : List S44} (h : okMarks l = true) {s : Int} (hs : 1 ≤ s ∧ s ≤ 500) (a : ByteArray) {V N : Int} (hV : -1000 ≤ V ∧ V ≤ 1000) (hN : -1000 ≤ N ∧ N ≤ 1000) : ∀ (d i : Nat), i + d = l.length → Ev (fun k => spec_SquareOf.l0 k l s a V N (i : Int)) (sqA l s V N (idxF (fun x : S44 => x.f0.toList == a.toList) (l.drop i) (i : Int))) := by
 have h12 := okMarks_len h
 intro d
 induction d with
 | zero =>
  intro i hi
  rw [List.drop_eq_nil_of_le (by omega)]
  refine Ev.step (f := fun _ => some (0, 0, false)) (fun k => ?_) (Ev.now _)
  simp only [spec_SquareOf.l0]
  rw [if_neg (by omega)]
 | succ d ih =>
  intro i hi
  have hil : i < l.length := by omega
  have h1 := okMarks_at h hil
  have d1 := small_div ⟨h1.1, h1.2.1⟩ hs
  have d2 := small_div ⟨h1.2.2.1, h1.2.2.2⟩ hs
  have hw : wrap64 ((i : Int) + 1) = ((i + 1 : Nat) : Int) := wrap_up hil (show l.length ≤ 9223372036854775807 by omega)
  have hq1 := square_eq ⟨h1.1, h1.2.1⟩ hs
  have hq2 := square_eq ⟨h1.2.2.1, h1.2.2.2⟩ hs
  have w1 : wrap64 ((l.getD i z44).f1 / s - V) = (l.getD i z44).f1 / s - V := wrap_id (by omega) (by omega)
  have w2 : wrap64 (N - (l.getD i z44).f2 / s) = N - (l.getD i z44).f2 / s := wrap_id (by omega) (by omega)
  have hn : ((i : Nat) : Int) < (l.length : Int) := Int.ofNat_lt.2 hil
  have h0 : 0 ≤ ((i : Nat) : Int) := Int.natCast_nonneg i
  clear d1 d2 h1 hV hN hs
  rw [List.drop_eq_getElem_cons hil]
  simp only [idxF]
  rw [← getD_lt l z44 i hil]
  by_cases he : (l.getD i z44).f0.toList = a.toList
  ·rw [if_pos (beq_iff_eq.2 he)]
   refine Ev.step (f := fun _ => some (sqA l s V N (i : Int))) (fun k => ?_) (Ev.now _)
   simp only [spec_SquareOf.l0, rdM, hq1, hq2, Option.bind_some]
   rw [if_pos hn, if_pos h0, if_pos he, w1, w2]
   unfold sqA
   rw [if_neg (by omega), Int.toNat_natCast]
  ·rw [if_neg (fun hh => he (beq_iff_eq.1 hh))]
   refine Ev.step (fun k => ?_) (ih (i + 1) (by omega))
   simp only [spec_SquareOf.l0, rdM]
   rw [if_pos hn, if_pos h0, if_neg he, hw]
   first | done | rfl
theorem specSquareOf_ev (l : List S44) (s : Int) (a : ByteArray) (hm : l.length ≤ 9223372036854775807) : Ev (fun k => spec_SquareOf.f k l s a) (squareAns l s a) := by
 simp only [spec_SquareOf.f]
 refine Ev.bind (specFits_ev l s hm) ?_
 unfold squareAns
 by_cases h : (mayFit l s && fits20 l s) = true
 ·rw [if_pos h]
  have h' := h
  rw [Bool.and_eq_true] at h'
  obtain ⟨h1, hs, h0⟩ := mayFit_says h'.1
  have hb := bd_small h1 hs (l.length - 1) (by omega)
  exact Ev.ite_pos h (Ev.bind (bounds_ev h1 h0 hs) (specSq_loop h1 hs a hb.1 hb.2.2.2 l.length 0 (by omega)))
 ·rw [if_neg h]
  exact Ev.ite_neg h (Ev.now _)
theorem implSquareOf_ev (l : List S44) (s : Int) (a : ByteArray) (hm : l.length ≤ 9223372036854775807) : Ev (fun k => impl_SquareOf.f k l s a) (squareAns l s a) := by
 simp only [impl_SquareOf.f]
 refine Ev.bind (implPlanOf_ev l s hm) ?_
 unfold squareAns
 by_cases h : mayFit l s = true
 ·rw [if_pos h, h, Bool.true_and]
  simp only [impl_SquareOf.of, fits20_plan]
  by_cases h2 : fits20 l s = true
  ·rw [if_pos h2, if_pos h2]
   unfold sqAns sqA
   by_cases hi : impl_SquareOf.at l a < 0
   ·rw [if_pos hi, if_pos hi]
    exact Ev.now _
   ·rw [if_neg hi, if_neg hi]
    obtain ⟨h1, hs, h0⟩ := mayFit_says h
    have hrg : impl_SquareOf.at l a = -1 ∨ (0 ≤ impl_SquareOf.at l a ∧ impl_SquareOf.at l a < 0 + (l.length : Int)) := idxF_range _ _ _
    have hil : (impl_SquareOf.at l a).toNat < l.length := by omega
    have h3 := okMarks_at h1 hil
    have hb := bd_small h1 hs (l.length - 1) (by omega)
    have d1 := small_div ⟨h3.1, h3.2.1⟩ hs
    have d2 := small_div ⟨h3.2.2.1, h3.2.2.2⟩ hs
    have hr : rd_T44 l (impl_SquareOf.at l a) = l.getD (impl_SquareOf.at l a).toNat z44 := by
     rw [← rdM, Int.toNat_of_nonneg (by omega)]
    rw [hr]
    simp only [impl_plan_square.f, planOf, floorDiv_eq ⟨h3.1, h3.2.1⟩ hs, floorDiv_eq ⟨h3.2.2.1, h3.2.2.2⟩ hs, Option.bind_some]
    rw [wrap_id (x := (l.getD (impl_SquareOf.at l a).toNat z44).f1 / s - (bd l s (l.length - 1)).1) (by omega) (by omega), wrap_id (x := (bd l s (l.length - 1)).2.2.2 - (l.getD (impl_SquareOf.at l a).toNat z44).f2 / s) (by omega) (by omega)]
    exact Ev.now _
  ·rw [if_neg h2, if_neg h2]
   exact Ev.now _
 ·rw [if_neg h, if_neg (show ¬ (mayFit l s && fits20 l s) = true by simp [h])]
  exact Ev.now _
def fitsAt (l : List S44) (c r s : Int) : Bool := decide ((bd l s (l.length - 1)).2.1 - (bd l s (l.length - 1)).1 < c) && decide ((bd l s (l.length - 1)).2.2.2 - (bd l s (l.length - 1)).2.2.1 < r)
def scanScale (l : List S44) (c r : Int) : Nat → Nat → Int × Bool
 | 0, _ => (0, false)
 | d + 1, s => if fitsAt l c r (s : Int) = true then ((s : Int), true) else scanScale l c r d (s + 1)
theorem specScale_loop {l : List S44} (h : okMarks l = true) (h0 : l.length ≠ 0) (c r : Int) : ∀ (d s : Nat), s + d = 501 → 1 ≤ s → Ev (fun k => spec_SmallestScale.l0 k l c r (s : Int)) (scanScale l c r d s) := by
 intro d
 induction d with
 | zero =>
  intro s hd h1
  refine Ev.step (f := fun _ => some (0, false)) (fun k => ?_) (Ev.now _)
  simp only [spec_SmallestScale.l0]
  rw [if_neg (by omega)]
 | succ d ih =>
  intro s hd h1
  have hs : 1 ≤ (s : Int) ∧ (s : Int) ≤ 500 := by omega
  have hb := bd_small h hs (l.length - 1) (by omega)
  have hnext := ih (s + 1) (by omega) (by omega)
  have hw : wrap64 ((s : Int) + 1) = ((s + 1 : Nat) : Int) := wrap_id (by omega) (by omega)
  refine Ev.step (f := fun k => (spec_l13Bounds.f k l (s : Int)).bind fun bt280 => (if (wrap64 (bt280.2.1 - bt280.1)) < c then (if (wrap64 (bt280.2.2.2 - bt280.2.2.1)) < r then (some ((s : Int), true)) else (spec_SmallestScale.l0 k l c r ((s + 1 : Nat) : Int))) else (spec_SmallestScale.l0 k l c r ((s + 1 : Nat) : Int)))) (fun k => ?_) (Ev.bind (bounds_ev h h0 hs) ?_)
  ·simp only [spec_SmallestScale.l0, hw]
   rw [if_pos (by omega)]
  ·rw [wrap_id (x := (bd l (s : Int) (l.length - 1)).2.1 - (bd l (s : Int) (l.length - 1)).1) (by omega) (by omega), wrap_id (x := (bd l (s : Int) (l.length - 1)).2.2.2 - (bd l (s : Int) (l.length - 1)).2.2.1) (by omega) (by omega)]
   simp only [scanScale]
   rw [show fitsAt l c r (s : Int) = (decide ((bd l (s : Int) (l.length - 1)).2.1 - (bd l (s : Int) (l.length - 1)).1 < c) && decide ((bd l (s : Int) (l.length - 1)).2.2.2 - (bd l (s : Int) (l.length - 1)).2.2.1 < r)) from rfl]
   by_cases c1 : (bd l (s : Int) (l.length - 1)).2.1 - (bd l (s : Int) (l.length - 1)).1 < c
   ·rw [decide_eq_true c1, Bool.true_and]
    refine Ev.ite_pos c1 ?_
    by_cases c2 : (bd l (s : Int) (l.length - 1)).2.2.2 - (bd l (s : Int) (l.length - 1)).2.2.1 < r
    ·rw [decide_eq_true c2, if_pos rfl]
     exact Ev.ite_pos c2 (Ev.now _)
    ·rw [decide_eq_false c2, if_neg (by decide)]
     exact Ev.ite_neg c2 hnext
   ·rw [decide_eq_false c1, Bool.false_and, if_neg (by decide)]
    exact Ev.ite_neg c1 hnext
theorem implScale_loop {l : List S44} (h : okMarks l = true) (h0 : l.length ≠ 0) (c r : Int) : ∀ (d s : Nat), s + d = 501 → 1 ≤ s → Ev (fun k => impl_SmallestScale.l0 k l c r (s : Int)) (scanScale l c r d s) := by
 intro d
 induction d with
 | zero =>
  intro s hd h1
  refine Ev.step (f := fun _ => some (0, false)) (fun k => ?_) (Ev.now _)
  simp only [impl_SmallestScale.l0]
  rw [if_neg (by omega)]
 | succ d ih =>
  intro s hd h1
  have hs : 1 ≤ (s : Int) ∧ (s : Int) ≤ 500 := by omega
  have hnext := ih (s + 1) (by omega) (by omega)
  have hw : wrap64 ((s : Int) + 1) = ((s + 1 : Nat) : Int) := wrap_id (by omega) (by omega)
  refine Ev.step (f := fun k => (impl_newPlan.f k l (s : Int)).bind fun bt293 => (if bt293.2.2.2.2.1 ≤ c then (if bt293.2.2.2.2.2 ≤ r then (some ((s : Int), true)) else (impl_SmallestScale.l0 k l c r ((s + 1 : Nat) : Int))) else (impl_SmallestScale.l0 k l c r ((s + 1 : Nat) : Int)))) (fun k => ?_) (Ev.bind (newPlan_ev h h0 hs) ?_)
  ·simp only [impl_SmallestScale.l0, hw]
   rw [if_pos (by omega)]
  ·simp only [scanScale, planOf]
   rw [show fitsAt l c r (s : Int) = (decide ((bd l (s : Int) (l.length - 1)).2.1 - (bd l (s : Int) (l.length - 1)).1 < c) && decide ((bd l (s : Int) (l.length - 1)).2.2.2 - (bd l (s : Int) (l.length - 1)).2.2.1 < r)) from rfl]
   by_cases c1 : (bd l (s : Int) (l.length - 1)).2.1 - (bd l (s : Int) (l.length - 1)).1 < c
   ·rw [decide_eq_true c1, Bool.true_and]
    refine Ev.ite_pos (by omega) ?_
    by_cases c2 : (bd l (s : Int) (l.length - 1)).2.2.2 - (bd l (s : Int) (l.length - 1)).2.2.1 < r
    ·rw [decide_eq_true c2, if_pos rfl]
     exact Ev.ite_pos (by omega) (Ev.now _)
    ·rw [decide_eq_false c2, if_neg (by decide)]
     exact Ev.ite_neg (by omega) hnext
   ·rw [decide_eq_false c1, Bool.false_and, if_neg (by decide)]
    exact Ev.ite_neg (by omega) hnext
def scaleAns (l : List S44) (c r : Int) : Int × Bool := if okMarks l = true ∧ l.length ≠ 0 ∧ (1 ≤ c ∧ c ≤ 20) ∧ (1 ≤ r ∧ r ≤ 20) then scanScale l c r 500 1 else (0, false)
theorem specScale_ev (l : List S44) (c r : Int) (hm : l.length ≤ 9223372036854775807) : Ev (fun k => spec_SmallestScale.f k l c r) (scaleAns l c r) := by
 have hno : Ev (fun k => spec_SmallestScale.j0 k l c r true) (0, false) := Ev.step (f := fun _ => some (0, false)) (fun k => by simp only [spec_SmallestScale.j0, if_true]) (Ev.now _)
 simp only [spec_SmallestScale.f, l1In_eq, Option.bind_some]
 refine Ev.bind (l13Good_ev l hm) ?_
 unfold scaleAns
 by_cases h : okMarks l = true
 ·refine Ev.ite_pos h ?_
  by_cases h0 : l.length = 0
  ·rw [if_neg (fun hh => hh.2.1 h0)]
   exact Ev.ite_pos (by omega) hno
  ·refine Ev.ite_neg (by omega) ?_
   by_cases hc : 1 ≤ c ∧ c ≤ 20
   ·refine Ev.ite_pos (decide_eq_true hc) ?_
    by_cases hr : 1 ≤ r ∧ r ≤ 20
    ·rw [if_pos ⟨h, h0, hc, hr⟩, decide_eq_true hr, Bool.not_true]
     exact Ev.step (f := fun k => spec_SmallestScale.l0 k l c r ((1 : Nat) : Int)) (fun k => by simp only [spec_SmallestScale.j0, Bool.false_eq_true, if_false]; rfl) (specScale_loop h h0 c r 500 1 (by omega) (by omega))
    ·rw [if_neg (fun hh => hr hh.2.2.2), decide_eq_false hr, Bool.not_false]
     exact hno
   ·rw [if_neg (fun hh => hc hh.2.2.1)]
    exact Ev.ite_neg (by simpa using hc) hno
 ·rw [if_neg (fun hh => h hh.1)]
  exact Ev.ite_neg h hno
theorem implScale_ev (l : List S44) (c r : Int) (hm : l.length ≤ 9223372036854775807) : Ev (fun k => impl_SmallestScale.f k l c r) (scaleAns l c r) := by
 have hno : Ev (fun k => impl_SmallestScale.j0 k l c r true) (0, false) := Ev.step (f := fun _ => some (0, false)) (fun k => by simp only [impl_SmallestScale.j0, if_true]) (Ev.now _)
 simp only [impl_SmallestScale.f, within_eq, Option.bind_some]
 refine Ev.bind (areMarks_ev l hm) ?_
 unfold scaleAns
 by_cases h : okMarks l = true
 ·refine Ev.ite_pos h ?_
  by_cases h0 : l.length = 0
  ·rw [if_neg (fun hh => hh.2.1 h0)]
   exact Ev.ite_pos (by omega) hno
  ·refine Ev.ite_neg (by omega) ?_
   by_cases hc : 1 ≤ c ∧ c ≤ 20
   ·refine Ev.ite_pos (decide_eq_true hc) ?_
    by_cases hr : 1 ≤ r ∧ r ≤ 20
    ·rw [if_pos ⟨h, h0, hc, hr⟩, decide_eq_true hr, Bool.not_true]
     exact Ev.step (f := fun k => impl_SmallestScale.l0 k l c r ((1 : Nat) : Int)) (fun k => by simp only [impl_SmallestScale.j0, Bool.false_eq_true, if_false]; rfl) (implScale_loop h h0 c r 500 1 (by omega) (by omega))
    ·rw [if_neg (fun hh => hr hh.2.2.2), decide_eq_false hr, Bool.not_false]
     exact hno
   ·rw [if_neg (fun hh => hc hh.2.2.1)]
    exact Ev.ite_neg (by simpa using hc) hno
 ·rw [if_neg (fun hh => h hh.1)]
  exact Ev.ite_neg h hno
end Go.Proofs.Ytckidmhkhlbkeaa.Pure
