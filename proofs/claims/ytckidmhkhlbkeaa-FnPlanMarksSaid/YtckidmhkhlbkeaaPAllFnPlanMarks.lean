/- The plain part of the law FnPlanMarks: what the program's and the reference's functions answer. -/
import Derived.Test.YtckidmhkhlbkeaaMKx2
import Derived.Test.YtckidmhkhlbkeaaMKx3
import Derived.Test.YtckidmhkhlbkeaaMKx9
import Derived.Test.YtckidmhkhlbkeaaMKx11
import Derived.Test.YtckidmhkhlbkeaaMKx6
import Derived.Laws.Strings
import Derived.Test.YtckidmhkhlbkeaaMKx12
import Derived.Test.YtckidmhkhlbkeaaMKx8
import Derived.Test.YtckidmhkhlbkeaaMKx17
namespace Go.Proofs.Ytckidmhkhlbkeaa.Pure
open Go.RowKit Go.Proofs.Ytckidmhkhlbkeaa.MK Go.Proofs.YtckidmhkhlbkeaaW.PrintWords Go.Proofs.YtckidmhkhlbkeaaW.PrintLast
set_option linter.unusedVariables false
set_option linter.unusedSimpArgs false

theorem within_eq (a b c : Int) : impl_within.f a b c = some (decide (b ≤ a ∧ a ≤ c)) := by
 unfold impl_within.f
 by_cases h : a ≥ b
 ·rw [if_pos h]; simp [show b ≤ a from h]
 ·rw [if_neg h]; simp [show ¬ b ≤ a from h]
theorem l1In_eq (a b c : Int) : spec_l1In.f a b c = some (decide (b ≤ a ∧ a ≤ c)) := by
 unfold spec_l1In.f
 by_cases h : a ≥ b
 ·rw [if_pos h]; simp [show b ≤ a from h]
 ·rw [if_neg h]; simp [show ¬ b ≤ a from h]
theorem wrap_id {x : Int} (h0 : -9223372036854775808 ≤ x) (h1 : x ≤ 9223372036854775807) : wrap64 x = x := by
 unfold wrap64
 omega
theorem wrap_up {i : Nat} {n : Nat} (h : i < n) (hn : n ≤ 9223372036854775807) : wrap64 ((i : Int) + 1) = ((i + 1 : Nat) : Int) := by
 unfold wrap64
 omega

theorem Ev.ite_pos {α : Type} {c : Prop} [Decidable c] {g g' : Nat → Option α} {r : α} (hc : c) (h : Ev g r) : Ev (fun k => if c then g k else g' k) r := by
 simpa only [if_pos hc] using h
theorem Ev.ite_neg {α : Type} {c : Prop} [Decidable c] {g g' : Nat → Option α} {r : α} (hc : ¬ c) (h : Ev g' r) : Ev (fun k => if c then g k else g' k) r := by
 simpa only [if_neg hc] using h
theorem Ev.past {α : Type} {g : Nat → Option α} {r : α} (d : Nat) (h : ∀ k, d < k → g k = some r) : Ev g r := ⟨d + 1, fun k hk => h k (by omega)⟩
theorem Ev.eq {α : Type} {g : Nat → Option α} {r : α} (h : ∀ k, g k = some r) : Ev g r := ⟨0, fun k _ => h k⟩
theorem Ev.bindc {α β : Type} {x : Option α} {f : Nat → α → Option β} {a : α} {r : β} (h : x = some a) (k : Ev (fun n => f n a) r) : Ev (fun n => x.bind (f n)) r := by
 subst h
 exact k

def foldN {σ ρ : Type} (step : Nat → σ → σ ⊕ ρ) (fin : σ → ρ) : Nat → Nat → σ → ρ
 | 0, _, s => fin s
 | n + 1, i, s => match step i s with
  | .inl s' => foldN step fin n (i + 1) s'
  | .inr r => r
theorem loopN {σ ρ : Type} (L : Nat → Int → σ → Option ρ) (n K : Nat) (Inv : Nat → σ → Prop) (step : Nat → σ → σ ⊕ ρ) (fin : σ → ρ)
  (h1 : ∀ k i s, K ≤ k → i < n → Inv i s → (∃ s', step i s = .inl s' ∧ Inv (i + 1) s' ∧ L (k + 1) (i : Int) s = L k ((i + 1 : Nat) : Int) s') ∨ (∃ r, step i s = .inr r ∧ L (k + 1) (i : Int) s = some r))
  (h2 : ∀ k s, K ≤ k → Inv n s → L (k + 1) (n : Int) s = some (fin s)) : ∀ d i s k, i + d = n → K + d < k → Inv i s → L k (i : Int) s = some (foldN step fin d i s) := by
 intro d
 induction d with
 | zero =>
  intro i s k hi hk hv
  obtain ⟨k, rfl⟩ : ∃ m, k = m + 1 := ⟨k - 1, by omega⟩
  obtain rfl : i = n := by omega
  exact h2 k s (by omega) hv
 | succ d ih =>
  intro i s k hi hk hv
  obtain ⟨k, rfl⟩ : ∃ m, k = m + 1 := ⟨k - 1, by omega⟩
  simp only [foldN]
  rcases h1 k i s (by omega) (by omega) hv with ⟨s', hs, hv', hL⟩ | ⟨r, hs, hL⟩
  ·rw [hs, hL]
   exact ih (i + 1) s' k (by omega) (by omega) hv'
  ·rw [hs, hL]
theorem loopN_ev {σ ρ : Type} (L : Nat → Int → σ → Option ρ) (n K : Nat) (Inv : Nat → σ → Prop) (step : Nat → σ → σ ⊕ ρ) (fin : σ → ρ) (s : σ) (hv : Inv 0 s)
  (h1 : ∀ k i s, K ≤ k → i < n → Inv i s → (∃ s', step i s = .inl s' ∧ Inv (i + 1) s' ∧ L (k + 1) (i : Int) s = L k ((i + 1 : Nat) : Int) s') ∨ (∃ r, step i s = .inr r ∧ L (k + 1) (i : Int) s = some r))
  (h2 : ∀ k s, K ≤ k → Inv n s → L (k + 1) (n : Int) s = some (fin s)) : Ev (fun k => L k 0 s) (foldN step fin n 0 s) :=
 Ev.past (K + n) fun k hk => loopN L n K Inv step fin h1 h2 n 0 s k (by omega) hk hv
theorem loopT_ev {σ ρ : Type} (L : Nat → Int → σ → Option ρ) (n K : Nat) (step : Nat → σ → σ ⊕ ρ) (fin : σ → ρ) (s : σ)
  (h1 : ∀ k i s, K ≤ k → i < n → (∃ s', step i s = .inl s' ∧ L (k + 1) (i : Int) s = L k ((i + 1 : Nat) : Int) s') ∨ (∃ r, step i s = .inr r ∧ L (k + 1) (i : Int) s = some r))
  (h2 : ∀ k s, K ≤ k → L (k + 1) (n : Int) s = some (fin s)) : Ev (fun k => L k 0 s) (foldN step fin n 0 s) :=
 loopN_ev L n K (fun _ _ => True) step fin s trivial (fun k i s hk hi _ => (h1 k i s hk hi).imp (fun ⟨s', a, b⟩ => ⟨s', a, trivial, b⟩) id) (fun k s hk _ => h2 k s hk)
theorem loopV_ev {σ ρ : Type} (L : Nat → Int → σ → Option ρ) (n K : Nat) (Inv : Nat → σ → Prop) (r : ρ) (s : σ) (hv : Inv 0 s)
  (h1 : ∀ k i s, K ≤ k → i < n → Inv i s → (∃ s', Inv (i + 1) s' ∧ L (k + 1) (i : Int) s = L k ((i + 1 : Nat) : Int) s') ∨ L (k + 1) (i : Int) s = some r)
  (h2 : ∀ k s, K ≤ k → Inv n s → L (k + 1) (n : Int) s = some r) : Ev (fun k => L k 0 s) r := by
 have key : ∀ d i s k, i + d = n → K + d < k → Inv i s → L k (i : Int) s = some r := by
  intro d
  induction d with
  | zero =>
   intro i s k hi hk hv
   obtain ⟨k, rfl⟩ : ∃ m, k = m + 1 := ⟨k - 1, by omega⟩
   obtain rfl : i = n := by omega
   exact h2 k s (by omega) hv
  | succ d ih =>
   intro i s k hi hk hv
   obtain ⟨k, rfl⟩ : ∃ m, k = m + 1 := ⟨k - 1, by omega⟩
   rcases h1 k i s (by omega) (by omega) hv with ⟨s', hv', hL⟩ | hL
   ·rw [hL]
    exact ih (i + 1) s' k (by omega) (by omega) hv'
   ·exact hL
 exact Ev.past (K + n) fun k hk => key n 0 s k (by omega) hk hv
theorem getD_lt {α : Type} (l : List α) (d : α) (i : Nat) (h : i < l.length) : l.getD i d = l[i] := by simp [List.getD_eq_getElem?_getD, List.getElem?_eq_getElem h]
def Bytes (l : List Int) : Prop := ∀ x ∈ l, 0 ≤ x ∧ x ≤ 255
theorem bytes_of {l : List Int} (h : ∀ x ∈ l, (Lit.int .u8 x).wf = true) : Bytes l := fun x hx => by
 have := h x hx
 simp [Lit.wf, IntKind.min, IntKind.max, IntKind.signed, IntKind.bits] at this
 omega
theorem bits_255 (x : Int) : 0 ≤ Go.bits .and .u64 x 255 ∧ Go.bits .and .u64 x 255 ≤ 255 := by
 have h : ((BitVec.ofInt 64 x) &&& (BitVec.ofInt 64 255)).toNat ≤ 255 := by
  rw [BitVec.toNat_and]
  exact Nat.le_trans Nat.and_le_right (by decide)
 have e : Go.bits .and .u64 x 255 = IntKind.u64.wrap (((BitVec.ofInt 64 x) &&& (BitVec.ofInt 64 255)).toNat : Int) := rfl
 have hw : ∀ y : Int, IntKind.u64.wrap y = y % 18446744073709551616 := fun y => by simp [IntKind.wrap, IntKind.signed, IntKind.bits]
 rw [e, hw]
 omega
theorem cur_next {l : List Int} (hb : Bytes l) {i s : Int} (h0 : 0 ≤ i) (h1 : i ≤ 1000000000) : ∃ v t, spec_l1Cur_next.f l i s = some (v, i + 1, t) ∧ 0 ≤ v ∧ v ≤ 255 := by
 have hw : wrap64 (i + 1) = i + 1 := wrap_id (by omega) (by omega)
 have hv : i < l.length → 0 ≤ wrap64 (rd l i) ∧ wrap64 (rd l i) ≤ 255 := fun h => by
  have hi : i.toNat < l.length := by omega
  have h2 := hb _ (List.getElem_mem hi)
  have h3 : rd l i = l[i.toNat] := by simp only [rd]; exact getD_lt l 0 i.toNat hi
  rw [h3, wrap_id (by omega) (by omega)]
  exact h2
 have hc : ∀ x : Int, 0 ≤ wrap64 (Go.bits .and .u64 x 255) ∧ wrap64 (Go.bits .and .u64 x 255) ≤ 255 := fun x => by
  have := bits_255 x
  rw [wrap_id (by omega) (by omega)]
  exact this
 unfold spec_l1Cur_next.f
 simp only [hw]
 by_cases ha : i < l.length
 ·rw [if_pos ha, if_pos h0, if_pos (by omega)]
  exact ⟨_, _, rfl, hv ha⟩
 ·rw [if_neg ha, if_neg (by omega)]
  exact ⟨_, _, rfl, hc _⟩
theorem cur_pick {l : List Int} (hb : Bytes l) {i s n : Int} (h0 : 0 ≤ i) (h1 : i ≤ 999999990) (hn : n ≤ 1000000) : ∃ v j t, spec_l1Cur_pick.f l i s n = some (v, j, t) ∧ i ≤ j ∧ j ≤ i + 2 ∧ 0 ≤ v ∧ (v < n ∨ v = 0) := by
 unfold spec_l1Cur_pick.f
 by_cases c : n ≤ 1
 ·rw [if_pos c]
  exact ⟨_, _, _, rfl, by omega, by omega, by omega, .inr rfl⟩
 ·rw [if_neg c]
  obtain ⟨v, t, e, g0, g1⟩ := cur_next (s := s) hb h0 (by omega)
  rw [e]
  simp only [Option.bind_some]
  by_cases c2 : n > 200
  ·rw [if_pos c2]
   obtain ⟨u, t2, e2, g2, g3⟩ := cur_next (i := i + 1) (s := t) hb (by omega) (by omega)
   rw [e2]
   simp only [Option.bind_some]
   rw [if_neg (by omega)]
   have h1 : wrap64 (v * 256) = v * 256 := wrap_id (by omega) (by omega)
   have h2 : wrap64 (v * 256 + u) = v * 256 + u := wrap_id (by omega) (by omega)
   rw [h1, h2]
   exact ⟨_, _, _, rfl, by omega, by omega, Int.tmod_nonneg _ (by omega), .inl (Int.tmod_lt_of_pos _ (by omega))⟩
  ·rw [if_neg c2, if_neg (by omega)]
   exact ⟨_, _, _, rfl, by omega, by omega, Int.tmod_nonneg _ (by omega), .inl (Int.tmod_lt_of_pos _ (by omega))⟩
theorem cur_among {l : List Int} (hb : Bytes l) {i s : Int} (xs : List Int) (h0 : 0 ≤ i) (h1 : i ≤ 999999990) (hx : 0 < xs.length) (hx2 : xs.length ≤ 1000000) : ∃ v j t, spec_l1Cur_among.f l i s xs = some (v, j, t) ∧ i ≤ j ∧ j ≤ i + 2 ∧ v ∈ xs := by
 obtain ⟨v, j, t, e, g0, g1, g2, g3⟩ := cur_pick (s := s) (n := (xs.length : Int)) hb h0 h1 (by omega)
 unfold spec_l1Cur_among.f
 rw [e]
 simp only [Option.bind_some]
 rw [if_pos g2, if_pos (by omega)]
 refine ⟨_, _, _, rfl, g0, g1, ?_⟩
 have hi : v.toNat < xs.length := by omega
 have h3 : rd xs v = xs[v.toNat] := by simp only [rd]; exact getD_lt xs 0 v.toNat hi
 rw [h3]
 exact List.getElem_mem hi
def Dr {α : Type} (g : Nat → Option α) (P : α → Prop) : Prop := ∃ r, Ev g r ∧ P r
theorem Dr.now {α : Type} {P : α → Prop} (r : α) (h : P r) : Dr (fun _ => some r) P := ⟨r, Ev.now r, h⟩
theorem Dr.none {α : Type} {P : α → Prop} (h : False) : Dr (fun _ => (none : Option α)) P := h.elim
theorem Dr.ite {α : Type} {c : Prop} [Decidable c] {g g' : Nat → Option α} {P : α → Prop} (h : c → Dr g P) (h' : ¬ c → Dr g' P) : Dr (fun k => if c then g k else g' k) P := by
 by_cases hc : c
 ·obtain ⟨r, h1, h2⟩ := h hc
  exact ⟨r, Ev.ite_pos hc h1, h2⟩
 ·obtain ⟨r, h1, h2⟩ := h' hc
  exact ⟨r, Ev.ite_neg hc h1, h2⟩
theorem Dr.step {α : Type} {g f : Nat → Option α} {P : α → Prop} (he : ∀ k, g (k + 1) = f k) (h : Dr f P) : Dr g P := by
 obtain ⟨r, h1, h2⟩ := h
 exact ⟨r, Ev.step he h1, h2⟩
theorem Dr.bind {α β : Type} {g : Nat → Option α} {f : Nat → α → Option β} {Q : α → Prop} {P : β → Prop} (h : Dr g Q) (k : ∀ r, Q r → Dr (fun n => f n r) P) : Dr (fun n => (g n).bind (f n)) P := by
 obtain ⟨a, h1, h2⟩ := h
 obtain ⟨b, h3, h4⟩ := k a h2
 exact ⟨b, Ev.bind h1 h3, h4⟩
theorem Dr.bindc {α β : Type} {x : Option α} {f : Nat → α → Option β} {P : β → Prop} {a : α} (h : x = some a) (k : Dr (fun n => f n a) P) : Dr (fun n => x.bind (f n)) P := by
 subst h
 exact k
theorem Dr.mono {α : Type} {g : Nat → Option α} {P Q : α → Prop} (h : Dr g P) (hpq : ∀ r, P r → Q r) : Dr g Q := by
 obtain ⟨r, h1, h2⟩ := h
 exact ⟨r, h1, hpq r h2⟩
theorem Dr.pick {α : Type} {l : List Int} (hb : Bytes l) {i s n : Int} {f : Nat → Int × Int × Int → Option α} {P : α → Prop} (h0 : 0 ≤ i) (h1 : i ≤ 999999990) (hn : n ≤ 1000000) (k : ∀ v j t, i ≤ j → j ≤ i + 2 → 0 ≤ v → (v < n ∨ v = 0) → Dr (fun m => f m (v, j, t)) P) : Dr (fun m => (spec_l1Cur_pick.f l i s n).bind (f m)) P := by
 obtain ⟨v, j, t, e, g0, g1, g2, g3⟩ := cur_pick (s := s) hb h0 h1 hn
 exact Dr.bindc e (k v j t g0 g1 g2 g3)
theorem Dr.among {α : Type} {l : List Int} (hb : Bytes l) {i s : Int} {xs : List Int} {f : Nat → Int × Int × Int → Option α} {P : α → Prop} (h0 : 0 ≤ i) (h1 : i ≤ 999999990) (hx : 0 < xs.length) (hx2 : xs.length ≤ 1000000) (k : ∀ v j t, i ≤ j → j ≤ i + 2 → v ∈ xs → Dr (fun m => f m (v, j, t)) P) : Dr (fun m => (spec_l1Cur_among.f l i s xs).bind (f m)) P := by
 obtain ⟨v, j, t, e, g0, g1, g2⟩ := cur_among (s := s) hb xs h0 h1 hx hx2
 exact Dr.bindc e (k v j t g0 g1 g2)
theorem snoc_len {α : Type} (l : List α) (x : α) : (l ++ [x]).length = l.length + 1 := by simp
theorem wrap_pred (d : Nat) (h : d < 1000000) : wrap64 (((d + 1 : Nat) : Int) - 1) = (d : Int) := by
 unfold wrap64
 omega
theorem wrap_succ (d : Nat) (h : d < 1000000) : wrap64 ((d : Int) + 1) = ((d + 1 : Nat) : Int) := by
 unfold wrap64
 omega
theorem Dr.of {α : Type} {l : List Int} (hb : Bytes l) {i s : Int} {xs : List ByteArray} {f : Nat → ByteArray × Int × Int → Option α} {P : α → Prop} (h0 : 0 ≤ i) (h1 : i ≤ 999999990) (hx : 0 < xs.length) (hx2 : xs.length ≤ 1000000) (k : ∀ v j t, i ≤ j → j ≤ i + 2 → v ∈ xs → Dr (fun m => f m (v, j, t)) P) : Dr (fun m => (spec_l1Cur_of.f l i s xs).bind (f m)) P := by
 obtain ⟨v, j, t, e, g0, g1, g2, g3⟩ := cur_pick (s := s) (n := (xs.length : Int)) hb h0 h1 (by omega)
 have hi : v.toNat < xs.length := by omega
 refine Dr.bindc (a := (xs[v.toNat], j, t)) ?_ (k _ j t g0 g1 (List.getElem_mem hi))
 unfold spec_l1Cur_of.f
 rw [e]
 simp only [Option.bind_some]
 rw [if_pos g2, if_pos (by omega)]
 simp [rdOf, List.getD_eq_getElem?_getD, List.getElem?_eq_getElem hi]
abbrev DM := fun (r : List S44 × Int × Int) => r.1.length ≤ 13 ∧ 0 ≤ r.2.1 ∧ r.2.1 ≤ 1000
theorem dr_marks1 {l : List Int} (hb : Bytes l) : ∀ (d q : Nat) (xs : List S44) (i s : Int), q + d = 14 → xs.length = q → 0 ≤ i → i + 2 * d ≤ 990 → q ≤ 13 → Dr (fun k => spec_l1Cur_marks13.l1 k xs (q : Int) l i s) DM := by
 intro d
 induction d with
 | zero => intro q xs i s hq hx h0 h1 h2; omega
 | succ d ih =>
  intro q xs i s hq hx h0 h1 h2
  refine Dr.step (fun k => by rw [spec_l1Cur_marks13.l1]) ?_
  refine Dr.pick hb (by omega) (by omega) (by omega) (fun v j t g0 g1 g2 g3 => ?_)
  dsimp only
  rw [wrap_id (x := 12 + v) (by omega) (by omega), wrap_succ q (by omega)]
  refine Dr.ite (fun c => ?_) (fun c => Dr.now _ ⟨by dsimp only; omega, by dsimp only; omega, by dsimp only; omega⟩)
  refine Dr.ite (fun _ => ?_) (fun _ => Dr.none (by omega))
  exact ih (q + 1) _ j t (by omega) (by rw [snoc_len]; omega) (by omega) (by omega) (by omega)
theorem dr_marks0 {l : List Int} (hb : Bytes l) : ∀ (d : Nat) (xs : List S44) (c i s : Int), xs.length + d ≤ 7 → 0 ≤ i → i + 6 * d ≤ 900 → Dr (fun k => spec_l1Cur_marks13.l0 k xs c (d : Int) l i s) DM := by
 intro d
 induction d with
 | zero =>
  intro xs c i s hd h0 h1
  refine Dr.step (fun k => by rw [spec_l1Cur_marks13.l0]) ?_
  refine Dr.ite (fun c => by omega) (fun _ => ?_)
  refine Dr.ite (fun c => Dr.now _ ⟨by dsimp only; omega, by dsimp only; omega, by dsimp only; omega⟩) (fun hne => ?_)
  refine Dr.pick hb (by omega) (by omega) (by omega) (fun v j t g0 g1 g2 g3 => ?_)
  dsimp only
  refine Dr.ite (fun _ => Dr.ite (fun _ => ?_) (fun h => Dr.none (by omega))) (fun h => Dr.none (by omega))
  refine Dr.pick hb (by omega) (by omega) (by omega) (fun v2 j2 t2 g4 g5 g6 g7 => ?_)
  dsimp only
  refine Dr.ite (fun _ => ?_) (fun _ => Dr.ite (fun _ => ?_) (fun _ => Dr.ite (fun _ => ?_) (fun _ => Dr.ite (fun _ => ?_) (fun _ => ?_))))
  ·refine Dr.of hb (by omega) (by omega) (by simp) (by simp) (fun v3 j3 t3 g8 g9 _ => ?_)
   exact Dr.now _ ⟨by simp only [List.length_set]; omega, by dsimp only; omega, by dsimp only; omega⟩
  ·refine Dr.among hb (by omega) (by omega) (by simp) (by simp) (fun v3 j3 t3 g8 g9 _ => ?_)
   exact Dr.now _ ⟨by simp only [List.length_set]; omega, by dsimp only; omega, by dsimp only; omega⟩
  ·refine Dr.among hb (by omega) (by omega) (by simp) (by simp) (fun v3 j3 t3 g8 g9 _ => ?_)
   exact Dr.now _ ⟨by simp only [List.length_set]; omega, by dsimp only; omega, by dsimp only; omega⟩
  ·exact dr_marks1 hb 14 0 [] j2 t2 (by omega) rfl (by omega) (by omega) (by omega)
  ·exact Dr.now _ ⟨by simp only [List.length_set]; omega, by dsimp only; omega, by dsimp only; omega⟩
 | succ d ih =>
  intro xs c i s hd h0 h1
  refine Dr.step (fun k => by rw [spec_l1Cur_marks13.l0]) ?_
  refine Dr.ite (fun _ => ?_) (fun c => by omega)
  refine Dr.among hb (by omega) (by omega) (by simp) (by simp) (fun v j t g0 g1 _ => ?_)
  refine Dr.among hb (by dsimp only; omega) (by dsimp only; omega) (by simp) (by simp) (fun v2 j2 t2 g2 g3 _ => ?_)
  dsimp only at g2 g3 ⊢
  refine Dr.ite (fun _ => ?_) (fun _ => Dr.none (by omega))
  refine Dr.pick hb (by omega) (by omega) (by omega) (fun v3 j3 t3 g4 g5 g6 g7 => ?_)
  dsimp only
  rw [wrap_pred d (by omega)]
  exact ih _ _ _ _ (by rw [snoc_len]; omega) (by omega) (by omega)
theorem dr_marks {l : List Int} (hb : Bytes l) (s : Int) : Dr (fun k => spec_l1Cur_marks13.f k l 0 s) DM := by
 simp only [spec_l1Cur_marks13.f]
 refine Dr.pick hb (by omega) (by omega) (by omega) (fun v j t g0 g1 g2 g3 => ?_)
 dsimp only
 obtain ⟨n, hn⟩ : ∃ n : Nat, v = (n : Int) := ⟨v.toNat, by omega⟩
 rw [hn]
 exact dr_marks0 hb n [] 65 j t (by simp; omega) (by omega) (by omega)
theorem rdM (l : List S44) (i : Nat) : rd_T44 l (i : Int) = l.getD i z44 := by simp [rd_T44]
def okLetter (s : ByteArray) : Bool := decide (s.size = 1) && decide (65 ≤ bt s 0 ∧ bt s 0 ≤ 90)
theorem l13Letter_eq (s : ByteArray) : spec_l13Letter.f s = some (okLetter s) := by
 simp only [spec_l13Letter.f, okLetter]
 by_cases h : s.size = 1
 ·rw [if_pos (by omega), if_pos (by omega)]
  by_cases h1 : bt s 0 ≥ 65
  ·rw [if_pos h1]
   simp [h, show 65 ≤ bt s 0 from h1]
  ·rw [if_neg h1]
   simp [h, show ¬ 65 ≤ bt s 0 from h1]
 ·rw [if_neg (by omega)]
  simp [h]
theorem one_letter {s : ByteArray} (h : s.size = 1) : ∃ b : UInt8, s.toList = [b] ∧ bt s 0 = (b.toNat : Int) := by
 have hd : s.data.toList.length = 1 := by rw [Array.length_toList]; exact h
 obtain ⟨b, hb⟩ := List.length_eq_one_iff.1 hd
 refine ⟨b, by rw [ByteArray.toList_eq]; exact hb, ?_⟩
 have h0 : (0 : Int).toNat < s.size := by simp; omega
 rw [← bt_at s 0 h0]
 congr 2
 have : s[(0 : Int).toNat] = s.data.toList[0]'(by omega) := by rfl
 rw [this]
 simp [hb]
theorem letter_less {s : ByteArray} (h : s.size = 1) : (Op.bytesLess s.toList [65] = true ↔ bt s 0 < 65) ∧ (Op.bytesLess [90] s.toList = true ↔ 90 < bt s 0) := by
 obtain ⟨b, hb, e⟩ := one_letter h
 rw [hb, e]
 constructor
 ·simp [Op.bytesLess, UInt8.lt_iff_toNat_lt]
  omega
 ·simp [Op.bytesLess, UInt8.lt_iff_toNat_lt]
  omega
def okMark (x : S44) : Bool := okLetter x.f0 && (decide (-1000 ≤ x.f1 ∧ x.f1 ≤ 1000) && decide (-1000 ≤ x.f2 ∧ x.f2 ≤ 1000))
def markStep (l : List S44) (i : Nat) : Bool := okMark (l.getD i z44) && (decide (i = 0) || Op.bytesLess (l.getD (i - 1) z44).f0.toList (l.getD i z44).f0.toList)
def okMarks (l : List S44) : Bool := foldN (fun i (_ : Unit) => if markStep l i = true then Sum.inl () else Sum.inr false) (fun _ => decide (l.length ≤ 12)) l.length 0 ()
theorem wrap_down {i n : Nat} (h : i < n) (hn : n ≤ 9223372036854775807) (h0 : i ≠ 0) : wrap64 ((i : Int) - 1) = ((i - 1 : Nat) : Int) := by
 unfold wrap64
 omega
theorem l13Good_ev (l : List S44) (hm : l.length ≤ 9223372036854775807) : Ev (fun k => spec_l13Good.f k l) (okMarks l) := by
 refine loopT_ev (fun k i (_ : Unit) => spec_l13Good.l0 k l i) l.length 0 _ _ () ?_ ?_
 ·rintro k i - - hi
  have hb : spec_l13Good.l0 (k + 1) l (i : Int) = if markStep l i = true then spec_l13Good.l0 k l ((i + 1 : Nat) : Int) else some false := by
   simp only [spec_l13Good.l0, rdM, l13Letter_eq, l1In_eq, Option.bind_some]
   rw [if_pos (by omega), if_pos (by omega), wrap_up hi hm]
   rw [show markStep l i = ((okLetter (l.getD i z44).f0 && (decide (-1000 ≤ (l.getD i z44).f1 ∧ (l.getD i z44).f1 ≤ 1000) && decide (-1000 ≤ (l.getD i z44).f2 ∧ (l.getD i z44).f2 ≤ 1000))) && (decide (i = 0) || Op.bytesLess (l.getD (i - 1) z44).f0.toList (l.getD i z44).f0.toList)) from rfl]
   cases okLetter (l.getD i z44).f0 with
   | false => simp
   | true =>
    cases decide (-1000 ≤ (l.getD i z44).f1 ∧ (l.getD i z44).f1 ≤ 1000) with
    | false => simp
    | true =>
     cases decide (-1000 ≤ (l.getD i z44).f2 ∧ (l.getD i z44).f2 ≤ 1000) with
     | false => simp
     | true =>
      by_cases h0 : i = 0
      ·subst h0
       simp
      ·rw [wrap_down hi hm h0, rdM]
       simp only [if_true, h0, decide_false, Bool.false_or, Bool.true_and]
       rw [if_pos (by omega), if_pos (by omega), if_pos (by omega)]
  rw [hb]
  cases hq : markStep l i with
  | true => exact .inl ⟨(), by simp only [if_true], by simp only [if_true]⟩
  | false => exact .inr ⟨false, by simp only [Bool.false_eq_true, if_false], by simp only [Bool.false_eq_true, if_false]⟩
 ·rintro k - -
  simp only [spec_l13Good.l0]
  rw [if_neg (by omega)]
  simp only [Option.some.injEq, decide_eq_decide]
  omega
theorem areMarks_pre (l : List S44) {i : Nat} (hi : i < l.length) (k : Nat) : impl_AreMarks.l0 (k + 1) l l (l.length : Int) (i : Int) = impl_AreMarks.j1 k l (i : Int) l (l.length : Int) (i : Int) (!okMark (l.getD i z44)) (l.getD i z44).f0 (l.getD i z44).f1 (l.getD i z44).f2 := by
 simp only [impl_AreMarks.l0, rdM, within_eq, Option.bind_some]
 rw [if_pos (by omega), if_pos (by omega), if_pos (by omega)]
 unfold okMark okLetter
 by_cases h : (l.getD i z44).f0.size = 1
 ·obtain ⟨hl, hg⟩ := letter_less h
  rw [if_pos (by omega), decide_eq_true h, Bool.true_and]
  by_cases h1 : bt (l.getD i z44).f0 0 < 65
  ·rw [if_pos (hl.2 h1), decide_eq_false (show ¬ (65 ≤ bt (l.getD i z44).f0 0 ∧ bt (l.getD i z44).f0 0 ≤ 90) by omega)]
   rfl
  ·rw [if_neg (fun hh => h1 (hl.1 hh))]
   by_cases h2 : 90 < bt (l.getD i z44).f0 0
   ·rw [if_pos (hg.2 h2), decide_eq_false (show ¬ (65 ≤ bt (l.getD i z44).f0 0 ∧ bt (l.getD i z44).f0 0 ≤ 90) by omega)]
    rfl
   ·rw [if_neg (fun hh => h2 (hg.1 hh)), decide_eq_true (show 65 ≤ bt (l.getD i z44).f0 0 ∧ bt (l.getD i z44).f0 0 ≤ 90 by omega), Bool.true_and]
    by_cases h3 : -1000 ≤ (l.getD i z44).f1 ∧ (l.getD i z44).f1 ≤ 1000
    ·rw [if_pos (decide_eq_true h3), decide_eq_true h3, Bool.true_and]
    ·rw [if_neg (by simpa using h3), decide_eq_false h3]
     rfl
 ·rw [if_neg (by omega), decide_eq_false h]
  rfl
theorem areMarks_loop (l : List S44) (hm : l.length ≤ 9223372036854775807) : ∀ d i, i + d = l.length → Ev (fun k => impl_AreMarks.l0 k l l (l.length : Int) (i : Int)) (foldN (fun i (_ : Unit) => if markStep l i = true then Sum.inl () else Sum.inr false) (fun _ => decide (l.length ≤ 12)) d i ()) := by
 intro d
 induction d with
 | zero =>
  intro i hi
  refine Ev.step (f := fun _ => some (decide (l.length ≤ 12))) (fun k => ?_) (Ev.now _)
  simp only [impl_AreMarks.l0]
  rw [if_neg (by omega)]
  simp only [Option.some.injEq, decide_eq_decide]
  omega
 | succ d ih =>
  intro i hi
  have hil : i < l.length := by omega
  have hnext := ih (i + 1) (by omega)
  refine Ev.step (areMarks_pre l hil) ?_
  simp only [foldN]
  rw [show markStep l i = (okMark (l.getD i z44) && (decide (i = 0) || Op.bytesLess (l.getD (i - 1) z44).f0.toList (l.getD i z44).f0.toList)) from rfl]
  cases hk : okMark (l.getD i z44) with
  | false =>
   simp only [Bool.false_and, Bool.false_eq_true, if_false, Bool.not_false]
   exact Ev.step (f := fun _ => some false) (fun k => by simp only [impl_AreMarks.j1, if_true]) (Ev.now _)
  | true =>
   simp only [Bool.true_and, Bool.not_true]
   by_cases h0 : i = 0
   ·subst h0
    simp only [decide_true, Bool.true_or, if_true]
    refine Ev.step (fun k => ?_) hnext
    simp only [impl_AreMarks.j1, Bool.false_eq_true, if_false]
    rw [if_neg (by omega), wrap_up hil hm]
   ·rw [decide_eq_false h0, Bool.false_or]
    cases hb : Op.bytesLess (l.getD (i - 1) z44).f0.toList (l.getD i z44).f0.toList with
    | true =>
     simp only [if_true]
     refine Ev.step (fun k => ?_) hnext
     simp only [impl_AreMarks.j1, Bool.false_eq_true, if_false, wrap_down hil hm h0, rdM, hb, if_true]
     rw [if_pos (by omega), if_pos (by omega), if_pos (by omega), wrap_up hil hm]
    | false =>
     simp only [Bool.false_eq_true, if_false]
     refine Ev.step (f := fun _ => some false) (fun k => ?_) (Ev.now _)
     simp only [impl_AreMarks.j1, Bool.false_eq_true, if_false, wrap_down hil hm h0, rdM, hb]
     rw [if_pos (by omega), if_pos (by omega), if_pos (by omega)]
theorem areMarks_ev (l : List S44) (hm : l.length ≤ 9223372036854775807) : Ev (fun k => impl_AreMarks.f k l) (okMarks l) := areMarks_loop l hm l.length 0 (by omega)
theorem okMarks_says (l : List S44) : ∀ d i, i + d = l.length → foldN (fun i (_ : Unit) => if markStep l i = true then Sum.inl () else Sum.inr false) (fun _ => decide (l.length ≤ 12)) d i () = true → l.length ≤ 12 ∧ ∀ j, i ≤ j → j < l.length → okMark (l.getD j z44) = true := by
 intro d
 induction d with
 | zero =>
  intro i hi h
  simp only [foldN, decide_eq_true_eq] at h
  exact ⟨h, fun j h1 h2 => by omega⟩
 | succ d ih =>
  intro i hi h
  simp only [foldN] at h
  cases hk : markStep l i with
  | false => rw [hk] at h; simp at h
  | true =>
   rw [hk] at h
   obtain ⟨h1, h2⟩ := ih (i + 1) (by omega) (by simpa using h)
   refine ⟨h1, fun j h3 h4 => ?_⟩
   by_cases hj : j = i
   ·subst hj
    unfold markStep at hk
    rw [Bool.and_eq_true] at hk
    exact hk.1
   ·exact h2 j (by omega) h4
theorem okMarks_len {l : List S44} (h : okMarks l = true) : l.length ≤ 12 := (okMarks_says l l.length 0 (by omega) h).1
theorem okMarks_at {l : List S44} (h : okMarks l = true) {i : Nat} (hi : i < l.length) : -1000 ≤ (l.getD i z44).f1 ∧ (l.getD i z44).f1 ≤ 1000 ∧ -1000 ≤ (l.getD i z44).f2 ∧ (l.getD i z44).f2 ≤ 1000 := by
 have := (okMarks_says l l.length 0 (by omega) h).2 i (by omega) hi
 simp only [okMark, Bool.and_eq_true, decide_eq_true_eq] at this
 exact ⟨this.2.1.1, this.2.1.2, this.2.2.1, this.2.2.2⟩
theorem l1Least_eq (a b : Int) : spec_l1Least.f a b = some (min a b) := by
 unfold spec_l1Least.f
 split <;> (congr 1; omega)
theorem mx_eq (a b : Int) : mx a b = max a b := by unfold mx; split <;> omega
theorem mn_eq (a b : Int) : mn a b = min a b := by unfold mn; split <;> omega
theorem l1Most_eq (a b : Int) : spec_l1Most.f a b = some (max a b) := by
 unfold spec_l1Most.f
 split <;> (congr 1; omega)
theorem small_div {x s : Int} (hx : -1000 ≤ x ∧ x ≤ 1000) (hs : 1 ≤ s ∧ s ≤ 500) : -1000 ≤ x / s ∧ x / s ≤ 1000 := by
 constructor
 ·rw [Int.le_ediv_iff_mul_le (by omega)]
  omega
 ·have h1 : x / s ≤ 1000 / s := Int.ediv_le_ediv (by omega) hx.2
  have h2 : 1000 / s ≤ 1000 := Int.ediv_le_self _ (by omega)
  omega
theorem square_eq {x s : Int} (hx : -1000 ≤ x ∧ x ≤ 1000) (hs : 1 ≤ s ∧ s ≤ 500) : spec_l13Square.f x s = some (x / s) := by
 unfold spec_l13Square.f
 rw [if_neg (by omega)]
 have e1 : wrap64 (1000 * s) = 1000 * s := wrap_id (by omega) (by omega)
 have e2 : wrap64 (x + 1000 * s) = x + 1000 * s := wrap_id (by omega) (by omega)
 have e3 : Int.tdiv (x + 1000 * s) s = (x + 1000 * s) / s := Int.tdiv_eq_ediv_of_nonneg (by omega)
 have e4 : (x + 1000 * s) / s = x / s + 1000 := Int.add_mul_ediv_right x 1000 (by omega)
 have e5 := small_div hx hs
 have e6 : wrap64 (x / s + 1000) = x / s + 1000 := wrap_id (by omega) (by omega)
 have e7 : wrap64 (x / s + 1000 - 1000) = x / s := by rw [show x / s + 1000 - 1000 = x / s by omega]; exact wrap_id (by omega) (by omega)
 rw [e1, e2, e3, e4, e6, e7]
theorem floorDiv_eq {x s : Int} (hx : -1000 ≤ x ∧ x ≤ 1000) (hs : 1 ≤ s ∧ s ≤ 500) : impl_floorDiv.f x s = some (x / s) := by
 have hm : impl_modulo.f x s = some (x % s) := by
  unfold impl_modulo.f
  rw [if_neg (by omega)]
  have h1 := Int.tmod_lt_of_pos x (show 0 < s by omega)
  have h2 : -s < Int.tmod x s := by
   have := Int.tmod_lt_of_pos (-x) (show 0 < s by omega)
   rw [Int.neg_tmod] at this
   omega
  have e1 : wrap64 (Int.tmod x s + s) = Int.tmod x s + s := wrap_id (by omega) (by omega)
  rw [e1, Int.tmod_eq_emod_of_nonneg (by omega)]
  congr 1
  have hd : (Int.tmod x s + s) % s = Int.tmod x s % s := Int.add_emod_right _ _
  rw [hd]
  have hq := Int.mul_tdiv_add_tmod x s
  rw [show Int.tmod x s = x - s * Int.tdiv x s by omega, Int.sub_mul_emod_self_left]
 have h0 := Int.emod_nonneg x (show s ≠ 0 by omega)
 have h1 := Int.emod_lt_of_pos x (show 0 < s by omega)
 have e1 : wrap64 (x - x % s) = x - x % s := wrap_id (by omega) (by omega)
 have e2 : x - x % s = s * (x / s) := by have := Int.mul_ediv_add_emod x s; omega
 have e5 := small_div hx hs
 have e3 : Int.tdiv (s * (x / s)) s = x / s := Int.mul_tdiv_cancel_left _ (by omega)
 unfold impl_floorDiv.f
 rw [hm, Option.bind_some, if_neg (by omega), e1, e2, e3]
 congr 1
 exact wrap_id (by omega) (by omega)
def bd (l : List S44) (s : Int) : Nat → Int × Int × Int × Int
 | 0 => ((l.getD 0 z44).f1 / s, (l.getD 0 z44).f1 / s, (l.getD 0 z44).f2 / s, (l.getD 0 z44).f2 / s)
 | i + 1 => (min (bd l s i).1 ((l.getD (i + 1) z44).f1 / s), max (bd l s i).2.1 ((l.getD (i + 1) z44).f1 / s), min (bd l s i).2.2.1 ((l.getD (i + 1) z44).f2 / s), max (bd l s i).2.2.2 ((l.getD (i + 1) z44).f2 / s))
theorem bd_small {l : List S44} (h : okMarks l = true) {s : Int} (hs : 1 ≤ s ∧ s ≤ 500) : ∀ i, i < l.length → (-1000 ≤ (bd l s i).1 ∧ (bd l s i).1 ≤ 1000) ∧ (-1000 ≤ (bd l s i).2.1 ∧ (bd l s i).2.1 ≤ 1000) ∧ (-1000 ≤ (bd l s i).2.2.1 ∧ (bd l s i).2.2.1 ≤ 1000) ∧ (-1000 ≤ (bd l s i).2.2.2 ∧ (bd l s i).2.2.2 ≤ 1000) := by
 intro i
 induction i with
 | zero =>
  intro hi
  have h1 := okMarks_at h hi
  have h2 := small_div ⟨h1.1, h1.2.1⟩ hs
  have h3 := small_div ⟨h1.2.2.1, h1.2.2.2⟩ hs
  exact ⟨h2, h2, h3, h3⟩
 | succ i ih =>
  intro hi
  have h0 := ih (by omega)
  have h1 := okMarks_at h hi
  have h2 := small_div ⟨h1.1, h1.2.1⟩ hs
  have h3 := small_div ⟨h1.2.2.1, h1.2.2.2⟩ hs
  simp only [bd]
  omega
theorem bounds_loop {l : List S44} (h : okMarks l = true) {s : Int} (hs : 1 ≤ s ∧ s ≤ 500) : ∀ (d i : Nat), i + d + 1 = l.length → Ev (fun k => spec_l13Bounds.l0 k l s (bd l s i).1 (bd l s i).2.2.1 (bd l s i).2.1 (bd l s i).2.2.2 ((i + 1 : Nat) : Int)) (bd l s (l.length - 1)) := by
 have h12 := okMarks_len h
 intro d
 induction d with
 | zero =>
  intro i hi
  have e : l.length - 1 = i := by omega
  rw [e]
  refine Ev.step (f := fun _ => some (bd l s i)) (fun k => ?_) (Ev.now _)
  simp only [spec_l13Bounds.l0]
  rw [if_neg (by omega)]
 | succ d ih =>
  intro i hi
  have h1 := okMarks_at h (show i + 1 < l.length by omega)
  have hw : wrap64 (((i + 1 : Nat) : Int) + 1) = ((i + 1 + 1 : Nat) : Int) := wrap_up (by omega) (show l.length ≤ 9223372036854775807 by omega)
  refine Ev.step (fun k => ?_) (ih (i + 1) (by omega))
  simp only [spec_l13Bounds.l0, rdM, square_eq ⟨h1.1, h1.2.1⟩ hs, square_eq ⟨h1.2.2.1, h1.2.2.2⟩ hs, l1Least_eq, l1Most_eq, Option.bind_some, hw]
  rw [if_pos (by omega), if_pos (by omega)]
  rfl
theorem bounds_ev {l : List S44} (h : okMarks l = true) (h0 : l.length ≠ 0) {s : Int} (hs : 1 ≤ s ∧ s ≤ 500) : Ev (fun k => spec_l13Bounds.f k l s) (bd l s (l.length - 1)) := by
 have h1 := okMarks_at h (show 0 < l.length by omega)
 have hr : rd_T44 l 0 = l.getD 0 z44 := rdM l 0
 simp only [spec_l13Bounds.f, hr, square_eq ⟨h1.1, h1.2.1⟩ hs, square_eq ⟨h1.2.2.1, h1.2.2.2⟩ hs, Option.bind_some]
 exact Ev.ite_pos (by omega) (bounds_loop h hs (l.length - 1) 0 (by omega))
def planOf (l : List S44) (s : Int) : List S44 × Int × Int × Int × Int × Int := (l, s, (bd l s (l.length - 1)).1, (bd l s (l.length - 1)).2.2.2, (bd l s (l.length - 1)).2.1 - (bd l s (l.length - 1)).1 + 1, (bd l s (l.length - 1)).2.2.2 - (bd l s (l.length - 1)).2.2.1 + 1)
theorem newPlan_loop {l : List S44} (h : okMarks l = true) {s : Int} (hs : 1 ≤ s ∧ s ≤ 500) : ∀ (d i : Nat), i + d + 1 = l.length → Ev (fun k => impl_newPlan.l0 k s (bd l s i).2.1 (bd l s i).2.2.1 l (l.length : Int) ((i + 1 : Nat) : Int) l s (bd l s i).1 (bd l s i).2.2.2 0 0) (planOf l s) := by
 have h12 := okMarks_len h
 intro d
 induction d with
 | zero =>
  intro i hi
  have hb := bd_small h hs i (by omega)
  have e : l.length - 1 = i := by omega
  have e1 : wrap64 (wrap64 ((bd l s i).2.1 - (bd l s i).1) + 1) = (bd l s i).2.1 - (bd l s i).1 + 1 := by
   rw [wrap_id (x := (bd l s i).2.1 - (bd l s i).1) (by omega) (by omega)]
   exact wrap_id (by omega) (by omega)
  have e2 : wrap64 (wrap64 ((bd l s i).2.2.2 - (bd l s i).2.2.1) + 1) = (bd l s i).2.2.2 - (bd l s i).2.2.1 + 1 := by
   rw [wrap_id (x := (bd l s i).2.2.2 - (bd l s i).2.2.1) (by omega) (by omega)]
   exact wrap_id (by omega) (by omega)
  unfold planOf
  rw [e]
  refine Ev.step (f := fun _ => some (l, s, (bd l s i).1, (bd l s i).2.2.2, (bd l s i).2.1 - (bd l s i).1 + 1, (bd l s i).2.2.2 - (bd l s i).2.2.1 + 1)) (fun k => ?_) (Ev.now _)
  simp only [impl_newPlan.l0, e1, e2]
  rw [if_neg (by omega)]
 | succ d ih =>
  intro i hi
  have h1 := okMarks_at h (show i + 1 < l.length by omega)
  have hw : wrap64 (((i + 1 : Nat) : Int) + 1) = ((i + 1 + 1 : Nat) : Int) := wrap_up (by omega) (show l.length ≤ 9223372036854775807 by omega)
  refine Ev.step (fun k => ?_) (ih (i + 1) (by omega))
  simp only [impl_newPlan.l0, rdM, floorDiv_eq ⟨h1.1, h1.2.1⟩ hs, floorDiv_eq ⟨h1.2.2.1, h1.2.2.2⟩ hs, mx_eq, mn_eq, Option.bind_some, hw]
  rw [if_pos (by omega), if_pos (by omega), if_pos (by omega), if_neg (by omega)]
  rfl
theorem newPlan_ev {l : List S44} (h : okMarks l = true) (h0 : l.length ≠ 0) {s : Int} (hs : 1 ≤ s ∧ s ≤ 500) : Ev (fun k => impl_newPlan.f k l s) (planOf l s) := by
 have h12 := okMarks_len h
 have h1 := okMarks_at h (show 0 < l.length by omega)
 have hr : rd_T44 l 0 = l.getD 0 z44 := rdM l 0
 have hw : wrap64 ((0 : Int) + 1) = ((0 + 1 : Nat) : Int) := by unfold wrap64; omega
 refine Ev.step (fun k => ?_) (newPlan_loop h hs (l.length - 1) 0 (by omega))
 simp only [impl_newPlan.f, impl_newPlan.l0, hr, floorDiv_eq ⟨h1.1, h1.2.1⟩ hs, floorDiv_eq ⟨h1.2.2.1, h1.2.2.2⟩ hs, mx_eq, mn_eq, Option.bind_some, hw]
 rw [if_pos (by omega), if_pos (by omega), if_pos (by omega), if_pos trivial]
 simp only [bd, Int.min_self, Int.max_self]
def fits20 (l : List S44) (s : Int) : Bool := decide ((bd l s (l.length - 1)).2.1 - (bd l s (l.length - 1)).1 < 20) && decide ((bd l s (l.length - 1)).2.2.2 - (bd l s (l.length - 1)).2.2.1 < 20)
def mayFit (l : List S44) (s : Int) : Bool := okMarks l && (decide (1 ≤ s ∧ s ≤ 500) && !decide (l.length = 0))
theorem mayFit_says {l : List S44} {s : Int} (h : mayFit l s = true) : okMarks l = true ∧ (1 ≤ s ∧ s ≤ 500) ∧ l.length ≠ 0 := by
 simpa [mayFit] using h
theorem specFits_ev (l : List S44) (s : Int) (hm : l.length ≤ 9223372036854775807) : Ev (fun k => spec_l13Fits.f k l s) (mayFit l s && fits20 l s) := by
 simp only [spec_l13Fits.f, l1In_eq, Option.bind_some]
 refine Ev.bind (l13Good_ev l hm) ?_
 by_cases h : okMarks l = true
 ·refine Ev.ite_pos h ?_
  by_cases hs : 1 ≤ s ∧ s ≤ 500
  ·refine Ev.ite_pos (decide_eq_true hs) ?_
   by_cases h0 : l.length = 0
   ·rw [show mayFit l s = false by simp [mayFit, h0], Bool.false_and]
    exact Ev.ite_pos (by omega) (Ev.now _)
   ·rw [show mayFit l s = true by simp [mayFit, h, hs, h0], Bool.true_and]
    have hb := bd_small h hs (l.length - 1) (by omega)
    refine Ev.ite_neg (by omega) (Ev.bind (bounds_ev h h0 hs) ?_)
    rw [wrap_id (x := (bd l s (l.length - 1)).2.1 - (bd l s (l.length - 1)).1) (by omega) (by omega), wrap_id (x := (bd l s (l.length - 1)).2.2.2 - (bd l s (l.length - 1)).2.2.1) (by omega) (by omega)]
    unfold fits20
    by_cases c1 : (bd l s (l.length - 1)).2.1 - (bd l s (l.length - 1)).1 < 20
    ·rw [decide_eq_true c1, Bool.true_and]
     exact Ev.ite_pos c1 (Ev.now _)
    ·rw [decide_eq_false c1, Bool.false_and]
     exact Ev.ite_neg c1 (Ev.now _)
  ·rw [show mayFit l s = false by simp [mayFit]; omega, Bool.false_and]
   exact Ev.ite_neg (by simpa using hs) (Ev.now _)
 ·rw [show mayFit l s = false by simp [mayFit, h], Bool.false_and]
  exact Ev.ite_neg h (Ev.now _)
theorem implPlanOf_ev (l : List S44) (s : Int) (hm : l.length ≤ 9223372036854775807) : Ev (fun k => impl_planOf.f k l s) (if mayFit l s = true then some (planOf l s) else none) := by
 simp only [impl_planOf.f, within_eq, Option.bind_some]
 refine Ev.bind (areMarks_ev l hm) ?_
 by_cases h : okMarks l = true
 ·refine Ev.ite_pos h ?_
  by_cases h0 : l.length = 0
  ·rw [if_neg (show ¬ mayFit l s = true by simp [mayFit, h0])]
   exact Ev.ite_pos (by omega) (Ev.now _)
  ·refine Ev.ite_neg (by omega) ?_
   by_cases hs : 1 ≤ s ∧ s ≤ 500
   ·rw [if_pos (show mayFit l s = true by simp [mayFit, h, hs, h0])]
    exact Ev.ite_pos (decide_eq_true hs) (Ev.bind (newPlan_ev h h0 hs) (Ev.now _))
   ·rw [if_neg (show ¬ mayFit l s = true by simp [mayFit]; omega)]
    exact Ev.ite_neg (by simpa using hs) (Ev.now _)
 ·rw [if_neg (show ¬ mayFit l s = true by simp [mayFit, h])]
  exact Ev.ite_neg h (Ev.now _)
theorem fits20_plan (l : List S44) (s : Int) : (decide ((planOf l s).2.2.2.2.1 ≤ 20) && decide ((planOf l s).2.2.2.2.2 ≤ 20)) = fits20 l s := by
 unfold planOf fits20
 rw [Bool.eq_iff_iff]
 simp only [Bool.and_eq_true, decide_eq_true_eq]
 omega
abbrev M13 := S44
theorem okMarks_let {l : List M13} (h : okMarks l = true) {i : Nat} (hi : i < l.length) : okLetter (l.getD i z44).f0 = true := by
 have h1 := (okMarks_says l l.length 0 (by omega) h).2 i (by omega) hi
 simp only [okMark, Bool.and_eq_true] at h1
 exact h1.1
theorem okMarks_mem {l : List M13} (h : okMarks l = true) {m : M13} (hm : m ∈ l) : okLetter m.f0 = true ∧ -1000 ≤ m.f1 ∧ m.f1 ≤ 1000 ∧ -1000 ≤ m.f2 ∧ m.f2 ≤ 1000 := by
 obtain ⟨i, hi, e⟩ := List.getElem_of_mem hm
 have e2 : l.getD i z44 = m := by rw [getD_lt _ _ _ hi, e]
 have h1 := okMarks_let h hi
 have h2 := okMarks_at h hi
 rw [e2] at h1 h2
 exact ⟨h1, h2⟩
theorem find_congr {α : Type} {p q : α → Bool} : ∀ {l : List α}, (∀ m, m ∈ l → p m = q m) → l.find? p = l.find? q
 | [], _ => rfl
 | a :: l, h => by
  rw [List.find?_cons, List.find?_cons, h a List.mem_cons_self, find_congr (l := l) (fun m hm => h m (List.mem_cons_of_mem _ hm))]
theorem bd_holds (l : List M13) (s : Int) : ∀ j i, i ≤ j → (bd l s j).1 ≤ (l.getD i z44).f1 / s ∧ (l.getD i z44).f1 / s ≤ (bd l s j).2.1 ∧ (bd l s j).2.2.1 ≤ (l.getD i z44).f2 / s ∧ (l.getD i z44).f2 / s ≤ (bd l s j).2.2.2
 | 0, i, h => by
  obtain rfl : i = 0 := by omega
  simp [bd]
 | j + 1, i, h => by
  simp only [bd]
  by_cases hi : i = j + 1
  ·subst hi
   exact ⟨Int.min_le_right _ _, Int.le_max_right _ _, Int.min_le_right _ _, Int.le_max_right _ _⟩
  ·have ih := bd_holds l s j i (by omega)
   exact ⟨Int.le_trans (Int.min_le_left _ _) ih.1, Int.le_trans ih.2.1 (Int.le_max_left _ _), Int.le_trans (Int.min_le_left _ _) ih.2.2.1, Int.le_trans ih.2.2.2 (Int.le_max_left _ _)⟩
theorem bd_mem {l : List M13} (s : Int) {m : M13} (hm : m ∈ l) : (bd l s (l.length - 1)).1 ≤ m.f1 / s ∧ m.f1 / s ≤ (bd l s (l.length - 1)).2.1 ∧ (bd l s (l.length - 1)).2.2.1 ≤ m.f2 / s ∧ m.f2 / s ≤ (bd l s (l.length - 1)).2.2.2 := by
 obtain ⟨i, hi, e⟩ := List.getElem_of_mem hm
 have h := bd_holds l s (l.length - 1) i (by omega)
 rwa [getD_lt _ _ _ hi, e] at h
theorem plan_sq {l : List M13} {s : Int} (h : mayFit l s = true) {m : M13} (hm : m ∈ l) : pl_sq (planOf l s) m = some (m.f1 / s - (bd l s (l.length - 1)).1, (bd l s (l.length - 1)).2.2.2 - m.f2 / s, (planOf l s).2) := by
 obtain ⟨ho, hs, h0⟩ := mayFit_says h
 obtain ⟨_, h1, h2, h3, h4⟩ := okMarks_mem ho hm
 have hb := bd_small ho hs (l.length - 1) (by omega)
 have d1 := small_div ⟨h1, h2⟩ hs
 have d2 := small_div ⟨h3, h4⟩ hs
 unfold pl_sq impl_plan_square.f planOf
 simp only [floorDiv_eq ⟨h1, h2⟩ hs, floorDiv_eq ⟨h3, h4⟩ hs, Option.bind_some]
 rw [wrap_id (by omega) (by omega), wrap_id (by omega) (by omega)]
theorem plan_X {l : List M13} {s : Int} (h : mayFit l s = true) {m : M13} (hm : m ∈ l) : pl_X (planOf l s) m = m.f1 / s - (bd l s (l.length - 1)).1 := by
 unfold pl_X
 rw [plan_sq h hm]
theorem plan_Y {l : List M13} {s : Int} (h : mayFit l s = true) {m : M13} (hm : m ∈ l) : pl_Y (planOf l s) m = (bd l s (l.length - 1)).2.2.2 - m.f2 / s := by
 unfold pl_Y
 rw [plan_sq h hm]
theorem plan_good {l : List M13} {s : Int} (h : mayFit l s = true) {m : M13} (hm : m ∈ l) : pl_good (planOf l s) m = true := by
 obtain ⟨ho, hs, h0⟩ := mayFit_says h
 obtain ⟨h5, _⟩ := okMarks_mem ho hm
 have hb := bd_mem s hm
 simp only [okLetter, Bool.and_eq_true, decide_eq_true_eq] at h5
 simp only [pl_good, Bool.and_eq_true, decide_eq_true_eq]
 rw [plan_X h hm, plan_Y h hm, plan_sq h hm]
 refine ⟨h5.1, rfl, by omega, ?_, by omega, ?_⟩
 ·simp only [planOf]; omega
 ·simp only [planOf]; omega
theorem plan_fit {l : List M13} {s : Int} (h : mayFit l s = true) (h2 : fits20 l s = true) : pl_fit (planOf l s) = true := by
 obtain ⟨ho, hs, h0⟩ := mayFit_says h
 have hne : l ≠ [] := fun e => h0 (by simp [e])
 have hb := bd_mem s (List.head_mem hne)
 simp only [fits20, Bool.and_eq_true, decide_eq_true_eq] at h2
 simp only [pl_fit, Bool.and_eq_true, decide_eq_true_eq, List.all_eq_true]
 refine ⟨?_, ?_, ?_, ?_, hne, fun m hm => plan_good h hm⟩ <;> simp only [planOf] <;> omega
def at13 (l : List M13) (s x y : Int) : ByteArray := match l.find? (fun m => decide (m.f2 / s = y) && decide (m.f1 / s = x)) with
 | some m => m.f0
 | none => ⟨#[46]⟩
theorem specAt_loop {l : List M13} (h : okMarks l = true) {s : Int} (hs : 1 ≤ s ∧ s ≤ 500) (x y : Int) : ∀ (d i : Nat), i + d = l.length → Ev (fun k => spec_l13At.l0 k l s x y (i : Int)) (at13 (l.drop i) s x y) := by
 have h12 := okMarks_len h
 intro d
 induction d with
 | zero =>
  intro i hi
  refine Ev.step (f := fun _ => some (at13 (l.drop i) s x y)) (fun k => ?_) (Ev.now _)
  simp only [spec_l13At.l0]
  rw [if_neg (by omega), List.drop_of_length_le (by omega)]
  rfl
 | succ d ih =>
  intro i hi
  have hil : i < l.length := by omega
  have h1 := okMarks_at h hil
  have hw := wrap_up hil (by omega)
  have hd : l.drop i = l.getD i z44 :: l.drop (i + 1) := by rw [getD_lt _ _ _ hil]; exact List.drop_eq_getElem_cons hil
  have hat : at13 (l.drop i) s x y = if (l.getD i z44).f1 / s = x then (if (l.getD i z44).f2 / s = y then (l.getD i z44).f0 else at13 (l.drop (i + 1)) s x y) else at13 (l.drop (i + 1)) s x y := by
   unfold at13
   rw [hd, List.find?_cons]
   by_cases c1 : (l.getD i z44).f1 / s = x <;> by_cases c2 : (l.getD i z44).f2 / s = y <;> simp only [c1, c2, if_true, if_false, decide_true, decide_false, Bool.and_true, Bool.and_false, Bool.true_and, Bool.false_and]
  by_cases c1 : (l.getD i z44).f1 / s = x
  ·by_cases c2 : (l.getD i z44).f2 / s = y
   ·rw [hat, if_pos c1, if_pos c2]
    refine Ev.step (f := fun _ => some (l.getD i z44).f0) (fun k => ?_) (Ev.now _)
    simp only [spec_l13At.l0, rdM, square_eq ⟨h1.1, h1.2.1⟩ hs, square_eq ⟨h1.2.2.1, h1.2.2.2⟩ hs, Option.bind_some]
    rw [if_pos (by omega), if_pos (by omega), if_pos c1, if_pos c2]
   ·rw [hat, if_pos c1, if_neg c2]
    refine Ev.step (fun k => ?_) (ih (i + 1) (by omega))
    simp only [spec_l13At.l0, rdM, square_eq ⟨h1.1, h1.2.1⟩ hs, square_eq ⟨h1.2.2.1, h1.2.2.2⟩ hs, Option.bind_some, hw]
    rw [if_pos (by omega), if_pos (by omega), if_pos c1, if_neg c2]
  ·rw [hat, if_neg c1]
   refine Ev.step (fun k => ?_) (ih (i + 1) (by omega))
   simp only [spec_l13At.l0, rdM, square_eq ⟨h1.1, h1.2.1⟩ hs, square_eq ⟨h1.2.2.1, h1.2.2.2⟩ hs, Option.bind_some, hw]
   rw [if_pos (by omega), if_pos (by omega), if_neg c1]
theorem specAt_ev {l : List M13} (h : okMarks l = true) {s : Int} (hs : 1 ≤ s ∧ s ≤ 500) (x y : Int) : Ev (fun k => spec_l13At.f k l s x y) (at13 l s x y) := specAt_loop h hs x y l.length 0 (by omega)
theorem at13_byte {l : List M13} {s : Int} (h : mayFit l s = true) (x y : Nat) : (at13 l s ((bd l s (l.length - 1)).1 + (x : Int)) ((bd l s (l.length - 1)).2.2.2 - (y : Int))).data.toList = [UInt8.ofNat (pl_at (pl_X (planOf l s)) (pl_Y (planOf l s)) l y x).toNat] := by
 obtain ⟨ho, hs, h0⟩ := mayFit_says h
 have e : l.find? (fun m => decide (pl_Y (planOf l s) m = (y : Int)) && decide (pl_X (planOf l s) m = (x : Int))) = l.find? (fun m => decide (m.f2 / s = (bd l s (l.length - 1)).2.2.2 - (y : Int)) && decide (m.f1 / s = (bd l s (l.length - 1)).1 + (x : Int))) := by
  refine find_congr (fun m hm => ?_)
  rw [plan_X h hm, plan_Y h hm]
  congr 1 <;> rw [decide_eq_decide] <;> omega
 unfold at13 pl_at
 rw [e]
 cases hf : l.find? (fun m => decide (m.f2 / s = (bd l s (l.length - 1)).2.2.2 - (y : Int)) && decide (m.f1 / s = (bd l s (l.length - 1)).1 + (x : Int))) with
 | none => rfl
 | some m =>
  obtain ⟨h5, _⟩ := okMarks_mem ho (List.mem_of_find?_eq_some hf)
  simp only [okLetter, Bool.and_eq_true, decide_eq_true_eq] at h5
  obtain ⟨b, hb, e⟩ := one_letter h5.1
  simp only
  rw [← ByteArray.toList_eq, hb, e]
  simp
def planTextAns (l : List M13) (s : Int) : ByteArray × Bool := if (mayFit l s && fits20 l s) = true then (pl_text (planOf l s), true) else (⟨#[]⟩, false)
theorem implPlanText_ev (l : List M13) (s : Int) (hm : l.length ≤ 9223372036854775807) : Ev (fun k => impl_PlanText.f k l s) (planTextAns l s) := by
 unfold impl_PlanText.f
 refine Ev.bind (implPlanOf_ev l s hm) ?_
 refine Ev.eq (fun _ => ?_)
 by_cases h : mayFit l s = true
 ·rw [if_pos h]
  simp only [impl_PlanText.of, fits20_plan]
  by_cases h2 : fits20 l s = true
  ·rw [if_pos h2, if_pos (plan_fit h h2), planTextAns, if_pos (by rw [h, h2]; rfl)]
  ·rw [if_neg h2, planTextAns, if_neg (by simp [h, h2])]
 ·rw [if_neg h]
  simp only [impl_PlanText.of]
  rw [planTextAns, if_neg (by simp [h])]
theorem bytes_add (L : List UInt8) (b : ByteArray) : (⟨L.toArray⟩ : ByteArray) ++ b = ⟨(L ++ b.data.toList).toArray⟩ := by
 apply ByteArray.ext
 simp
theorem bytes_size (L : List UInt8) : (⟨L.toArray⟩ : ByteArray).size = L.length := by simp [ByteArray.size]
def part13 (G : Nat → Nat → Int) (i j : Nat) : List UInt8 := (List.range j).map (fun x => UInt8.ofNat (G i x).toNat)
theorem part13_succ (G : Nat → Nat → Int) (i j : Nat) : part13 G i (j + 1) = part13 G i j ++ [UInt8.ofNat (G i j).toNat] := by simp [part13, List.range_succ]
theorem part13_len (G : Nat → Nat → Int) (i j : Nat) : (part13 G i j).length = j := by simp [part13]
def plG (l : List M13) (s : Int) : Nat → Nat → Int := pl_at (pl_X (planOf l s)) (pl_Y (planOf l s)) l
theorem specText_row {l : List M13} {s : Int} (h : mayFit l s = true) (cols : Nat) (hc : cols ≤ 20) (hcols : (bd l s (l.length - 1)).2.1 = (bd l s (l.length - 1)).1 + (cols : Int) - 1) (c : Int) (i : Nat) (hi : i ≤ 20) (L : List UInt8) (hL : L.length ≤ 1000) (R : ByteArray × Bool)
  (hR : Ev (fun k => spec_PlanText.l0 k l s (bd l s (l.length - 1)).1 (bd l s (l.length - 1)).2.1 c ⟨(L ++ (part13 (plG l s) i cols ++ [10])).toArray⟩ (wrap64 ((bd l s (l.length - 1)).2.2.2 - (i : Int) - 1))) R) :
  ∀ (d j : Nat), j + d = cols → Ev (fun k => spec_PlanText.l1 k l s (bd l s (l.length - 1)).1 (bd l s (l.length - 1)).2.1 c ⟨(L ++ part13 (plG l s) i j).toArray⟩ ((bd l s (l.length - 1)).2.2.2 - (i : Int)) ((bd l s (l.length - 1)).1 + (j : Int))) R := by
 obtain ⟨ho, hs, h0⟩ := mayFit_says h
 have hb := bd_small ho hs (l.length - 1) (by omega)
 intro d
 induction d with
 | zero =>
  intro j hj
  obtain rfl : j = cols := by omega
  refine Ev.step (fun k => ?_) hR
  simp only [spec_PlanText.l1]
  rw [if_neg (by omega), if_pos (by rw [bytes_size, List.length_append, part13_len]; omega), bytes_add, List.append_assoc]
 | succ d ih =>
  intro j hj
  have hw : wrap64 ((bd l s (l.length - 1)).1 + (j : Int) + 1) = (bd l s (l.length - 1)).1 + ((j + 1 : Nat) : Int) := by rw [wrap_id (by omega) (by omega)]; omega
  have hbt := at13_byte h j i
  have hsz : (at13 l s ((bd l s (l.length - 1)).1 + (j : Int)) ((bd l s (l.length - 1)).2.2.2 - (i : Int))).size = 1 := by
   rw [← ByteArray.size_data, ← Array.length_toList, hbt]; rfl
  refine Ev.step (fun k => by rw [spec_PlanText.l1]) ?_
  refine Ev.ite_pos (by omega) (Ev.bind (specAt_ev ho hs _ _) (Ev.ite_pos (by rw [bytes_size, List.length_append, part13_len, hsz]; omega) ?_))
  have ih' := ih (j + 1) (by omega)
  rw [part13_succ, ← List.append_assoc] at ih'
  simp only [bytes_add, hbt, hw]
  exact ih'
theorem specText_rows {l : List M13} {s : Int} (h : mayFit l s = true) (cols rows : Nat) (hc : cols ≤ 20) (hr : rows ≤ 20) (hcols : (bd l s (l.length - 1)).2.1 = (bd l s (l.length - 1)).1 + (cols : Int) - 1) (hrows : (bd l s (l.length - 1)).2.2.1 = (bd l s (l.length - 1)).2.2.2 - (rows : Int) + 1) :
  ∀ (d i : Nat), i + d = rows → Ev (fun k => spec_PlanText.l0 k l s (bd l s (l.length - 1)).1 (bd l s (l.length - 1)).2.1 (bd l s (l.length - 1)).2.2.1 ⟨(pl_lines cols (plG l s) i).toArray⟩ ((bd l s (l.length - 1)).2.2.2 - (i : Int))) (⟨(pl_lines cols (plG l s) rows).toArray⟩, true) := by
 obtain ⟨ho, hs, h0⟩ := mayFit_says h
 have hb := bd_small ho hs (l.length - 1) (by omega)
 intro d
 induction d with
 | zero =>
  intro i hi
  obtain rfl : i = rows := by omega
  refine Ev.step (f := fun _ => some _) (fun k => ?_) (Ev.now _)
  simp only [spec_PlanText.l0]
  rw [if_neg (by omega)]
 | succ d ih =>
  intro i hi
  have hl : (pl_lines cols (plG l s) i).length ≤ 1000 := by
   rw [pl_lines_length]
   have : i * (cols + 1) ≤ 20 * 21 := Nat.mul_le_mul (by omega) (by omega)
   omega
  have hw : wrap64 ((bd l s (l.length - 1)).2.2.2 - (i : Int) - 1) = (bd l s (l.length - 1)).2.2.2 - ((i + 1 : Nat) : Int) := by rw [wrap_id (by omega) (by omega)]; omega
  have ih' := ih (i + 1) (by omega)
  rw [pl_lines_succ] at ih'
  have hrow := specText_row h cols hc hcols (bd l s (l.length - 1)).2.2.1 i (by omega) (pl_lines cols (plG l s) i) hl _ (by rw [hw]; exact ih') cols 0 (by omega)
  have e0 : part13 (plG l s) i 0 = [] := rfl
  rw [e0, List.append_nil, Int.natCast_zero, Int.add_zero] at hrow
  refine Ev.step (fun k => ?_) hrow
  simp only [spec_PlanText.l0]
  rw [if_pos (by omega)]
theorem specPlanText_ev (l : List M13) (s : Int) (hm : l.length ≤ 9223372036854775807) : Ev (fun k => spec_PlanText.f k l s) (planTextAns l s) := by
 unfold spec_PlanText.f
 refine Ev.bind (specFits_ev l s hm) ?_
 by_cases h : (mayFit l s && fits20 l s) = true
 ·have h' := h
  rw [Bool.and_eq_true] at h'
  obtain ⟨hm1, hf⟩ := h'
  obtain ⟨ho, hs, h0⟩ := mayFit_says hm1
  refine Ev.ite_pos h (Ev.bind (bounds_ev ho h0 hs) ?_)
  have hb := bd_small ho hs (l.length - 1) (by omega)
  have hne : l ≠ [] := fun e => h0 (by simp [e])
  have hq := bd_mem s (List.head_mem hne)
  simp only [fits20, Bool.and_eq_true, decide_eq_true_eq] at hf
  have key := specText_rows hm1 ((bd l s (l.length - 1)).2.1 - (bd l s (l.length - 1)).1 + 1).toNat ((bd l s (l.length - 1)).2.2.2 - (bd l s (l.length - 1)).2.2.1 + 1).toNat (by omega) (by omega) (by omega) (by omega) _ 0 (Nat.zero_add _)
  rw [planTextAns, if_pos h]
  have e0 : pl_lines ((bd l s (l.length - 1)).2.1 - (bd l s (l.length - 1)).1 + 1).toNat (plG l s) 0 = [] := rfl
  rw [e0, Int.natCast_zero, Int.sub_zero] at key
  exact key
 ·rw [planTextAns, if_neg h]
  exact Ev.ite_neg h (Ev.now _)
theorem Dr.one {α : Type} {l : List Int} (hb : Bytes l) {i s n : Int} {f : Nat → Bool × Int × Int → Option α} {P : α → Prop} (h0 : 0 ≤ i) (h1 : i ≤ 999999990) (hn : n ≤ 1000000) (k : ∀ b j t, i ≤ j → j ≤ i + 2 → Dr (fun m => f m (b, j, t)) P) : Dr (fun m => (spec_l1Cur_one.f l i s n).bind (f m)) P := by
 obtain ⟨v, j, t, e, g0, g1, g2, g3⟩ := cur_pick (s := s) hb h0 h1 hn
 refine Dr.bindc (a := (v == 0, j, t)) ?_ (k _ j t g0 g1)
 unfold spec_l1Cur_one.f
 rw [e]
 rfl
theorem spoilt_ex {l : List Int} (hb : Bytes l) (i s : Int) (a1 A : ByteArray) (hz : A.size = 4) (h0 : 0 ≤ i) (h1 : i ≤ 999999900) (hs : a1.size ≤ 1000) : ∃ t j u, spec_l1Cur_spoilt.f l i s a1 A = some (t, j, u) ∧ t.size ≤ 2000 := by
 unfold spec_l1Cur_spoilt.f
 by_cases he : a1.toList = []
 ·rw [if_pos he, if_pos (by omega), if_pos (by omega)]
  exact ⟨_, _, _, rfl, by rw [ByteArray.size_extract]; omega⟩
 ·have hpos : 0 < a1.size := by
   apply Nat.pos_of_ne_zero
   intro hc
   apply he
   rw [ByteArray.toList_eq]
   exact List.eq_nil_of_length_eq_zero (by simpa using hc)
  rw [if_neg he]
  obtain ⟨v1, j1, t1, e1, g1, g2, g3, g4⟩ := cur_pick (s := s) (n := (a1.size : Int)) hb h0 (by omega) (by omega)
  obtain ⟨v2, j2, t2, e2, g5, g6, g7, g8⟩ := cur_pick (s := t1) (n := 4) hb (show 0 ≤ j1 by omega) (by omega) (by omega)
  obtain ⟨v3, j3, t3, e3, g9, g10, g11, g12⟩ := cur_pick (s := t2) (n := 3) hb (show 0 ≤ j2 by omega) (by omega) (by omega)
  obtain ⟨n1, rfl⟩ : ∃ n : Nat, v1 = (n : Int) := ⟨v1.toNat, by omega⟩
  obtain ⟨n2, rfl⟩ : ∃ n : Nat, v2 = (n : Int) := ⟨v2.toNat, by omega⟩
  have hw : wrap64 ((n1 : Int) + 1) = ((n1 + 1 : Nat) : Int) := by rw [wrap_id (by omega) (by omega)]; omega
  rw [e1]
  simp only [Option.bind_some, hz]
  rw [show ((4 : Nat) : Int) = 4 from rfl, e2]
  simp only [Option.bind_some, Int.toNat_natCast]
  rw [if_pos (by omega), if_pos (by omega), if_pos (by omega), if_pos (by rw [ByteArray.size_extract]; omega), e3]
  simp only [Option.bind_some]
  by_cases c0 : v3 = 0
  ·rw [if_pos c0, if_pos (by omega), if_pos (by omega), if_pos (by simp only [ByteArray.size_extract]; omega), if_pos (by simp only [ByteArray.size_append, ByteArray.size_extract]; omega)]
   exact ⟨_, _, _, rfl, by simp only [ByteArray.size_append, ByteArray.size_extract]; omega⟩
  ·rw [if_neg c0]
   by_cases c1 : v3 = 1
   ·rw [if_pos c1, if_pos (by omega), if_pos (by omega), if_pos (by simp only [ByteArray.size_extract]; omega), hw, if_pos (by omega), if_pos (by omega), Int.toNat_natCast, if_pos (by simp only [ByteArray.size_append, ByteArray.size_extract]; omega)]
    exact ⟨_, _, _, rfl, by simp only [ByteArray.size_append, ByteArray.size_extract]; omega⟩
   ·rw [if_neg c1, if_pos (by omega), if_pos (by omega), hw, if_pos (by omega), if_pos (by omega), Int.toNat_natCast, if_pos (by simp only [ByteArray.size_extract]; omega)]
    exact ⟨_, _, _, rfl, by simp only [ByteArray.size_append, ByteArray.size_extract]; omega⟩
theorem txt_size (p : PlanT) : (pl_text p).size = p.2.2.2.2.2.toNat * (p.2.2.2.2.1.toNat + 1) := by
 unfold pl_text
 rw [bytes_size, pl_lines_length]
theorem planText_size (l : List M13) (s : Int) : (planTextAns l s).1.size ≤ 420 := by
 unfold planTextAns
 by_cases h : (mayFit l s && fits20 l s) = true
 ·rw [if_pos h]
  rw [Bool.and_eq_true] at h
  have hf := fits20_plan l s
  rw [h.2] at hf
  simp only [Bool.and_eq_true, decide_eq_true_eq] at hf
  show (pl_text (planOf l s)).size ≤ 420
  rw [txt_size]
  exact Nat.le_trans (Nat.mul_le_mul (show (planOf l s).2.2.2.2.2.toNat ≤ 20 by omega) (show (planOf l s).2.2.2.2.1.toNat + 1 ≤ 21 by omega)) (by decide)
 ·rw [if_neg h]
  exact Nat.zero_le _
theorem dr_readPlan {l : List Int} (hb : Bytes l) : Dr (fun k => spec_DrawReadPlan.f k l) (fun r => r.size ≤ 2000) := by
 simp only [spec_DrawReadPlan.f]
 refine Dr.bind (dr_marks hb 0) (fun r hr => ?_)
 have q1 := hr.1
 have q2 := hr.2.1
 have q3 := hr.2.2
 refine Dr.among hb q2 (by omega) (by simp) (by simp) (fun v j t g0 g1 _ => ?_)
 dsimp only
 refine Dr.bind (Q := fun q => q.1.size ≤ 420) ⟨_, specPlanText_ev r.1 v (by omega), planText_size r.1 v⟩ (fun q hq => ?_)
 refine Dr.one hb (by omega) (by omega) (by omega) (fun b j2 t2 g2 g3 => ?_)
 dsimp only
 refine Dr.ite (fun _ => ?_) (fun _ => Dr.now _ (by omega))
 obtain ⟨x, j3, t3, e, hx⟩ := spoilt_ex hb j2 t2 q.1 ⟨#[46, 65, 90, 97]⟩ rfl (by omega) (by omega) (by omega)
 exact Dr.bindc e (Dr.now _ hx)
theorem dr_turn {l : List Int} (hb : Bytes l) : Dr (fun k => spec_DrawTurnMarks.f k l) (fun r => r.length ≤ 13) := by
 simp only [spec_DrawTurnMarks.f, spec_DrawAreMarks.f]
 refine Dr.bind (Q := fun r => r.length ≤ 13) (Dr.bind (dr_marks hb 0) (fun r hr => Dr.now _ hr.1)) (fun r hr => Dr.now _ hr)
theorem dr_move {l : List Int} (hb : Bytes l) : Dr (fun k => spec_DrawMoveMarks.f k l) (fun r => r.1.length ≤ 13) := by
 simp only [spec_DrawMoveMarks.f]
 refine Dr.bind (dr_marks hb 0) (fun r hr => ?_)
 have q2 := hr.2.1
 have q3 := hr.2.2
 refine Dr.among hb q2 (by omega) (by simp) (by simp) (fun v j t g0 g1 _ => ?_)
 dsimp only
 refine Dr.among hb (by omega) (by omega) (by simp) (by simp) (fun v2 j2 t2 g2 g3 _ => ?_)
 exact Dr.now _ hr.1
def mk13 (b : UInt8) (x : Nat) (y : Int) : List M13 := if 65 ≤ b.toNat ∧ b.toNat ≤ 90 then [⟨⟨#[b]⟩, (x : Int), -y⟩] else []
def row13 (y : Int) : List UInt8 → Nat → List M13
 | [], _ => []
 | b :: l, x => mk13 b x y ++ row13 y l (x + 1)
theorem row13_append (y : Int) : ∀ (a b : List UInt8) (x : Nat), row13 y (a ++ b) x = row13 y a x ++ row13 y b (x + a.length)
 | [], b, x => by simp [row13]
 | c :: a, b, x => by simp [row13, row13_append y a b (x + 1), Nat.add_assoc, Nat.add_comm 1]
def scan13 : Int → List UInt8 → Nat → List M13
 | _, [], _ => []
 | y, b :: l, x => if b = 10 then scan13 (y + 1) l 0 else mk13 b x y ++ scan13 y l (x + 1)
theorem scan13_row (y : Int) : ∀ (a r : List UInt8) (x : Nat), (∀ b ∈ a, b ≠ 10) → scan13 y (a ++ r) x = row13 y a x ++ scan13 y r (x + a.length)
 | [], r, x, _ => by simp [row13]
 | c :: a, r, x, h => by
  have h1 : c ≠ 10 := h c List.mem_cons_self
  have ih := scan13_row y a r (x + 1) (fun b hb => h b (List.mem_cons_of_mem _ hb))
  simp only [List.cons_append, scan13, if_neg h1, row13, ih, List.length_cons, List.append_assoc]
  rw [show x + 1 + a.length = x + (a.length + 1) by omega]
theorem enc13 (b : UInt8) (h : 65 ≤ b.toNat ∧ b.toNat ≤ 90) : Utf8.encode (b.toNat : Int) = ⟨#[b]⟩ := by
 have key : ∀ n : Fin 26, Utf8.encode ((65 + n.val : Nat) : Int) = ⟨#[UInt8.ofNat (65 + n.val)]⟩ := by decide
 have := key ⟨b.toNat - 65, by omega⟩
 simp only [show 65 + (b.toNat - 65) = b.toNat by omega] at this
 rw [this]
 simp
theorem ba_len (s : ByteArray) : s.data.toList.length = s.size := by simp
theorem bt_get (s : ByteArray) (i : Nat) (h : i < s.size) : bt s (i : Int) = ((s.data.toList[i]'(by rw [ba_len]; exact h)).toNat : Int) := by
 have := bt_at s (i : Int) (by simpa using h)
 rw [← this]
 simp [ByteArray.getElem_eq_getElem_data]
theorem rd_upto_eq (y : Int) (s : ByteArray) : ∀ i, i ≤ s.size → rd_upto y s i = row13 y (s.data.toList.take i) 0
 | 0, _ => rfl
 | i + 1, h => by
  have hl : i < s.data.toList.length := by rw [ba_len]; omega
  have ih := rd_upto_eq y s i (by omega)
  rw [List.take_succ_eq_append_getElem hl, row13_append, ← ih, rd_upto, bt_get s i (by omega)]
  congr 1
  simp only [row13, List.append_nil, List.length_take, mk13]
  generalize s.data.toList[i] = b
  by_cases hb : 65 ≤ b.toNat ∧ b.toNat ≤ 90
  ·rw [if_pos (by omega), if_pos hb, enc13 b hb]
   simp
   omega
  ·rw [if_neg (by omega), if_neg hb]
theorem ib_split (c : UInt8) : ∀ l : List UInt8, (0 ≤ Lib.indexByte l c → ∃ a r, l = a ++ c :: r ∧ (∀ b ∈ a, b ≠ c) ∧ (a.length : Int) = Lib.indexByte l c) ∧ (Lib.indexByte l c < 0 → ∀ b ∈ l, b ≠ c) := by
 intro l
 induction l with
 | nil => exact ⟨fun h => by simp [Lib.indexByte] at h, fun _ b hb => by cases hb⟩
 | cons d l ih =>
  unfold Lib.indexByte
  by_cases h1 : d = c
  ·subst h1
   simp only [BEq.rfl, if_true]
   exact ⟨fun _ => ⟨[], l, rfl, (fun b hb => absurd hb List.not_mem_nil), rfl⟩, fun h => by omega⟩
  ·have h1' : (d == c) = false := by simpa using h1
   simp only [h1', Bool.false_eq_true, if_false]
   have h3 := Lib.indexByte_ge l c
   by_cases h2 : Lib.indexByte l c = -1
   ·rw [if_pos (by simp [h2])]
    refine ⟨fun h => by omega, fun _ b hb => ?_⟩
    rcases List.mem_cons.1 hb with rfl | hb
    ·exact h1
    ·exact ih.2 (by omega) b hb
   ·rw [if_neg (by simpa using h2)]
    refine ⟨fun _ => ?_, fun h => by omega⟩
    obtain ⟨a, r, e1, e2, e3⟩ := ih.1 (by omega)
    refine ⟨d :: a, r, by rw [e1]; rfl, fun b hb => ?_, by rw [List.length_cons]; omega⟩
    rcases List.mem_cons.1 hb with rfl | hb
    ·exact h1
    ·exact e2 b hb
theorem ext_list (s : ByteArray) (a b : Nat) : (s.extract a b).data.toList = (s.data.toList.take b).drop a := by
 simp [List.drop_take]
theorem ln_split {s : ByteArray} (h : 0 ≤ ln_i s) : ∃ a r, s.data.toList = a ++ 10 :: r ∧ (∀ b ∈ a, b ≠ 10) ∧ (ln_i s + 1).toNat = a.length + 1 ∧ (s.extract 0 (ln_i s + 1).toNat).data.toList = a ++ [10] ∧ (s.extract (ln_i s + 1).toNat s.size).data.toList = r := by
 obtain ⟨a, r, e1, e2, e3⟩ := (ib_split 10 s.data.toList).1 h
 have e4 : (ln_i s + 1).toNat = a.length + 1 := by unfold ln_i; omega
 refine ⟨a, r, e1, e2, e4, ?_, ?_⟩
 ·rw [ext_list, e4, e1]
  simp [List.take_append]
  exact List.take_of_length_le (by omega)
 ·rw [ext_list, e4, ← ba_len, List.take_length, e1]
  simp [List.drop_append]
theorem lns_scan {s : ByteArray} {L : List ByteArray} (h : IsLns s L) : ∀ y, rd_all y L = scan13 y s.data.toList 0 := by
 induction h with
 | nil h0 =>
  intro y
  rename_i s
  have e : s.data.toList = [] := List.eq_nil_of_length_eq_zero (by rw [ba_len]; exact h0)
  rw [e]
  rfl
 | last h0 h1 =>
  intro y
  rename_i s
  have h2 := (ib_split 10 s.data.toList).2 h1
  have h3 := scan13_row y s.data.toList [] 0 h2
  rw [List.append_nil] at h3
  rw [h3]
  simp only [rd_all, List.append_nil]
  rw [rd_upto_eq y s s.size (Nat.le_refl _), ← ba_len, List.take_length]
  simp [scan13]
 | more h0 h1 h2 ih =>
  intro y
  rename_i s L
  obtain ⟨a, r, e1, e2, e3, e4, e5⟩ := ln_split h0
  rw [rd_all, ih, e5, rd_upto_eq y _ _ (Nat.le_refl _), ← ba_len, List.take_length, e4, e1, scan13_row y a (10 :: r) 0 e2, row13_append]
  simp [row13, scan13, mk13]
def pcs13 : List UInt8 → List UInt8 → List (List UInt8)
 | [], c => [c]
 | b :: l, c => if b = 10 then c :: pcs13 l [] else pcs13 l (c ++ [b])
def rows13 (y : Int) : List (List UInt8) → List M13
 | [] => []
 | p :: ps => row13 y p 0 ++ rows13 (y + 1) ps
theorem rows_pcs : ∀ (l c : List UInt8) (y : Int), rows13 y (pcs13 l c) = row13 y c 0 ++ scan13 y l c.length
 | [], c, y => by simp [pcs13, rows13, scan13]
 | b :: l, c, y => by
  by_cases h : b = 10
  ·simp [pcs13, h, rows13, scan13, rows_pcs l [] (y + 1), row13]
  ·simp [pcs13, h, rows_pcs l (c ++ [b]) y, scan13, row13_append, row13]
theorem pcs_len : ∀ (l c : List UInt8), (pcs13 l c).length ≤ l.length + 1
 | [], c => by simp [pcs13]
 | b :: l, c => by
  have h1 := pcs_len l []
  have h2 := pcs_len l (c ++ [b])
  simp only [pcs13]
  split <;> simp <;> omega
def ba13 (l : List UInt8) : ByteArray := ⟨l.toArray⟩
theorem split_ev (s : ByteArray) (hs : s.size ≤ 420) : Ev (fun k => spec_l1Split.f k s 10) ((pcs13 s.data.toList []).map ba13) := by
 have key : ∀ (rest pre cur : List UInt8) (acc : List ByteArray), s.data.toList = pre ++ cur ++ rest → acc.length ≤ pre.length →
   Ev (fun k => spec_l1Split.l0 k s 10 acc (pre.length : Int) ((pre.length + cur.length : Nat) : Int)) (acc ++ (pcs13 rest cur).map ba13) := by
  intro rest
  induction rest with
  | nil =>
   intro pre cur acc e ha
   have hl : s.size = pre.length + cur.length := by rw [← ba_len, e]; simp
   refine Ev.step (f := fun _ => some _) (fun k => ?_) (Ev.now _)
   simp only [spec_l1Split.l0]
   rw [if_neg (by omega), if_pos (by omega), if_pos (by omega), if_pos (by omega), Int.toNat_natCast]
   have he : s.extract pre.length s.size = ba13 cur := by
    apply ByteArray.ext
    apply Array.ext'
    rw [ext_list, ← ba_len, List.take_length, e]
    simp [ba13]
   rw [he]
   rfl
  | cons b rest ih =>
   intro pre cur acc e ha
   have hl : s.size = pre.length + cur.length + (rest.length + 1) := by rw [← ba_len, e]; simp; omega
   have hb : bt s ((pre.length + cur.length : Nat) : Int) = (b.toNat : Int) := by
    rw [bt_get s _ (by omega)]
    congr 1
    congr 1
    simp only [e]
    rw [List.getElem_append_right (by simp)]
    simp
   have hw : wrap64 (((pre.length + cur.length : Nat) : Int) + 1) = ((pre.length + cur.length + 1 : Nat) : Int) := by rw [wrap_id (by omega) (by omega)]; omega
   refine Ev.step (fun k => by rw [spec_l1Split.l0]) ?_
   refine Ev.ite_pos (by omega) (Ev.ite_pos (by omega) ?_)
   by_cases h10 : b = 10
   ·subst h10
    refine Ev.ite_pos (by rw [hb]; rfl) (Ev.ite_pos (by omega) (Ev.ite_pos (by omega) (Ev.ite_pos (by omega) (Ev.ite_pos (by omega) ?_))))
    have he : s.extract pre.length (pre.length + cur.length) = ba13 cur := by
     apply ByteArray.ext
     apply Array.ext'
     rw [ext_list, e]
     simp [ba13, List.take_append, List.drop_append]
    have ih' := ih (pre ++ cur ++ [10]) [] (acc ++ [ba13 cur]) (by rw [e]; simp) (by simp; omega)
    simp only [List.length_append, List.length_cons, List.length_nil, Nat.add_zero, Nat.zero_add] at ih'
    simp only [hw, Int.toNat_natCast, he, pcs13, if_true, List.map_cons]
    rw [← List.append_cons] at ih'
    exact ih'
   ·have hn : ¬ bt s ((pre.length + cur.length : Nat) : Int) = 10 := by
     rw [hb]
     intro h
     apply h10
     apply UInt8.toNat_inj.1
     show b.toNat = 10
     omega
    refine Ev.ite_neg hn ?_
    have ih' := ih pre (cur ++ [b]) acc (by rw [e]; simp) ha
    simp only [List.length_append, List.length_cons, List.length_nil, Nat.zero_add] at ih'
    simp only [hw, pcs13, if_neg h10]
    exact ih'
 have := key s.data.toList [] [] [] (by simp) (Nat.le_refl _)
 exact this
def ins13 (m : M13) : List M13 → List M13
 | [] => [m]
 | a :: l => if Op.bytesLess a.f0.toList m.f0.toList = true then a :: ins13 m l else m :: a :: l
theorem ins13_len (m : M13) : ∀ l, (ins13 m l).length = l.length + 1
 | [] => rfl
 | a :: l => by
  simp only [ins13]
  split
  ·simp [ins13_len m l]
  ·simp
theorem ins13_perm (m : M13) : ∀ l, (ins13 m l).Perm (m :: l)
 | [] => List.Perm.refl _
 | a :: l => by
  simp only [ins13]
  split
  ·exact ((ins13_perm m l).cons a).trans (List.Perm.swap m a l)
  ·exact List.Perm.refl _
theorem ins_ev (s : ByteArray) (out : List M13) (P : List ByteArray) (y : Int) (x : Int) (m : M13) (R : List M13 × Bool) (ho : out.length ≤ 1000)
  (hR : Ev (fun k => spec_ReadPlan.l1 k s (ins13 m out) P y (wrap64 (x + 1))) R) : ∀ (d i : Nat), i + d = out.length → ins13 m out = out.take i ++ ins13 m (out.drop i) → Ev (fun k => spec_ReadPlan.l2 k s out P y x (i : Int) m.f0 m.f1 m.f2) R := by
 intro d
 induction d with
 | zero =>
  intro i hi hq
  refine Ev.step (fun k => ?_) hR
  have hi' : i = out.length := by omega
  subst hi'
  rw [List.drop_length, List.take_length] at hq
  simp only [spec_ReadPlan.l2, Option.bind_some, List.nil_append, Int.toNat_natCast, List.length_nil, List.take_length, List.drop_length, List.append_nil, Nat.zero_add]
  rw [if_neg (by omega), if_pos (by omega), if_pos (by omega), if_pos (by omega), if_pos (by simp; omega), if_pos (by simp; omega), hq]
  rfl
 | succ d ih =>
  intro i hi hq
  have hil : i < out.length := by omega
  have hg : out.getD i z44 = out[i] := getD_lt _ _ _ hil
  have hdr : out.drop i = out[i] :: out.drop (i + 1) := List.drop_eq_getElem_cons hil
  refine Ev.step (fun k => by rw [spec_ReadPlan.l2]) ?_
  refine Ev.ite_pos (by omega) (Ev.ite_pos (by omega) ?_)
  simp only [rdM, hg]
  by_cases hl : Op.bytesLess out[i].f0.toList m.f0.toList = true
  ·have hw : wrap64 ((i : Int) + 1) = ((i + 1 : Nat) : Int) := by rw [wrap_id (by omega) (by omega)]; omega
   refine Ev.ite_pos hl ?_
   rw [hw]
   refine ih (i + 1) (by omega) ?_
   rw [hq, hdr, ins13, if_pos hl, List.take_succ_eq_append_getElem hil, List.append_assoc]
   rfl
  ·refine Ev.ite_neg hl ?_
   rw [hdr, ins13, if_neg hl, ← hdr] at hq
   rw [hq, List.append_cons] at hR
   simp only [Option.bind_some, List.nil_append, Int.toNat_natCast, List.length_nil, Nat.zero_add]
   refine Ev.ite_pos (by omega) (Ev.ite_pos (by rw [List.length_take]; omega) (Ev.ite_pos (by simp only [List.length_append, List.length_take, List.length_cons, List.length_nil]; omega) (Ev.ite_pos (by simp only [List.length_append, List.length_take, List.length_drop, List.length_cons, List.length_nil]; omega) hR)))
theorem ext_one (p : List UInt8) (x : Nat) (h : x < p.length) : (ba13 p).extract x (x + 1) = ⟨#[p[x]]⟩ := by
 apply ByteArray.ext
 apply Array.ext'
 rw [ext_list]
 simp only [ba13, List.toList_toArray]
 rw [List.take_succ_eq_append_getElem h, List.drop_append]
 simp [Nat.min_eq_left (Nat.le_of_lt h)]
theorem letter_one (b : UInt8) : okLetter ⟨#[b]⟩ = decide (65 ≤ b.toNat ∧ b.toNat ≤ 90) := by
 have h : bt (⟨#[b]⟩ : ByteArray) 0 = (b.toNat : Int) := by
  have := bt_get ⟨#[b]⟩ 0 (Nat.zero_lt_one)
  simpa using this
 have h1 : (⟨#[b]⟩ : ByteArray).size = 1 := rfl
 unfold okLetter
 rw [h, h1]
 simp only [decide_true, Bool.true_and, decide_eq_decide]
 omega
theorem row13_len (y : Int) : ∀ (l : List UInt8) (x : Nat), (row13 y l x).length ≤ l.length
 | [], _ => Nat.le_refl _
 | b :: l, x => by
  have := row13_len y l (x + 1)
  simp only [row13, mk13, List.length_append, List.length_cons]
  split <;> simp <;> omega
theorem fold_len (l : List M13) : ∀ out, (l.foldl (fun o m => ins13 m o) out).length = out.length + l.length := by
 induction l with
 | nil => intro out; rfl
 | cons m l ih =>
  intro out
  rw [List.foldl_cons, ih, ins13_len, List.length_cons]
  omega
theorem fold_perm (l : List M13) : ∀ out, (l.foldl (fun o m => ins13 m o) out).Perm (l ++ out) := by
 induction l with
 | nil => intro out; exact List.Perm.refl _
 | cons m l ih =>
  intro out
  rw [List.foldl_cons]
  refine (ih (ins13 m out)).trans ?_
  refine ((ins13_perm m out).append_left l).trans ?_
  rw [List.cons_append]
  exact List.perm_middle
theorem piece_ev (s : ByteArray) (ps : List (List UInt8)) (y : Nat) (hy : y < ps.length) (hps : ps.length ≤ 1000) (hp : (ps[y]).length ≤ 420) (R : List M13 × Bool) : ∀ (d x : Nat) (out : List M13), x + d = (ps[y]).length → out.length + d ≤ 1000 →
  Ev (fun k => spec_ReadPlan.l0 k s ((row13 (y : Int) ((ps[y]).drop x) x).foldl (fun o m => ins13 m o) out) (ps.map ba13) ((y + 1 : Nat) : Int)) R → Ev (fun k => spec_ReadPlan.l1 k s out (ps.map ba13) (y : Int) (x : Int)) R := by
 have hrd : rdOf ByteArray.empty (ps.map ba13) (y : Int) = ba13 ps[y] := by
  simp [rdOf, hy]
 have hsz : (ba13 ps[y]).size = (ps[y]).length := by simp [ba13, ByteArray.size]
 have hwy : wrap64 ((y : Int) + 1) = ((y + 1 : Nat) : Int) := by rw [wrap_id (by omega) (by omega)]; omega
 have hwn : wrap64 (-(y : Int)) = -(y : Int) := wrap_id (by omega) (by omega)
 intro d
 induction d with
 | zero =>
  intro x out hx ho hR
  rw [List.drop_of_length_le (by omega)] at hR
  refine Ev.step (fun k => ?_) hR
  simp only [spec_ReadPlan.l1, hrd, hsz]
  rw [if_pos (by omega), if_pos (by rw [List.length_map]; omega), if_neg (by omega), hwy]
  rfl
 | succ d ih =>
  intro x out hx ho hR
  have hxl : x < (ps[y]).length := by omega
  have hwx : wrap64 ((x : Int) + 1) = ((x + 1 : Nat) : Int) := by rw [wrap_id (by omega) (by omega)]; omega
  have hex : (ba13 ps[y]).extract x (x + 1) = ⟨#[(ps[y])[x]]⟩ := ext_one _ _ hxl
  rw [List.drop_eq_getElem_cons hxl, row13, mk13] at hR
  generalize (ps[y])[x] = b at hex hR
  refine Ev.step (fun k => by rw [spec_ReadPlan.l1]) ?_
  simp only [hrd, hsz, hwx, hwn, l13Letter_eq, Option.bind_some, Int.toNat_natCast, hex, letter_one]
  refine Ev.ite_pos (by omega) (Ev.ite_pos (by rw [List.length_map]; omega) (Ev.ite_pos (by omega) (Ev.ite_pos (by omega) (Ev.ite_pos (by omega) (Ev.ite_pos (by omega) ?_)))))
  by_cases hb : 65 ≤ b.toNat ∧ b.toNat ≤ 90
  ·rw [if_pos hb, List.singleton_append, List.foldl_cons] at hR
   refine Ev.ite_pos (decide_eq_true hb) ?_
   have hR2 := ih (x + 1) (ins13 ⟨⟨#[b]⟩, (x : Int), -(y : Int)⟩ out) (by omega) (by rw [ins13_len]; omega) hR
   rw [← hwx] at hR2
   exact ins_ev s out (ps.map ba13) (y : Int) (x : Int) ⟨⟨#[b]⟩, (x : Int), -(y : Int)⟩ R (by omega) hR2 out.length 0 (by omega) rfl
  ·rw [if_neg hb, List.nil_append] at hR
   exact Ev.ite_neg (by simpa using hb) (ih (x + 1) out (by omega) (by omega) hR)
def sumLen (ps : List (List UInt8)) : Nat := (ps.map List.length).sum
theorem pcs_sum : ∀ (l c : List UInt8), sumLen (pcs13 l c) ≤ c.length + l.length
 | [], c => by simp [pcs13, sumLen]
 | b :: l, c => by
  have h1 := pcs_sum l []
  have h2 := pcs_sum l (c ++ [b])
  simp only [pcs13]
  split
  ·simp only [sumLen, List.map_cons, List.sum_cons, List.length_nil, List.length_cons] at h1 ⊢
   omega
  ·simp only [List.length_append, List.length_cons, List.length_nil] at h2 ⊢
   omega
def out13 (s : ByteArray) : List M13 := (scan13 0 s.data.toList 0).foldl (fun o m => ins13 m o) []
theorem scan13_len : ∀ (l : List UInt8) (y : Int) (x : Nat), (scan13 y l x).length ≤ l.length
 | [], _, _ => Nat.le_refl _
 | b :: l, y, x => by
  have h1 := scan13_len l (y + 1) 0
  have h2 := scan13_len l y (x + 1)
  simp only [scan13, mk13]
  split
  ·simp; omega
  ·split <;> simp <;> omega
theorem pieces_ev (s : ByteArray) (ps : List (List UInt8)) (hps : ps.length ≤ 500) (R : List M13 × Bool) : ∀ (d y : Nat) (out : List M13), y + d = ps.length → out.length + sumLen (ps.drop y) ≤ 420 →
  Ev (fun k => spec_ReadPlan.l0 k s ((rows13 (y : Int) (ps.drop y)).foldl (fun o m => ins13 m o) out) (ps.map ba13) (ps.length : Int)) R → Ev (fun k => spec_ReadPlan.l0 k s out (ps.map ba13) (y : Int)) R := by
 intro d
 induction d with
 | zero =>
  intro y out hy _ hR
  have e : y = ps.length := by omega
  subst e
  rw [List.drop_length] at hR
  exact hR
 | succ d ih =>
  intro y out hy hs hR
  have hyl : y < ps.length := by omega
  rw [List.drop_eq_getElem_cons hyl] at hR hs
  simp only [sumLen, List.map_cons, List.sum_cons] at hs
  rw [rows13, List.foldl_append] at hR
  refine Ev.step (f := fun k => spec_ReadPlan.l1 k s out (ps.map ba13) (y : Int) 0) (fun k => ?_) ?_
  ·simp only [spec_ReadPlan.l0]
   rw [if_pos (by rw [List.length_map]; omega)]
  ·refine piece_ev s ps y hyl (by omega) (by omega) R (ps[y]).length 0 out (Nat.zero_add _) (by omega) ?_
   rw [List.drop_zero]
   have hl := row13_len (y : Int) ps[y] 0
   refine ih (y + 1) _ (by omega) (by rw [fold_len]; simp only [sumLen]; omega) ?_
   rw [Int.natCast_add]
   exact hR
def readAns (s : ByteArray) : List M13 × Bool := if s.size ≤ 420 ∧ (planTextAns (out13 s) 1).2 = true ∧ (planTextAns (out13 s) 1).1.toList = s.toList then (out13 s, true) else ([], false)
theorem out13_len (s : ByteArray) : (out13 s).length ≤ s.size := by
 unfold out13
 rw [fold_len, List.length_nil, Nat.zero_add, ← ba_len]
 exact scan13_len _ _ _
theorem readAns_len (s : ByteArray) : (readAns s).1.length ≤ 420 := by
 unfold readAns
 have := out13_len s
 split
 ·rename_i h
  exact Nat.le_trans this h.1
 ·simp
theorem specRead_ev (s : ByteArray) : Ev (fun k => spec_ReadPlan.f k s) (readAns s) := by
 unfold spec_ReadPlan.f
 by_cases h : s.size ≤ 420
 ·refine Ev.ite_neg (by omega) (Ev.bind (split_ev s h) ?_)
  have hsum := pcs_sum s.data.toList []
  have hlen := pcs_len s.data.toList []
  rw [ba_len] at hlen hsum
  simp only [List.length_nil, Nat.zero_add] at hsum
  have hol := out13_len s
  refine pieces_ev s (pcs13 s.data.toList []) (by omega) (readAns s) (pcs13 s.data.toList []).length 0 [] (Nat.zero_add _) (by rw [List.drop_zero]; simp; omega) ?_
  rw [List.drop_zero, show ((0 : Nat) : Int) = 0 from rfl, rows_pcs]
  simp only [row13, List.nil_append, List.length_nil]
  rw [show (scan13 0 s.data.toList 0).foldl (fun o m => ins13 m o) [] = out13 s from rfl]
  refine Ev.step (fun k => by rw [spec_ReadPlan.l0]) ?_
  refine Ev.ite_neg (by rw [List.length_map]; omega) (Ev.bind (specPlanText_ev (out13 s) 1 (by omega)) ?_)
  by_cases h2 : (planTextAns (out13 s) 1).2 = true
  ·by_cases h3 : (planTextAns (out13 s) 1).1.toList = s.toList
   ·have hq : readAns s = (out13 s, true) := if_pos ⟨h, h2, h3⟩
    rw [hq]
    exact Ev.ite_pos h2 (Ev.ite_pos h3 (Ev.now _))
   ·have hq : readAns s = ([], false) := if_neg (fun hc => h3 hc.2.2)
    rw [hq]
    exact Ev.ite_pos h2 (Ev.ite_neg h3 (Ev.now _))
  ·have hq : readAns s = ([], false) := if_neg (fun hc => h2 hc.2.1)
   rw [hq]
   exact Ev.ite_neg h2 (Ev.now _)
 ·have hq : readAns s = ([], false) := if_neg (fun hc => h hc.1)
  rw [hq]
  exact Ev.ite_pos (by omega) (Ev.now _)
def let13 (m : M13) : Int := bt m.f0 0
theorem mk13_mem {b : UInt8} {x : Nat} {y : Int} {m : M13} (h : m ∈ mk13 b x y) : okLetter m.f0 = true := by
 unfold mk13 at h
 split at h
 ·rename_i hb
  rw [List.mem_singleton] at h
  rw [h, letter_one]
  exact decide_eq_true hb
 ·cases h
theorem scan13_mem : ∀ (l : List UInt8) (y : Int) (x : Nat) (m : M13), m ∈ scan13 y l x → okLetter m.f0 = true
 | [], _, _, _, h => by cases h
 | b :: l, y, x, m, h => by
  simp only [scan13] at h
  split at h
  ·exact scan13_mem l _ _ m h
  ·rcases List.mem_append.1 h with h | h
   ·exact mk13_mem h
   ·exact scan13_mem l _ _ m h
theorem less13 {a b : M13} (ha : okLetter a.f0 = true) (hb : okLetter b.f0 = true) : (Op.bytesLess a.f0.toList b.f0.toList = true ↔ let13 a < let13 b) ∧ (a.f0.data.toList < b.f0.data.toList ↔ let13 a < let13 b) := by
 simp only [okLetter, Bool.and_eq_true, decide_eq_true_eq] at ha hb
 obtain ⟨u, hu, eu⟩ := one_letter ha.1
 obtain ⟨v, hv, ev⟩ := one_letter hb.1
 have hu' := hu
 have hv' := hv
 rw [ByteArray.toList_eq] at hu' hv'
 unfold let13
 rw [hu, hv, hu', hv', eu, ev]
 constructor
 ·simp [Op.bytesLess, UInt8.lt_iff_toNat_lt]
 ·simp [List.cons_lt_cons_iff, UInt8.lt_iff_toNat_lt]
theorem uniq13 : ∀ (A B : List M13), A.Perm B → A.Pairwise (fun a b => let13 a < let13 b) → B.Pairwise (fun a b => let13 a ≤ let13 b) → A = B
 | [], B, h, _, _ => (List.Perm.nil_eq h)
 | a :: A, [], h, _, _ => by have := h.length_eq; simp at this
 | a :: A, b :: B, h, hA, hB => by
  rw [List.pairwise_cons] at hA hB
  have e : a = b := by
   have h1 : a ∈ b :: B := h.subset List.mem_cons_self
   have h2 : b ∈ a :: A := h.symm.subset List.mem_cons_self
   rcases List.mem_cons.1 h1 with e | h1
   ·exact e
   ·rcases List.mem_cons.1 h2 with e | h2
    ·exact e.symm
    ·have := hA.1 b h2
     have := hB.1 a h1
     omega
  subst e
  rw [uniq13 A B (List.Perm.cons_inv h) hA.2 hB.2]
theorem ins13_mem {m x : M13} {l : List M13} (h : x ∈ ins13 m l) : x = m ∨ x ∈ l := by
 have := (ins13_perm m l).subset h
 simpa using this
theorem ins13_sorted (m : M13) (hm : okLetter m.f0 = true) : ∀ l : List M13, (∀ x ∈ l, okLetter x.f0 = true) → l.Pairwise (fun a b => let13 a ≤ let13 b) → (ins13 m l).Pairwise (fun a b => let13 a ≤ let13 b)
 | [], _, _ => by simp [ins13]
 | a :: l, hl, hs => by
  have ha := hl a List.mem_cons_self
  have hl' : ∀ x ∈ l, okLetter x.f0 = true := fun x hx => hl x (List.mem_cons_of_mem _ hx)
  have hs' := List.pairwise_cons.1 hs
  simp only [ins13]
  by_cases h : Op.bytesLess a.f0.toList m.f0.toList = true
  ·rw [if_pos h, List.pairwise_cons]
   have h1 := (less13 ha hm).1.1 h
   refine ⟨fun x hx => ?_, ins13_sorted m hm l hl' hs'.2⟩
   rcases ins13_mem hx with rfl | hx
   ·omega
   ·exact hs'.1 x hx
  ·rw [if_neg h, List.pairwise_cons]
   have h1 : ¬ let13 a < let13 m := fun hc => h ((less13 ha hm).1.2 hc)
   refine ⟨fun x hx => ?_, hs⟩
   rcases List.mem_cons.1 hx with rfl | hx
   ·omega
   ·have := hs'.1 x hx
    omega
theorem fold_sorted : ∀ (l out : List M13), (∀ x ∈ l, okLetter x.f0 = true) → (∀ x ∈ out, okLetter x.f0 = true) → out.Pairwise (fun a b => let13 a ≤ let13 b) → (l.foldl (fun o m => ins13 m o) out).Pairwise (fun a b => let13 a ≤ let13 b)
 | [], _, _, _, h => h
 | m :: l, out, hl, ho, h => by
  rw [List.foldl_cons]
  have hm := hl m List.mem_cons_self
  refine fold_sorted l (ins13 m out) (fun x hx => hl x (List.mem_cons_of_mem _ hx)) (fun x hx => ?_) (ins13_sorted m hm out ho h)
  rcases ins13_mem hx with rfl | hx
  ·exact hm
  ·exact ho x hx
theorem okMarks_less (l : List M13) : ∀ d i, i + d = l.length → foldN (fun i (_ : Unit) => if markStep l i = true then Sum.inl () else Sum.inr false) (fun _ => decide (l.length ≤ 12)) d i () = true → ∀ j, i ≤ j → j < l.length → markStep l j = true := by
 intro d
 induction d with
 | zero => intro i hi h j h1 h2; omega
 | succ d ih =>
  intro i hi h j h1 h2
  simp only [foldN] at h
  cases hk : markStep l i with
  | false => rw [hk] at h; simp at h
  | true =>
   rw [hk] at h
   by_cases hj : j = i
   ·rw [hj]; exact hk
   ·exact ih (i + 1) (by omega) (by simpa using h) j (by omega) h2
theorem okMarks_strict {l : List M13} (h : okMarks l = true) : l.Pairwise (fun a b => let13 a < let13 b) := by
 have hm := okMarks_less l l.length 0 (by omega) h
 have hk : ∀ j, (hj : j < l.length) → okLetter l[j].f0 = true := fun j hj => (okMarks_mem h (List.getElem_mem hj)).1
 have step : ∀ j, (hj : j + 1 < l.length) → let13 l[j] < let13 l[j + 1] := by
  intro j hj
  have := hm (j + 1) (by omega) hj
  unfold markStep at this
  rw [Bool.and_eq_true] at this
  have h2 := this.2
  rw [decide_eq_false (by omega), Bool.false_or, Nat.add_sub_cancel, getD_lt _ _ _ (by omega), getD_lt _ _ _ hj] at h2
  exact (less13 (hk j (by omega)) (hk (j + 1) hj)).1.1 h2
 rw [List.pairwise_iff_getElem]
 intro i j hi hj hij
 have key : ∀ d, (hd : i + 1 + d < l.length) → let13 l[i] < let13 (l[i + 1 + d]) := by
  intro d
  induction d with
  | zero => intro hd; exact step i hd
  | succ d ih =>
   intro hd
   have h1 := ih (by omega)
   have h2 := step (i + 1 + d) (by omega)
   have e : l[i + 1 + (d + 1)] = l[i + 1 + d + 1] := rfl
   rw [e]
   omega
 have h1 := key (j - (i + 1)) (by omega)
 have e : i + 1 + (j - (i + 1)) = j := by omega
 simp only [e] at h1
 exact h1
theorem split_unique : ∀ (a b r r' : List UInt8), (∀ x ∈ a, x ≠ 10) → (∀ x ∈ b, x ≠ 10) → a ++ 10 :: r = b ++ 10 :: r' → a = b ∧ r = r'
 | [], [], r, r', _, _, h => by simpa using h
 | [], y :: b, r, r', _, hb, h => by
  simp only [List.nil_append, List.cons_append, List.cons.injEq] at h
  exact absurd h.1.symm (hb y List.mem_cons_self)
 | x :: a, [], r, r', ha, _, h => by
  simp only [List.nil_append, List.cons_append, List.cons.injEq] at h
  exact absurd h.1 (ha x List.mem_cons_self)
 | x :: a, y :: b, r, r', ha, hb, h => by
  simp only [List.cons_append, List.cons.injEq] at h
  obtain ⟨e1, e2⟩ := split_unique a b r r' (fun z hz => ha z (List.mem_cons_of_mem _ hz)) (fun z hz => hb z (List.mem_cons_of_mem _ hz)) h.2
  exact ⟨by rw [h.1, e1], e2⟩
theorem lns_rows : ∀ (rows : List (List UInt8)), (∀ r ∈ rows, (∀ b ∈ r, b ≠ 10) ∧ r.length ≤ 20) → ∀ (s : ByteArray) (L : List ByteArray), s.data.toList = rows.flatMap (fun r => r ++ [10]) → IsLns s L → L.length = rows.length ∧ ∀ x ∈ L, x.size ≤ 21
 | [], _, s, L, e, hL => by
  have hz : s.size = 0 := by rw [← ba_len, e]; rfl
  cases hL with
  | nil h => exact ⟨rfl, fun x hx => by cases hx⟩
  | last h0 h1 => omega
  | more h0 h1 h2 => omega
 | r :: rows, hr, s, L, e, hL => by
  have e' : s.data.toList = r ++ 10 :: rows.flatMap (fun r => r ++ [10]) := by rw [e]; simp
  have hr0 := hr r List.mem_cons_self
  cases hL with
  | nil h =>
   have := ba_len s
   rw [e'] at this
   simp at this
   omega
  | last h0 h1 =>
   have := (ib_split 10 s.data.toList).2 h1 10 (by rw [e']; simp)
   exact absurd rfl this
  | more h0 h1 h2 =>
   rename_i L
   obtain ⟨a, r', e1, e2, e3, e4, e5⟩ := ln_split h0
   rw [e'] at e1
   obtain ⟨q1, q2⟩ := split_unique r a _ r' hr0.1 e2 e1
   obtain ⟨i1, i2⟩ := lns_rows rows (fun z hz => hr z (List.mem_cons_of_mem _ hz)) _ L (by rw [e5, ← q2]) h2
   refine ⟨by rw [List.length_cons, i1, List.length_cons], fun x hx => ?_⟩
   rcases List.mem_cons.1 hx with rfl | hx
   ·rw [← ba_len, e4, ← q1]
    simp
    exact hr0.2
   ·exact i2 x hx
theorem not_big {s : ByteArray} (h : (planTextAns (out13 s) 1).2 = true) (h2 : (planTextAns (out13 s) 1).1.toList = s.toList) : rd_big (lns s) = false := by
 unfold planTextAns at h h2
 by_cases hm : (mayFit (out13 s) 1 && fits20 (out13 s) 1) = true
 ·rw [if_pos hm] at h2
  rw [Bool.and_eq_true] at hm
  obtain ⟨ho, -, -⟩ := mayFit_says hm.1
  have hf := fits20_plan (out13 s) 1
  rw [hm.2] at hf
  simp only [Bool.and_eq_true, decide_eq_true_eq] at hf
  have hb : s.data.toList = ((List.range (planOf (out13 s) 1).2.2.2.2.2.toNat).map (fun y => (List.range (planOf (out13 s) 1).2.2.2.2.1.toNat).map (fun x => UInt8.ofNat (pl_at (pl_X (planOf (out13 s) 1)) (pl_Y (planOf (out13 s) 1)) (planOf (out13 s) 1).1 y x).toNat))).flatMap (fun r => r ++ [10]) := by
   rw [ByteArray.toList_eq, ByteArray.toList_eq] at h2
   rw [← h2]
   simp only [pl_text, pl_lines, pl_line, List.toList_toArray, List.flatMap_map]
  have hL := lnsF_is s.size s (Nat.le_refl _)
  obtain ⟨q1, q2⟩ := lns_rows _ (fun r hr => by
   obtain ⟨y, -, rfl⟩ := List.mem_map.1 hr
   refine ⟨fun b hb => ?_, by rw [List.length_map, List.length_range]; omega⟩
   obtain ⟨x, -, rfl⟩ := List.mem_map.1 hb
   have hv : pl_at (pl_X (planOf (out13 s) 1)) (pl_Y (planOf (out13 s) 1)) (planOf (out13 s) 1).1 y x = 46 ∨ (65 ≤ pl_at (pl_X (planOf (out13 s) 1)) (pl_Y (planOf (out13 s) 1)) (planOf (out13 s) 1).1 y x ∧ pl_at (pl_X (planOf (out13 s) 1)) (pl_Y (planOf (out13 s) 1)) (planOf (out13 s) 1).1 y x ≤ 90) := by
    unfold pl_at
    split
    ·rename_i m hm2
     have h5 := (okMarks_mem ho (List.mem_of_find?_eq_some hm2)).1
     simp only [okLetter, Bool.and_eq_true, decide_eq_true_eq] at h5
     exact .inr h5.2
    ·exact .inl rfl
   intro hc
   have hc2 := congrArg UInt8.toNat hc
   simp only [UInt8.toNat_ofNat'] at hc2
   have : (10 : UInt8).toNat = 10 := rfl
   omega) s (lns s) hb hL
  rw [List.length_map, List.length_range] at q1
  unfold rd_big
  simp only [Bool.or_eq_false_iff, decide_eq_false_iff_not, List.any_eq_false, decide_eq_true_eq]
  exact ⟨by omega, fun x hx => by have := q2 x hx; omega⟩
 ·rw [if_neg hm] at h
  cases h
theorem lns_sum {s : ByteArray} {L : List ByteArray} (h : IsLns s L) : s.size = (L.map ByteArray.size).sum := by
 induction h with
 | nil h0 => simpa using h0
 | last h0 h1 => simp
 | more h0 h1 h2 ih =>
  rename_i s L
  rw [ByteArray.size_extract] at ih
  rw [List.map_cons, List.sum_cons, ← ih, ByteArray.size_extract]
  omega
theorem sum_le21 : ∀ L : List ByteArray, (∀ x ∈ L, x.size ≤ 21) → (L.map ByteArray.size).sum ≤ 21 * L.length
 | [], _ => Nat.le_refl _
 | x :: L, h => by
  have h1 := sum_le21 L (fun z hz => h z (List.mem_cons_of_mem _ hz))
  have h2 := h x List.mem_cons_self
  simp only [List.map_cons, List.sum_cons, List.length_cons]
  omega
theorem small_text {s : ByteArray} (h : rd_big (lns s) = false) : s.size ≤ 420 := by
 unfold rd_big at h
 simp only [Bool.or_eq_false_iff, decide_eq_false_iff_not, List.any_eq_false, decide_eq_true_eq] at h
 have h1 := lns_sum (lnsF_is s.size s (Nat.le_refl _))
 have h2 := sum_le21 (lns s) (fun x hx => by have := h.2 x hx; omega)
 have h3 : s.size = ((lns s).map ByteArray.size).sum := h1
 omega
theorem same_plan (s : ByteArray) : planTextAns (rd_sort (scan13 0 s.data.toList 0)) 1 = planTextAns (out13 s) 1 ∧ ((planTextAns (out13 s) 1).2 = true → rd_sort (scan13 0 s.data.toList 0) = out13 s) := by
 have hmem : ∀ m ∈ scan13 0 s.data.toList 0, okLetter m.f0 = true := fun m hm => scan13_mem _ _ _ m hm
 obtain ⟨p1, p2⟩ := rd_sort_spec (scan13 0 s.data.toList 0)
 have p3 : (out13 s).Perm (scan13 0 s.data.toList 0) := by
  have := fold_perm (scan13 0 s.data.toList 0) []
  rw [List.append_nil] at this
  exact this
 have hA : (out13 s).Pairwise (fun a b => let13 a ≤ let13 b) := fold_sorted _ [] hmem (fun x hx => by cases hx) List.Pairwise.nil
 have hB : (rd_sort (scan13 0 s.data.toList 0)).Pairwise (fun a b => let13 a ≤ let13 b) := by
  refine List.Pairwise.imp_of_mem ?_ p2
  intro a b ha hb hab
  have h1 := (less13 (hmem b (p1.subset hb)) (hmem a (p1.subset ha))).2
  have h2 : ¬ let13 b < let13 a := fun hc => hab (h1.2 hc)
  omega
 have hAB : (out13 s).Perm (rd_sort (scan13 0 s.data.toList 0)) := p3.trans p1.symm
 by_cases h1 : okMarks (out13 s) = true
 ·have e := uniq13 _ _ hAB (okMarks_strict h1) hB
  rw [← e]
  exact ⟨rfl, fun _ => rfl⟩
 ·by_cases h2 : okMarks (rd_sort (scan13 0 s.data.toList 0)) = true
  ·have e := uniq13 _ _ hAB.symm (okMarks_strict h2) hA
   rw [e]
   exact ⟨rfl, fun _ => rfl⟩
  ·have f1 : planTextAns (out13 s) 1 = (⟨#[]⟩, false) := if_neg (by simp [mayFit, h1])
   have f2 : planTextAns (rd_sort (scan13 0 s.data.toList 0)) 1 = (⟨#[]⟩, false) := if_neg (by simp [mayFit, h2])
   rw [f1, f2]
   exact ⟨rfl, fun h => by cases h⟩
theorem implRead_ev (s : ByteArray) (hs : s.size ≤ 1000000000) : Ev (fun k => impl_ReadPlan.f k s) (readAns s) := by
 unfold impl_ReadPlan.f
 refine Ev.ite_pos hs ?_
 have hmk : rd_all 0 (lns s) = scan13 0 s.data.toList 0 := lns_scan (lnsF_is s.size s (Nat.le_refl _)) 0
 rw [hmk]
 by_cases hb : rd_big (lns s) = true
 ·have hq : readAns s = ([], false) := if_neg (fun hc => by have := not_big hc.2.1 hc.2.2; rw [hb] at this; cases this)
  rw [hq]
  exact Ev.ite_pos hb (Ev.now _)
 ·have h420 := small_text (by simpa using hb)
  obtain ⟨e1, e2⟩ := same_plan s
  have hl := (rd_sort_spec (scan13 0 s.data.toList 0)).1.length_eq
  have hl2 := scan13_len s.data.toList 0 0
  rw [ba_len] at hl2
  refine Ev.ite_neg hb (Ev.bind (implPlanText_ev _ 1 (by omega)) ?_)
  rw [e1]
  by_cases h2 : (planTextAns (out13 s) 1).2 = true
  ·by_cases h3 : (planTextAns (out13 s) 1).1.toList = s.toList
   ·have hq : readAns s = (out13 s, true) := if_pos ⟨h420, h2, h3⟩
    rw [hq, e2 h2]
    exact Ev.ite_pos (by rw [h2, h3]; simp) (Ev.now _)
   ·have hq : readAns s = ([], false) := if_neg (fun hc => h3 hc.2.2)
    rw [hq]
    exact Ev.ite_neg (by simp [h3]) (Ev.now _)
  ·have hq : readAns s = ([], false) := if_neg (fun hc => h2 hc.2.1)
   rw [hq]
   exact Ev.ite_neg (by simp [h2]) (Ev.now _)
def turnOne (x : S44) : S44 := ⟨x.f0, x.f2, wrap64 (-x.f1)⟩
def turnAns (l : List S44) : List S44 × Bool := if okMarks l = true then (l.map turnOne, true) else ([], false)
theorem turnAns_len (l : List S44) : (turnAns l).1.length ≤ 12 := by
 unfold turnAns
 split
 ·rename_i h
  have := okMarks_len h
  simpa using this
 ·simp
theorem map_take_succ {α β : Type} (f : α → β) (l : List α) (d : α) {i : Nat} (hi : i < l.length) : (l.take (i + 1)).map f = (l.take i).map f ++ [f (l.getD i d)] := by
 rw [List.take_succ_eq_append_getElem hi, List.map_append, getD_lt _ _ _ hi]
 rfl
theorem specTurn_ev (l : List S44) (hm : l.length ≤ 9223372036854775807) : Ev (fun k => spec_TurnMarks.f k l) (turnAns l) := by
 simp only [spec_TurnMarks.f, Option.bind_some]
 refine Ev.bind (l13Good_ev l hm) ?_
 unfold turnAns
 by_cases h : okMarks l = true
 ·rw [if_pos h]
  refine Ev.ite_pos h ?_
  have h12 := okMarks_len h
  refine loopV_ev (fun k i (s : List S44) => spec_TurnMarks.l0 k l s i) l.length 0 (fun i s => s = (l.take i).map turnOne) _ [] (by simp) ?_ ?_
  ·rintro k i s - hi rfl
   refine .inl ⟨_, rfl, ?_⟩
   simp only [spec_TurnMarks.l0, rdM]
   rw [if_pos (by omega), if_pos (by omega), if_pos (by rw [List.length_map, List.length_take]; omega), wrap_up hi hm, map_take_succ turnOne l z44 hi]
   rfl
  ·rintro k s - rfl
   simp only [spec_TurnMarks.l0]
   rw [if_neg (by omega), List.take_of_length_le (by omega)]
 ·rw [if_neg h]
  exact Ev.ite_neg h (Ev.now _)
theorem implTurn_ev (l : List S44) (hm : l.length ≤ 9223372036854775807) : Ev (fun k => impl_TurnMarks.f k l) (turnAns l) := by
 simp only [impl_TurnMarks.f]
 refine Ev.bind (areMarks_ev l hm) ?_
 unfold turnAns
 by_cases h : okMarks l = true
 ·rw [if_pos h]
  refine Ev.ite_pos h ?_
  have h12 := okMarks_len h
  refine loopV_ev (fun k i (s : List S44) => impl_TurnMarks.l0 k s l (l.length : Int) i) l.length 0 (fun i s => s = (l.take i).map turnOne) _ [] (by simp) ?_ ?_
  ·rintro k i s - hi rfl
   refine .inl ⟨_, rfl, ?_⟩
   simp only [impl_TurnMarks.l0, rdM]
   rw [if_pos (by omega), if_pos (by omega), if_pos (by omega), if_pos (by rw [List.length_map, List.length_take]; omega), wrap_up hi hm, map_take_succ turnOne l z44 hi]
   rfl
  ·rintro k s - rfl
   simp only [impl_TurnMarks.l0]
   rw [if_neg (by omega), List.take_of_length_le (by omega)]
 ·rw [if_neg h]
  exact Ev.ite_neg h (Ev.now _)
def moveOne (a b : Int) (x : S44) : S44 := ⟨x.f0, wrap64 (x.f1 + a), wrap64 (x.f2 + b)⟩
def moveAns (l : List S44) (a b : Int) : List S44 × Bool := if okMarks l = true ∧ (-2000 ≤ a ∧ a ≤ 2000) ∧ (-2000 ≤ b ∧ b ≤ 2000) then (if okMarks (l.map (moveOne a b)) = true then (l.map (moveOne a b), true) else ([], false)) else ([], false)
theorem moveAns_len (l : List S44) (a b : Int) : (moveAns l a b).1.length ≤ 12 := by
 unfold moveAns
 split
 ·rename_i h
  have := okMarks_len h.1
  split
  ·simpa using this
  ·simp
 ·simp
theorem specMove_ev (l : List S44) (a b : Int) (hm : l.length ≤ 9223372036854775807) : Ev (fun k => spec_MoveMarks.f k l a b) (moveAns l a b) := by
 have hno : Ev (fun k => spec_MoveMarks.j0 k l a b [] true) ([], false) := Ev.step (f := fun _ => some ([], false)) (fun k => by simp only [spec_MoveMarks.j0, if_true]) (Ev.now _)
 simp only [spec_MoveMarks.f, l1In_eq, Option.bind_some]
 refine Ev.bind (l13Good_ev l hm) ?_
 unfold moveAns
 by_cases h : okMarks l = true
 ·refine Ev.ite_pos h ?_
  by_cases ha : -2000 ≤ a ∧ a ≤ 2000
  ·refine Ev.ite_pos (decide_eq_true ha) ?_
   by_cases hb : -2000 ≤ b ∧ b ≤ 2000
   ·rw [if_pos ⟨h, ha, hb⟩, decide_eq_true hb, Bool.not_true]
    refine Ev.step (f := fun k => spec_MoveMarks.l0 k l a b [] 0) (fun k => by simp only [spec_MoveMarks.j0, Bool.false_eq_true, if_false]) ?_
    have h12 := okMarks_len h
    obtain ⟨K, hK⟩ := l13Good_ev (l.map (moveOne a b)) (by rw [List.length_map]; exact hm)
    refine loopV_ev (fun k i (s : List S44) => spec_MoveMarks.l0 k l a b s i) l.length K (fun i s => s = (l.take i).map (moveOne a b)) _ [] (by simp) ?_ ?_
    ·rintro k i s - hi rfl
     refine .inl ⟨_, rfl, ?_⟩
     simp only [spec_MoveMarks.l0, rdM]
     rw [if_pos (by omega), if_pos (by omega), if_pos (by rw [List.length_map, List.length_take]; omega), wrap_up hi hm, map_take_succ (moveOne a b) l z44 hi]
     rfl
    ·rintro k s hk rfl
     simp only [spec_MoveMarks.l0]
     rw [if_neg (by omega), List.take_of_length_le (by omega), show spec_l13Good.f k (l.map (moveOne a b)) = some (okMarks (l.map (moveOne a b))) from hK k hk]
     simp only [Option.bind_some]
     split <;> rfl
   ·rw [if_neg (fun hh => hb hh.2.2), decide_eq_false hb, Bool.not_false]
    exact hno
  ·rw [if_neg (fun hh => ha hh.2.1)]
   exact Ev.ite_neg (by simpa using ha) hno
 ·rw [if_neg (fun hh => h hh.1)]
  exact Ev.ite_neg h hno
theorem implMove_ev (l : List S44) (a b : Int) (hm : l.length ≤ 9223372036854775807) : Ev (fun k => impl_MoveMarks.f k l a b) (moveAns l a b) := by
 have hno : Ev (fun k => impl_MoveMarks.j0 k l a b true) ([], false) := Ev.step (f := fun _ => some ([], false)) (fun k => by simp only [impl_MoveMarks.j0, if_true]) (Ev.now _)
 simp only [impl_MoveMarks.f, within_eq, Option.bind_some]
 refine Ev.bind (areMarks_ev l hm) ?_
 unfold moveAns
 by_cases h : okMarks l = true
 ·refine Ev.ite_pos h ?_
  by_cases ha : -2000 ≤ a ∧ a ≤ 2000
  ·refine Ev.ite_pos (decide_eq_true ha) ?_
   by_cases hb : -2000 ≤ b ∧ b ≤ 2000
   ·rw [if_pos ⟨h, ha, hb⟩, decide_eq_true hb, Bool.not_true]
    refine Ev.step (f := fun k => impl_MoveMarks.l0 k a b [] l (l.length : Int) 0) (fun k => by simp only [impl_MoveMarks.j0, Bool.false_eq_true, if_false]) ?_
    have h12 := okMarks_len h
    obtain ⟨K, hK⟩ := areMarks_ev (l.map (moveOne a b)) (by rw [List.length_map]; exact hm)
    refine loopV_ev (fun k i (s : List S44) => impl_MoveMarks.l0 k a b s l (l.length : Int) i) l.length K (fun i s => s = (l.take i).map (moveOne a b)) _ [] (by simp) ?_ ?_
    ·rintro k i s - hi rfl
     refine .inl ⟨_, rfl, ?_⟩
     simp only [impl_MoveMarks.l0, rdM]
     rw [if_pos (by omega), if_pos (by omega), if_pos (by omega), if_pos (by rw [List.length_map, List.length_take]; omega), wrap_up hi hm, map_take_succ (moveOne a b) l z44 hi]
     rfl
    ·rintro k s hk rfl
     simp only [impl_MoveMarks.l0]
     rw [if_neg (by omega), List.take_of_length_le (by omega), show impl_AreMarks.f k (l.map (moveOne a b)) = some (okMarks (l.map (moveOne a b))) from hK k hk]
     simp only [Option.bind_some]
     split <;> rfl
   ·rw [if_neg (fun hh => hb hh.2.2), decide_eq_false hb, Bool.not_false]
    exact hno
  ·rw [if_neg (fun hh => ha hh.2.1)]
   exact Ev.ite_neg (by simpa using ha) hno
 ·rw [if_neg (fun hh => h hh.1)]
  exact Ev.ite_neg h hno
end Go.Proofs.Ytckidmhkhlbkeaa.Pure
