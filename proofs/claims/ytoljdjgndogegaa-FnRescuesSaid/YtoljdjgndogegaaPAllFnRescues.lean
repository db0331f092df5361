/- The plain part of the law FnRescues: what the program's and the reference's functions answer. -/
import Derived.Test.YtoljdjgndogegaaMSx2
import Derived.Test.YtoljdjgndogegaaMSx4
import Derived.Test.YtoljdjgndogegaaMSx3
import Derived.Test.YtoljdjgndogegaaMSx5
import Derived.Test.YtoljdjgndogegaaMSx6
import Derived.Test.YtoljdjgndogegaaMSx7
import Derived.Test.YtoljdjgndogegaaMSx8
import Derived.Test.YtoljdjgndogegaaMSx15
import Derived.Test.YtoljdjgndogegaaMSx9
import Derived.Test.YtoljdjgndogegaaMSx11
import Derived.Test.YtoljdjgndogegaaMSx12
namespace Go.Proofs.Ytoljdjgndogegaa.Pure
open Go.RowKit Go.Proofs.Ytoljdjgndogegaa.MS Go.Proofs.YtoljdjgndogegaaW.PrintWords Go.Proofs.YtoljdjgndogegaaW.PrintLast
set_option linter.unusedVariables false
set_option linter.unusedSimpArgs false

theorem within_eq (a b c : Int) : impl_within.f a b c = some (decide (b ≤ a ∧ a ≤ c)) := by
 unfold impl_within.f
 by_cases h : a ≥ b
 ·rw [if_pos h]; simp [show b ≤ a from h]
 ·rw [if_neg h]; simp [show ¬ b ≤ a from h]
theorem l1In_eq (a b c : Int) : spec_l1In.f a b c = some (decide (b ≤ a ∧ a ≤ c)) := by
 unfold spec_l1In.f
 by_cases h : a ≥ b
 ·rw [if_pos h]; simp [show b ≤ a from h]
 ·rw [if_neg h]; simp [show ¬ b ≤ a from h]
theorem wrap_id {x : Int} (h0 : -9223372036854775808 ≤ x) (h1 : x ≤ 9223372036854775807) : wrap64 x = x := by
 unfold wrap64
 omega
theorem wrap_up {i : Nat} {n : Nat} (h : i < n) (hn : n ≤ 9223372036854775807) : wrap64 ((i : Int) + 1) = ((i + 1 : Nat) : Int) := by
 unfold wrap64
 omega

theorem Ev.ite_pos {α : Type} {c : Prop} [Decidable c] {g g' : Nat → Option α} {r : α} (hc : c) (h : Ev g r) : Ev (fun k => if c then g k else g' k) r := by
 simpa only [if_pos hc] using h
theorem Ev.ite_neg {α : Type} {c : Prop} [Decidable c] {g g' : Nat → Option α} {r : α} (hc : ¬ c) (h : Ev g' r) : Ev (fun k => if c then g k else g' k) r := by
 simpa only [if_neg hc] using h
theorem Ev.past {α : Type} {g : Nat → Option α} {r : α} (d : Nat) (h : ∀ k, d < k → g k = some r) : Ev g r := ⟨d + 1, fun k hk => h k (by omega)⟩
theorem Ev.bindc {α β : Type} {x : Option α} {f : Nat → α → Option β} {a : α} {r : β} (h : x = some a) (k : Ev (fun n => f n a) r) : Ev (fun n => x.bind (f n)) r := by
 subst h
 exact k

def foldN {σ ρ : Type} (step : Nat → σ → σ ⊕ ρ) (fin : σ → ρ) : Nat → Nat → σ → ρ
 | 0, _, s => fin s
 | n + 1, i, s => match step i s with
  | .inl s' => foldN step fin n (i + 1) s'
  | .inr r => r
theorem loopN {σ ρ : Type} (L : Nat → Int → σ → Option ρ) (n K : Nat) (Inv : Nat → σ → Prop) (step : Nat → σ → σ ⊕ ρ) (fin : σ → ρ)
  (h1 : ∀ k i s, K ≤ k → i < n → Inv i s → (∃ s', step i s = .inl s' ∧ Inv (i + 1) s' ∧ L (k + 1) (i : Int) s = L k ((i + 1 : Nat) : Int) s') ∨ (∃ r, step i s = .inr r ∧ L (k + 1) (i : Int) s = some r))
  (h2 : ∀ k s, K ≤ k → Inv n s → L (k + 1) (n : Int) s = some (fin s)) : ∀ d i s k, i + d = n → K + d < k → Inv i s → L k (i : Int) s = some (foldN step fin d i s) := by
 intro d
 induction d with
 | zero =>
  intro i s k hi hk hv
  obtain ⟨k, rfl⟩ : ∃ m, k = m + 1 := ⟨k - 1, by omega⟩
  obtain rfl : i = n := by omega
  exact h2 k s (by omega) hv
 | succ d ih =>
  intro i s k hi hk hv
  obtain ⟨k, rfl⟩ : ∃ m, k = m + 1 := ⟨k - 1, by omega⟩
  simp only [foldN]
  rcases h1 k i s (by omega) (by omega) hv with ⟨s', hs, hv', hL⟩ | ⟨r, hs, hL⟩
  ·rw [hs, hL]
   exact ih (i + 1) s' k (by omega) (by omega) hv'
  ·rw [hs, hL]
theorem loopN_ev {σ ρ : Type} (L : Nat → Int → σ → Option ρ) (n K : Nat) (Inv : Nat → σ → Prop) (step : Nat → σ → σ ⊕ ρ) (fin : σ → ρ) (s : σ) (hv : Inv 0 s)
  (h1 : ∀ k i s, K ≤ k → i < n → Inv i s → (∃ s', step i s = .inl s' ∧ Inv (i + 1) s' ∧ L (k + 1) (i : Int) s = L k ((i + 1 : Nat) : Int) s') ∨ (∃ r, step i s = .inr r ∧ L (k + 1) (i : Int) s = some r))
  (h2 : ∀ k s, K ≤ k → Inv n s → L (k + 1) (n : Int) s = some (fin s)) : Ev (fun k => L k 0 s) (foldN step fin n 0 s) :=
 Ev.past (K + n) fun k hk => loopN L n K Inv step fin h1 h2 n 0 s k (by omega) hk hv
theorem loopT_ev {σ ρ : Type} (L : Nat → Int → σ → Option ρ) (n K : Nat) (step : Nat → σ → σ ⊕ ρ) (fin : σ → ρ) (s : σ)
  (h1 : ∀ k i s, K ≤ k → i < n → (∃ s', step i s = .inl s' ∧ L (k + 1) (i : Int) s = L k ((i + 1 : Nat) : Int) s') ∨ (∃ r, step i s = .inr r ∧ L (k + 1) (i : Int) s = some r))
  (h2 : ∀ k s, K ≤ k → L (k + 1) (n : Int) s = some (fin s)) : Ev (fun k => L k 0 s) (foldN step fin n 0 s) :=
 loopN_ev L n K (fun _ _ => True) step fin s trivial (fun k i s hk hi _ => (h1 k i s hk hi).imp (fun ⟨s', a, b⟩ => ⟨s', a, trivial, b⟩) id) (fun k s hk _ => h2 k s hk)
theorem loopV_ev {σ ρ : Type} (L : Nat → Int → σ → Option ρ) (n K : Nat) (Inv : Nat → σ → Prop) (r : ρ) (s : σ) (hv : Inv 0 s)
  (h1 : ∀ k i s, K ≤ k → i < n → Inv i s → (∃ s', Inv (i + 1) s' ∧ L (k + 1) (i : Int) s = L k ((i + 1 : Nat) : Int) s') ∨ L (k + 1) (i : Int) s = some r)
  (h2 : ∀ k s, K ≤ k → Inv n s → L (k + 1) (n : Int) s = some r) : Ev (fun k => L k 0 s) r := by
 have key : ∀ d i s k, i + d = n → K + d < k → Inv i s → L k (i : Int) s = some r := by
  intro d
  induction d with
  | zero =>
   intro i s k hi hk hv
   obtain ⟨k, rfl⟩ : ∃ m, k = m + 1 := ⟨k - 1, by omega⟩
   obtain rfl : i = n := by omega
   exact h2 k s (by omega) hv
  | succ d ih =>
   intro i s k hi hk hv
   obtain ⟨k, rfl⟩ : ∃ m, k = m + 1 := ⟨k - 1, by omega⟩
   rcases h1 k i s (by omega) (by omega) hv with ⟨s', hv', hL⟩ | hL
   ·rw [hL]
    exact ih (i + 1) s' k (by omega) (by omega) hv'
   ·exact hL
 exact Ev.past (K + n) fun k hk => key n 0 s k (by omega) hk hv
theorem foldN_all {α : Type} (l : List α) (d : α) (p : α → Bool) (b : Bool) :
  foldN (fun i (_ : Unit) => if p (l.getD i d) = true then Sum.inl () else Sum.inr false) (fun _ => b) l.length 0 () = (l.all p && b) := by
 have key : ∀ e i, i + e = l.length → foldN (fun i (_ : Unit) => if p (l.getD i d) = true then Sum.inl () else Sum.inr false) (fun _ => b) e i () = ((l.drop i).all p && b) := by
  intro e
  induction e with
  | zero =>
   intro i hi
   rw [List.drop_eq_nil_of_le (by omega)]
   rfl
  | succ e ih =>
   intro i hi
   have hl : i < l.length := by omega
   have hg : l.getD i d = l[i] := by simp [List.getD_eq_getElem?_getD, List.getElem?_eq_getElem hl]
   rw [List.drop_eq_getElem_cons hl]
   simp only [foldN, hg, List.all_cons]
   cases hp : p l[i] with
   | true => simpa using ih (i + 1) (by omega)
   | false => simp
 simpa using key l.length 0 (by omega)
theorem rd_nat (l : List Int) (i : Nat) : rd l (i : Int) = l.getD i 0 := by simp [rd]
theorem getD_lt {α : Type} (l : List α) (d : α) (i : Nat) (h : i < l.length) : l.getD i d = l[i] := by simp [List.getD_eq_getElem?_getD, List.getElem?_eq_getElem h]
def Bytes (l : List Int) : Prop := ∀ x ∈ l, 0 ≤ x ∧ x ≤ 255
theorem bytes_of {l : List Int} (h : ∀ x ∈ l, (Lit.int .u8 x).wf = true) : Bytes l := fun x hx => by
 have := h x hx
 simp [Lit.wf, IntKind.min, IntKind.max, IntKind.signed, IntKind.bits] at this
 omega
theorem bits_255 (x : Int) : 0 ≤ Go.bits .and .u64 x 255 ∧ Go.bits .and .u64 x 255 ≤ 255 := by
 have h : ((BitVec.ofInt 64 x) &&& (BitVec.ofInt 64 255)).toNat ≤ 255 := by
  rw [BitVec.toNat_and]
  exact Nat.le_trans Nat.and_le_right (by decide)
 have e : Go.bits .and .u64 x 255 = IntKind.u64.wrap (((BitVec.ofInt 64 x) &&& (BitVec.ofInt 64 255)).toNat : Int) := rfl
 have hw : ∀ y : Int, IntKind.u64.wrap y = y % 18446744073709551616 := fun y => by simp [IntKind.wrap, IntKind.signed, IntKind.bits]
 rw [e, hw]
 omega
theorem cur_next {l : List Int} (hb : Bytes l) {i s : Int} (h0 : 0 ≤ i) (h1 : i ≤ 1000000000) : ∃ v t, spec_l1Cur_next.f l i s = some (v, i + 1, t) ∧ 0 ≤ v ∧ v ≤ 255 := by
 have hw : wrap64 (i + 1) = i + 1 := wrap_id (by omega) (by omega)
 have hv : i < l.length → 0 ≤ wrap64 (rd l i) ∧ wrap64 (rd l i) ≤ 255 := fun h => by
  have hi : i.toNat < l.length := by omega
  have h2 := hb _ (List.getElem_mem hi)
  have h3 : rd l i = l[i.toNat] := by simp only [rd]; exact getD_lt l 0 i.toNat hi
  rw [h3, wrap_id (by omega) (by omega)]
  exact h2
 have hc : ∀ x : Int, 0 ≤ wrap64 (Go.bits .and .u64 x 255) ∧ wrap64 (Go.bits .and .u64 x 255) ≤ 255 := fun x => by
  have := bits_255 x
  rw [wrap_id (by omega) (by omega)]
  exact this
 unfold spec_l1Cur_next.f
 simp only [hw]
 by_cases ha : i < l.length
 ·rw [if_pos ha, if_pos h0, if_pos (by omega)]
  exact ⟨_, _, rfl, hv ha⟩
 ·rw [if_neg ha, if_neg (by omega)]
  exact ⟨_, _, rfl, hc _⟩
theorem cur_pick {l : List Int} (hb : Bytes l) {i s n : Int} (h0 : 0 ≤ i) (h1 : i ≤ 999999990) (hn : n ≤ 1000000) : ∃ v j t, spec_l1Cur_pick.f l i s n = some (v, j, t) ∧ i ≤ j ∧ j ≤ i + 2 ∧ 0 ≤ v ∧ (v < n ∨ v = 0) := by
 unfold spec_l1Cur_pick.f
 by_cases c : n ≤ 1
 ·rw [if_pos c]
  exact ⟨_, _, _, rfl, by omega, by omega, by omega, .inr rfl⟩
 ·rw [if_neg c]
  obtain ⟨v, t, e, g0, g1⟩ := cur_next (s := s) hb h0 (by omega)
  rw [e]
  simp only [Option.bind_some]
  by_cases c2 : n > 200
  ·rw [if_pos c2]
   obtain ⟨u, t2, e2, g2, g3⟩ := cur_next (i := i + 1) (s := t) hb (by omega) (by omega)
   rw [e2]
   simp only [Option.bind_some]
   rw [if_neg (by omega)]
   have h1 : wrap64 (v * 256) = v * 256 := wrap_id (by omega) (by omega)
   have h2 : wrap64 (v * 256 + u) = v * 256 + u := wrap_id (by omega) (by omega)
   rw [h1, h2]
   exact ⟨_, _, _, rfl, by omega, by omega, Int.tmod_nonneg _ (by omega), .inl (Int.tmod_lt_of_pos _ (by omega))⟩
  ·rw [if_neg c2, if_neg (by omega)]
   exact ⟨_, _, _, rfl, by omega, by omega, Int.tmod_nonneg _ (by omega), .inl (Int.tmod_lt_of_pos _ (by omega))⟩
theorem cur_among {l : List Int} (hb : Bytes l) {i s : Int} (xs : List Int) (h0 : 0 ≤ i) (h1 : i ≤ 999999990) (hx : 0 < xs.length) (hx2 : xs.length ≤ 1000000) : ∃ v j t, spec_l1Cur_among.f l i s xs = some (v, j, t) ∧ i ≤ j ∧ j ≤ i + 2 ∧ v ∈ xs := by
 obtain ⟨v, j, t, e, g0, g1, g2, g3⟩ := cur_pick (s := s) (n := (xs.length : Int)) hb h0 h1 (by omega)
 unfold spec_l1Cur_among.f
 rw [e]
 simp only [Option.bind_some]
 rw [if_pos g2, if_pos (by omega)]
 refine ⟨_, _, _, rfl, g0, g1, ?_⟩
 have hi : v.toNat < xs.length := by omega
 have h3 : rd xs v = xs[v.toNat] := by simp only [rd]; exact getD_lt xs 0 v.toNat hi
 rw [h3]
 exact List.getElem_mem hi
def Dr {α : Type} (g : Nat → Option α) (P : α → Prop) : Prop := ∃ r, Ev g r ∧ P r
theorem Dr.now {α : Type} {P : α → Prop} (r : α) (h : P r) : Dr (fun _ => some r) P := ⟨r, Ev.now r, h⟩
theorem Dr.ite {α : Type} {c : Prop} [Decidable c] {g g' : Nat → Option α} {P : α → Prop} (h : c → Dr g P) (h' : ¬ c → Dr g' P) : Dr (fun k => if c then g k else g' k) P := by
 by_cases hc : c
 ·obtain ⟨r, h1, h2⟩ := h hc
  exact ⟨r, Ev.ite_pos hc h1, h2⟩
 ·obtain ⟨r, h1, h2⟩ := h' hc
  exact ⟨r, Ev.ite_neg hc h1, h2⟩
theorem Dr.step {α : Type} {g f : Nat → Option α} {P : α → Prop} (he : ∀ k, g (k + 1) = f k) (h : Dr f P) : Dr g P := by
 obtain ⟨r, h1, h2⟩ := h
 exact ⟨r, Ev.step he h1, h2⟩
theorem Dr.bind {α β : Type} {g : Nat → Option α} {f : Nat → α → Option β} {Q : α → Prop} {P : β → Prop} (h : Dr g Q) (k : ∀ r, Q r → Dr (fun n => f n r) P) : Dr (fun n => (g n).bind (f n)) P := by
 obtain ⟨a, h1, h2⟩ := h
 obtain ⟨b, h3, h4⟩ := k a h2
 exact ⟨b, Ev.bind h1 h3, h4⟩
theorem Dr.bindc {α β : Type} {x : Option α} {f : Nat → α → Option β} {P : β → Prop} {a : α} (h : x = some a) (k : Dr (fun n => f n a) P) : Dr (fun n => x.bind (f n)) P := by
 subst h
 exact k
theorem Dr.mono {α : Type} {g : Nat → Option α} {P Q : α → Prop} (h : Dr g P) (hpq : ∀ r, P r → Q r) : Dr g Q := by
 obtain ⟨r, h1, h2⟩ := h
 exact ⟨r, h1, hpq r h2⟩
theorem Dr.pick {α : Type} {l : List Int} (hb : Bytes l) {i s n : Int} {f : Nat → Int × Int × Int → Option α} {P : α → Prop} (h0 : 0 ≤ i) (h1 : i ≤ 999999990) (hn : n ≤ 1000000) (k : ∀ v j t, i ≤ j → j ≤ i + 2 → 0 ≤ v → (v < n ∨ v = 0) → Dr (fun m => f m (v, j, t)) P) : Dr (fun m => (spec_l1Cur_pick.f l i s n).bind (f m)) P := by
 obtain ⟨v, j, t, e, g0, g1, g2, g3⟩ := cur_pick (s := s) hb h0 h1 hn
 exact Dr.bindc e (k v j t g0 g1 g2 g3)
theorem Dr.among {α : Type} {l : List Int} (hb : Bytes l) {i s : Int} {xs : List Int} {f : Nat → Int × Int × Int → Option α} {P : α → Prop} (h0 : 0 ≤ i) (h1 : i ≤ 999999990) (hx : 0 < xs.length) (hx2 : xs.length ≤ 1000000) (k : ∀ v j t, i ≤ j → j ≤ i + 2 → v ∈ xs → Dr (fun m => f m (v, j, t)) P) : Dr (fun m => (spec_l1Cur_among.f l i s xs).bind (f m)) P := by
 obtain ⟨v, j, t, e, g0, g1, g2⟩ := cur_among (s := s) hb xs h0 h1 hx hx2
 exact Dr.bindc e (k v j t g0 g1 g2)
theorem Dr.one {α : Type} {l : List Int} (hb : Bytes l) {i s n : Int} {f : Nat → Bool × Int × Int → Option α} {P : α → Prop} (h0 : 0 ≤ i) (h1 : i ≤ 999999990) (hn : n ≤ 1000000) (k : ∀ b j t, i ≤ j → j ≤ i + 2 → Dr (fun m => f m (b, j, t)) P) : Dr (fun m => (spec_l1Cur_one.f l i s n).bind (f m)) P := by
 obtain ⟨v, j, t, e, g0, g1, g2, g3⟩ := cur_pick (s := s) hb h0 h1 hn
 refine Dr.bindc (a := (v == 0, j, t)) ?_ (k _ j t g0 g1)
 unfold spec_l1Cur_one.f
 rw [e]
 rfl
theorem snoc_len {α : Type} (l : List α) (x : α) : (l ++ [x]).length = l.length + 1 := by simp
theorem wrap_pred (d : Nat) (h : d < 1000000) : wrap64 (((d + 1 : Nat) : Int) - 1) = (d : Int) := by
 unfold wrap64
 omega
theorem wrap_succ (d : Nat) (h : d < 1000000) : wrap64 ((d : Int) + 1) = ((d + 1 : Nat) : Int) := by
 unfold wrap64
 omega
theorem dr_leg0 {l : List Int} (hb : Bytes l) (a b c d e : Int) {i s : Int} (h0 : 0 ≤ i) (h1 : i ≤ 999000000) : Dr (fun k => spec_l1Cur_leg.j0 k l i s a b c d e) (fun r => i ≤ r.2.2.2.2.2.1 ∧ r.2.2.2.2.2.1 ≤ i + 4) := by
 refine Dr.step (fun k => by rw [spec_l1Cur_leg.j0]) ?_
 refine Dr.pick hb (by omega) (by omega) (by omega) (fun v j t g0 g1 g2 g3 => ?_)
 dsimp only
 refine Dr.ite (fun _ => ?_) (fun _ => Dr.ite (fun _ => ?_) (fun _ => Dr.ite (fun _ => ?_) (fun _ => Dr.ite (fun _ => ?_) (fun _ => Dr.now _ ⟨by dsimp only; omega, by dsimp only; omega⟩))))
 all_goals
  refine Dr.among hb (by omega) (by omega) (by simp) (by simp) (fun v2 j2 t2 g4 g5 g6 => ?_)
  exact Dr.now _ ⟨by dsimp only; omega, by dsimp only; omega⟩
theorem dr_leg {l : List Int} (hb : Bytes l) {i s : Int} (h0 : 0 ≤ i) (h1 : i ≤ 998000000) : Dr (fun k => spec_l1Cur_leg.f k l i s) (fun r => i ≤ r.2.2.2.2.2.1 ∧ r.2.2.2.2.2.1 ≤ i + 14) := by
 simp only [spec_l1Cur_leg.f]
 refine Dr.pick hb (by omega) (by omega) (by omega) (fun v j t g0 g1 g2 g3 => ?_)
 dsimp only
 refine Dr.pick hb (by omega) (by omega) (by omega) (fun v2 j2 t2 g4 g5 g6 g7 => ?_)
 dsimp only
 refine Dr.among hb (by omega) (by omega) (by decide) (by decide) (fun v3 j3 t3 g8 g9 _ => ?_)
 dsimp only
 refine Dr.among hb (by omega) (by omega) (by decide) (by decide) (fun v4 j4 t4 g10 g11 _ => ?_)
 dsimp only
 refine Dr.among hb (by omega) (by omega) (by decide) (by decide) (fun v5 j5 t5 g12 g13 _ => ?_)
 dsimp only
 exact Dr.ite (fun _ => (dr_leg0 hb _ _ _ _ _ (by omega) (by omega)).mono (fun r hr => ⟨by omega, by omega⟩)) (fun _ => (dr_leg0 hb _ _ _ _ _ (by omega) (by omega)).mono (fun r hr => ⟨by omega, by omega⟩))
theorem sine_some (a : Int) : ∃ r, spec_l2Sine.f a = some r := by
 have h1 : Int.tmod a 360 < 360 := Int.tmod_lt_of_pos a (by decide)
 have h2 : Int.tmod (-a) 360 < 360 := Int.tmod_lt_of_pos (-a) (by decide)
 rw [Int.neg_tmod] at h2
 have hw : wrap64 (Int.tmod a 360 + 360) = Int.tmod a 360 + 360 := by unfold wrap64; omega
 unfold spec_l2Sine.f
 rw [hw]
 have h3 : 0 ≤ Int.tmod (Int.tmod a 360 + 360) 360 := Int.tmod_nonneg _ (by omega)
 have h4 : Int.tmod (Int.tmod a 360 + 360) 360 < 360 := Int.tmod_lt_of_pos _ (by decide)
 generalize Int.tmod (Int.tmod a 360 + 360) 360 = d at h3 h4
 simp only [spec_l2Table.f, Option.bind_some]
 have e1 : wrap64 (180 - d) = 180 - d := wrap_id (by omega) (by omega)
 have e2 : wrap64 (d - 180) = d - 180 := wrap_id (by omega) (by omega)
 have e3 : wrap64 (360 - d) = 360 - d := wrap_id (by omega) (by omega)
 rw [e1, e2, e3]
 simp only [List.length_cons, List.length_nil]
 by_cases c1 : d ≤ 90
 ·rw [if_pos c1, if_pos h3, if_pos (by omega)]
  exact ⟨_, rfl⟩
 ·rw [if_neg c1]
  by_cases c2 : d ≤ 180
  ·rw [if_pos c2, if_pos (by omega), if_pos (by omega)]
   exact ⟨_, rfl⟩
  ·rw [if_neg c2]
   by_cases c3 : d ≤ 270
   ·rw [if_pos c3, if_pos (by omega), if_pos (by omega)]
    exact ⟨_, rfl⟩
   ·rw [if_neg c3, if_pos (by omega), if_pos (by omega)]
    exact ⟨_, rfl⟩
theorem cosine_some (a : Int) : ∃ r, spec_l2Cosine.f a = some r := by
 obtain ⟨r, h⟩ := sine_some (wrap64 (a + 90))
 exact ⟨r, by simp only [spec_l2Cosine.f, h, Option.bind_some]⟩
theorem div_some (a : Int) : ∃ r, spec_l2Div.f a 1000 = some r := by
 have e : ¬ wrap64 (2 * 1000) = 0 := by unfold wrap64; omega
 unfold spec_l2Div.f
 rw [if_neg e, if_neg e]
 by_cases c : a < 0
 ·rw [if_pos c]
  exact ⟨_, rfl⟩
 ·rw [if_neg c]
  exact ⟨_, rfl⟩
theorem shift_some (a b c d e : Int) : ∃ x y z, spec_l4Shift.f a b c d e = some (x, y, z) := by
 obtain ⟨r1, h1⟩ := cosine_some e
 obtain ⟨r2, h2⟩ := div_some (wrap64 (c * r1))
 obtain ⟨r3, h3⟩ := sine_some d
 obtain ⟨r4, h4⟩ := div_some (wrap64 (r2 * r3))
 obtain ⟨r5, h5⟩ := cosine_some d
 obtain ⟨r6, h6⟩ := div_some (wrap64 (r2 * r5))
 obtain ⟨r7, h7⟩ := sine_some e
 obtain ⟨r8, h8⟩ := div_some (wrap64 (c * r7))
 exact ⟨r4, r6, r8, by simp only [spec_l4Shift.f, h1, h2, h3, h4, h5, h6, h7, h8, Option.bind_some]⟩
theorem long_some (a : Int) : spec_l2Long.f a = some (decide (-100000 ≤ a ∧ a ≤ 100000)) := by
 simp only [spec_l2Long.f, l1In_eq, Option.bind_some]
theorem length_ev0 (q : Int) : ∀ (d : Nat) (x y : Int), 0 ≤ x → x ≤ 200000 → y ≤ 200000 → y - x ≤ d → ∃ r, Ev (fun k => spec_LengthOf.l0 k q x y) r := by
 intro d
 induction d with
 | zero =>
  intro x y h0 h1 h2 hd
  exact ⟨_, Ev.step (fun k => by rw [spec_LengthOf.l0]) (Ev.ite_neg (by omega) (Ev.now _))⟩
 | succ d ih =>
  intro x y h0 h1 h2 hd
  by_cases c : x < y
  ·have e : wrap64 (Int.tdiv (wrap64 (wrap64 (x + y) + 1)) 2) = (x + y + 1) / 2 := by
    rw [wrap_id (x := x + y) (by omega) (by omega), wrap_id (x := x + y + 1) (by omega) (by omega), Int.tdiv_eq_ediv_of_nonneg (by omega), wrap_id (by omega) (by omega)]
   by_cases c2 : wrap64 ((x + y + 1) / 2 * ((x + y + 1) / 2)) ≤ q
   ·obtain ⟨r, h⟩ := ih ((x + y + 1) / 2) y (by omega) (by omega) h2 (by omega)
    refine ⟨r, Ev.step (fun k => by rw [spec_LengthOf.l0]) (Ev.ite_pos c ?_)⟩
    rw [e]
    exact Ev.ite_pos c2 h
   ·obtain ⟨r, h⟩ := ih x ((x + y + 1) / 2 - 1) h0 h1 (by omega) (by omega)
    refine ⟨r, Ev.step (fun k => by rw [spec_LengthOf.l0]) (Ev.ite_pos c ?_)⟩
    rw [e, wrap_id (x := (x + y + 1) / 2 - 1) (by omega) (by omega)]
    exact Ev.ite_neg c2 h
  ·exact ⟨_, Ev.step (fun k => by rw [spec_LengthOf.l0]) (Ev.ite_neg c (Ev.now _))⟩
theorem dr_length (a b c : Int) : Dr (fun k => spec_LengthOf.f k a b c) (fun _ => True) := by
 have hj : ∀ t, Dr (fun k => spec_LengthOf.j0 k a b c t) (fun _ => True) := fun t => by
  refine Dr.step (fun k => by rw [spec_LengthOf.j0]) (Dr.ite (fun _ => Dr.now _ trivial) (fun _ => ?_))
  obtain ⟨r, h⟩ := length_ev0 (wrap64 (wrap64 (wrap64 (a * a) + wrap64 (b * b)) + wrap64 (c * c))) 200000 0 200000 (by omega) (by omega) (by omega) (by omega)
  exact ⟨r, h, trivial⟩
 simp only [spec_LengthOf.f, long_some, Option.bind_some]
 exact Dr.ite (fun _ => Dr.ite (fun _ => hj _) (fun _ => hj _)) (fun _ => hj _)
theorem dr_bearing0 (x y : Int) : ∀ (d q : Nat) (b : Int), q + d = 360 → Dr (fun k => spec_BearingTo.l0 k x y b (q : Int)) (fun _ => True) := by
 intro d
 induction d with
 | zero =>
  intro q b hq
  exact Dr.step (fun k => by rw [spec_BearingTo.l0]) (Dr.ite (fun c => by omega) (fun _ => Dr.now _ trivial))
 | succ d ih =>
  intro q b hq
  obtain ⟨r1, h1⟩ := sine_some (q : Int)
  obtain ⟨r2, h2⟩ := cosine_some (q : Int)
  obtain ⟨r3, h3⟩ := sine_some b
  obtain ⟨r4, h4⟩ := cosine_some b
  refine Dr.step (fun k => by rw [spec_BearingTo.l0]) (Dr.ite (fun _ => ?_) (fun c => by omega))
  simp only [h1, h2, h3, h4, Option.bind_some]
  rw [wrap_succ q (by omega)]
  exact Dr.ite (fun _ => ih (q + 1) _ (by omega)) (fun _ => ih (q + 1) _ (by omega))
theorem dr_bearing (x y : Int) : Dr (fun k => spec_BearingTo.f k x y) (fun _ => True) := by
 have hj : ∀ t, Dr (fun k => spec_BearingTo.j0 k x y t) (fun _ => True) := fun t =>
  Dr.step (fun k => by rw [spec_BearingTo.j0]) (Dr.ite (g := fun _ => some (0, false)) (g' := fun k => spec_BearingTo.l0 k x y 0 1) (fun _ => Dr.now _ trivial) (fun _ => dr_bearing0 x y 359 1 0 (by omega)))
 simp only [spec_BearingTo.f, long_some, Option.bind_some]
 exact Dr.ite (fun _ => Dr.ite (fun _ => Dr.ite (fun _ => hj _) (fun _ => hj _)) (fun _ => hj _)) (fun _ => hj _)
theorem dr_slope0 (x y : Int) : ∀ (d q : Nat) (b : Int), q + d = 91 → Dr (fun k => spec_SlopeTo.l0 k x y b (q : Int)) (fun _ => True) := by
 intro d
 induction d with
 | zero =>
  intro q b hq
  exact Dr.step (fun k => by rw [spec_SlopeTo.l0]) (Dr.ite (fun c => by omega) (fun _ => Dr.now _ trivial))
 | succ d ih =>
  intro q b hq
  refine Dr.step (fun k => by rw [spec_SlopeTo.l0]) (Dr.ite (fun _ => ?_) (fun c => by omega))
  have one : ∀ (b s : Int) (G : Nat → Option (Int × Bool)), (∀ b', Dr (fun k => spec_SlopeTo.l1 k x y b' (q : Int) (wrap64 (s - 2))) (fun _ => True)) → s ≥ -1 → Dr (fun k => spec_SlopeTo.l1 k x y b (q : Int) s) (fun _ => True) := fun b s G hk hs => by
   obtain ⟨r1, h1⟩ := cosine_some (q : Int)
   obtain ⟨r2, h2⟩ := sine_some (wrap64 (s * (q : Int)))
   obtain ⟨r3, h3⟩ := cosine_some b
   obtain ⟨r4, h4⟩ := sine_some b
   refine Dr.step (fun k => by rw [spec_SlopeTo.l1]) (Dr.ite (fun _ => ?_) (fun c => absurd hs c))
   simp only [h1, h2, h3, h4, Option.bind_some]
   exact Dr.ite (fun _ => hk _) (fun _ => hk _)
  refine one b 1 (fun _ => none) (fun b' => ?_) (by decide)
  rw [show wrap64 (1 - 2) = -1 by unfold wrap64; omega]
  refine one b' (-1) (fun _ => none) (fun b2 => ?_) (by decide)
  rw [show wrap64 (-1 - 2) = -3 by unfold wrap64; omega]
  refine Dr.step (fun k => by rw [spec_SlopeTo.l1]) (Dr.ite (fun c => absurd c (by decide)) (fun _ => ?_))
  rw [wrap_succ q (by omega)]
  exact ih (q + 1) b2 (by omega)
theorem dr_slope (x y : Int) : Dr (fun k => spec_SlopeTo.f k x y) (fun _ => True) := by
 have hj : ∀ t, Dr (fun k => spec_SlopeTo.j0 k x y t) (fun _ => True) := fun t =>
  Dr.step (fun k => by rw [spec_SlopeTo.j0]) (Dr.ite (g := fun _ => some (0, false)) (g' := fun k => spec_SlopeTo.l0 k x y 0 1) (fun _ => Dr.now _ trivial) (fun _ => dr_slope0 x y 90 1 0 (by omega)))
 simp only [spec_SlopeTo.f, long_some, l1In_eq, Option.bind_some]
 exact Dr.ite (fun _ => Dr.ite (fun _ => Dr.ite (fun _ => hj _) (fun _ => hj _)) (fun _ => hj _)) (fun _ => hj _)
theorem dr_cave1 {l : List Int} (hb : Bytes l) (n : Int) (hn : n ≤ 100) (hn1 : 1 ≤ n) (ps : List S86) (hps : (ps.length : Int) = n) : ∀ (d : Nat) (xs : List S58) (i s : Int), 0 < xs.length → xs.length + d ≤ 12 → 0 ≤ i → i + 10 * d ≤ 990000000 → Dr (fun k => spec_l1Cur_cave.l1 k xs n ps (d : Int) l i s) (fun r => r.1.length ≤ 13 ∧ i ≤ r.2.1 ∧ r.2.1 ≤ i + 10 * d + 30) := by
 intro d
 induction d with
 | zero =>
  intro xs i s hx hd h0 h1
  refine Dr.step (fun k => by rw [spec_l1Cur_cave.l1]) (Dr.ite (fun c => by omega) (fun _ => ?_))
  refine Dr.pick hb (by omega) (by omega) (by omega) (fun v j t g0 g1 g2 g3 => ?_)
  dsimp only
  refine Dr.ite (fun _ => ?_) (fun _ => Dr.ite (fun _ => ?_) (fun _ => Dr.ite (fun _ => ?_) (fun _ => Dr.now _ ⟨by dsimp only; omega, by dsimp only; omega, by dsimp only; omega⟩)))
  ·refine Dr.bind (dr_leg hb (by omega) (by omega)) (fun r hr => ?_)
   exact Dr.ite (fun _ => Dr.now _ ⟨by dsimp only; rw [List.length_set]; omega, by dsimp only; omega, by dsimp only; omega⟩) (fun c => by omega)
  ·refine Dr.bind (dr_leg hb (by omega) (by omega)) (fun r hr => ?_)
   exact Dr.ite (fun _ => Dr.now _ ⟨by dsimp only; rw [snoc_len]; omega, by dsimp only; omega, by dsimp only; omega⟩) (fun c => by omega)
  ·simp only [Option.bind_some]
   refine Dr.ite (fun _ => ?_) (fun c => by omega)
   refine Dr.ite (fun _ => Dr.now _ ⟨by simp; omega, by dsimp only; omega, by dsimp only; omega⟩) (fun c => by simp at c; omega)
 | succ d ih =>
  intro xs i s hx hd h0 h1
  refine Dr.step (fun k => by rw [spec_l1Cur_cave.l1]) (Dr.ite (fun _ => ?_) (fun c => by omega))
  refine Dr.pick hb (by omega) (by omega) (by omega) (fun a j t g0 g1 g2 g3 => ?_)
  dsimp only
  refine Dr.pick hb (by omega) (by omega) (by omega) (fun b j2 t2 g4 g5 g6 g7 => ?_)
  dsimp only
  refine Dr.ite (fun _ => Dr.ite (fun _ => Dr.ite (fun _ => Dr.ite (fun _ => ?_) (fun c => by omega)) (fun c => by omega)) (fun c => by omega)) (fun c => by omega)
  simp only [spec_l4Plus.f, Option.bind_some]
  refine Dr.bind (dr_length _ _ _) (fun u _ => ?_)
  refine Dr.bind (dr_length _ _ _) (fun w _ => ?_)
  have hskip : ∀ (x y z p q : Int) (e f g : Int), Dr (fun k => spec_l1Cur_cave.j2 k xs n ps ((d + 1 : Nat) : Int) x y z p true l j2 t2 e f g) (fun r => r.1.length ≤ 13 ∧ i ≤ r.2.1 ∧ r.2.1 ≤ i + 10 * ((d + 1 : Nat) : Int) + 30) := fun x y z p q e f g => by
   refine Dr.step (fun k => by rw [spec_l1Cur_cave.j2]) (Dr.ite (fun _ => ?_) (fun c => absurd rfl c))
   rw [wrap_pred d (by omega)]
   exact (ih xs j2 t2 hx (by omega) (by omega) (by omega)).mono (fun r hr => ⟨hr.1, by omega, by omega⟩)
  have hgo : ∀ (b : Bool) (x y z p : Int) (e f g : Int), Dr (fun k => spec_l1Cur_cave.j2 k xs n ps ((d + 1 : Nat) : Int) x y z p b l j2 t2 e f g) (fun r => r.1.length ≤ 13 ∧ i ≤ r.2.1 ∧ r.2.1 ≤ i + 10 * ((d + 1 : Nat) : Int) + 30) := fun b x y z p e f g => by
   cases b with
   | true => exact hskip x y z p 0 e f g
   | false =>
    refine Dr.step (fun k => by rw [spec_l1Cur_cave.j2]) (Dr.ite (fun c => by cases c) (fun _ => ?_))
    refine Dr.bind (dr_bearing _ _) (fun u2 _ => ?_)
    refine Dr.bind (dr_slope _ _) (fun u3 _ => ?_)
    refine Dr.pick hb (by omega) (by omega) (by omega) (fun v3 j3 t3 g8 g9 g10 g11 => ?_)
    dsimp only
    refine Dr.pick hb (by omega) (by omega) (by omega) (fun v4 j4 t4 g12 g13 g14 g15 => ?_)
    dsimp only
    rw [wrap_pred d (by omega)]
    exact Dr.ite (fun _ => (ih _ j4 t4 (by rw [snoc_len]; omega) (by rw [snoc_len]; omega) (by omega) (by omega)).mono (fun r hr => ⟨hr.1, by omega, by omega⟩)) (fun c => by omega)
  refine Dr.ite (fun _ => hgo _ _ _ _ _ _ _ _) (fun _ => ?_)
  simp only [l1In_eq, Option.bind_some]
  exact hgo _ _ _ _ _ _ _ _
theorem dr_cave0 {l : List Int} (hb : Bytes l) (n : Nat) (hn : n ≤ 7) : ∀ (d q : Nat) (xs : List S58) (ps : List S86) (i s : Int), q + d = n → 2 ≤ n → 1 ≤ q → xs.length + 1 = q → ps.length = q → 0 ≤ i → i + 12 * d ≤ 980000000 → Dr (fun k => spec_l1Cur_cave.l0 k xs (n : Int) ps (q : Int) l i s) (fun r => r.1.length ≤ 13 ∧ i ≤ r.2.1 ∧ r.2.1 ≤ i + 12 * d + 80) := by
 intro d
 induction d with
 | zero =>
  intro q xs ps i s hq h2 hq1 hx hp h0 h1
  refine Dr.step (fun k => by rw [spec_l1Cur_cave.l0]) (Dr.ite (fun c => by omega) (fun _ => ?_))
  refine Dr.pick hb (by omega) (by omega) (by omega) (fun v j t g0 g1 g2 g3 => ?_)
  dsimp only
  obtain ⟨m, hm⟩ : ∃ m : Nat, v = (m : Int) := ⟨v.toNat, by omega⟩
  rw [hm]
  exact (dr_cave1 hb (n : Int) (by omega) (by omega) ps (by omega) m xs j t (by omega) (by omega) (by omega) (by omega)).mono (fun r hr => ⟨hr.1, by omega, by omega⟩)
 | succ d ih =>
  intro q xs ps i s hq h2 hq1 hx hp h0 h1
  refine Dr.step (fun k => by rw [spec_l1Cur_cave.l0]) (Dr.ite (fun _ => ?_) (fun c => by omega))
  refine Dr.pick hb (by omega) (by omega) (by omega) (fun v j t g0 g1 g2 g3 => ?_)
  dsimp only
  refine Dr.among hb (by omega) (by omega) (by decide) (by decide) (fun v2 j2 t2 g4 g5 _ => ?_)
  dsimp only
  refine Dr.among hb (by omega) (by omega) (by decide) (by decide) (fun v3 j3 t3 g6 g7 _ => ?_)
  dsimp only
  refine Dr.among hb (by omega) (by omega) (by decide) (by decide) (fun v4 j4 t4 g8 g9 _ => ?_)
  dsimp only
  refine Dr.ite (fun _ => Dr.ite (fun _ => ?_) (fun c => by omega)) (fun c => by omega)
  obtain ⟨x, y, z, hs⟩ := shift_some v (q : Int) v2 v3 v4
  simp only [hs, spec_l4Plus.f, spec_l4Reverse.f, Option.bind_some]
  refine Dr.ite (fun _ => ?_) (fun c => by omega)
  refine Dr.one hb (by omega) (by omega) (by omega) (fun b j5 t5 g10 g11 => ?_)
  dsimp only
  rw [wrap_succ q (by omega)]
  exact Dr.ite (fun _ => Dr.ite (fun _ => (ih (q + 1) _ _ j5 t5 (by omega) h2 (by omega) (by rw [snoc_len]; omega) (by rw [snoc_len]; omega) (by omega) (by omega)).mono (fun r hr => ⟨hr.1, by omega, by omega⟩)) (fun c => by omega)) (fun _ => Dr.ite (fun _ => (ih (q + 1) _ _ j5 t5 (by omega) h2 (by omega) (by rw [snoc_len]; omega) (by rw [snoc_len]; omega) (by omega) (by omega)).mono (fun r hr => ⟨hr.1, by omega, by omega⟩)) (fun c => by omega))
theorem dr_cave {l : List Int} (hb : Bytes l) {i s : Int} (h0 : 0 ≤ i) (h1 : i ≤ 900000000) : Dr (fun k => spec_l1Cur_cave.f k l i s) (fun r => r.1.length ≤ 13 ∧ i ≤ r.2.1 ∧ r.2.1 ≤ i + 200) := by
 simp only [spec_l1Cur_cave.f]
 refine Dr.pick hb (by omega) (by omega) (by omega) (fun v j t g0 g1 g2 g3 => ?_)
 dsimp only
 obtain ⟨m, hm⟩ : ∃ m : Nat, wrap64 (2 + v) = (m : Int) ∧ 2 ≤ m ∧ m ≤ 6 := ⟨(2 + v).toNat, by rw [wrap_id (by omega) (by omega)]; omega, by omega, by omega⟩
 rw [hm.1]
 exact (dr_cave0 hb m (by omega) (m - 1) 1 [] [⟨0, 0, 0⟩] j t (by omega) (by omega) (by omega) rfl rfl (by omega) (by omega)).mono (fun r hr => ⟨hr.1, by omega, by omega⟩)
theorem dr_station {α : Type} {l : List Int} (hb : Bytes l) {i s : Int} {f : Nat → Int × Int × Int → Option α} {P : α → Prop} (h0 : 0 ≤ i) (h1 : i ≤ 999999990) (k : ∀ v j t, i ≤ j → j ≤ i + 2 → Dr (fun m => f m (v, j, t)) P) : Dr (fun m => (spec_l1Cur_stationOf.f l i s).bind (f m)) P := by
 obtain ⟨v, j, t, e, g0, g1, _⟩ := cur_among (s := s) hb [0, 0, 1, 1, 2, 2, 3, 4, 5, 7, 8, (-1)] h0 h1 (by decide) (by decide)
 refine Dr.bindc (a := (v, j, t)) ?_ (k v j t g0 g1)
 simp only [spec_l1Cur_stationOf.f, e, Option.bind_some]
theorem dr_wide1 {l : List Int} (hb : Bytes l) (xs : List S58) (hx : xs.length ≤ 14) : ∀ (d q : Nat) (ws : List Int) (i s : Int), q + d = xs.length → ws.length ≤ q → 0 ≤ i → i + 2 * d ≤ 990000000 → Dr (fun k => spec_l1Cur_wide.l1 k xs ws (q : Int) l i s) (fun r => r.1 = xs ∧ r.2.1.length ≤ 15 ∧ i ≤ r.2.2.1 ∧ r.2.2.1 ≤ i + 2 * d + 4) := by
 intro d
 induction d with
 | zero =>
  intro q ws i s hq hw h0 h1
  refine Dr.step (fun k => by rw [spec_l1Cur_wide.l1]) (Dr.ite (fun c => by omega) (fun _ => ?_))
  refine Dr.pick hb (by omega) (by omega) (by omega) (fun v j t g0 g1 g2 g3 => ?_)
  dsimp only
  refine Dr.ite (fun _ => Dr.ite (fun _ => Dr.now _ ⟨rfl, by dsimp only; rw [snoc_len]; omega, by dsimp only; omega, by dsimp only; omega⟩) (fun c => by omega)) (fun _ => Dr.ite (fun _ => Dr.ite (fun c => ?_) (fun _ => Dr.now _ ⟨rfl, by dsimp only; omega, by dsimp only; omega, by dsimp only; omega⟩)) (fun _ => Dr.now _ ⟨rfl, by dsimp only; omega, by dsimp only; omega, by dsimp only; omega⟩))
  refine Dr.among hb (by omega) (by omega) (by decide) (by decide) (fun v2 j2 t2 g4 g5 _ => ?_)
  exact Dr.ite (fun _ => Dr.now _ ⟨rfl, by dsimp only; rw [List.length_set]; omega, by dsimp only; omega, by dsimp only; omega⟩) (fun c2 => by omega)
 | succ d ih =>
  intro q ws i s hq hw h0 h1
  refine Dr.step (fun k => by rw [spec_l1Cur_wide.l1]) (Dr.ite (fun _ => ?_) (fun c => by omega))
  refine Dr.among hb (by omega) (by omega) (by decide) (by decide) (fun v j t g0 g1 _ => ?_)
  dsimp only
  rw [wrap_succ q (by omega)]
  exact Dr.ite (fun _ => (ih (q + 1) _ j t (by omega) (by rw [snoc_len]; omega) (by omega) (by omega)).mono (fun r hr => ⟨hr.1, hr.2.1, by omega, by omega⟩)) (fun c => by omega)
theorem dr_wide0 {l : List Int} (hb : Bytes l) : ∀ (d : Nat) (xs : List S58) (i s : Int), d ≤ 3 → xs.length ≤ 13 → 0 ≤ i → i + 20 * d ≤ 980000000 → Dr (fun k => spec_l1Cur_wide.l0 k xs (d : Int) l i s) (fun r => r.1.length ≤ 13 ∧ r.2.1.length ≤ 15 ∧ i ≤ r.2.2.1 ∧ r.2.2.1 ≤ i + 20 * d + 40) := by
 have hj : ∀ (xs : List S58) (i s : Int) (e : Nat), xs.length ≤ 13 → 0 ≤ i → i ≤ 980000000 → Dr (fun k => spec_l1Cur_wide.j1 k xs l i s) (fun r => r.1.length ≤ 13 ∧ r.2.1.length ≤ 15 ∧ i ≤ r.2.2.1 ∧ r.2.2.1 ≤ i + 40) := fun xs i s e hx h0 h1 =>
  Dr.step (f := fun k => spec_l1Cur_wide.l1 k xs [] 0 l i s) (fun k => by rw [spec_l1Cur_wide.j1]) ((dr_wide1 hb xs (by omega) xs.length 0 [] i s (by omega) (by simp) h0 (by omega)).mono (fun r hr => ⟨by rw [hr.1]; exact hx, hr.2.1, hr.2.2.1, by omega⟩))
 intro d
 induction d with
 | zero =>
  intro xs i s hd hx h0 h1
  exact Dr.step (fun k => by rw [spec_l1Cur_wide.l0]) (Dr.ite (fun c => by omega) (fun _ => (hj xs i s 0 hx h0 (by omega)).mono (fun r hr => ⟨hr.1, hr.2.1, hr.2.2.1, by omega⟩)))
 | succ d ih =>
  intro xs i s hd hx h0 h1
  refine Dr.step (fun k => by rw [spec_l1Cur_wide.l0]) (Dr.ite (fun _ => Dr.ite (fun _ => ?_) (fun _ => (hj xs i s 0 hx h0 (by omega)).mono (fun r hr => ⟨hr.1, hr.2.1, hr.2.2.1, by omega⟩))) (fun c => by omega))
  refine Dr.bind (dr_leg hb h0 (by omega)) (fun r hr => ?_)
  rw [wrap_pred d (by omega)]
  exact Dr.ite (fun _ => (ih _ _ _ (by omega) (by rw [snoc_len]; omega) (by omega) (by omega)).mono (fun q hq => ⟨hq.1, hq.2.1, by omega, by omega⟩)) (fun c => by omega)
theorem dr_wide {l : List Int} (hb : Bytes l) {i s : Int} (h0 : 0 ≤ i) (h1 : i ≤ 800000000) : Dr (fun k => spec_l1Cur_wide.f k l i s) (fun r => r.1.length ≤ 13 ∧ r.2.1.length ≤ 15 ∧ i ≤ r.2.2.1 ∧ r.2.2.1 ≤ i + 400) := by
 simp only [spec_l1Cur_wide.f]
 refine Dr.bind (dr_cave hb h0 (by omega)) (fun r hr => ?_)
 refine Dr.pick hb (by omega) (by omega) (by omega) (fun v j t g0 g1 g2 g3 => ?_)
 dsimp only
 obtain ⟨n, hn⟩ : ∃ n : Nat, v = (n : Int) := ⟨v.toNat, by omega⟩
 rw [hn]
 exact (dr_wide0 hb n r.1 j t (by omega) hr.1 (by omega) (by omega)).mono (fun q hq => ⟨hq.1, hq.2.1, by omega, by omega⟩)
def insS (x : Int) : List Int → List Int
 | [] => [x]
 | y :: l => if y < x then y :: insS x l else if y = x then y :: l else x :: y :: l
theorem mem_insS {x z : Int} {l : List Int} : z ∈ insS x l ↔ z = x ∨ z ∈ l := by
 induction l with
 | nil => simp [insS]
 | cons y l ih =>
  simp only [insS]
  split
  ·simp only [List.mem_cons, ih]
   constructor
   ·rintro (h | h | h)
    ·exact .inr (.inl h)
    ·exact .inl h
    ·exact .inr (.inr h)
   ·rintro (h | h | h)
    ·exact .inr (.inl h)
    ·exact .inl h
    ·exact .inr (.inr h)
  ·split
   ·rename_i h1 h2
    subst h2
    simp only [List.mem_cons]
    constructor
    ·exact fun h => .inr h
    ·rintro (h | h)
     ·exact .inl h
     ·exact h
   ·simp only [List.mem_cons]
theorem up_insS {x : Int} {l : List Int} (h : l.Pairwise (· < ·)) : (insS x l).Pairwise (· < ·) := by
 induction l with
 | nil => simp [insS]
 | cons y l ih =>
  rw [List.pairwise_cons] at h
  simp only [insS]
  split
  ·rename_i h1
   rw [List.pairwise_cons]
   refine ⟨fun z hz => ?_, ih h.2⟩
   rcases mem_insS.1 hz with rfl | hz
   ·exact h1
   ·exact h.1 z hz
  ·split
   ·exact List.pairwise_cons.2 h
   ·rename_i h1 h2
    rw [List.pairwise_cons]
    refine ⟨fun z hz => ?_, List.pairwise_cons.2 h⟩
    rcases List.mem_cons.1 hz with rfl | hz
    ·omega
    ·have := h.1 z hz
     omega
def fires (ok : Bool) (a b : Int) (out : List Int) : Bool := ok && (decide (a ∈ out) != decide (b ∈ out))
def fire (ok : Bool) (a b : Int) (out : List Int) : List Int := if fires ok a b out = true then insS b (insS a out) else out
theorem fire_mem {ok : Bool} {a b z : Int} {out : List Int} (h : z ∈ out) : z ∈ fire ok a b out := by
 unfold fire
 split
 ·exact mem_insS.2 (.inr (mem_insS.2 (.inr h)))
 ·exact h
theorem fire_up {ok : Bool} {a b : Int} {out : List Int} (h : out.Pairwise (· < ·)) : (fire ok a b out).Pairwise (· < ·) := by
 unfold fire
 split
 ·exact up_insS (up_insS h)
 ·exact h
theorem fire_new {ok : Bool} {a b z : Int} {out : List Int} (h : z ∈ fire ok a b out) : z ∈ out ∨ z = a ∨ z = b := by
 unfold fire at h
 split at h
 ·rcases mem_insS.1 h with rfl | h
  ·exact .inr (.inr rfl)
  ·rcases mem_insS.1 h with rfl | h
   ·exact .inr (.inl rfl)
   ·exact .inl h
 ·exact .inl h
def iter {σ : Type} (f : Nat → σ → σ) : Nat → Nat → σ → σ
 | 0, _, s => s
 | d + 1, i, s => iter f d (i + 1) (f i s)
def cnt (ok : Nat → Bool) (a b : Nat → Int) (out : List Int) : Nat → Nat
 | 0 => 0
 | n + 1 => cnt ok a b out n + if (ok n && (decide (a n ∈ out) && decide (b n ∈ out))) = true then 1 else 0
theorem cnt_le (ok : Nat → Bool) (a b : Nat → Int) (out : List Int) : ∀ n, cnt ok a b out n ≤ n
 | 0 => Nat.le_refl _
 | n + 1 => by
  have := cnt_le ok a b out n
  simp only [cnt]
  split <;> omega
theorem in_mono {ok : Bool} {a b : Int} {out out' : List Int} (h : ∀ z, z ∈ out → z ∈ out') (hi : (ok && (decide (a ∈ out) && decide (b ∈ out))) = true) : (ok && (decide (a ∈ out') && decide (b ∈ out'))) = true := by
 simp only [Bool.and_eq_true, decide_eq_true_eq] at hi ⊢
 exact ⟨hi.1, h _ hi.2.1, h _ hi.2.2⟩
theorem cnt_mono {ok : Nat → Bool} {a b : Nat → Int} {out out' : List Int} (h : ∀ z, z ∈ out → z ∈ out') : ∀ n, cnt ok a b out n ≤ cnt ok a b out' n
 | 0 => Nat.le_refl _
 | n + 1 => by
  have ih := cnt_mono (ok := ok) (a := a) (b := b) h n
  simp only [cnt]
  by_cases h1 : (ok n && (decide (a n ∈ out) && decide (b n ∈ out))) = true
  ·rw [if_pos h1, if_pos (in_mono h h1)]
   omega
  ·rw [if_neg h1]
   split <;> omega
theorem cnt_lt {ok : Nat → Bool} {a b : Nat → Int} {out out' : List Int} (h : ∀ z, z ∈ out → z ∈ out') {i : Nat} (h0 : ¬ (ok i && (decide (a i ∈ out) && decide (b i ∈ out))) = true) (h1 : (ok i && (decide (a i ∈ out') && decide (b i ∈ out'))) = true) : ∀ n, i < n → cnt ok a b out n < cnt ok a b out' n
 | 0, hi => by omega
 | n + 1, hi => by
  simp only [cnt]
  by_cases hin : i = n
  ·subst hin
   have := cnt_mono (ok := ok) (a := a) (b := b) h i
   rw [if_neg h0, if_pos h1]
   omega
  ·have ih := cnt_lt (ok := ok) (a := a) (b := b) h h0 h1 n (by omega)
   by_cases h2 : (ok n && (decide (a n ∈ out) && decide (b n ∈ out))) = true
   ·rw [if_pos h2, if_pos (in_mono h h2)]
    omega
   ·rw [if_neg h2]
    split <;> omega
def passStep (ok : Nat → Bool) (a b : Nat → Int) (i : Nat) (s : List Int × Bool) : List Int × Bool := (fire (ok i) (a i) (b i) s.1, s.2 || fires (ok i) (a i) (b i) s.1)
def pass (ok : Nat → Bool) (a b : Nat → Int) (n : Nat) (out : List Int) : List Int := iter (fun i s => fire (ok i) (a i) (b i) s) n 0 out
theorem passStep_iter {ok : Nat → Bool} {a b : Nat → Int} {N : Nat} : ∀ d i (out : List Int) (fl : Bool), i + d ≤ N →
  (iter (passStep ok a b) d i (out, fl)).1 = iter (fun i s => fire (ok i) (a i) (b i) s) d i out ∧
  (((iter (passStep ok a b) d i (out, fl)).2 = fl ∧ iter (fun i s => fire (ok i) (a i) (b i) s) d i out = out) ∨
   ((iter (passStep ok a b) d i (out, fl)).2 = true ∧ cnt ok a b out N < cnt ok a b (iter (fun i s => fire (ok i) (a i) (b i) s) d i out) N)) ∧
  (∀ z, z ∈ out → z ∈ iter (fun i s => fire (ok i) (a i) (b i) s) d i out) := by
 intro d
 induction d with
 | zero => intro i out fl _; exact ⟨rfl, .inl ⟨rfl, rfl⟩, fun z hz => hz⟩
 | succ d ih =>
  intro i out fl hi
  simp only [iter]
  obtain ⟨h1, h2, h3⟩ := ih (i + 1) (fire (ok i) (a i) (b i) out) (fl || fires (ok i) (a i) (b i) out) (by omega)
  have hm : ∀ z, z ∈ out → z ∈ fire (ok i) (a i) (b i) out := fun z hz => fire_mem hz
  refine ⟨h1, ?_, fun z hz => h3 z (hm z hz)⟩
  cases hf : fires (ok i) (a i) (b i) out with
  | false =>
   have he : fire (ok i) (a i) (b i) out = out := by unfold fire; rw [hf]; exact if_neg (by decide)
   rw [hf, Bool.or_false] at h2
   rw [he] at h2 ⊢
   simpa only [passStep, hf, Bool.or_false, he] using h2
  | true =>
   have he : fire (ok i) (a i) (b i) out = insS (b i) (insS (a i) out) := by unfold fire; rw [hf]; exact if_pos rfl
   have h0 : ¬ (ok i && (decide (a i ∈ out) && decide (b i ∈ out))) = true := by
    intro hh
    simp only [Bool.and_eq_true] at hh
    simp only [fires, hh.1, hh.2.1, hh.2.2] at hf
    exact absurd hf (by decide)
   have hok : ok i = true := by
    simp only [fires, Bool.and_eq_true] at hf
    exact hf.1
   have hin : (ok i && (decide (a i ∈ fire (ok i) (a i) (b i) out) && decide (b i ∈ fire (ok i) (a i) (b i) out))) = true := by
    simp only [Bool.and_eq_true, decide_eq_true_eq, he]
    exact ⟨hok, mem_insS.2 (.inr (mem_insS.2 (.inl rfl))), mem_insS.2 (.inl rfl)⟩
   have hlt := cnt_lt hm h0 hin N (by omega)
   right
   rw [hf, Bool.or_true] at h2
   simp only [passStep, hf, Bool.or_true]
   rcases h2 with ⟨h4, h5⟩ | ⟨h4, h5⟩
   ·refine ⟨h4, ?_⟩
    rw [h5]
    exact hlt
   ·exact ⟨h4, Nat.lt_trans hlt h5⟩
theorem pass_flag (ok : Nat → Bool) (a b : Nat → Int) (n : Nat) (out : List Int) :
  iter (passStep ok a b) n 0 (out, false) = (pass ok a b n out, decide (pass ok a b n out ≠ out)) ∧ (pass ok a b n out = out ∨ cnt ok a b out n < cnt ok a b (pass ok a b n out) n) := by
 obtain ⟨h1, h2, _⟩ := passStep_iter (ok := ok) (a := a) (b := b) (N := n) n 0 out false (by omega)
 rcases h2 with ⟨h3, h4⟩ | ⟨h3, h4⟩
 ·refine ⟨Prod.ext h1 ?_, .inl h4⟩
  rw [h3, eq_comm, decide_eq_false_iff_not]
  exact fun hh => hh h4
 ·refine ⟨Prod.ext h1 ?_, .inr h4⟩
  rw [h3, eq_comm, decide_eq_true_eq]
  intro hh
  rw [show iter (fun i s => fire (ok i) (a i) (b i) s) n 0 out = out from hh] at h4
  omega
def passes (ok : Nat → Bool) (a b : Nat → Int) (n : Nat) : Nat → List Int → List Int
 | 0, out => out
 | m + 1, out => passes ok a b n m (pass ok a b n out)
theorem passes_still {ok : Nat → Bool} {a b : Nat → Int} {n : Nat} {out : List Int} (h : pass ok a b n out = out) : ∀ m, passes ok a b n m out = out
 | 0 => rfl
 | m + 1 => by simp only [passes, h]; exact passes_still h m
theorem passes_enough (ok : Nat → Bool) (a b : Nat → Int) (n : Nat) : ∀ m out, n ≤ m + cnt ok a b out n → pass ok a b n (passes ok a b n m out) = passes ok a b n m out := by
 intro m
 induction m with
 | zero =>
  intro out h
  rcases (pass_flag ok a b n out).2 with h1 | h1
  ·exact h1
  ·have := cnt_le ok a b (pass ok a b n out) n
   omega
 | succ m ih =>
  intro out h
  simp only [passes]
  rcases (pass_flag ok a b n out).2 with h1 | h1
  ·rw [h1]
   rw [passes_still h1]
   exact h1
  ·exact ih _ (by omega)
def reached (ok : Nat → Bool) (a b : Nat → Int) (n : Nat) (out : List Int) : List Int := passes ok a b n n out
theorem reached_still (ok : Nat → Bool) (a b : Nat → Int) (n : Nat) (out : List Int) : pass ok a b n (reached ok a b n out) = reached ok a b n out := passes_enough ok a b n n out (by omega)
theorem pass_up {ok : Nat → Bool} {a b : Nat → Int} {n : Nat} {out : List Int} (h : out.Pairwise (· < ·)) : (pass ok a b n out).Pairwise (· < ·) := by
 have key : ∀ d i (out : List Int), out.Pairwise (· < ·) → (iter (fun i s => fire (ok i) (a i) (b i) s) d i out).Pairwise (· < ·) := by
  intro d
  induction d with
  | zero => intro i out h; exact h
  | succ d ih => intro i out h; exact ih (i + 1) _ (fire_up h)
 exact key n 0 out h
theorem pass_in {ok : Nat → Bool} {a b : Nat → Int} {n : Nat} {P : Int → Prop} (hab : ∀ i, i < n → P (a i) ∧ P (b i)) {out : List Int} (h : ∀ z ∈ out, P z) : ∀ z ∈ pass ok a b n out, P z := by
 have key : ∀ d i (out : List Int), i + d = n → (∀ z ∈ out, P z) → ∀ z ∈ iter (fun i s => fire (ok i) (a i) (b i) s) d i out, P z := by
  intro d
  induction d with
  | zero => intro i out _ h; exact h
  | succ d ih =>
   intro i out hi h
   refine ih (i + 1) _ (by omega) (fun z hz => ?_)
   rcases fire_new hz with hz | rfl | rfl
   ·exact h z hz
   ·exact (hab i (by omega)).1
   ·exact (hab i (by omega)).2
 exact key n 0 out (by omega) h
theorem passes_up {ok : Nat → Bool} {a b : Nat → Int} {n : Nat} : ∀ m {out : List Int}, out.Pairwise (· < ·) → (passes ok a b n m out).Pairwise (· < ·)
 | 0, _, h => h
 | m + 1, _, h => passes_up m (pass_up h)
theorem passes_in {ok : Nat → Bool} {a b : Nat → Int} {n : Nat} {P : Int → Prop} (hab : ∀ i, i < n → P (a i) ∧ P (b i)) : ∀ m {out : List Int}, (∀ z ∈ out, P z) → ∀ z ∈ passes ok a b n m out, P z
 | 0, _, h => h
 | m + 1, _, h => passes_in hab m (pass_in hab h)
theorem pass_mem {ok : Nat → Bool} {a b : Nat → Int} {n : Nat} {z : Int} {out : List Int} (h : z ∈ out) : z ∈ pass ok a b n out :=
 (passStep_iter (ok := ok) (a := a) (b := b) (N := n) n 0 out false (by omega)).2.2 z h
theorem passes_mem {ok : Nat → Bool} {a b : Nat → Int} {n : Nat} {z : Int} : ∀ m {out : List Int}, z ∈ out → z ∈ passes ok a b n m out
 | 0, _, h => h
 | m + 1, _, h => passes_mem m (pass_mem h)
theorem rising_eq {l : List Int} (h : l.Pairwise (· < ·)) : ∀ (m : Nat) (c : Int), (∀ z ∈ l, c ≤ z ∧ z < c + (m : Int)) → l = ((List.range m).map (fun i : Nat => c + (i : Int))).filter (fun z => decide (z ∈ l)) := by
 intro m
 induction m generalizing l with
 | zero =>
  intro c hl
  cases l with
  | nil => rfl
  | cons y l =>
   have := hl y (by simp)
   omega
 | succ m ih =>
  intro c hl
  have hr : (List.range (m + 1)).map (fun i : Nat => c + (i : Int)) = c :: (List.range m).map (fun i : Nat => (c + 1) + (i : Int)) := by
   rw [List.range_succ_eq_map, List.map_cons, List.map_map]
   congr 1
   ·simp
   ·apply List.map_congr_left
    intro i _
    simp only [Function.comp, Nat.succ_eq_add_one]
    omega
  rw [hr]
  cases l with
  | nil => simp
  | cons y l =>
   rw [List.pairwise_cons] at h
   have hy := hl y (by simp)
   by_cases hyc : y = c
   ·subst hyc
    have hne : ∀ z ∈ (List.range m).map (fun i : Nat => (y + 1) + (i : Int)), decide (z ∈ y :: l) = decide (z ∈ l) := by
     intro z hz
     obtain ⟨i, _, rfl⟩ := List.mem_map.1 hz
     rw [decide_eq_decide, List.mem_cons]
     constructor
     ·rintro (h1 | h1)
      ·omega
      ·exact h1
     ·exact fun h1 => .inr h1
    rw [List.filter_cons, if_pos (by simp), List.filter_congr hne]
    congr 1
    exact ih h.2 (y + 1) (fun z hz => by have := h.1 z hz; have := hl z (by simp [hz]); omega)
   ·rw [List.filter_cons, if_neg ?_]
    ·exact ih (List.pairwise_cons.2 h) (c + 1) (fun z hz => by
      have h1 := hl z hz
      rcases List.mem_cons.1 hz with rfl | hz
      ·omega
      ·have := h.1 z hz
       omega)
    ·rw [decide_eq_true_eq, List.mem_cons]
     rintro (h1 | h1)
     ·omega
     ·have := h.1 c h1
      omega
theorem any_getD (l : List Int) (x : Int) : (∃ i, i < l.length ∧ l.getD i 0 = x) ↔ x ∈ l := by
 constructor
 ·rintro ⟨i, hi, rfl⟩
  rw [getD_lt _ _ _ hi]
  exact List.getElem_mem hi
 ·intro h
  obtain ⟨i, hi, rfl⟩ := List.mem_iff_getElem.1 h
  exact ⟨i, hi, getD_lt _ _ _ hi⟩
theorem l1Has_at (l : List Int) (x : Int) (hm : l.length ≤ 9223372036854775807) : ∀ k, l.length < k → spec_l1Has.f k l x = some (decide (x ∈ l)) := by
 have key : ∀ d i k, i + d = l.length → d < k → (∀ j, j < i → l.getD j 0 ≠ x) → spec_l1Has.l0 k l x (i : Int) = some (decide (x ∈ l)) := by
  intro d
  induction d with
  | zero =>
   intro i k hi hk hno
   obtain ⟨k, rfl⟩ : ∃ m, k = m + 1 := ⟨k - 1, by omega⟩
   simp only [spec_l1Has.l0]
   rw [if_neg (by omega), decide_eq_false]
   intro h
   obtain ⟨j, hj, he⟩ := (any_getD l x).2 h
   exact hno j (by omega) he
  | succ d ih =>
   intro i k hi hk hno
   obtain ⟨k, rfl⟩ : ∃ m, k = m + 1 := ⟨k - 1, by omega⟩
   have hil : i < l.length := by omega
   simp only [spec_l1Has.l0, rd_nat]
   rw [if_pos (by omega), if_pos (by omega), wrap_up hil hm]
   by_cases he : l.getD i 0 = x
   ·rw [if_pos he, decide_eq_true ((any_getD l x).1 ⟨i, hil, he⟩)]
   ·rw [if_neg he]
    refine ih (i + 1) k (by omega) (by omega) (fun j hj => ?_)
    by_cases hji : j = i
    ·rw [hji]; exact he
    ·exact hno j (by omega)
 intro k hk
 exact key l.length 0 k (by omega) hk (fun j hj => by omega)
theorem l1Has_ev {l : List Int} {n : Int} (hm : l.length ≤ 1048576) : Ev (fun k => spec_l1Has.f k l n) (decide (n ∈ l)) := Ev.past l.length fun k hk => l1Has_at l n (by omega) k hk
theorem rdL (l : List S58) (i : Nat) : rd_T58 l (i : Int) = l.getD i z58 := by simp [rd_T58]
def okLeg (x : S58) : Bool := decide (0 ≤ x.f0 ∧ x.f0 ≤ 7) && (decide (0 ≤ x.f1 ∧ x.f1 ≤ 7) && (decide (x.f0 ≠ x.f1) && (decide (1 ≤ x.f2 ∧ x.f2 ≤ 500) && (decide (0 ≤ x.f3 ∧ x.f3 ≤ 359) && decide (-90 ≤ x.f4 ∧ x.f4 ≤ 90)))))
theorem l4Leg_eq (x : S58) : spec_l4Leg.f x.f0 x.f1 x.f2 x.f3 x.f4 = some (okLeg x) := by
 simp only [spec_l4Leg.f, spec_l4Station.f, spec_l2Bearing.f, l1In_eq, Option.bind_some, okLeg]
 by_cases h0 : 0 ≤ x.f0 ∧ x.f0 ≤ 7 <;> by_cases h1 : 0 ≤ x.f1 ∧ x.f1 ≤ 7 <;> by_cases h2 : x.f0 = x.f1 <;> by_cases h3 : 1 ≤ x.f2 ∧ x.f2 ≤ 500 <;> by_cases h4 : 0 ≤ x.f3 ∧ x.f3 ≤ 359 <;> simp [h0, h1, h2, h3, h4]
theorem isLeg_eq (x : S58) : impl_IsLeg.f x.f0 x.f1 x.f2 x.f3 x.f4 = some (okLeg x) := by
 simp only [impl_IsLeg.f, impl_isStation.f, impl_isBearing.f, within_eq, Option.bind_some, okLeg]
 by_cases h0 : 0 ≤ x.f0 ∧ x.f0 ≤ 7 <;> by_cases h1 : 0 ≤ x.f1 ∧ x.f1 ≤ 7 <;> by_cases h2 : x.f0 = x.f1 <;> by_cases h3 : 1 ≤ x.f2 ∧ x.f2 ≤ 500 <;> by_cases h4 : 0 ≤ x.f3 ∧ x.f3 ≤ 359 <;> simp [h0, h1, h2, h3, h4]
def okLegs (l : List S58) : Bool := l.all okLeg && decide (l.length ≤ 12)
theorem l4Legs_ev (l : List S58) (hm : l.length ≤ 9223372036854775807) : Ev (fun k => spec_l4Legs.f k l) (okLegs l) := by
 have h := loopT_ev (fun k i (_ : Unit) => spec_l4Legs.l0 k l i) l.length 0 (fun i (_ : Unit) => if okLeg (l.getD i z58) = true then Sum.inl () else Sum.inr false) (fun _ => decide (l.length ≤ 12)) () ?_ ?_
 ·rw [foldN_all] at h
  exact h
 ·rintro k i - - hi
  cases hp : okLeg (l.getD i z58) with
  | true =>
   refine .inl ⟨(), by simp, ?_⟩
   simp only [spec_l4Legs.l0, rdL, l4Leg_eq, Option.bind_some, hp]
   rw [if_pos (by omega), if_pos (by omega), wrap_up hi hm, if_pos trivial]
  | false =>
   refine .inr ⟨false, by simp, ?_⟩
   simp only [spec_l4Legs.l0, rdL, l4Leg_eq, Option.bind_some, hp]
   rw [if_pos (by omega), if_pos (by omega)]
   rfl
 ·rintro k - -
  simp only [spec_l4Legs.l0]
  rw [if_neg (by omega)]
  simp only [Option.some.injEq, decide_eq_decide]
  omega
theorem areLegs_ev (l : List S58) (hm : l.length ≤ 9223372036854775807) : Ev (fun k => impl_areLegs.f k l) (okLegs l) := by
 simp only [impl_areLegs.f]
 have h := loopT_ev (fun k i (_ : Unit) => impl_areLegs.l0 k l l (l.length : Int) i) l.length 0 (fun i (_ : Unit) => if okLeg (l.getD i z58) = true then Sum.inl () else Sum.inr false) (fun _ => decide (l.length ≤ 12)) () ?_ ?_
 ·rw [foldN_all] at h
  exact h
 ·rintro k i - - hi
  cases hp : okLeg (l.getD i z58) with
  | true =>
   refine .inl ⟨(), by simp, ?_⟩
   simp only [impl_areLegs.l0, rdL, isLeg_eq, Option.bind_some, hp]
   rw [if_pos (by omega), if_pos (by omega), if_pos (by omega), wrap_up hi hm, if_pos trivial]
  | false =>
   refine .inr ⟨false, by simp, ?_⟩
   simp only [impl_areLegs.l0, rdL, isLeg_eq, Option.bind_some, hp]
   rw [if_pos (by omega), if_pos (by omega), if_pos (by omega)]
   rfl
 ·rintro k - -
  simp only [impl_areLegs.l0]
  rw [if_neg (by omega)]
  simp only [Option.some.injEq, decide_eq_decide]
  omega
theorem okLegs_len {l : List S58} (h : okLegs l = true) : l.length ≤ 12 := by
 simp only [okLegs, Bool.and_eq_true, decide_eq_true_eq] at h
 exact h.2
theorem okLegs_at {l : List S58} (h : okLegs l = true) {i : Nat} (hi : i < l.length) : okLeg (l.getD i z58) = true := by
 simp only [okLegs, Bool.and_eq_true, List.all_eq_true] at h
 rw [getD_lt _ _ _ hi]
 exact h.1 _ (List.getElem_mem hi)
theorem okLeg_says {x : S58} (h : okLeg x = true) : (0 ≤ x.f0 ∧ x.f0 ≤ 7) ∧ (0 ≤ x.f1 ∧ x.f1 ≤ 7) ∧ x.f0 ≠ x.f1 ∧ (1 ≤ x.f2 ∧ x.f2 ≤ 500) ∧ (0 ≤ x.f3 ∧ x.f3 ≤ 359) ∧ (-90 ≤ x.f4 ∧ x.f4 ≤ 90) := by
 simpa only [okLeg, Bool.and_eq_true, decide_eq_true_eq] using h
def fromOf (l : List S58) (i : Nat) : Int := (l.getD i z58).f0
def toOf (l : List S58) (i : Nat) : Int := (l.getD i z58).f1
theorem ends_in {l : List S58} (h : okLegs l = true) : ∀ i, i < l.length → (0 ≤ fromOf l i ∧ fromOf l i < 8) ∧ (0 ≤ toOf l i ∧ toOf l i < 8) := by
 intro i hi
 have := okLeg_says (okLegs_at h hi)
 unfold fromOf toOf
 omega
theorem putHit_same : ∀ {l : List Int} {n : Int}, putHit l n = true → insS n l = l
 | [], n, h => by simp [putHit] at h
 | x :: l, n, h => by
  simp only [putHit] at h
  simp only [insS]
  split at h
  ·rename_i hlt
   rw [if_pos hlt, putHit_same h]
  ·rename_i hlt
   rw [if_neg hlt, if_pos (by simpa using h)]
theorem putNew_at {l : List Int} {n : Int} (hm : l.length ≤ 1048576) : ∀ d i k, i + d = l.length → d < k → putHit (l.drop i) n = false → spec_l1PutNew.l0 k l n (i : Int) = some (l.take i ++ insS n (l.drop i)) := by
 intro d
 induction d with
 | zero =>
  intro i k hi hk hh
  obtain ⟨k, rfl⟩ : ∃ m, k = m + 1 := ⟨k - 1, by omega⟩
  simp only [spec_l1PutNew.l0, Option.bind_some, List.nil_append, List.length_append, List.length_nil, List.length_take, List.length_drop, List.length_cons, Int.toNat_natCast]
  rw [if_neg (by omega), if_pos (by omega), if_pos (by omega), if_pos (by omega), if_pos (by omega), if_pos (by omega), List.drop_eq_nil_of_le (by omega)]
  simp [insS]
 | succ d ih =>
  intro i k hi hk hh
  obtain ⟨k, rfl⟩ : ∃ m, k = m + 1 := ⟨k - 1, by omega⟩
  have hil : i < l.length := by omega
  have hd := List.drop_eq_getElem_cons hil
  rw [hd] at hh ⊢
  simp only [putHit] at hh
  simp only [insS]
  simp only [spec_l1PutNew.l0, Option.bind_some, List.nil_append, List.length_append, List.length_nil, List.length_take, List.length_drop, List.length_cons, Int.toNat_natCast, rd_nat, getD_lt _ _ _ hil]
  rw [if_pos (by omega), if_pos (by omega)]
  by_cases h1 : l[i] < n
  ·rw [if_pos h1] at hh ⊢
   rw [if_pos h1, wrap_up hil (by omega), ih (i + 1) k (by omega) (by omega) hh, List.take_succ_eq_append_getElem hil, List.append_assoc]
   rfl
  ·rw [if_neg h1] at hh ⊢
   have h2 : ¬ l[i] = n := by simpa using hh
   rw [if_neg h1, if_neg h2, if_neg h2, if_pos (by omega), if_pos (by omega), if_pos (by omega), if_pos (by omega), hd]
   simp
theorem l1Put_at {l : List Int} {n : Int} (hm : l.length ≤ 1048576) : ∀ k, l.length < k → spec_l1Put.f k l n = some (insS n l) := by
 intro k hk
 unfold spec_l1Put.f
 by_cases h : putHit l n = true
 ·rw [if_pos h, putHit_same h]
 ·rw [if_neg h]
  have := putNew_at (n := n) hm l.length 0 k (by omega) hk (by simpa using h)
  simpa [spec_l1PutNew.f] using this
theorem l1Put_ev {l : List Int} {n : Int} (hm : l.length ≤ 1048576) : Ev (fun k => spec_l1Put.f k l n) (insS n l) := Ev.past l.length fun k hk => l1Put_at hm k hk
def Good (o : List Int) : Prop := o.Pairwise (· < ·) ∧ ∀ z ∈ o, 0 ≤ z ∧ z < 8
theorem Good.len {o : List Int} (h : Good o) : o.length ≤ 8 := by
 have := rising_eq h.1 8 0 (fun z hz => by have := h.2 z hz; omega)
 rw [this]
 exact Nat.le_trans (List.length_filter_le _ _) (by simp)
theorem Good.fire {o : List Int} (h : Good o) {ok : Bool} {a b : Int} (ha : 0 ≤ a ∧ a < 8) (hb : 0 ≤ b ∧ b < 8) : Good (fire ok a b o) :=
 ⟨fire_up h.1, fun z hz => by
  rcases fire_new hz with hz | rfl | rfl
  ·exact h.2 z hz
  ·exact ha
  ·exact hb⟩
theorem Good.one {a : Int} (ha : 0 ≤ a ∧ a < 8) : Good [a] := ⟨by simp, fun z hz => by simp at hz; subst hz; exact ha⟩
def wideEnough (ws : List Int) (width : Int) (i : Nat) : Bool := decide (width ≤ ws.getD i 0)
def stationsOf (l : List S58) (ws : List Int) (from_ width : Int) : List Int := reached (wideEnough ws width) (fromOf l) (toOf l) l.length [from_]
theorem stationsOf_good {l : List S58} (ws : List Int) (hl : okLegs l = true) {from_ : Int} (hf : 0 ≤ from_ ∧ from_ < 8) (width : Int) : Good (stationsOf l ws from_ width) :=
 ⟨passes_up _ (Good.one hf).1, passes_in (P := fun z => 0 ≤ z ∧ z < 8) (ends_in hl) _ (Good.one hf).2⟩
def arrL (o : List Int) : List Bool := (List.range 8).map (fun s : Nat => decide ((s : Int) ∈ o))
theorem arrL_length (o : List Int) : (arrL o).length = 8 := by simp [arrL]
theorem arrL_at (o : List Int) {j : Nat} (h : j < 8) : (arrL o)[j]? = some (decide ((j : Int) ∈ o)) := by simp [arrL, h]
theorem arrL_get {o : List Int} {a : Int} (h : 0 ≤ a ∧ a < 8) : (arrL o).getD a.toNat false = decide (a ∈ o) := by
 rw [List.getD_eq_getElem?_getD, arrL_at o (by omega), Option.getD_some, Int.toNat_of_nonneg h.1]
theorem arrL_set {o : List Int} {a : Int} (h : 0 ≤ a ∧ a < 8) : (arrL o).set a.toNat true = arrL (insS a o) := by
 apply List.ext_getElem?
 intro j
 by_cases hj : j < 8
 ·rw [arrL_at _ hj]
  by_cases hja : a.toNat = j
  ·rw [hja, List.getElem?_set_self (by rw [arrL_length]; exact hj), decide_eq_true]
   exact mem_insS.2 (.inl (by omega))
  ·rw [List.getElem?_set_ne hja, arrL_at _ hj]
   congr 1
   rw [decide_eq_decide, mem_insS]
   constructor
   ·exact fun h => .inr h
   ·rintro (h1 | h1)
    ·omega
    ·exact h1
 ·rw [List.getElem?_eq_none (by rw [List.length_set, arrL_length]; omega), List.getElem?_eq_none (by rw [arrL_length]; omega)]
theorem reachStep_arr {l : List S58} (ws : List Int) (width : Int) (hl : okLegs l = true) {i : Nat} (hi : i < l.length) (o : List Int) : reachStep l ws width i (arrL o) = arrL (fire (wideEnough ws width i) (fromOf l i) (toOf l i) o) := by
 have he := ends_in hl i hi
 unfold reachStep fire fires
 rw [show (l.getD i z58).f0 = fromOf l i from rfl, show (l.getD i z58).f1 = toOf l i from rfl, arrL_get he.1, arrL_get he.2, arrL_set he.1, arrL_set he.2]
 rw [show wideEnough ws width i = decide (width ≤ ws.getD i 0) from rfl]
 split <;> rfl
theorem reachPass_arr {l : List S58} (ws : List Int) (width : Int) (hl : okLegs l = true) : ∀ d i (o : List Int), i + d = l.length → reachPass l ws width d i (arrL o) = arrL (iter (fun i s => fire (wideEnough ws width i) (fromOf l i) (toOf l i) s) d i o)
 | 0, _, _, _ => rfl
 | d + 1, i, o, h => by
  simp only [reachPass, iter]
  rw [reachStep_arr ws width hl (by omega) o]
  exact reachPass_arr ws width hl d (i + 1) _ (by omega)
theorem reachAll_arr {l : List S58} (ws : List Int) (width : Int) (hl : okLegs l = true) : ∀ m (o : List Int), reachAll l ws width m (arrL o) = arrL (passes (wideEnough ws width) (fromOf l) (toOf l) l.length m o)
 | 0, _ => rfl
 | m + 1, o => by
  simp only [reachAll, passes]
  rw [reachPass_arr ws width hl l.length 0 o (by omega)]
  exact reachAll_arr ws width hl m _
theorem start_arr {a : Int} (h : 0 ≤ a ∧ a < 8) : (List.replicate 8 false).set a.toNat true = arrL [a] := by
 have h0 : List.replicate 8 false = arrL [] := by simp [arrL, List.range_succ]
 rw [h0, arrL_set h]
 rfl
theorem reachOf_arr {l : List S58} (ws : List Int) (hl : okLegs l = true) {from_ : Int} (hf : 0 ≤ from_ ∧ from_ < 8) (width : Int) : reachOf l ws from_ width = arrL (stationsOf l ws from_ width) := by
 unfold reachOf
 rw [start_arr hf, reachAll_arr ws width hl]
 rfl
theorem reachOk_of {l : List S58} {ws : List Int} (hl : okLegs l = true) (hw : l.length ≤ ws.length) {from_ : Int} (hf : 0 ≤ from_ ∧ from_ < 8) : reachOk l ws from_ = true := by
 unfold reachOk
 simp only [Bool.and_eq_true, decide_eq_true_eq, List.all_eq_true]
 refine ⟨hw, ⟨hf.1, by omega⟩, fun x hx => ?_⟩
 obtain ⟨i, hi, rfl⟩ := List.mem_iff_getElem.1 hx
 have := okLeg_says (okLegs_at hl hi)
 rw [getD_lt _ _ _ hi] at this
 omega
theorem memFrom_eq (B : List Bool) : ∀ d i acc, memFrom B d i acc = acc ++ ((List.range d).map (fun j : Nat => ((i + j : Nat) : Int))).filter (fun z => B.getD z.toNat false)
 | 0, _, _ => by simp [memFrom]
 | d + 1, i, acc => by
  have hr : (List.range (d + 1)).map (fun j : Nat => ((i + j : Nat) : Int)) = (i : Int) :: (List.range d).map (fun j : Nat => ((i + 1 + j : Nat) : Int)) := by
   rw [List.range_succ_eq_map, List.map_cons, List.map_map]
   congr 1
   apply List.map_congr_left
   intro j _
   simp only [Function.comp, Nat.succ_eq_add_one]
   omega
  simp only [memFrom]
  rw [hr, memFrom_eq B d (i + 1), List.filter_cons, Int.toNat_natCast]
  cases B.getD i false with
  | true => simp
  | false => simp
theorem memFrom_arr {o : List Int} (h : Good o) : memFrom (arrL o) 8 0 [] = o := by
 rw [memFrom_eq, List.nil_append]
 have h1 := rising_eq h.1 8 0 (fun z hz => by have := h.2 z hz; omega)
 have h2 : (List.range 8).map (fun j : Nat => ((0 + j : Nat) : Int)) = (List.range 8).map (fun i : Nat => (0 : Int) + (i : Int)) := by
  apply List.map_congr_left
  intro j _
  omega
 rw [h2]
 conv => rhs; rw [h1]
 apply List.filter_congr
 intro z hz
 obtain ⟨i, hi, rfl⟩ := List.mem_map.1 hz
 have hi := List.mem_range.1 hi
 rw [arrL_get (by omega)]
def okWidth (x : Int) : Bool := decide (0 ≤ x ∧ x ≤ 200)
def okWidths (l : List S58) (ws : List Int) : Bool := okLegs l && (decide (ws.length = l.length) && ws.all okWidth)
theorem areWidths_ev (l : List S58) (ws : List Int) (hm : l.length ≤ 9223372036854775807) : Ev (fun k => impl_AreWidths.f k l ws) (okWidths l ws) := by
 simp only [impl_AreWidths.f]
 refine Ev.bind (areLegs_ev l hm) ?_
 have h : (!ws.any impl_AreWidths.bad) = ws.all okWidth := by
  rw [List.any_eq_not_all_not, Bool.not_not]
  congr 1
  funext x
  simp [impl_AreWidths.bad, okWidth]
 rw [h]
 exact Ev.now _
theorem l15Good_ev (l : List S58) (ws : List Int) (hm : l.length ≤ 9223372036854775807) (hw : ws.length ≤ 9223372036854775807) : Ev (fun k => spec_l15Good.f k l ws) (okWidths l ws) := by
 obtain ⟨K, hK⟩ := l4Legs_ev l hm
 have h := loopT_ev (fun k i (_ : Unit) => spec_l15Good.l0 k l ws i) ws.length K (fun i (_ : Unit) => if okWidth (ws.getD i 0) = true then Sum.inl () else Sum.inr false) (fun _ => okLegs l && decide (ws.length = l.length)) () ?_ ?_
 ·rw [foldN_all] at h
  rw [show okWidths l ws = (ws.all okWidth && (okLegs l && decide (ws.length = l.length))) by unfold okWidths; cases okLegs l <;> cases decide (ws.length = l.length) <;> cases ws.all okWidth <;> rfl]
  exact h
 ·rintro k i - - hi
  cases hp : okWidth (ws.getD i 0) with
  | true =>
   refine .inl ⟨(), by simp, ?_⟩
   simp only [spec_l15Good.l0, spec_l12Far.f, l1In_eq, rd_nat, Option.bind_some]
   rw [if_pos (by omega), if_pos (by omega), wrap_up hi hw, if_pos (show decide (0 ≤ ws.getD i 0 ∧ ws.getD i 0 ≤ 200) = true from hp)]
  | false =>
   refine .inr ⟨false, by simp, ?_⟩
   simp only [spec_l15Good.l0, spec_l12Far.f, l1In_eq, rd_nat, Option.bind_some]
   rw [if_pos (by omega), if_pos (by omega), if_neg (by rw [show decide (0 ≤ ws.getD i 0 ∧ ws.getD i 0 ≤ 200) = false from hp]; decide)]
 ·rintro k - hk
  simp only [spec_l15Good.l0, hK k hk, Option.bind_some]
  rw [if_neg (by omega)]
  cases okLegs l with
  | true =>
   rw [if_pos rfl]
   simp
   rw [Bool.eq_iff_iff]
   simp
   omega
  | false => rw [if_neg (by decide)]; rfl
theorem okWidths_legs {l : List S58} {ws : List Int} (h : okWidths l ws = true) : okLegs l = true := by
 simp only [okWidths, Bool.and_eq_true] at h
 exact h.1
theorem okWidths_len {l : List S58} {ws : List Int} (h : okWidths l ws = true) : ws.length = l.length := by
 simp only [okWidths, Bool.and_eq_true, decide_eq_true_eq] at h
 exact h.2.1
theorem specReach_inner {l : List S58} {ws : List Int} (hl : okLegs l = true) (hw : l.length ≤ ws.length) (hm : ws.length ≤ 1048576) (width : Int) (r : List Int) : ∀ d i (o : List Int) (fl : Bool), i + d = l.length → Good o →
  Ev (fun k => spec_l15Reach.l0 k l ws width (iter (passStep (wideEnough ws width) (fromOf l) (toOf l)) d i (o, fl)).1 (iter (passStep (wideEnough ws width) (fromOf l) (toOf l)) d i (o, fl)).2) r →
  Ev (fun k => spec_l15Reach.l1 k l ws width o fl (i : Int)) r := by
 intro d
 induction d with
 | zero =>
  intro i o fl hi hg h
  refine Ev.step (fun k => ?_) h
  simp only [spec_l15Reach.l1, iter]
  rw [if_neg (by omega)]
 | succ d ih =>
  intro i o fl hi hg h
  have hil : i < l.length := by omega
  have he := ends_in hl i hil
  have h8 := hg.len
  simp only [iter, passStep] at h
  have hnext := ih (i + 1) _ _ (by omega) (hg.fire (ok := wideEnough ws width i) he.1 he.2) h
  have hwr : wrap64 ((i : Int) + 1) = ((i + 1 : Nat) : Int) := by unfold wrap64; omega
  by_cases hlt : ws.getD i 0 < width
  ·have hok : wideEnough ws width i = false := decide_eq_false (by omega)
   have hf : fires (wideEnough ws width i) (fromOf l i) (toOf l i) o = false := by unfold fires; rw [hok]; rfl
   have hfi : fire (wideEnough ws width i) (fromOf l i) (toOf l i) o = o := by unfold fire; rw [hf]; exact if_neg (by decide)
   rw [hfi, hf, Bool.or_false] at hnext
   refine Ev.step (f := fun k => spec_l15Reach.j2 k l ws width o fl (i : Int) (fromOf l i) (toOf l i) true) (fun k => ?_) (Ev.step (fun k => ?_) hnext)
   ·simp only [spec_l15Reach.l1, rd_nat, rdL]
    rw [if_pos (by omega), if_pos (by omega), if_pos (by omega), if_pos hlt]
    rfl
   ·simp only [spec_l15Reach.j2, hwr, if_true]
  ·have hok : wideEnough ws width i = true := decide_eq_true (by omega)
   refine Ev.step (f := fun k => (spec_l1Has.f k o (fromOf l i)).bind fun t => (spec_l1Has.f k o (toOf l i)).bind fun t2 => spec_l15Reach.j2 k l ws width o fl (i : Int) (fromOf l i) (toOf l i) (t == t2)) (fun k => ?_) (Ev.bind (l1Has_ev (by omega)) (Ev.bind (l1Has_ev (by omega)) ?_))
   ·simp only [spec_l15Reach.l1, rd_nat, rdL]
    rw [if_pos (by omega), if_pos (by omega), if_pos (by omega), if_neg hlt]
    rfl
   ·cases hb : decide (fromOf l i ∈ o) == decide (toOf l i ∈ o) with
    | true =>
     have hf : fires (wideEnough ws width i) (fromOf l i) (toOf l i) o = false := by unfold fires; rw [hok, bne, hb]; rfl
     have hfi : fire (wideEnough ws width i) (fromOf l i) (toOf l i) o = o := by unfold fire; rw [hf]; exact if_neg (by decide)
     rw [hfi, hf, Bool.or_false] at hnext
     refine Ev.step (fun k => ?_) hnext
     simp only [spec_l15Reach.j2, hwr, if_true]
    | false =>
     have hf : fires (wideEnough ws width i) (fromOf l i) (toOf l i) o = true := by unfold fires; rw [hok, bne, hb]; rfl
     have hfi : fire (wideEnough ws width i) (fromOf l i) (toOf l i) o = insS (toOf l i) (insS (fromOf l i) o) := by unfold fire; rw [hf]; exact if_pos rfl
     rw [hfi, hf, Bool.or_true] at hnext
     refine Ev.step (f := fun k => (spec_l1Put.f k o (fromOf l i)).bind fun t => (spec_l1Put.f k t (toOf l i)).bind fun t2 => spec_l15Reach.l1 k l ws width t2 true ((i + 1 : Nat) : Int)) (fun k => ?_) (Ev.bind (l1Put_ev (by omega)) (Ev.bind (l1Put_ev ?_) hnext))
     ·simp only [spec_l15Reach.j2, hwr, Bool.false_eq_true, if_false]
     ·have hg1 : Good (insS (fromOf l i) o) := ⟨up_insS hg.1, fun z hz => by
       rcases mem_insS.1 hz with rfl | hz
       ·exact he.1
       ·exact hg.2 z hz⟩
      have := hg1.len
      omega
theorem specReach_outer {l : List S58} {ws : List Int} (hl : okLegs l = true) (hw : l.length ≤ ws.length) (hm : ws.length ≤ 1048576) (width : Int) : ∀ m (o : List Int), Good o → l.length ≤ m + cnt (wideEnough ws width) (fromOf l) (toOf l) o l.length →
  Ev (fun k => spec_l15Reach.l0 k l ws width o true) (passes (wideEnough ws width) (fromOf l) (toOf l) l.length m o) := by
 intro m
 induction m with
 | zero =>
  intro o hg hc
  obtain ⟨hp, hq⟩ := pass_flag (wideEnough ws width) (fromOf l) (toOf l) l.length o
  have hs : pass (wideEnough ws width) (fromOf l) (toOf l) l.length o = o := by
   rcases hq with hq | hq
   ·exact hq
   ·have := cnt_le (wideEnough ws width) (fromOf l) (toOf l) (pass (wideEnough ws width) (fromOf l) (toOf l) l.length o) l.length
    omega
  refine Ev.step (f := fun k => spec_l15Reach.l1 k l ws width o false ((0 : Nat) : Int)) (fun k => ?_) (specReach_inner hl hw hm width _ l.length 0 o false (by omega) hg ?_)
  ·simp only [spec_l15Reach.l0, if_true]
   rfl
  ·rw [hp, hs]
   simp only [ne_eq, not_true_eq_false, decide_false, passes]
   refine Ev.step (f := fun _ => some o) (fun k => ?_) (Ev.now _)
   simp only [spec_l15Reach.l0, Bool.false_eq_true, if_false]
 | succ m ih =>
  intro o hg hc
  obtain ⟨hp, hq⟩ := pass_flag (wideEnough ws width) (fromOf l) (toOf l) l.length o
  refine Ev.step (f := fun k => spec_l15Reach.l1 k l ws width o false ((0 : Nat) : Int)) (fun k => ?_) (specReach_inner hl hw hm width _ l.length 0 o false (by omega) hg ?_)
  ·simp only [spec_l15Reach.l0, if_true]
   rfl
  ·rw [hp]
   by_cases hs : pass (wideEnough ws width) (fromOf l) (toOf l) l.length o = o
   ·rw [hs, passes_still hs]
    simp only [ne_eq, not_true_eq_false, decide_false]
    refine Ev.step (f := fun _ => some o) (fun k => ?_) (Ev.now _)
    simp only [spec_l15Reach.l0, Bool.false_eq_true, if_false]
   ·simp only [ne_eq, hs, not_false_eq_true, decide_true, passes]
    refine ih _ ⟨pass_up hg.1, pass_in (P := fun z => 0 ≤ z ∧ z < 8) (ends_in hl) hg.2⟩ ?_
    rcases hq with hq | hq
    ·exact absurd hq hs
    ·omega
theorem specReach_ev {l : List S58} {ws : List Int} (hl : okLegs l = true) (hw : l.length ≤ ws.length) (hm : ws.length ≤ 1048576) {from_ : Int} (hf : 0 ≤ from_ ∧ from_ < 8) (width : Int) : Ev (fun k => spec_l15Reach.f k l ws from_ width) (stationsOf l ws from_ width) := by
 simp only [spec_l15Reach.f]
 exact specReach_outer hl hw hm width l.length [from_] (Good.one hf) (by omega)
def okAsked (l : List S58) (ws : List Int) (a b : Int) : Bool := okWidths l ws && (decide (0 ≤ a ∧ a ≤ 7) && decide (0 ≤ b ∧ b ≤ 7))
theorem areEnds_ev (l : List S58) (ws : List Int) (a b : Int) (hm : l.length ≤ 9223372036854775807) : Ev (fun k => impl_areEnds.f k l ws a b) (okAsked l ws a b) := by
 simp only [impl_areEnds.f, impl_isStation.f, within_eq, Option.bind_some]
 refine Ev.bind (areWidths_ev l ws hm) ?_
 unfold okAsked
 cases okWidths l ws with
 | false => exact Ev.ite_neg (by decide) (Ev.now _)
 | true =>
  refine Ev.ite_pos rfl ?_
  cases decide (0 ≤ a ∧ a ≤ 7) with
  | false => exact Ev.ite_neg (by decide) (Ev.now _)
  | true => exact Ev.ite_pos rfl (Ev.now _)
theorem l15Asked_ev (l : List S58) (ws : List Int) (a b : Int) (hm : l.length ≤ 9223372036854775807) (hw : ws.length ≤ 9223372036854775807) : Ev (fun k => spec_l15Asked.f k l ws a b) (okAsked l ws a b) := by
 simp only [spec_l15Asked.f, spec_l4Station.f, l1In_eq, Option.bind_some]
 refine Ev.bind (l15Good_ev l ws hm hw) ?_
 unfold okAsked
 cases okWidths l ws with
 | false => exact Ev.ite_neg (by decide) (Ev.now _)
 | true =>
  refine Ev.ite_pos rfl ?_
  cases decide (0 ≤ a ∧ a ≤ 7) with
  | false => exact Ev.ite_neg (by decide) (Ev.now _)
  | true => exact Ev.ite_pos rfl (Ev.now _)
theorem okAsked_says {l : List S58} {ws : List Int} {a b : Int} (h : okAsked l ws a b = true) : okWidths l ws = true ∧ (0 ≤ a ∧ a ≤ 7) ∧ (0 ≤ b ∧ b ≤ 7) := by
 simpa only [okAsked, Bool.and_eq_true, decide_eq_true_eq] using h
theorem reach_has {l : List S58} (ws : List Int) (hl : okLegs l = true) {a b : Int} (ha : 0 ≤ a ∧ a ≤ 7) (hb : 0 ≤ b ∧ b ≤ 7) (width : Int) : (reachOf l ws a width).getD b.toNat false = decide (b ∈ stationsOf l ws a width) := by
 rw [reachOf_arr ws hl (by omega), arrL_get (by omega)]
theorem specGreatest_ev {l : List S58} {ws : List Int} (hl : okLegs l = true) (hw : l.length ≤ ws.length) (hm : ws.length ≤ 1048576) {a b : Int} (ha : 0 ≤ a ∧ a ≤ 7) (hb : 0 ≤ b ∧ b ≤ 7) : Ev (fun k => spec_l15Greatest.f k l ws a b) (greatestDown l ws a b 201) := by
 have key : ∀ n : Nat, n ≤ 201 → Ev (fun k => spec_l15Greatest.l0 k l ws a b ((n : Int) - 1)) (greatestDown l ws a b n) := by
  intro n
  induction n with
  | zero =>
   intro _
   refine Ev.step (f := fun _ => some (-1)) (fun k => ?_) (Ev.now _)
   simp only [spec_l15Greatest.l0]
   rw [if_neg (by omega)]
  | succ n ih =>
   intro hn
   have hx : (((n + 1 : Nat) : Int) - 1) = (n : Int) := by omega
   have hwr : wrap64 ((n : Int) - 1) = (n : Int) - 1 := wrap_id (by omega) (by omega)
   rw [hx]
   have hg := (stationsOf_good ws hl (from_ := a) (by omega) (n : Int)).len
   refine Ev.step (f := fun k => (spec_l15Reach.f k l ws a (n : Int)).bind fun t => (spec_l1Has.f k t b).bind fun t2 => if t2 = true then some (n : Int) else spec_l15Greatest.l0 k l ws a b ((n : Int) - 1)) (fun k => ?_) (Ev.bind (specReach_ev hl hw hm (by omega) (n : Int)) (Ev.bind (l1Has_ev (by omega)) ?_))
   ·simp only [spec_l15Greatest.l0, hwr]
    rw [if_pos (by omega)]
   ·simp only [greatestDown, reach_has ws hl ha hb]
    by_cases h : decide (b ∈ stationsOf l ws a (n : Int)) = true
    ·rw [if_pos h]
     exact Ev.ite_pos h (Ev.now _)
    ·rw [if_neg h]
     exact Ev.ite_neg h (ih (by omega))
 simp only [spec_l15Greatest.f]
 exact key 201 (by omega)
def greatAns (l : List S58) (ws : List Int) (a b : Int) : Int × Bool := if okAsked l ws a b = true then (greatestDown l ws a b 201, true) else (0, false)
theorem implGreatest_eq {l : List S58} {ws : List Int} (hl : okLegs l = true) (hw : l.length ≤ ws.length) {a b : Int} (ha : 0 ≤ a ∧ a ≤ 7) (hb : 0 ≤ b ∧ b ≤ 7) : impl_greatest.f l ws a b = some (greatestDown l ws a b 201) := by
 unfold impl_greatest.f
 rw [if_pos ⟨reachOk_of hl hw (by omega), hb.1, hb.2⟩]
theorem implGreat_ev (l : List S58) (ws : List Int) (a b : Int) (hm : l.length ≤ 9223372036854775807) : Ev (fun k => impl_GreatestWidth.f k l ws a b) (greatAns l ws a b) := by
 simp only [impl_GreatestWidth.f]
 refine Ev.bind (areEnds_ev l ws a b hm) ?_
 by_cases h : okAsked l ws a b = true
 ·have hs := okAsked_says h
  have hn := okWidths_len hs.1
  have hl := okWidths_legs hs.1
  rw [show greatAns l ws a b = (greatestDown l ws a b 201, true) from if_pos h]
  exact Ev.ite_pos h (Ev.bindc (implGreatest_eq hl (by omega) hs.2.1 hs.2.2) (Ev.now _))
 ·rw [show greatAns l ws a b = (0, false) from if_neg h]
  exact Ev.ite_neg h (Ev.now _)
theorem fire_least {ok : Bool} {a b : Int} {out : List Int} {P : Int → Prop} (hab : ok = true → (P a ↔ P b)) (h : ∀ z ∈ out, P z) : ∀ z ∈ fire ok a b out, P z := by
 intro z hz
 unfold fire at hz
 split at hz
 ·rename_i hf
  unfold fires at hf
  rw [Bool.and_eq_true] at hf
  have hi := hab hf.1
  have hp : P a ∧ P b := by
   by_cases ha : a ∈ out
   ·exact ⟨h a ha, hi.1 (h a ha)⟩
   ·by_cases hb : b ∈ out
    ·exact ⟨hi.2 (h b hb), h b hb⟩
    ·simp [ha, hb] at hf
  rcases mem_insS.1 hz with rfl | hz
  ·exact hp.2
  ·rcases mem_insS.1 hz with rfl | hz
   ·exact hp.1
   ·exact h z hz
 ·exact h z hz
theorem iter_least {ok : Nat → Bool} {a b : Nat → Int} {n : Nat} {P : Int → Prop} (hab : ∀ i, i < n → ok i = true → (P (a i) ↔ P (b i))) : ∀ d i (out : List Int), i + d ≤ n → (∀ z ∈ out, P z) → ∀ z ∈ iter (fun i s => fire (ok i) (a i) (b i) s) d i out, P z
 | 0, _, _, _, h => h
 | d + 1, i, out, hi, h => iter_least hab d (i + 1) _ (by omega) (fire_least (hab i (by omega)) h)
theorem passes_least {ok : Nat → Bool} {a b : Nat → Int} {n : Nat} {P : Int → Prop} (hab : ∀ i, i < n → ok i = true → (P (a i) ↔ P (b i))) : ∀ m (out : List Int), (∀ z ∈ out, P z) → ∀ z ∈ passes ok a b n m out, P z
 | 0, _, h => h
 | m + 1, out, h => passes_least hab m _ (iter_least hab n 0 out (by omega) h)
theorem iter_mem {ok : Nat → Bool} {a b : Nat → Int} {z : Int} : ∀ d i (out : List Int), z ∈ out → z ∈ iter (fun i s => fire (ok i) (a i) (b i) s) d i out
 | 0, _, _, h => h
 | d + 1, i, _, h => iter_mem d (i + 1) _ (fire_mem h)
theorem iter_closed {ok : Nat → Bool} {a b : Nat → Int} : ∀ d i (out : List Int), (∀ z ∈ iter (fun i s => fire (ok i) (a i) (b i) s) d i out, z ∈ out) → ∀ j, i ≤ j → j < i + d → ok j = true → (a j ∈ out ↔ b j ∈ out) := by
 intro d
 induction d with
 | zero => intro i out _ j h1 h2; omega
 | succ d ih =>
  intro i out h j h1 h2 hj
  have hsame : ∀ z, z ∈ fire (ok i) (a i) (b i) out ↔ z ∈ out := fun z => ⟨fun hz => h z (iter_mem d (i + 1) _ hz), fire_mem⟩
  by_cases hji : j = i
  ·subst hji
   cases hf : fires (ok j) (a j) (b j) out with
   | false =>
    unfold fires at hf
    rw [hj, Bool.true_and] at hf
    by_cases ha : a j ∈ out <;> by_cases hb : b j ∈ out <;> simp [ha, hb] at hf ⊢
   | true =>
    have e : fire (ok j) (a j) (b j) out = insS (b j) (insS (a j) out) := by unfold fire; rw [if_pos hf]
    exact ⟨fun _ => (hsame _).1 (by rw [e]; exact mem_insS.2 (.inl rfl)), fun _ => (hsame _).1 (by rw [e]; exact mem_insS.2 (.inr (mem_insS.2 (.inl rfl))))⟩
  ·have := ih (i + 1) (fire (ok i) (a i) (b i) out) (fun z hz => (hsame z).2 (h z hz)) j (by omega) (by omega) hj
   rwa [hsame, hsame] at this
theorem st_self (l : List S58) (ws : List Int) (a wd : Int) : a ∈ stationsOf l ws a wd := passes_mem _ (by simp)
theorem st_closed (l : List S58) (ws : List Int) (a wd : Int) {j : Nat} (hj : j < l.length) (hw : wideEnough ws wd j = true) : fromOf l j ∈ stationsOf l ws a wd ↔ toOf l j ∈ stationsOf l ws a wd := by
 have hs := reached_still (wideEnough ws wd) (fromOf l) (toOf l) l.length [a]
 refine iter_closed l.length 0 (stationsOf l ws a wd) (fun z hz => ?_) j (by omega) (by omega) hw
 have hz' : z ∈ pass (wideEnough ws wd) (fromOf l) (toOf l) l.length (stationsOf l ws a wd) := hz
 have e : pass (wideEnough ws wd) (fromOf l) (toOf l) l.length (stationsOf l ws a wd) = stationsOf l ws a wd := hs
 rwa [e] at hz'
theorem st_least {l : List S58} {ws : List Int} {a wd : Int} {P : Int → Prop} (h0 : P a) (hc : ∀ j, j < l.length → wideEnough ws wd j = true → (P (fromOf l j) ↔ P (toOf l j))) : ∀ z ∈ stationsOf l ws a wd, P z :=
 passes_least hc _ [a] (fun z hz => by simp at hz; subst hz; exact h0)
theorem st_anti {l : List S58} {ws : List Int} {a v w : Int} (h : v ≤ w) : ∀ z ∈ stationsOf l ws a w, z ∈ stationsOf l ws a v :=
 st_least (st_self l ws a v) (fun j hj hw => st_closed l ws a v hj (by
  simp only [wideEnough, decide_eq_true_eq] at hw ⊢
  omega))
theorem great_range (l : List S58) (ws : List Int) (a b : Int) : ∀ n : Nat, -1 ≤ greatestDown l ws a b n ∧ greatestDown l ws a b n < (n : Int)
 | 0 => by simp [greatestDown]
 | n + 1 => by
  have := great_range l ws a b n
  simp only [greatestDown]
  split <;> omega
theorem great_iff {l : List S58} (ws : List Int) (hl : okLegs l = true) {a b : Int} (ha : 0 ≤ a ∧ a ≤ 7) (hb : 0 ≤ b ∧ b ≤ 7) : ∀ n : Nat, ∀ wd : Int, 0 ≤ wd → wd < (n : Int) → (wd ≤ greatestDown l ws a b n ↔ b ∈ stationsOf l ws a wd)
 | 0, wd, h0, h1 => by omega
 | n + 1, wd, h0, h1 => by
  have ih := great_iff ws hl ha hb n
  have hr := great_range l ws a b n
  simp only [greatestDown, reach_has ws hl ha hb]
  by_cases h : b ∈ stationsOf l ws a (n : Int)
  ·rw [if_pos (decide_eq_true h)]
   exact ⟨fun _ => st_anti (by omega) b h, fun _ => by omega⟩
  ·rw [if_neg (fun hh => h (of_decide_eq_true hh))]
   by_cases e : wd = (n : Int)
   ·subst e
    exact ⟨fun hh => by omega, fun hh => absurd hh h⟩
   ·exact ih wd h0 (by omega)
def stationsAns (l : List S58) (ws : List Int) (a width : Int) : List Int × Bool := if okAsked l ws a 0 = true ∧ (0 ≤ width ∧ width ≤ 200) then (stationsOf l ws a width, true) else ([], false)
theorem okAsked_same (l : List S58) (ws : List Int) (a : Int) : okAsked l ws a a = okAsked l ws a 0 := by
 unfold okAsked
 cases decide (0 ≤ a ∧ a ≤ 7) <;> simp
theorem stationsAns_len (l : List S58) (ws : List Int) (a width : Int) : (stationsAns l ws a width).1.length ≤ 8 := by
 unfold stationsAns
 split
 ·rename_i h
  have hs := okAsked_says h.1
  exact (stationsOf_good ws (okWidths_legs hs.1) (by omega) width).len
 ·simp
theorem specStations_ev (l : List S58) (ws : List Int) (a width : Int) (hm : l.length ≤ 9223372036854775807) (hw : ws.length ≤ 9223372036854775807) : Ev (fun k => spec_StationsFor.f k l ws a width) (stationsAns l ws a width) := by
 simp only [spec_StationsFor.f, spec_l12Far.f, l1In_eq, Option.bind_some]
 refine Ev.bind (l15Asked_ev l ws a 0 hm hw) ?_
 unfold stationsAns
 by_cases h : okAsked l ws a 0 = true
 ·refine Ev.ite_pos h ?_
  have hs := okAsked_says h
  have hn := okWidths_len hs.1
  have hl := okWidths_legs hs.1
  have h12 := okLegs_len hl
  by_cases h2 : 0 ≤ width ∧ width ≤ 200
  ·rw [if_pos ⟨h, h2⟩]
   exact Ev.ite_pos (decide_eq_true h2) (Ev.bind (specReach_ev hl (by omega) (by omega) (by omega) width) (Ev.now _))
  ·rw [if_neg (fun hh => h2 hh.2)]
   exact Ev.ite_neg (by simpa using h2) (Ev.now _)
 ·rw [if_neg (fun hh => h hh.1)]
  exact Ev.ite_neg h (Ev.now _)
theorem implStations_ev (l : List S58) (ws : List Int) (a width : Int) (hm : l.length ≤ 9223372036854775807) : Ev (fun k => impl_StationsFor.f k l ws a width) (stationsAns l ws a width) := by
 simp only [impl_StationsFor.f]
 refine Ev.bind (areEnds_ev l ws a a hm) ?_
 rw [okAsked_same]
 by_cases h : okAsked l ws a 0 = true ∧ (0 ≤ width ∧ width ≤ 200)
 ·rw [show stationsAns l ws a width = (stationsOf l ws a width, true) from if_pos h]
  have hs := okAsked_says h.1
  have hn := okWidths_len hs.1
  have hl := okWidths_legs hs.1
  refine Ev.ite_pos h (Ev.ite_pos (reachOk_of hl (by omega) (by omega)) ?_)
  rw [reachOf_arr ws hl (by omega), memFrom_arr (stationsOf_good ws hl (by omega) width)]
  exact Ev.now _
 ·rw [show stationsAns l ws a width = ([], false) from if_neg h]
  exact Ev.ite_neg h (Ev.now _)
theorem greatestDown_ge (l : List S58) (ws : List Int) (a b : Int) : ∀ n, -1 ≤ greatestDown l ws a b n
 | 0 => by simp [greatestDown]
 | n + 1 => by
  simp only [greatestDown]
  split
  ·omega
  ·exact greatestDown_ge l ws a b n
theorem okLegs_less {l : List S58} (h : okLegs l = true) (i : Nat) : okLegs (l.eraseIdx i) = true := by
 simp only [okLegs, Bool.and_eq_true, List.all_eq_true, decide_eq_true_eq] at h ⊢
 exact ⟨fun x hx => h.1 x (List.mem_of_mem_eraseIdx hx), Nat.le_trans (List.length_eraseIdx_le l i) h.2⟩
def narrowAt (l : List S58) (ws : List Int) (a b m : Int) (i : Nat) : Bool := decide (ws.getD i 0 = m) && decide (greatestDown (l.eraseIdx i) (ws.eraseIdx i) a b 201 < m)
def narrowFrom (l : List S58) (ws : List Int) (a b m : Int) : Nat → Nat → List Int
 | 0, _ => []
 | d + 1, i => if narrowAt l ws a b m i = true then (i : Int) :: narrowFrom l ws a b m d (i + 1) else narrowFrom l ws a b m d (i + 1)
theorem narrowFrom_len (l : List S58) (ws : List Int) (a b m : Int) : ∀ d i, (narrowFrom l ws a b m d i).length ≤ d
 | 0, _ => by simp [narrowFrom]
 | d + 1, i => by
  have := narrowFrom_len l ws a b m d (i + 1)
  simp only [narrowFrom]
  split
  ·simp only [List.length_cons]
   omega
  ·omega
def narrowAns (l : List S58) (ws : List Int) (a b : Int) : List Int × Bool := if okAsked l ws a b = true ∧ greatestDown l ws a b 201 ≠ -1 then (narrowFrom l ws a b (greatestDown l ws a b 201) l.length 0, true) else ([], false)
theorem narrowAns_len (l : List S58) (ws : List Int) (a b : Int) : (narrowAns l ws a b).1.length ≤ 12 := by
 unfold narrowAns
 split
 ·rename_i h
  have := okLegs_len (okWidths_legs (okAsked_says h.1).1)
  have := narrowFrom_len l ws a b (greatestDown l ws a b 201) l.length 0
  simp only
  omega
 ·simp
theorem l10Less_eq {l : List S58} (h12 : l.length ≤ 12) {i : Nat} (hi : i < l.length) : spec_l10Less.f l (i : Int) = some (l.eraseIdx i) := by
 have hwi : wrap64 ((i : Int) + 1) = ((i + 1 : Nat) : Int) := by unfold wrap64; omega
 simp only [spec_l10Less.f, Option.bind_some, hwi, Int.toNat_natCast, List.nil_append, List.length_nil]
 have h1 : (l.take i).length ≤ 12 := by rw [List.length_take]; omega
 have h2 : (l.drop (i + 1)).length ≤ 12 := by rw [List.length_drop]; omega
 rw [if_pos (by omega), if_pos (by omega), if_pos (by omega), if_pos (by omega), if_pos (by omega), if_pos (by omega), List.eraseIdx_eq_take_drop_succ]
theorem rd_at' (e : List Int) (i : Nat) : rd e (i : Int) = e.getD i 0 := by simp [rd]
theorem specNarrow_loop {l : List S58} {ws : List Int} (hl : okLegs l = true) (hw : ws.length = l.length) {a b : Int} (ha : 0 ≤ a ∧ a ≤ 7) (hb : 0 ≤ b ∧ b ≤ 7) (m : Int) : ∀ d i (out : List Int), i + d = l.length → out.length ≤ i →
  Ev (fun k => spec_NarrowPlaces.l0 k l ws a b out m (i : Int)) (out ++ narrowFrom l ws a b m d i, true) := by
 have h12 := okLegs_len hl
 intro d
 induction d with
 | zero =>
  intro i out hi _
  simp only [narrowFrom, List.append_nil]
  refine Ev.step (f := fun _ => some (out, true)) (fun k => ?_) (Ev.now _)
  simp only [spec_NarrowPlaces.l0]
  rw [if_neg (by omega)]
 | succ d ih =>
  intro i out hi ho
  have hwi : wrap64 ((i : Int) + 1) = ((i + 1 : Nat) : Int) := by unfold wrap64; omega
  have hil : i < l.length := by omega
  have h1 : (ws.take i).length ≤ 12 := by rw [List.length_take]; omega
  have h2 : (ws.drop (i + 1)).length ≤ 12 := by rw [List.length_drop]; omega
  have hcons : ws.take i ++ ws.drop (i + 1) = ws.eraseIdx i := by rw [List.eraseIdx_eq_take_drop_succ]
  have hG := specGreatest_ev (okLegs_less hl i) (ws := ws.eraseIdx i) (by rw [List.length_eraseIdx_of_lt hil, List.length_eraseIdx_of_lt (by omega)]; omega) (by have := List.length_eraseIdx_le ws i; omega) ha hb
  by_cases c1 : ws.getD i 0 = m
  ·by_cases c2 : greatestDown (l.eraseIdx i) (ws.eraseIdx i) a b 201 < m
   ·have hn := ih (i + 1) (out ++ [(i : Int)]) (by omega) (by simp; omega)
    rw [List.append_assoc] at hn
    simp only [narrowFrom, narrowAt, c1, c2, decide_true, Bool.and_self, if_true]
    refine Ev.step (f := fun k => (spec_l15Greatest.f k (l.eraseIdx i) (ws.eraseIdx i) a b).bind fun t => if t < m then spec_NarrowPlaces.l0 k l ws a b (out ++ [(i : Int)]) m ((i + 1 : Nat) : Int) else spec_NarrowPlaces.l0 k l ws a b out m ((i + 1 : Nat) : Int)) (fun k => ?_) (Ev.bind hG (Ev.ite_pos c2 hn))
    simp only [spec_NarrowPlaces.l0, Option.bind_some, hwi, Int.toNat_natCast, List.nil_append, List.length_nil, rd_at', l10Less_eq h12 hil, hcons]
    rw [if_pos (by omega), if_pos (by omega), if_pos (by omega), if_pos (by omega), if_pos (by omega), if_pos (by omega), if_pos (by omega), if_pos (by omega), if_pos c1]
    refine congrArg _ (funext fun t => ?_)
    split
    ·rw [if_pos (by omega)]
    ·rfl
   ·have hn := ih (i + 1) out (by omega) (by omega)
    simp only [narrowFrom, narrowAt, c1, c2, decide_true, decide_false, Bool.true_and, Bool.false_eq_true, if_false]
    refine Ev.step (f := fun k => (spec_l15Greatest.f k (l.eraseIdx i) (ws.eraseIdx i) a b).bind fun t => if t < m then spec_NarrowPlaces.l0 k l ws a b (out ++ [(i : Int)]) m ((i + 1 : Nat) : Int) else spec_NarrowPlaces.l0 k l ws a b out m ((i + 1 : Nat) : Int)) (fun k => ?_) (Ev.bind hG (Ev.ite_neg c2 hn))
    simp only [spec_NarrowPlaces.l0, Option.bind_some, hwi, Int.toNat_natCast, List.nil_append, List.length_nil, rd_at', l10Less_eq h12 hil, hcons]
    rw [if_pos (by omega), if_pos (by omega), if_pos (by omega), if_pos (by omega), if_pos (by omega), if_pos (by omega), if_pos (by omega), if_pos (by omega), if_pos c1]
    refine congrArg _ (funext fun t => ?_)
    split
    ·rw [if_pos (by omega)]
    ·rfl
  ·have hn := ih (i + 1) out (by omega) (by omega)
   simp only [narrowFrom, narrowAt, c1, decide_false, Bool.false_and, Bool.false_eq_true, if_false]
   refine Ev.step (fun k => ?_) hn
   simp only [spec_NarrowPlaces.l0, Option.bind_some, hwi, Int.toNat_natCast, List.nil_append, List.length_nil, rd_at', l10Less_eq h12 hil, hcons]
   rw [if_pos (by omega), if_pos (by omega), if_pos (by omega), if_pos (by omega), if_pos (by omega), if_pos (by omega), if_pos (by omega), if_pos (by omega), if_neg c1]
theorem implNarrow_loop {l : List S58} {ws : List Int} (hl : okLegs l = true) (hw : ws.length = l.length) {a b : Int} (ha : 0 ≤ a ∧ a ≤ 7) (hb : 0 ≤ b ∧ b ≤ 7) (m : Int) : ∀ d i (out : List Int), i + d = l.length → out.length ≤ i →
  Ev (fun k => impl_NarrowPlaces.l0 k l ws a b m out (l.length : Int) (i : Int)) (out ++ narrowFrom l ws a b m d i, true) := by
 have h12 := okLegs_len hl
 intro d
 induction d with
 | zero =>
  intro i out hi _
  simp only [narrowFrom, List.append_nil]
  refine Ev.step (f := fun _ => some (out, true)) (fun k => ?_) (Ev.now _)
  simp only [impl_NarrowPlaces.l0]
  rw [if_neg (by omega)]
 | succ d ih =>
  intro i out hi ho
  have hwi : wrap64 ((i : Int) + 1) = ((i + 1 : Nat) : Int) := by unfold wrap64; omega
  have hil : i < l.length := by omega
  have hG := implGreatest_eq (okLegs_less hl i) (ws := ws.eraseIdx i) (by rw [List.length_eraseIdx_of_lt hil, List.length_eraseIdx_of_lt (by omega)]; omega) ha hb
  have hC : slices_Clone_int_int.f ws = some ws := by unfold slices_Clone_int_int.f; rw [if_pos (by omega)]
  have hD : slices_Delete_int_int.f ws (i : Int) ((i + 1 : Nat) : Int) = some (ws.eraseIdx i) := by
   unfold slices_Delete_int_int.f
   rw [if_pos ⟨by omega, by omega, by omega⟩, Int.toNat_natCast]
  have hL : impl_leaving.f l (i : Int) = some (l.eraseIdx i) := by
   unfold impl_leaving.f impl_Leg_79.f impl_Leg_78.f
   rw [if_pos (by omega)]
   simp only [Option.bind_some, hwi]
   rw [if_pos ⟨by omega, by omega, by omega⟩, Int.toNat_natCast]
   rfl
  by_cases c1 : ws.getD i 0 = m
  ·by_cases c2 : greatestDown (l.eraseIdx i) (ws.eraseIdx i) a b 201 < m
   ·have hn := ih (i + 1) (out ++ [(i : Int)]) (by omega) (by simp; omega)
    rw [List.append_assoc] at hn
    simp only [narrowFrom, narrowAt, c1, c2, decide_true, Bool.and_self, if_true]
    refine Ev.step (fun k => ?_) hn
    simp only [impl_NarrowPlaces.l0, Option.bind_some, hwi, rd_at', hC, hD, hL, hG]
    rw [if_pos (by omega), if_pos (by omega), if_pos (by omega), if_pos c1, if_pos c2, if_pos (by omega)]
   ·have hn := ih (i + 1) out (by omega) (by omega)
    simp only [narrowFrom, narrowAt, c1, c2, decide_true, decide_false, Bool.true_and, Bool.false_eq_true, if_false]
    refine Ev.step (fun k => ?_) hn
    simp only [impl_NarrowPlaces.l0, Option.bind_some, hwi, rd_at', hC, hD, hL, hG]
    rw [if_pos (by omega), if_pos (by omega), if_pos (by omega), if_pos c1, if_neg c2]
  ·have hn := ih (i + 1) out (by omega) (by omega)
   simp only [narrowFrom, narrowAt, c1, decide_false, Bool.false_and, Bool.false_eq_true, if_false]
   refine Ev.step (fun k => ?_) hn
   simp only [impl_NarrowPlaces.l0, Option.bind_some, hwi, rd_at', hC, hD, hL, hG]
   rw [if_pos (by omega), if_pos (by omega), if_pos (by omega), if_neg c1]
theorem specNarrow_ev (l : List S58) (ws : List Int) (a b : Int) (hm : l.length ≤ 9223372036854775807) (hw : ws.length ≤ 9223372036854775807) : Ev (fun k => spec_NarrowPlaces.f k l ws a b) (narrowAns l ws a b) := by
 have hno : Ev (fun k => spec_NarrowPlaces.j0 k l ws a b [] true) ([], false) := Ev.step (f := fun _ => some ([], false)) (fun k => by rw [spec_NarrowPlaces.j0, if_pos rfl]) (Ev.now _)
 simp only [spec_NarrowPlaces.f, Option.bind_some]
 refine Ev.bind (l15Asked_ev l ws a b hm hw) ?_
 by_cases h : okAsked l ws a b = true
 ·have hs := okAsked_says h
  have hn := okWidths_len hs.1
  have hl := okWidths_legs hs.1
  have h12 := okLegs_len hl
  have hG := specGreatest_ev hl (ws := ws) (by omega) (by omega) hs.2.1 hs.2.2
  have hge := greatestDown_ge l ws a b 201
  refine Ev.ite_pos h (Ev.bind hG ?_)
  by_cases h2 : greatestDown l ws a b 201 = -1
  ·rw [show narrowAns l ws a b = ([], false) from if_neg (fun hh => hh.2 h2), show decide (greatestDown l ws a b 201 < 0) = true from decide_eq_true (by omega)]
   exact hno
  ·rw [show narrowAns l ws a b = _ from if_pos ⟨h, h2⟩, show decide (greatestDown l ws a b 201 < 0) = false from decide_eq_false (by omega)]
   have := specNarrow_loop hl hn hs.2.1 hs.2.2 (greatestDown l ws a b 201) l.length 0 [] (by omega) (by simp)
   rw [List.nil_append] at this
   exact Ev.step (f := fun k => (spec_l15Greatest.f k l ws a b).bind fun t => spec_NarrowPlaces.l0 k l ws a b [] t 0) (fun k => by rw [spec_NarrowPlaces.j0, if_neg (by decide)]) (Ev.bind hG this)
 ·rw [show narrowAns l ws a b = ([], false) from if_neg (fun hh => h hh.1)]
  exact Ev.ite_neg h hno
theorem implNarrow_ev (l : List S58) (ws : List Int) (a b : Int) (hm : l.length ≤ 9223372036854775807) : Ev (fun k => impl_NarrowPlaces.f k l ws a b) (narrowAns l ws a b) := by
 simp only [impl_NarrowPlaces.f]
 refine Ev.bind (areEnds_ev l ws a b hm) ?_
 by_cases h : okAsked l ws a b = true
 ·have hs := okAsked_says h
  have hn := okWidths_len hs.1
  have hl := okWidths_legs hs.1
  have h12 := okLegs_len hl
  refine Ev.ite_pos h (Ev.bindc (implGreatest_eq hl (ws := ws) (by omega) hs.2.1 hs.2.2) ?_)
  by_cases h2 : greatestDown l ws a b 201 = -1
  ·rw [show narrowAns l ws a b = ([], false) from if_neg (fun hh => hh.2 h2)]
   exact Ev.ite_pos h2 (Ev.now _)
  ·rw [show narrowAns l ws a b = _ from if_pos ⟨h, h2⟩]
   have := implNarrow_loop hl hn hs.2.1 hs.2.2 (greatestDown l ws a b 201) l.length 0 [] (by omega) (by simp)
   rw [List.nil_append] at this
   exact Ev.ite_neg h2 this
 ·rw [show narrowAns l ws a b = ([], false) from if_neg (fun hh => h hh.1)]
  exact Ev.ite_neg h (Ev.now _)
def risesAt (lo hi : Int) (e : List Int) (i : Nat) : Bool := decide (lo ≤ e.getD i 0 ∧ e.getD i 0 ≤ hi) && !(decide (0 < i) && decide (e.getD (i - 1) 0 ≥ e.getD i 0))
def rises (lo hi : Int) (e : List Int) : Bool := (List.range' 0 e.length).all (risesAt lo hi e)
theorem strictly_loop {e : List Int} (he : e.length ≤ 1048576) (lo hi : Int) : ∀ d i, i + d = e.length → Ev (fun k => impl_strictly.l0 k e lo hi e (e.length : Int) (i : Int)) ((List.range' i d).all (risesAt lo hi e)) := by
 intro d
 induction d with
 | zero =>
  intro i hi_
  refine Ev.step (f := fun _ => some true) (fun k => ?_) (by simpa using Ev.now true)
  simp only [impl_strictly.l0]
  rw [if_neg (by omega)]
 | succ d ih =>
  intro i hi_
  have hil : i < e.length := by omega
  have hn := ih (i + 1) (by omega)
  have hwr : wrap64 ((i : Int) + 1) = ((i + 1 : Nat) : Int) := by unfold wrap64; omega
  rw [List.range'_succ, List.all_cons]
  by_cases h1 : lo ≤ e.getD i 0 ∧ e.getD i 0 ≤ hi
  ·by_cases h0 : 0 < i
   ·have hwm : wrap64 ((i : Int) - 1) = ((i - 1 : Nat) : Int) := by unfold wrap64; omega
    by_cases h2 : e.getD (i - 1) 0 ≥ e.getD i 0
    ·rw [show risesAt lo hi e i = false by simp only [risesAt, h1, h0, h2]; rfl, Bool.false_and]
     refine Ev.step (f := fun _ => some false) (fun k => ?_) (Ev.now _)
     simp only [impl_strictly.l0, rd_nat, within_eq, Option.bind_some, hwm]
     rw [if_pos (by omega), if_pos (by omega), if_pos (by omega), if_pos (decide_eq_true h1), if_pos (by omega), if_pos (by omega), if_pos (by omega), if_pos h2]
    ·rw [show risesAt lo hi e i = true by simp only [risesAt, h1, h0, h2]; rfl, Bool.true_and]
     refine Ev.step (fun k => ?_) hn
     simp only [impl_strictly.l0, rd_nat, within_eq, Option.bind_some, hwm, hwr]
     rw [if_pos (by omega), if_pos (by omega), if_pos (by omega), if_pos (decide_eq_true h1), if_pos (by omega), if_pos (by omega), if_pos (by omega), if_neg h2]
   ·rw [show risesAt lo hi e i = true by simp only [risesAt, h1, h0]; rfl, Bool.true_and]
    refine Ev.step (fun k => ?_) hn
    simp only [impl_strictly.l0, rd_nat, within_eq, Option.bind_some, hwr]
    rw [if_pos (by omega), if_pos (by omega), if_pos (by omega), if_pos (decide_eq_true h1), if_neg (by omega)]
  ·rw [show risesAt lo hi e i = false by simp only [risesAt, h1]; rfl, Bool.false_and]
   refine Ev.step (f := fun _ => some false) (fun k => ?_) (Ev.now _)
   simp only [impl_strictly.l0, rd_nat, within_eq, Option.bind_some]
   rw [if_pos (by omega), if_pos (by omega), if_pos (by omega), if_neg (by simpa using h1)]
theorem strictly_ev (e : List Int) (he : e.length ≤ 1048576) (lo hi : Int) : Ev (fun k => impl_strictly.f k e lo hi) (rises lo hi e) := by
 have h := strictly_loop he lo hi e.length 0 (by omega)
 simp only [impl_strictly.f]
 exact h
theorem rising_loop {e : List Int} (he : e.length ≤ 1048576) (lo hi : Int) : ∀ d i, i + d = e.length → Ev (fun k => spec_l1Rising.l0 k e lo hi (i : Int)) ((List.range' i d).all (risesAt lo hi e)) := by
 intro d
 induction d with
 | zero =>
  intro i hi_
  refine Ev.step (f := fun _ => some true) (fun k => ?_) (by simpa using Ev.now true)
  simp only [spec_l1Rising.l0]
  rw [if_neg (by omega)]
 | succ d ih =>
  intro i hi_
  have hil : i < e.length := by omega
  have hn := ih (i + 1) (by omega)
  have hwr : wrap64 ((i : Int) + 1) = ((i + 1 : Nat) : Int) := by unfold wrap64; omega
  rw [List.range'_succ, List.all_cons]
  by_cases h1 : lo ≤ e.getD i 0 ∧ e.getD i 0 ≤ hi
  ·by_cases h0 : 0 < i
   ·have hwm : wrap64 ((i : Int) - 1) = ((i - 1 : Nat) : Int) := by unfold wrap64; omega
    by_cases h2 : e.getD (i - 1) 0 ≥ e.getD i 0
    ·rw [show risesAt lo hi e i = false by simp only [risesAt, h1, h0, h2]; rfl, Bool.false_and]
     refine Ev.step (f := fun _ => some false) (fun k => ?_) (Ev.now _)
     simp only [spec_l1Rising.l0, rd_nat, l1In_eq, Option.bind_some, hwm]
     rw [if_pos (by omega), if_pos (by omega), if_pos (decide_eq_true h1), if_pos (by omega), if_pos (by omega), if_pos (by omega), if_pos h2]
    ·rw [show risesAt lo hi e i = true by simp only [risesAt, h1, h0, h2]; rfl, Bool.true_and]
     refine Ev.step (fun k => ?_) hn
     simp only [spec_l1Rising.l0, rd_nat, l1In_eq, Option.bind_some, hwm, hwr]
     rw [if_pos (by omega), if_pos (by omega), if_pos (decide_eq_true h1), if_pos (by omega), if_pos (by omega), if_pos (by omega), if_neg h2]
   ·rw [show risesAt lo hi e i = true by simp only [risesAt, h1, h0]; rfl, Bool.true_and]
    refine Ev.step (fun k => ?_) hn
    simp only [spec_l1Rising.l0, rd_nat, l1In_eq, Option.bind_some, hwr]
    rw [if_pos (by omega), if_pos (by omega), if_pos (decide_eq_true h1), if_neg (by omega)]
  ·rw [show risesAt lo hi e i = false by simp only [risesAt, h1]; rfl, Bool.false_and]
   refine Ev.step (f := fun _ => some false) (fun k => ?_) (Ev.now _)
   simp only [spec_l1Rising.l0, rd_nat, l1In_eq, Option.bind_some]
   rw [if_pos (by omega), if_pos (by omega), if_neg (by simpa using h1)]
theorem rising_ev (e : List Int) (he : e.length ≤ 1048576) (lo hi : Int) : Ev (fun k => spec_l1Rising.f k e lo hi) (rises lo hi e) := by
 have h := rising_loop he lo hi e.length 0 (by omega)
 simp only [spec_l1Rising.f]
 exact h
theorem rises_at {lo hi : Int} {e : List Int} (h : rises lo hi e = true) {i : Nat} (hi_ : i < e.length) : (lo ≤ e.getD i 0 ∧ e.getD i 0 ≤ hi) ∧ (0 < i → e.getD (i - 1) 0 < e.getD i 0) := by
 have := List.all_eq_true.1 h i (by simp [List.mem_range'_1, hi_])
 simp only [risesAt, Bool.and_eq_true, decide_eq_true_eq, Bool.not_eq_true', Bool.and_eq_false_iff, decide_eq_false_iff_not] at this
 exact ⟨this.1, fun h0 => by rcases this.2 with h2 | h2 <;> omega⟩
theorem rises_pairwise {lo hi : Int} {e : List Int} (h : rises lo hi e = true) : e.Pairwise (· < ·) := by
 have key : ∀ d i, i + d < e.length → 0 < d → e.getD i 0 < e.getD (i + d) 0 := by
  intro d
  induction d with
  | zero => intro i _ h0; omega
  | succ d ih =>
   intro i hi_ _
   have h1 := (rises_at h (i := i + (d + 1)) hi_).2 (by omega)
   rw [show i + (d + 1) - 1 = i + d by omega] at h1
   by_cases hd : 0 < d
   ·have := ih i (by omega) hd
    omega
   ·obtain rfl : d = 0 := by omega
    exact h1
 rw [List.pairwise_iff_getElem]
 intro i j hi_ hj hij
 have := key (j - i) i (by omega) (by omega)
 rw [show i + (j - i) = j by omega, getD_lt _ _ _ hi_, getD_lt _ _ _ hj] at this
 exact this
theorem rises_in {lo hi : Int} {e : List Int} (h : rises lo hi e = true) : ∀ z ∈ e, lo ≤ z ∧ z ≤ hi := by
 intro z hz
 obtain ⟨i, hi_, rfl⟩ := List.mem_iff_getElem.1 hz
 have := (rises_at h hi_).1
 rwa [getD_lt _ _ _ hi_] at this
theorem rises_len8 {e : List Int} (h : rises 0 7 e = true) : e.length ≤ 8 := by
 have key : ∀ (n : Nat) (l : List Int), l.Pairwise (· < ·) → (∀ z ∈ l, 8 - (n : Int) ≤ z ∧ z ≤ 7) → n ≤ 8 → l.length ≤ n := by
  intro n
  induction n with
  | zero =>
   intro l _ hz _
   cases l with
   | nil => simp
   | cons x l => have := hz x List.mem_cons_self; omega
  | succ n ih =>
   intro l hp hz hn
   cases l with
   | nil => simp
   | cons x l =>
    rw [List.pairwise_cons] at hp
    have hx := hz x List.mem_cons_self
    have := ih l hp.2 (fun z h => by have := hp.1 z h; have := hz z (List.mem_cons_of_mem _ h); omega) (by omega)
    simp only [List.length_cons]
    omega
 exact key 8 e (rises_pairwise h) (fun z hz => by have := rises_in h z hz; omega) (by omega)
def put (G : Int → Int) (x : Int) : Nat → List Int → List Int
 | 0, out => x :: out
 | k + 1, out => if G (out.getD k 0) < G x then put G x k out else out.take (k + 1) ++ x :: out.drop (k + 1)
theorem put_length (G : Int → Int) (x : Int) : ∀ (k : Nat) (out : List Int), (put G x k out).length = out.length + 1
 | 0, out => by simp [put]
 | k + 1, out => by
  simp only [put]
  split
  ·exact put_length G x k out
  ·simp only [List.length_append, List.length_cons, List.length_take, List.length_drop]
   omega
theorem put_mem (G : Int → Int) (x z : Int) : ∀ (k : Nat) (out : List Int), z ∈ put G x k out → z = x ∨ z ∈ out
 | 0, out, h => by simpa [put] using h
 | k + 1, out, h => by
  simp only [put] at h
  split at h
  ·exact put_mem G x z k out h
  ·rcases List.mem_append.1 h with h | h
   ·exact .inr (List.mem_of_mem_take h)
   ·rcases List.mem_cons.1 h with h | h
    ·exact .inl h
    ·exact .inr (List.mem_of_mem_drop h)
theorem put_app (G : Int → Int) (x : Int) (Q : List Int) : ∀ (k : Nat) (P : List Int), k ≤ P.length → put G x k (P ++ Q) = put G x k P ++ Q
 | 0, P, _ => by simp [put]
 | k + 1, P, h => by
  have e1 : (P ++ Q).getD k 0 = P.getD k 0 := by rw [List.getD_eq_getElem?_getD, List.getD_eq_getElem?_getD, List.getElem?_append_left (by omega)]
  simp only [put, e1]
  split
  ·exact put_app G x Q k P (by omega)
  ·rw [List.take_append_of_le_length h, List.drop_append_of_le_length h, List.append_assoc, List.cons_append]
theorem cmpOf_neg (a b : Int) : cmpOf a b < 0 ↔ a < b := by
 unfold cmpOf
 split
 ·simp [*]
 ·split <;> simp [*]
theorem insIn_put (G : Int → Int) (x : Int) : ∀ (k : Nat) (P Q : List Int), P.length = k → insIn (fun a b => cmpOf (G b) (G a)) k (P ++ x :: Q) = put G x k P ++ Q := by
 intro k
 induction k with
 | zero =>
  intro P Q hP
  obtain rfl := List.length_eq_zero_iff.1 hP
  simp [insIn, put]
 | succ k ih =>
  intro P Q hP
  obtain ⟨P', y, rfl⟩ : ∃ P' y, P = P' ++ [y] := ⟨P.dropLast, P.getLast (by intro h; simp [h] at hP), (List.dropLast_concat_getLast _).symm⟩
  have hP' : P'.length = k := by simpa using hP
  have e1 : ((P' ++ [y]) ++ x :: Q).getD (k + 1) 0 = x := by
   rw [List.getD_eq_getElem?_getD, List.getElem?_append_right (by simp; omega)]
   simp [hP']
  have e0 : ((P' ++ [y]) ++ x :: Q).getD k 0 = y := by
   rw [List.getD_eq_getElem?_getD, List.getElem?_append_left (by simp; omega), List.getElem?_append_right (by omega)]
   simp [hP']
  have e2 : (P' ++ [y]).getD k 0 = y := by
   rw [List.getD_eq_getElem?_getD, List.getElem?_append_right (by omega)]
   simp [hP']
  simp only [insIn, put, e0, e1, e2, cmpOf_neg]
  by_cases h : G y < G x
  ·rw [if_pos h, if_pos h, put_app G x [y] k P' (by omega)]
   have hset : ((((P' ++ [y]) ++ x :: Q).set (k + 1) y).set k x) = P' ++ x :: (y :: Q) := by
    rw [List.set_append_right _ _ (by simp; omega)]
    simp only [List.length_append, List.length_singleton, hP', Nat.sub_self, List.set_cons_zero]
    rw [List.append_assoc, List.set_append_right _ _ (by omega)]
    simp [hP']
   rw [hset, ih P' (y :: Q) hP', List.append_assoc]
   rfl
  ·rw [if_neg h, if_neg h, List.take_of_length_le (by simp; omega), List.drop_eq_nil_of_le (by simp; omega)]
   simp
def buildS (G : Int → Int) : List Int → List Int → List Int
 | [], out => out
 | s :: r, out => if G s < 0 then buildS G r out else buildS G r (put G s out.length out)
theorem insOut_build (G : Int → Int) : ∀ (R P : List Int), (∀ z ∈ R, ¬ G z < 0) → insOut (fun a b => cmpOf (G b) (G a)) R.length P.length (P ++ R) = buildS G R P := by
 intro R
 induction R with
 | nil => intro P _; simp [insOut, buildS]
 | cons x R ih =>
  intro P hR
  simp only [List.length_cons, insOut, buildS, if_neg (hR x List.mem_cons_self), insIn_put G x P.length P R rfl]
  rw [← put_length G x P.length P]
  exact ih _ (fun z hz => hR z (List.mem_cons_of_mem _ hz))
theorem build_filter (G : Int → Int) (p : Int → Bool) : ∀ (e out : List Int), (∀ z ∈ e, p z = true ↔ ¬ G z < 0) → buildS G (e.filter p) out = buildS G e out := by
 intro e
 induction e with
 | nil => intro out _; rfl
 | cons x e ih =>
  intro out h
  have hx := h x List.mem_cons_self
  have ht := fun z hz => h z (List.mem_cons_of_mem x hz)
  rw [List.filter_cons]
  by_cases hp : p x = true
  ·rw [if_pos hp]
   simp only [buildS, if_neg (hx.1 hp)]
   exact ih _ ht
  ·rw [if_neg hp]
   have hg : G x < 0 := Decidable.byContradiction (fun hn => hp (hx.2 hn))
   simp only [buildS, if_pos hg]
   exact ih _ ht
theorem build_len (G : Int → Int) : ∀ (e out : List Int), (buildS G e out).length ≤ out.length + e.length
 | [], out => by simp [buildS]
 | x :: e, out => by
  simp only [buildS]
  split
  ·have := build_len G e out
   simp only [List.length_cons]
   omega
  ·have := build_len G e (put G x out.length out)
   rw [put_length] at this
   simp only [List.length_cons]
   omega
def gOf (l : List S58) (ws : List Int) (a : Int) (s : Int) : Int := greatestDown l ws a s 201
theorem sorted_eq (l : List S58) (ws : List Int) (a : Int) (e : List Int) : insOut (rescueCf l ws a) ((e.filter (reachable l ws a)).length - 1) 1 (e.filter (reachable l ws a)) = buildS (gOf l ws a) e [] := by
 have hp : ∀ z, reachable l ws a z = true ↔ ¬ gOf l ws a z < 0 := fun z => by
  have := greatestDown_ge l ws a z 201
  unfold reachable gOf
  rw [bne_iff_ne]
  omega
 rw [← build_filter (gOf l ws a) (reachable l ws a) e [] (fun z _ => hp z)]
 have hall : ∀ z ∈ e.filter (reachable l ws a), ¬ gOf l ws a z < 0 := fun z hz => (hp z).1 (List.mem_filter.1 hz).2
 generalize e.filter (reachable l ws a) = f at hall
 cases f with
 | nil => rfl
 | cons x R =>
  have h1 := insOut_build (gOf l ws a) R [x] (fun z hz => hall z (List.mem_cons_of_mem _ hz))
  simp only [buildS, if_neg (hall x List.mem_cons_self)]
  exact h1
def rescueAns (l : List S58) (ws : List Int) (a : Int) (e : List Int) : List Int × Bool := if okAsked l ws a 0 = true ∧ rises 0 7 e = true then (buildS (gOf l ws a) e [], true) else ([], false)
theorem rescueAns_len (l : List S58) (ws : List Int) (a : Int) (e : List Int) : (rescueAns l ws a e).1.length ≤ 8 := by
 unfold rescueAns
 split
 ·rename_i h
  have h1 := rises_len8 h.2
  have h2 := build_len (gOf l ws a) e []
  simp only [List.length_nil] at h2 ⊢
  omega
 ·simp
theorem rdN (e : List Int) (i : Nat) : rd e (i : Int) = e.getD i 0 := by simp [rd]
theorem getD_mem {e : List Int} {i : Nat} (h : i < e.length) : e.getD i 0 ∈ e := by rw [List.getD_eq_getElem?_getD, List.getElem?_eq_getElem h]; exact List.getElem_mem _
theorem specRescue_inner {l : List S58} {ws : List Int} (hl : okLegs l = true) (hw : l.length ≤ ws.length) (hm : ws.length ≤ 1048576) {a : Int} (ha : 0 ≤ a ∧ a ≤ 7) {e : List Int} (h8 : e.length ≤ 8) {i : Nat} (hi : i < e.length) (out : List Int) (ho : out.length ≤ 8) (hz : ∀ z ∈ out, 0 ≤ z ∧ z ≤ 7) (r : List Int × Bool) : ∀ k, k ≤ out.length →
  Ev (fun n => spec_RescueOrder.l0 n l ws a e (put (gOf l ws a) (e.getD i 0) k out) ((i + 1 : Nat) : Int)) r → Ev (fun n => spec_RescueOrder.l1 n l ws a e out (i : Int) (gOf l ws a (e.getD i 0)) (k : Int)) r := by
 have hwi : wrap64 ((i : Int) + 1) = ((i + 1 : Nat) : Int) := by unfold wrap64; omega
 have htk : ∀ k, (out.take k).length ≤ 8 := fun k => by rw [List.length_take]; omega
 have hdk : ∀ k, (out.drop k).length ≤ 8 := fun k => by rw [List.length_drop]; omega
 intro k
 induction k with
 | zero =>
  intro _ hn
  simp only [put] at hn
  have h1 := htk 0
  have h2 := hdk 0
  refine Ev.step (fun n => ?_) hn
  simp only [spec_RescueOrder.l1, Option.bind_some, hwi, rdN, Int.toNat_natCast, List.nil_append, List.length_nil, List.length_append, List.length_singleton]
  rw [if_neg (by omega), if_pos (by omega), if_pos (by omega), if_pos (by omega), if_pos (by omega), if_pos (by omega), if_pos (by omega), if_pos (by omega)]
  rfl
 | succ k ih =>
  intro hk hn
  have hwk : wrap64 (((k + 1 : Nat) : Int) - 1) = (k : Int) := by unfold wrap64; omega
  have hG := specGreatest_ev hl hw hm ha (hz _ (getD_mem (show k < out.length by omega)))
  have h1 := htk (k + 1)
  have h2 := hdk (k + 1)
  simp only [put] at hn
  by_cases hc : gOf l ws a (out.getD k 0) < gOf l ws a (e.getD i 0)
  ·rw [if_pos hc] at hn
   refine Ev.step (f := fun n => (spec_l15Greatest.f n l ws a (out.getD k 0)).bind fun t => if t < gOf l ws a (e.getD i 0) then spec_RescueOrder.l1 n l ws a e out (i : Int) (gOf l ws a (e.getD i 0)) (k : Int) else spec_RescueOrder.l0 n l ws a e (out.take (k + 1) ++ e.getD i 0 :: out.drop (k + 1)) ((i + 1 : Nat) : Int)) (fun n => ?_) (Ev.bind hG (Ev.ite_pos hc (ih (by omega) hn)))
   simp only [spec_RescueOrder.l1, Option.bind_some, hwi, hwk, rdN, Int.toNat_natCast, List.nil_append, List.length_nil, List.length_append, List.length_singleton, List.append_assoc, List.singleton_append]
   rw [if_pos (by omega), if_pos (by omega), if_pos (by omega)]
   refine congrArg _ (funext fun t => ?_)
   split
   ·rfl
   ·rw [if_pos (by omega), if_pos (by omega), if_pos (by omega), if_pos (by omega), if_pos (by omega), if_pos (by omega), if_pos (by omega)]
  ·rw [if_neg hc] at hn
   refine Ev.step (f := fun n => (spec_l15Greatest.f n l ws a (out.getD k 0)).bind fun t => if t < gOf l ws a (e.getD i 0) then spec_RescueOrder.l1 n l ws a e out (i : Int) (gOf l ws a (e.getD i 0)) (k : Int) else spec_RescueOrder.l0 n l ws a e (out.take (k + 1) ++ e.getD i 0 :: out.drop (k + 1)) ((i + 1 : Nat) : Int)) (fun n => ?_) (Ev.bind hG (Ev.ite_neg hc hn))
   simp only [spec_RescueOrder.l1, Option.bind_some, hwi, hwk, rdN, Int.toNat_natCast, List.nil_append, List.length_nil, List.length_append, List.length_singleton, List.append_assoc, List.singleton_append]
   rw [if_pos (by omega), if_pos (by omega), if_pos (by omega)]
   refine congrArg _ (funext fun t => ?_)
   split
   ·rfl
   ·rw [if_pos (by omega), if_pos (by omega), if_pos (by omega), if_pos (by omega), if_pos (by omega), if_pos (by omega), if_pos (by omega)]
theorem specRescue_outer {l : List S58} {ws : List Int} (hl : okLegs l = true) (hw : l.length ≤ ws.length) (hm : ws.length ≤ 1048576) {a : Int} (ha : 0 ≤ a ∧ a ≤ 7) {e : List Int} (h8 : e.length ≤ 8) (he : ∀ z ∈ e, 0 ≤ z ∧ z ≤ 7) : ∀ d i (out : List Int), i + d = e.length → out.length ≤ i → (∀ z ∈ out, 0 ≤ z ∧ z ≤ 7) →
  Ev (fun n => spec_RescueOrder.l0 n l ws a e out (i : Int)) (buildS (gOf l ws a) (e.drop i) out, true) := by
 intro d
 induction d with
 | zero =>
  intro i out hi _ _
  rw [List.drop_eq_nil_of_le (by omega)]
  simp only [buildS]
  refine Ev.step (f := fun _ => some (out, true)) (fun n => ?_) (Ev.now _)
  simp only [spec_RescueOrder.l0]
  rw [if_neg (by omega)]
 | succ d ih =>
  intro i out hi ho hz
  have hil : i < e.length := by omega
  have hwi : wrap64 ((i : Int) + 1) = ((i + 1 : Nat) : Int) := by unfold wrap64; omega
  have hx : e[i] = e.getD i 0 := by rw [List.getD_eq_getElem?_getD, List.getElem?_eq_getElem hil]; rfl
  have hxm := he _ (getD_mem hil)
  have hG := specGreatest_ev hl hw hm ha hxm
  rw [List.drop_eq_getElem_cons hil, hx]
  simp only [buildS]
  by_cases hc : gOf l ws a (e.getD i 0) < 0
  ·rw [if_pos hc]
   refine Ev.step (f := fun n => (spec_l15Greatest.f n l ws a (e.getD i 0)).bind fun t => if t < 0 then spec_RescueOrder.l0 n l ws a e out ((i + 1 : Nat) : Int) else spec_RescueOrder.l1 n l ws a e out (i : Int) t (out.length : Int)) (fun n => ?_) (Ev.bind hG (Ev.ite_pos hc (ih (i + 1) out (by omega) (by omega) hz)))
   simp only [spec_RescueOrder.l0, hwi, rdN]
   rw [if_pos (by omega), if_pos (by omega)]
  ·rw [if_neg hc]
   refine Ev.step (f := fun n => (spec_l15Greatest.f n l ws a (e.getD i 0)).bind fun t => if t < 0 then spec_RescueOrder.l0 n l ws a e out ((i + 1 : Nat) : Int) else spec_RescueOrder.l1 n l ws a e out (i : Int) t (out.length : Int)) (fun n => ?_)
    (Ev.bind hG (Ev.ite_neg hc (specRescue_inner hl hw hm ha h8 hil out (by omega) hz _ out.length (Nat.le_refl _) (ih (i + 1) _ (by omega) (by rw [put_length]; omega) (fun z hz_ => (put_mem _ _ z _ _ hz_).elim (fun h_ => by rw [h_]; exact hxm) (hz z))))))
   simp only [spec_RescueOrder.l0, hwi, rdN]
   rw [if_pos (by omega), if_pos (by omega)]
theorem specRescue_ev (l : List S58) (ws : List Int) (a : Int) (e : List Int) (hm : l.length ≤ 9223372036854775807) (hw : ws.length ≤ 9223372036854775807) (he : e.length ≤ 1048576) : Ev (fun k => spec_RescueOrder.f k l ws a e) (rescueAns l ws a e) := by
 have hno : Ev (fun k => spec_RescueOrder.j0 k l ws a e [] true) ([], false) := Ev.step (f := fun _ => some ([], false)) (fun k => by rw [spec_RescueOrder.j0, if_pos rfl]) (Ev.now _)
 simp only [spec_RescueOrder.f, Option.bind_some]
 refine Ev.bind (l15Asked_ev l ws a 0 hm hw) ?_
 by_cases h : okAsked l ws a 0 = true
 ·have hs := okAsked_says h
  have hn := okWidths_len hs.1
  have hl := okWidths_legs hs.1
  have h12 := okLegs_len hl
  refine Ev.ite_pos h (Ev.bind (rising_ev e he 0 7) ?_)
  by_cases h2 : rises 0 7 e = true
  ·rw [show rescueAns l ws a e = _ from if_pos ⟨h, h2⟩, show (!rises 0 7 e) = false by rw [h2]; rfl]
   have := specRescue_outer hl (ws := ws) (by omega) (by omega) hs.2.1 (rises_len8 h2) (rises_in h2) e.length 0 [] (by omega) (by simp) (by simp)
   rw [List.drop_zero] at this
   exact Ev.step (fun k => by rw [spec_RescueOrder.j0, if_neg (by decide)]; rfl) this
  ·rw [show rescueAns l ws a e = ([], false) from if_neg (fun hh => h2 hh.2), show (!rises 0 7 e) = true by simpa using h2]
   exact hno
 ·rw [show rescueAns l ws a e = ([], false) from if_neg (fun hh => h hh.1)]
  exact Ev.ite_neg h hno
theorem implRescue_ev (l : List S58) (ws : List Int) (a : Int) (e : List Int) (hm : l.length ≤ 9223372036854775807) (he : e.length ≤ 1048576) : Ev (fun k => impl_RescueOrder.f k l ws a e) (rescueAns l ws a e) := by
 simp only [impl_RescueOrder.f]
 refine Ev.bind (areEnds_ev l ws a a hm) ?_
 rw [okAsked_same]
 by_cases h : okAsked l ws a 0 = true
 ·have hs := okAsked_says h
  have hn := okWidths_len hs.1
  have hl := okWidths_legs hs.1
  refine Ev.ite_pos h (Ev.bind (strictly_ev e he 0 7) ?_)
  by_cases h2 : rises 0 7 e = true
  ·rw [show rescueAns l ws a e = _ from if_pos ⟨h, h2⟩]
   have h8 := rises_len8 h2
   refine Ev.ite_pos h2 (Ev.ite_pos ⟨reachOk_of hl (by omega) (by omega), rises_in h2, by omega⟩ ?_)
   rw [sorted_eq]
   exact Ev.now _
  ·rw [show rescueAns l ws a e = ([], false) from if_neg (fun hh => h2 hh.2)]
   exact Ev.ite_neg h2 (Ev.now _)
 ·rw [show rescueAns l ws a e = ([], false) from if_neg (fun hh => h hh.1)]
  exact Ev.ite_neg h (Ev.now _)
theorem vInts_ev (l : List Int) (hm : l.length ≤ 9223372036854775807) : Ev (fun k => laws_vInts.f k l l) true := by
 simp only [laws_vInts.f]
 refine Ev.ite_pos (by trivial) ?_
 refine loopV_ev (fun k i (_ : Unit) => laws_vInts.l0 k l l i) l.length 0 (fun _ _ => True) true () trivial ?_ ?_
 ·rintro k i - - hi -
  refine .inl ⟨(), trivial, ?_⟩
  simp only [laws_vInts.l0]
  rw [if_pos (by omega), if_pos (by omega), if_pos (by omega), if_pos trivial, wrap_up hi hm]
 ·rintro k - - -
  simp only [laws_vInts.l0]
  rw [if_neg (by omega)]
theorem vHas_ev (l : List Int) (hm : l.length ≤ 9223372036854775807) (x : Int) : Ev (fun k => laws_vHas.f k l x) (decide (x ∈ l)) := by
 simp only [laws_vHas.f]
 have key : ∀ d i, i + d = l.length → Ev (fun k => laws_vHas.l0 k l x (i : Int)) (decide (x ∈ l.drop i)) := by
  intro d
  induction d with
  | zero =>
   intro i hi
   have : l.drop i = [] := List.drop_eq_nil_of_le (by omega)
   rw [this, decide_eq_false (by simp)]
   refine Ev.step (fun k => by rw [laws_vHas.l0]) ?_
   exact Ev.ite_neg (by omega) (Ev.now _)
  | succ d ih =>
   intro i hi
   have hil : i < l.length := by omega
   have h := ih (i + 1) (by omega)
   refine Ev.step (fun k => by rw [laws_vHas.l0]) ?_
   refine Ev.ite_pos (by omega) (Ev.ite_pos (by omega) ?_)
   rw [rd_nat, getD_lt _ _ _ hil, wrap_up hil hm, List.drop_eq_getElem_cons hil]
   by_cases hx : l[i] = x
   ·rw [decide_eq_true (by simp [hx])]
    exact Ev.ite_pos hx (Ev.now _)
   ·rw [show decide (x ∈ l[i] :: l.drop (i + 1)) = decide (x ∈ l.drop (i + 1)) from decide_eq_decide.2 ⟨fun h => (List.mem_cons.1 h).resolve_left (fun e => hx e.symm), fun h => List.mem_cons_of_mem _ h⟩]
    exact Ev.ite_neg hx h
 have := key l.length 0 (by omega)
 simpa using this
theorem vWithin_ev (a b : List Int) (ha : a.length ≤ 9223372036854775807) (hb : b.length ≤ 9223372036854775807) (h : ∀ x ∈ a, x ∈ b) : Ev (fun k => laws_vWithin.f k a b) true := by
 simp only [laws_vWithin.f]
 have key : ∀ d i, i + d = a.length → Ev (fun k => laws_vWithin.l0 k a b (i : Int)) true := by
  intro d
  induction d with
  | zero =>
   intro i hi
   refine Ev.step (fun k => by rw [laws_vWithin.l0]) ?_
   exact Ev.ite_neg (by omega) (Ev.now _)
  | succ d ih =>
   intro i hi
   have hil : i < a.length := by omega
   refine Ev.step (fun k => by rw [laws_vWithin.l0]) ?_
   refine Ev.ite_pos (by omega) (Ev.ite_pos (by omega) ?_)
   rw [rd_nat, getD_lt _ _ _ hil, wrap_up hil ha]
   have hv := vHas_ev b hb a[i]
   rw [decide_eq_true (h _ (List.getElem_mem hil))] at hv
   exact Ev.bind hv (Ev.ite_pos rfl (ih (i + 1) (by omega)))
 exact key a.length 0 (by omega)
end Go.Proofs.Ytoljdjgndogegaa.Pure
