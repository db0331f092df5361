/- The plain part of the law FnCaves: what the program's and the reference's functions answer. -/
import Derived.Test.YtkocflfadlempaaMKx7
import Derived.Test.YtkocflfadlempaaMKx3
import Derived.Test.YtkocflfadlempaaMKx9
import Derived.Test.YtkocflfadlempaaMKx8
import Derived.Test.YtkocflfadlempaaMKx15
import Derived.Test.YtkocflfadlempaaMKx12
import Derived.Test.YtkocflfadlempaaMKx0
import Derived.Test.YtkocflfadlempaaMKx4
import Derived.Test.YtkocflfadlempaaMKx5
import Derived.Test.YtkocflfadlempaaMKx6
import Derived.Test.YtkocflfadlempaaMKx13
namespace Go.Proofs.Ytkocflfadlempaa.Pure
open Go.RowKit Go.Proofs.Ytkocflfadlempaa.MK Go.Proofs.YtkocflfadlempaaW.PrintWords Go.Proofs.YtkocflfadlempaaW.PrintLast
set_option linter.unusedVariables false
set_option linter.unusedSimpArgs false

theorem within_eq (a b c : Int) : impl_within.f a b c = some (decide (b ≤ a ∧ a ≤ c)) := by
 unfold impl_within.f
 by_cases h : a ≥ b
 ·rw [if_pos h]; simp [show b ≤ a from h]
 ·rw [if_neg h]; simp [show ¬ b ≤ a from h]
theorem l1In_eq (a b c : Int) : spec_l1In.f a b c = some (decide (b ≤ a ∧ a ≤ c)) := by
 unfold spec_l1In.f
 by_cases h : a ≥ b
 ·rw [if_pos h]; simp [show b ≤ a from h]
 ·rw [if_neg h]; simp [show ¬ b ≤ a from h]
theorem wrap_id {x : Int} (h0 : -9223372036854775808 ≤ x) (h1 : x ≤ 9223372036854775807) : wrap64 x = x := by
 unfold wrap64
 omega
theorem wrap_up {i : Nat} {n : Nat} (h : i < n) (hn : n ≤ 9223372036854775807) : wrap64 ((i : Int) + 1) = ((i + 1 : Nat) : Int) := by
 unfold wrap64
 omega

theorem Ev.ite_pos {α : Type} {c : Prop} [Decidable c] {g g' : Nat → Option α} {r : α} (hc : c) (h : Ev g r) : Ev (fun k => if c then g k else g' k) r := by
 simpa only [if_pos hc] using h
theorem Ev.ite_neg {α : Type} {c : Prop} [Decidable c] {g g' : Nat → Option α} {r : α} (hc : ¬ c) (h : Ev g' r) : Ev (fun k => if c then g k else g' k) r := by
 simpa only [if_neg hc] using h
theorem Ev.past {α : Type} {g : Nat → Option α} {r : α} (d : Nat) (h : ∀ k, d < k → g k = some r) : Ev g r := ⟨d + 1, fun k hk => h k (by omega)⟩
theorem Ev.bindc {α β : Type} {x : Option α} {f : Nat → α → Option β} {a : α} {r : β} (h : x = some a) (k : Ev (fun n => f n a) r) : Ev (fun n => x.bind (f n)) r := by
 subst h
 exact k

def foldN {σ ρ : Type} (step : Nat → σ → σ ⊕ ρ) (fin : σ → ρ) : Nat → Nat → σ → ρ
 | 0, _, s => fin s
 | n + 1, i, s => match step i s with
  | .inl s' => foldN step fin n (i + 1) s'
  | .inr r => r
theorem loopN {σ ρ : Type} (L : Nat → Int → σ → Option ρ) (n K : Nat) (Inv : Nat → σ → Prop) (step : Nat → σ → σ ⊕ ρ) (fin : σ → ρ)
  (h1 : ∀ k i s, K ≤ k → i < n → Inv i s → (∃ s', step i s = .inl s' ∧ Inv (i + 1) s' ∧ L (k + 1) (i : Int) s = L k ((i + 1 : Nat) : Int) s') ∨ (∃ r, step i s = .inr r ∧ L (k + 1) (i : Int) s = some r))
  (h2 : ∀ k s, K ≤ k → Inv n s → L (k + 1) (n : Int) s = some (fin s)) : ∀ d i s k, i + d = n → K + d < k → Inv i s → L k (i : Int) s = some (foldN step fin d i s) := by
 intro d
 induction d with
 | zero =>
  intro i s k hi hk hv
  obtain ⟨k, rfl⟩ : ∃ m, k = m + 1 := ⟨k - 1, by omega⟩
  obtain rfl : i = n := by omega
  exact h2 k s (by omega) hv
 | succ d ih =>
  intro i s k hi hk hv
  obtain ⟨k, rfl⟩ : ∃ m, k = m + 1 := ⟨k - 1, by omega⟩
  simp only [foldN]
  rcases h1 k i s (by omega) (by omega) hv with ⟨s', hs, hv', hL⟩ | ⟨r, hs, hL⟩
  ·rw [hs, hL]
   exact ih (i + 1) s' k (by omega) (by omega) hv'
  ·rw [hs, hL]
theorem loopN_ev {σ ρ : Type} (L : Nat → Int → σ → Option ρ) (n K : Nat) (Inv : Nat → σ → Prop) (step : Nat → σ → σ ⊕ ρ) (fin : σ → ρ) (s : σ) (hv : Inv 0 s)
  (h1 : ∀ k i s, K ≤ k → i < n → Inv i s → (∃ s', step i s = .inl s' ∧ Inv (i + 1) s' ∧ L (k + 1) (i : Int) s = L k ((i + 1 : Nat) : Int) s') ∨ (∃ r, step i s = .inr r ∧ L (k + 1) (i : Int) s = some r))
  (h2 : ∀ k s, K ≤ k → Inv n s → L (k + 1) (n : Int) s = some (fin s)) : Ev (fun k => L k 0 s) (foldN step fin n 0 s) :=
 Ev.past (K + n) fun k hk => loopN L n K Inv step fin h1 h2 n 0 s k (by omega) hk hv
theorem loopT_ev {σ ρ : Type} (L : Nat → Int → σ → Option ρ) (n K : Nat) (step : Nat → σ → σ ⊕ ρ) (fin : σ → ρ) (s : σ)
  (h1 : ∀ k i s, K ≤ k → i < n → (∃ s', step i s = .inl s' ∧ L (k + 1) (i : Int) s = L k ((i + 1 : Nat) : Int) s') ∨ (∃ r, step i s = .inr r ∧ L (k + 1) (i : Int) s = some r))
  (h2 : ∀ k s, K ≤ k → L (k + 1) (n : Int) s = some (fin s)) : Ev (fun k => L k 0 s) (foldN step fin n 0 s) :=
 loopN_ev L n K (fun _ _ => True) step fin s trivial (fun k i s hk hi _ => (h1 k i s hk hi).imp (fun ⟨s', a, b⟩ => ⟨s', a, trivial, b⟩) id) (fun k s hk _ => h2 k s hk)
theorem loopV_ev {σ ρ : Type} (L : Nat → Int → σ → Option ρ) (n K : Nat) (Inv : Nat → σ → Prop) (r : ρ) (s : σ) (hv : Inv 0 s)
  (h1 : ∀ k i s, K ≤ k → i < n → Inv i s → (∃ s', Inv (i + 1) s' ∧ L (k + 1) (i : Int) s = L k ((i + 1 : Nat) : Int) s') ∨ L (k + 1) (i : Int) s = some r)
  (h2 : ∀ k s, K ≤ k → Inv n s → L (k + 1) (n : Int) s = some r) : Ev (fun k => L k 0 s) r := by
 have key : ∀ d i s k, i + d = n → K + d < k → Inv i s → L k (i : Int) s = some r := by
  intro d
  induction d with
  | zero =>
   intro i s k hi hk hv
   obtain ⟨k, rfl⟩ : ∃ m, k = m + 1 := ⟨k - 1, by omega⟩
   obtain rfl : i = n := by omega
   exact h2 k s (by omega) hv
  | succ d ih =>
   intro i s k hi hk hv
   obtain ⟨k, rfl⟩ : ∃ m, k = m + 1 := ⟨k - 1, by omega⟩
   rcases h1 k i s (by omega) (by omega) hv with ⟨s', hv', hL⟩ | hL
   ·rw [hL]
    exact ih (i + 1) s' k (by omega) (by omega) hv'
   ·exact hL
 exact Ev.past (K + n) fun k hk => key n 0 s k (by omega) hk hv
theorem foldN_all {α : Type} (l : List α) (d : α) (p : α → Bool) (b : Bool) :
  foldN (fun i (_ : Unit) => if p (l.getD i d) = true then Sum.inl () else Sum.inr false) (fun _ => b) l.length 0 () = (l.all p && b) := by
 have key : ∀ e i, i + e = l.length → foldN (fun i (_ : Unit) => if p (l.getD i d) = true then Sum.inl () else Sum.inr false) (fun _ => b) e i () = ((l.drop i).all p && b) := by
  intro e
  induction e with
  | zero =>
   intro i hi
   rw [List.drop_eq_nil_of_le (by omega)]
   rfl
  | succ e ih =>
   intro i hi
   have hl : i < l.length := by omega
   have hg : l.getD i d = l[i] := by simp [List.getD_eq_getElem?_getD, List.getElem?_eq_getElem hl]
   rw [List.drop_eq_getElem_cons hl]
   simp only [foldN, hg, List.all_cons]
   cases hp : p l[i] with
   | true => simpa using ih (i + 1) (by omega)
   | false => simp
 simpa using key l.length 0 (by omega)
theorem rd_nat (l : List Int) (i : Nat) : rd l (i : Int) = l.getD i 0 := by simp [rd]
theorem getD_lt {α : Type} (l : List α) (d : α) (i : Nat) (h : i < l.length) : l.getD i d = l[i] := by simp [List.getD_eq_getElem?_getD, List.getElem?_eq_getElem h]
theorem vInts_ev (l : List Int) (hm : l.length ≤ 9223372036854775807) : Ev (fun k => laws_vInts.f k l l) true := by
 simp only [laws_vInts.f]
 refine Ev.ite_pos (by trivial) ?_
 refine loopV_ev (fun k i (_ : Unit) => laws_vInts.l0 k l l i) l.length 0 (fun _ _ => True) true () trivial ?_ ?_
 ·rintro k i - - hi -
  refine .inl ⟨(), trivial, ?_⟩
  simp only [laws_vInts.l0]
  rw [if_pos (by omega), if_pos (by omega), if_pos (by omega), if_pos trivial, wrap_up hi hm]
 ·rintro k - - -
  simp only [laws_vInts.l0]
  rw [if_neg (by omega)]
def insS (x : Int) : List Int → List Int
 | [] => [x]
 | y :: l => if y < x then y :: insS x l else if y = x then y :: l else x :: y :: l
theorem mem_insS {x z : Int} {l : List Int} : z ∈ insS x l ↔ z = x ∨ z ∈ l := by
 induction l with
 | nil => simp [insS]
 | cons y l ih =>
  simp only [insS]
  split
  ·simp only [List.mem_cons, ih]
   constructor
   ·rintro (h | h | h)
    ·exact .inr (.inl h)
    ·exact .inl h
    ·exact .inr (.inr h)
   ·rintro (h | h | h)
    ·exact .inr (.inl h)
    ·exact .inl h
    ·exact .inr (.inr h)
  ·split
   ·rename_i h1 h2
    subst h2
    simp only [List.mem_cons]
    constructor
    ·exact fun h => .inr h
    ·rintro (h | h)
     ·exact .inl h
     ·exact h
   ·simp only [List.mem_cons]
theorem up_insS {x : Int} {l : List Int} (h : l.Pairwise (· < ·)) : (insS x l).Pairwise (· < ·) := by
 induction l with
 | nil => simp [insS]
 | cons y l ih =>
  rw [List.pairwise_cons] at h
  simp only [insS]
  split
  ·rename_i h1
   rw [List.pairwise_cons]
   refine ⟨fun z hz => ?_, ih h.2⟩
   rcases mem_insS.1 hz with rfl | hz
   ·exact h1
   ·exact h.1 z hz
  ·split
   ·exact List.pairwise_cons.2 h
   ·rename_i h1 h2
    rw [List.pairwise_cons]
    refine ⟨fun z hz => ?_, List.pairwise_cons.2 h⟩
    rcases List.mem_cons.1 hz with rfl | hz
    ·omega
    ·have := h.1 z hz
     omega
def fires (ok : Bool) (a b : Int) (out : List Int) : Bool := ok && (decide (a ∈ out) != decide (b ∈ out))
def fire (ok : Bool) (a b : Int) (out : List Int) : List Int := if fires ok a b out = true then insS b (insS a out) else out
theorem fire_mem {ok : Bool} {a b z : Int} {out : List Int} (h : z ∈ out) : z ∈ fire ok a b out := by
 unfold fire
 split
 ·exact mem_insS.2 (.inr (mem_insS.2 (.inr h)))
 ·exact h
theorem fire_up {ok : Bool} {a b : Int} {out : List Int} (h : out.Pairwise (· < ·)) : (fire ok a b out).Pairwise (· < ·) := by
 unfold fire
 split
 ·exact up_insS (up_insS h)
 ·exact h
theorem fire_new {ok : Bool} {a b z : Int} {out : List Int} (h : z ∈ fire ok a b out) : z ∈ out ∨ z = a ∨ z = b := by
 unfold fire at h
 split at h
 ·rcases mem_insS.1 h with rfl | h
  ·exact .inr (.inr rfl)
  ·rcases mem_insS.1 h with rfl | h
   ·exact .inr (.inl rfl)
   ·exact .inl h
 ·exact .inl h
def iter {σ : Type} (f : Nat → σ → σ) : Nat → Nat → σ → σ
 | 0, _, s => s
 | d + 1, i, s => iter f d (i + 1) (f i s)
def cnt (ok : Nat → Bool) (a b : Nat → Int) (out : List Int) : Nat → Nat
 | 0 => 0
 | n + 1 => cnt ok a b out n + if (ok n && (decide (a n ∈ out) && decide (b n ∈ out))) = true then 1 else 0
theorem cnt_le (ok : Nat → Bool) (a b : Nat → Int) (out : List Int) : ∀ n, cnt ok a b out n ≤ n
 | 0 => Nat.le_refl _
 | n + 1 => by
  have := cnt_le ok a b out n
  simp only [cnt]
  split <;> omega
theorem in_mono {ok : Bool} {a b : Int} {out out' : List Int} (h : ∀ z, z ∈ out → z ∈ out') (hi : (ok && (decide (a ∈ out) && decide (b ∈ out))) = true) : (ok && (decide (a ∈ out') && decide (b ∈ out'))) = true := by
 simp only [Bool.and_eq_true, decide_eq_true_eq] at hi ⊢
 exact ⟨hi.1, h _ hi.2.1, h _ hi.2.2⟩
theorem cnt_mono {ok : Nat → Bool} {a b : Nat → Int} {out out' : List Int} (h : ∀ z, z ∈ out → z ∈ out') : ∀ n, cnt ok a b out n ≤ cnt ok a b out' n
 | 0 => Nat.le_refl _
 | n + 1 => by
  have ih := cnt_mono (ok := ok) (a := a) (b := b) h n
  simp only [cnt]
  by_cases h1 : (ok n && (decide (a n ∈ out) && decide (b n ∈ out))) = true
  ·rw [if_pos h1, if_pos (in_mono h h1)]
   omega
  ·rw [if_neg h1]
   split <;> omega
theorem cnt_lt {ok : Nat → Bool} {a b : Nat → Int} {out out' : List Int} (h : ∀ z, z ∈ out → z ∈ out') {i : Nat} (h0 : ¬ (ok i && (decide (a i ∈ out) && decide (b i ∈ out))) = true) (h1 : (ok i && (decide (a i ∈ out') && decide (b i ∈ out'))) = true) : ∀ n, i < n → cnt ok a b out n < cnt ok a b out' n
 | 0, hi => by omega
 | n + 1, hi => by
  simp only [cnt]
  by_cases hin : i = n
  ·subst hin
   have := cnt_mono (ok := ok) (a := a) (b := b) h i
   rw [if_neg h0, if_pos h1]
   omega
  ·have ih := cnt_lt (ok := ok) (a := a) (b := b) h h0 h1 n (by omega)
   by_cases h2 : (ok n && (decide (a n ∈ out) && decide (b n ∈ out))) = true
   ·rw [if_pos h2, if_pos (in_mono h h2)]
    omega
   ·rw [if_neg h2]
    split <;> omega
def passStep (ok : Nat → Bool) (a b : Nat → Int) (i : Nat) (s : List Int × Bool) : List Int × Bool := (fire (ok i) (a i) (b i) s.1, s.2 || fires (ok i) (a i) (b i) s.1)
def pass (ok : Nat → Bool) (a b : Nat → Int) (n : Nat) (out : List Int) : List Int := iter (fun i s => fire (ok i) (a i) (b i) s) n 0 out
theorem passStep_iter {ok : Nat → Bool} {a b : Nat → Int} {N : Nat} : ∀ d i (out : List Int) (fl : Bool), i + d ≤ N →
  (iter (passStep ok a b) d i (out, fl)).1 = iter (fun i s => fire (ok i) (a i) (b i) s) d i out ∧
  (((iter (passStep ok a b) d i (out, fl)).2 = fl ∧ iter (fun i s => fire (ok i) (a i) (b i) s) d i out = out) ∨
   ((iter (passStep ok a b) d i (out, fl)).2 = true ∧ cnt ok a b out N < cnt ok a b (iter (fun i s => fire (ok i) (a i) (b i) s) d i out) N)) ∧
  (∀ z, z ∈ out → z ∈ iter (fun i s => fire (ok i) (a i) (b i) s) d i out) := by
 intro d
 induction d with
 | zero => intro i out fl _; exact ⟨rfl, .inl ⟨rfl, rfl⟩, fun z hz => hz⟩
 | succ d ih =>
  intro i out fl hi
  simp only [iter]
  obtain ⟨h1, h2, h3⟩ := ih (i + 1) (fire (ok i) (a i) (b i) out) (fl || fires (ok i) (a i) (b i) out) (by omega)
  have hm : ∀ z, z ∈ out → z ∈ fire (ok i) (a i) (b i) out := fun z hz => fire_mem hz
  refine ⟨h1, ?_, fun z hz => h3 z (hm z hz)⟩
  cases hf : fires (ok i) (a i) (b i) out with
  | false =>
   have he : fire (ok i) (a i) (b i) out = out := by unfold fire; rw [hf]; exact if_neg (by decide)
   rw [hf, Bool.or_false] at h2
   rw [he] at h2 ⊢
   simpa only [passStep, hf, Bool.or_false, he] using h2
  | true =>
   have he : fire (ok i) (a i) (b i) out = insS (b i) (insS (a i) out) := by unfold fire; rw [hf]; exact if_pos rfl
   have h0 : ¬ (ok i && (decide (a i ∈ out) && decide (b i ∈ out))) = true := by
    intro hh
    simp only [Bool.and_eq_true] at hh
    simp only [fires, hh.1, hh.2.1, hh.2.2] at hf
    exact absurd hf (by decide)
   have hok : ok i = true := by
    simp only [fires, Bool.and_eq_true] at hf
    exact hf.1
   have hin : (ok i && (decide (a i ∈ fire (ok i) (a i) (b i) out) && decide (b i ∈ fire (ok i) (a i) (b i) out))) = true := by
    simp only [Bool.and_eq_true, decide_eq_true_eq, he]
    exact ⟨hok, mem_insS.2 (.inr (mem_insS.2 (.inl rfl))), mem_insS.2 (.inl rfl)⟩
   have hlt := cnt_lt hm h0 hin N (by omega)
   right
   rw [hf, Bool.or_true] at h2
   simp only [passStep, hf, Bool.or_true]
   rcases h2 with ⟨h4, h5⟩ | ⟨h4, h5⟩
   ·refine ⟨h4, ?_⟩
    rw [h5]
    exact hlt
   ·exact ⟨h4, Nat.lt_trans hlt h5⟩
theorem pass_flag (ok : Nat → Bool) (a b : Nat → Int) (n : Nat) (out : List Int) :
  iter (passStep ok a b) n 0 (out, false) = (pass ok a b n out, decide (pass ok a b n out ≠ out)) ∧ (pass ok a b n out = out ∨ cnt ok a b out n < cnt ok a b (pass ok a b n out) n) := by
 obtain ⟨h1, h2, _⟩ := passStep_iter (ok := ok) (a := a) (b := b) (N := n) n 0 out false (by omega)
 rcases h2 with ⟨h3, h4⟩ | ⟨h3, h4⟩
 ·refine ⟨Prod.ext h1 ?_, .inl h4⟩
  rw [h3, eq_comm, decide_eq_false_iff_not]
  exact fun hh => hh h4
 ·refine ⟨Prod.ext h1 ?_, .inr h4⟩
  rw [h3, eq_comm, decide_eq_true_eq]
  intro hh
  rw [show iter (fun i s => fire (ok i) (a i) (b i) s) n 0 out = out from hh] at h4
  omega
def passes (ok : Nat → Bool) (a b : Nat → Int) (n : Nat) : Nat → List Int → List Int
 | 0, out => out
 | m + 1, out => passes ok a b n m (pass ok a b n out)
theorem passes_still {ok : Nat → Bool} {a b : Nat → Int} {n : Nat} {out : List Int} (h : pass ok a b n out = out) : ∀ m, passes ok a b n m out = out
 | 0 => rfl
 | m + 1 => by simp only [passes, h]; exact passes_still h m
theorem passes_enough (ok : Nat → Bool) (a b : Nat → Int) (n : Nat) : ∀ m out, n ≤ m + cnt ok a b out n → pass ok a b n (passes ok a b n m out) = passes ok a b n m out := by
 intro m
 induction m with
 | zero =>
  intro out h
  rcases (pass_flag ok a b n out).2 with h1 | h1
  ·exact h1
  ·have := cnt_le ok a b (pass ok a b n out) n
   omega
 | succ m ih =>
  intro out h
  simp only [passes]
  rcases (pass_flag ok a b n out).2 with h1 | h1
  ·rw [h1]
   rw [passes_still h1]
   exact h1
  ·exact ih _ (by omega)
def reached (ok : Nat → Bool) (a b : Nat → Int) (n : Nat) (out : List Int) : List Int := passes ok a b n n out
theorem reached_still (ok : Nat → Bool) (a b : Nat → Int) (n : Nat) (out : List Int) : pass ok a b n (reached ok a b n out) = reached ok a b n out := passes_enough ok a b n n out (by omega)
theorem pass_up {ok : Nat → Bool} {a b : Nat → Int} {n : Nat} {out : List Int} (h : out.Pairwise (· < ·)) : (pass ok a b n out).Pairwise (· < ·) := by
 have key : ∀ d i (out : List Int), out.Pairwise (· < ·) → (iter (fun i s => fire (ok i) (a i) (b i) s) d i out).Pairwise (· < ·) := by
  intro d
  induction d with
  | zero => intro i out h; exact h
  | succ d ih => intro i out h; exact ih (i + 1) _ (fire_up h)
 exact key n 0 out h
theorem pass_in {ok : Nat → Bool} {a b : Nat → Int} {n : Nat} {P : Int → Prop} (hab : ∀ i, i < n → P (a i) ∧ P (b i)) {out : List Int} (h : ∀ z ∈ out, P z) : ∀ z ∈ pass ok a b n out, P z := by
 have key : ∀ d i (out : List Int), i + d = n → (∀ z ∈ out, P z) → ∀ z ∈ iter (fun i s => fire (ok i) (a i) (b i) s) d i out, P z := by
  intro d
  induction d with
  | zero => intro i out _ h; exact h
  | succ d ih =>
   intro i out hi h
   refine ih (i + 1) _ (by omega) (fun z hz => ?_)
   rcases fire_new hz with hz | rfl | rfl
   ·exact h z hz
   ·exact (hab i (by omega)).1
   ·exact (hab i (by omega)).2
 exact key n 0 out (by omega) h
theorem passes_up {ok : Nat → Bool} {a b : Nat → Int} {n : Nat} : ∀ m {out : List Int}, out.Pairwise (· < ·) → (passes ok a b n m out).Pairwise (· < ·)
 | 0, _, h => h
 | m + 1, _, h => passes_up m (pass_up h)
theorem passes_in {ok : Nat → Bool} {a b : Nat → Int} {n : Nat} {P : Int → Prop} (hab : ∀ i, i < n → P (a i) ∧ P (b i)) : ∀ m {out : List Int}, (∀ z ∈ out, P z) → ∀ z ∈ passes ok a b n m out, P z
 | 0, _, h => h
 | m + 1, _, h => passes_in hab m (pass_in hab h)
theorem pass_mem {ok : Nat → Bool} {a b : Nat → Int} {n : Nat} {z : Int} {out : List Int} (h : z ∈ out) : z ∈ pass ok a b n out :=
 (passStep_iter (ok := ok) (a := a) (b := b) (N := n) n 0 out false (by omega)).2.2 z h
theorem passes_mem {ok : Nat → Bool} {a b : Nat → Int} {n : Nat} {z : Int} : ∀ m {out : List Int}, z ∈ out → z ∈ passes ok a b n m out
 | 0, _, h => h
 | m + 1, _, h => passes_mem m (pass_mem h)
theorem rising_eq {l : List Int} (h : l.Pairwise (· < ·)) : ∀ (m : Nat) (c : Int), (∀ z ∈ l, c ≤ z ∧ z < c + (m : Int)) → l = ((List.range m).map (fun i : Nat => c + (i : Int))).filter (fun z => decide (z ∈ l)) := by
 intro m
 induction m generalizing l with
 | zero =>
  intro c hl
  cases l with
  | nil => rfl
  | cons y l =>
   have := hl y (by simp)
   omega
 | succ m ih =>
  intro c hl
  have hr : (List.range (m + 1)).map (fun i : Nat => c + (i : Int)) = c :: (List.range m).map (fun i : Nat => (c + 1) + (i : Int)) := by
   rw [List.range_succ_eq_map, List.map_cons, List.map_map]
   congr 1
   ·simp
   ·apply List.map_congr_left
    intro i _
    simp only [Function.comp, Nat.succ_eq_add_one]
    omega
  rw [hr]
  cases l with
  | nil => simp
  | cons y l =>
   rw [List.pairwise_cons] at h
   have hy := hl y (by simp)
   by_cases hyc : y = c
   ·subst hyc
    have hne : ∀ z ∈ (List.range m).map (fun i : Nat => (y + 1) + (i : Int)), decide (z ∈ y :: l) = decide (z ∈ l) := by
     intro z hz
     obtain ⟨i, _, rfl⟩ := List.mem_map.1 hz
     rw [decide_eq_decide, List.mem_cons]
     constructor
     ·rintro (h1 | h1)
      ·omega
      ·exact h1
     ·exact fun h1 => .inr h1
    rw [List.filter_cons, if_pos (by simp), List.filter_congr hne]
    congr 1
    exact ih h.2 (y + 1) (fun z hz => by have := h.1 z hz; have := hl z (by simp [hz]); omega)
   ·rw [List.filter_cons, if_neg ?_]
    ·exact ih (List.pairwise_cons.2 h) (c + 1) (fun z hz => by
      have h1 := hl z hz
      rcases List.mem_cons.1 hz with rfl | hz
      ·omega
      ·have := h.1 z hz
       omega)
    ·rw [decide_eq_true_eq, List.mem_cons]
     rintro (h1 | h1)
     ·omega
     ·have := h.1 c h1
      omega
theorem any_getD (l : List Int) (x : Int) : (∃ i, i < l.length ∧ l.getD i 0 = x) ↔ x ∈ l := by
 constructor
 ·rintro ⟨i, hi, rfl⟩
  rw [getD_lt _ _ _ hi]
  exact List.getElem_mem hi
 ·intro h
  obtain ⟨i, hi, rfl⟩ := List.mem_iff_getElem.1 h
  exact ⟨i, hi, getD_lt _ _ _ hi⟩
theorem l1Has_at (l : List Int) (x : Int) (hm : l.length ≤ 9223372036854775807) : ∀ k, l.length < k → spec_l1Has.f k l x = some (decide (x ∈ l)) := by
 have key : ∀ d i k, i + d = l.length → d < k → (∀ j, j < i → l.getD j 0 ≠ x) → spec_l1Has.l0 k l x (i : Int) = some (decide (x ∈ l)) := by
  intro d
  induction d with
  | zero =>
   intro i k hi hk hno
   obtain ⟨k, rfl⟩ : ∃ m, k = m + 1 := ⟨k - 1, by omega⟩
   simp only [spec_l1Has.l0]
   rw [if_neg (by omega), decide_eq_false]
   intro h
   obtain ⟨j, hj, he⟩ := (any_getD l x).2 h
   exact hno j (by omega) he
  | succ d ih =>
   intro i k hi hk hno
   obtain ⟨k, rfl⟩ : ∃ m, k = m + 1 := ⟨k - 1, by omega⟩
   have hil : i < l.length := by omega
   simp only [spec_l1Has.l0, rd_nat]
   rw [if_pos (by omega), if_pos (by omega), wrap_up hil hm]
   by_cases he : l.getD i 0 = x
   ·rw [if_pos he, decide_eq_true ((any_getD l x).1 ⟨i, hil, he⟩)]
   ·rw [if_neg he]
    refine ih (i + 1) k (by omega) (by omega) (fun j hj => ?_)
    by_cases hji : j = i
    ·rw [hji]; exact he
    ·exact hno j (by omega)
 intro k hk
 exact key l.length 0 k (by omega) hk (fun j hj => by omega)
theorem l1Has_ev {l : List Int} {n : Int} (hm : l.length ≤ 1048576) : Ev (fun k => spec_l1Has.f k l n) (decide (n ∈ l)) := Ev.past l.length fun k hk => l1Has_at l n (by omega) k hk
theorem rdL (l : List S72) (i : Nat) : rd_T72 l (i : Int) = l.getD i z72 := by simp [rd_T72]
def okLeg (x : S72) : Bool := decide (0 ≤ x.f0 ∧ x.f0 ≤ 7) && (decide (0 ≤ x.f1 ∧ x.f1 ≤ 7) && (decide (x.f0 ≠ x.f1) && (decide (1 ≤ x.f2 ∧ x.f2 ≤ 500) && (decide (0 ≤ x.f3 ∧ x.f3 ≤ 359) && decide (-90 ≤ x.f4 ∧ x.f4 ≤ 90)))))
theorem l4Leg_eq (x : S72) : spec_l4Leg.f x.f0 x.f1 x.f2 x.f3 x.f4 = some (okLeg x) := by
 simp only [spec_l4Leg.f, spec_l4Station.f, spec_l2Bearing.f, l1In_eq, Option.bind_some, okLeg]
 by_cases h0 : 0 ≤ x.f0 ∧ x.f0 ≤ 7 <;> by_cases h1 : 0 ≤ x.f1 ∧ x.f1 ≤ 7 <;> by_cases h2 : x.f0 = x.f1 <;> by_cases h3 : 1 ≤ x.f2 ∧ x.f2 ≤ 500 <;> by_cases h4 : 0 ≤ x.f3 ∧ x.f3 ≤ 359 <;> simp [h0, h1, h2, h3, h4]
theorem isLeg_eq (x : S72) : impl_IsLeg.f x.f0 x.f1 x.f2 x.f3 x.f4 = some (okLeg x) := by
 simp only [impl_IsLeg.f, impl_isStation.f, impl_isBearing.f, within_eq, Option.bind_some, okLeg]
 by_cases h0 : 0 ≤ x.f0 ∧ x.f0 ≤ 7 <;> by_cases h1 : 0 ≤ x.f1 ∧ x.f1 ≤ 7 <;> by_cases h2 : x.f0 = x.f1 <;> by_cases h3 : 1 ≤ x.f2 ∧ x.f2 ≤ 500 <;> by_cases h4 : 0 ≤ x.f3 ∧ x.f3 ≤ 359 <;> simp [h0, h1, h2, h3, h4]
def okLegs (l : List S72) : Bool := l.all okLeg && decide (l.length ≤ 12)
theorem l4Legs_ev (l : List S72) (hm : l.length ≤ 9223372036854775807) : Ev (fun k => spec_l4Legs.f k l) (okLegs l) := by
 have h := loopT_ev (fun k i (_ : Unit) => spec_l4Legs.l0 k l i) l.length 0 (fun i (_ : Unit) => if okLeg (l.getD i z72) = true then Sum.inl () else Sum.inr false) (fun _ => decide (l.length ≤ 12)) () ?_ ?_
 ·rw [foldN_all] at h
  exact h
 ·rintro k i - - hi
  cases hp : okLeg (l.getD i z72) with
  | true =>
   refine .inl ⟨(), by simp, ?_⟩
   simp only [spec_l4Legs.l0, rdL, l4Leg_eq, Option.bind_some, hp]
   rw [if_pos (by omega), if_pos (by omega), wrap_up hi hm, if_pos trivial]
  | false =>
   refine .inr ⟨false, by simp, ?_⟩
   simp only [spec_l4Legs.l0, rdL, l4Leg_eq, Option.bind_some, hp]
   rw [if_pos (by omega), if_pos (by omega)]
   rfl
 ·rintro k - -
  simp only [spec_l4Legs.l0]
  rw [if_neg (by omega)]
  simp only [Option.some.injEq, decide_eq_decide]
  omega
theorem areLegs_ev (l : List S72) (hm : l.length ≤ 9223372036854775807) : Ev (fun k => impl_areLegs.f k l) (okLegs l) := by
 simp only [impl_areLegs.f]
 have h := loopT_ev (fun k i (_ : Unit) => impl_areLegs.l0 k l l (l.length : Int) i) l.length 0 (fun i (_ : Unit) => if okLeg (l.getD i z72) = true then Sum.inl () else Sum.inr false) (fun _ => decide (l.length ≤ 12)) () ?_ ?_
 ·rw [foldN_all] at h
  exact h
 ·rintro k i - - hi
  cases hp : okLeg (l.getD i z72) with
  | true =>
   refine .inl ⟨(), by simp, ?_⟩
   simp only [impl_areLegs.l0, rdL, isLeg_eq, Option.bind_some, hp]
   rw [if_pos (by omega), if_pos (by omega), if_pos (by omega), wrap_up hi hm, if_pos trivial]
  | false =>
   refine .inr ⟨false, by simp, ?_⟩
   simp only [impl_areLegs.l0, rdL, isLeg_eq, Option.bind_some, hp]
   rw [if_pos (by omega), if_pos (by omega), if_pos (by omega)]
   rfl
 ·rintro k - -
  simp only [impl_areLegs.l0]
  rw [if_neg (by omega)]
  simp only [Option.some.injEq, decide_eq_decide]
  omega
theorem okLegs_len {l : List S72} (h : okLegs l = true) : l.length ≤ 12 := by
 simp only [okLegs, Bool.and_eq_true, decide_eq_true_eq] at h
 exact h.2
theorem okLegs_at {l : List S72} (h : okLegs l = true) {i : Nat} (hi : i < l.length) : okLeg (l.getD i z72) = true := by
 simp only [okLegs, Bool.and_eq_true, List.all_eq_true] at h
 rw [getD_lt _ _ _ hi]
 exact h.1 _ (List.getElem_mem hi)
theorem okLeg_says {x : S72} (h : okLeg x = true) : (0 ≤ x.f0 ∧ x.f0 ≤ 7) ∧ (0 ≤ x.f1 ∧ x.f1 ≤ 7) ∧ x.f0 ≠ x.f1 ∧ (1 ≤ x.f2 ∧ x.f2 ≤ 500) ∧ (0 ≤ x.f3 ∧ x.f3 ≤ 359) ∧ (-90 ≤ x.f4 ∧ x.f4 ≤ 90) := by
 simpa only [okLeg, Bool.and_eq_true, decide_eq_true_eq] using h
def fromOf (l : List S72) (i : Nat) : Int := (l.getD i z72).f0
def toOf (l : List S72) (i : Nat) : Int := (l.getD i z72).f1
theorem ends_in {l : List S72} (h : okLegs l = true) : ∀ i, i < l.length → (0 ≤ fromOf l i ∧ fromOf l i < 8) ∧ (0 ≤ toOf l i ∧ toOf l i < 8) := by
 intro i hi
 have := okLeg_says (okLegs_at h hi)
 unfold fromOf toOf
 omega
theorem putHit_same : ∀ {l : List Int} {n : Int}, putHit l n = true → insS n l = l
 | [], n, h => by simp [putHit] at h
 | x :: l, n, h => by
  simp only [putHit] at h
  simp only [insS]
  split at h
  ·rename_i hlt
   rw [if_pos hlt, putHit_same h]
  ·rename_i hlt
   rw [if_neg hlt, if_pos (by simpa using h)]
theorem putNew_at {l : List Int} {n : Int} (hm : l.length ≤ 1048576) : ∀ d i k, i + d = l.length → d < k → putHit (l.drop i) n = false → spec_l1PutNew.l0 k l n (i : Int) = some (l.take i ++ insS n (l.drop i)) := by
 intro d
 induction d with
 | zero =>
  intro i k hi hk hh
  obtain ⟨k, rfl⟩ : ∃ m, k = m + 1 := ⟨k - 1, by omega⟩
  simp only [spec_l1PutNew.l0, Option.bind_some, List.nil_append, List.length_append, List.length_nil, List.length_take, List.length_drop, List.length_cons, Int.toNat_natCast]
  rw [if_neg (by omega), if_pos (by omega), if_pos (by omega), if_pos (by omega), if_pos (by omega), if_pos (by omega), List.drop_eq_nil_of_le (by omega)]
  simp [insS]
 | succ d ih =>
  intro i k hi hk hh
  obtain ⟨k, rfl⟩ : ∃ m, k = m + 1 := ⟨k - 1, by omega⟩
  have hil : i < l.length := by omega
  have hd := List.drop_eq_getElem_cons hil
  rw [hd] at hh ⊢
  simp only [putHit] at hh
  simp only [insS]
  simp only [spec_l1PutNew.l0, Option.bind_some, List.nil_append, List.length_append, List.length_nil, List.length_take, List.length_drop, List.length_cons, Int.toNat_natCast, rd_nat, getD_lt _ _ _ hil]
  rw [if_pos (by omega), if_pos (by omega)]
  by_cases h1 : l[i] < n
  ·rw [if_pos h1] at hh ⊢
   rw [if_pos h1, wrap_up hil (by omega), ih (i + 1) k (by omega) (by omega) hh, List.take_succ_eq_append_getElem hil, List.append_assoc]
   rfl
  ·rw [if_neg h1] at hh ⊢
   have h2 : ¬ l[i] = n := by simpa using hh
   rw [if_neg h1, if_neg h2, if_neg h2, if_pos (by omega), if_pos (by omega), if_pos (by omega), if_pos (by omega), hd]
   simp
theorem l1Put_at {l : List Int} {n : Int} (hm : l.length ≤ 1048576) : ∀ k, l.length < k → spec_l1Put.f k l n = some (insS n l) := by
 intro k hk
 unfold spec_l1Put.f
 by_cases h : putHit l n = true
 ·rw [if_pos h, putHit_same h]
 ·rw [if_neg h]
  have := putNew_at (n := n) hm l.length 0 k (by omega) hk (by simpa using h)
  simpa [spec_l1PutNew.f] using this
theorem l1Put_ev {l : List Int} {n : Int} (hm : l.length ≤ 1048576) : Ev (fun k => spec_l1Put.f k l n) (insS n l) := Ev.past l.length fun k hk => l1Put_at hm k hk
def Good (o : List Int) : Prop := o.Pairwise (· < ·) ∧ ∀ z ∈ o, 0 ≤ z ∧ z < 8
theorem Good.len {o : List Int} (h : Good o) : o.length ≤ 8 := by
 have := rising_eq h.1 8 0 (fun z hz => by have := h.2 z hz; omega)
 rw [this]
 exact Nat.le_trans (List.length_filter_le _ _) (by simp)
theorem Good.fire {o : List Int} (h : Good o) {ok : Bool} {a b : Int} (ha : 0 ≤ a ∧ a < 8) (hb : 0 ≤ b ∧ b < 8) : Good (fire ok a b o) :=
 ⟨fire_up h.1, fun z hz => by
  rcases fire_new hz with hz | rfl | rfl
  ·exact h.2 z hz
  ·exact ha
  ·exact hb⟩
theorem Good.one {a : Int} (ha : 0 ≤ a ∧ a < 8) : Good [a] := ⟨by simp, fun z hz => by simp at hz; subst hz; exact ha⟩
def wideEnough (ws : List Int) (width : Int) (i : Nat) : Bool := decide (width ≤ ws.getD i 0)
def stationsOf (l : List S72) (ws : List Int) (from_ width : Int) : List Int := reached (wideEnough ws width) (fromOf l) (toOf l) l.length [from_]
theorem stationsOf_good {l : List S72} (ws : List Int) (hl : okLegs l = true) {from_ : Int} (hf : 0 ≤ from_ ∧ from_ < 8) (width : Int) : Good (stationsOf l ws from_ width) :=
 ⟨passes_up _ (Good.one hf).1, passes_in (P := fun z => 0 ≤ z ∧ z < 8) (ends_in hl) _ (Good.one hf).2⟩
def arrL (o : List Int) : List Bool := (List.range 8).map (fun s : Nat => decide ((s : Int) ∈ o))
theorem arrL_length (o : List Int) : (arrL o).length = 8 := by simp [arrL]
theorem arrL_at (o : List Int) {j : Nat} (h : j < 8) : (arrL o)[j]? = some (decide ((j : Int) ∈ o)) := by simp [arrL, h]
theorem arrL_get {o : List Int} {a : Int} (h : 0 ≤ a ∧ a < 8) : (arrL o).getD a.toNat false = decide (a ∈ o) := by
 rw [List.getD_eq_getElem?_getD, arrL_at o (by omega), Option.getD_some, Int.toNat_of_nonneg h.1]
theorem arrL_set {o : List Int} {a : Int} (h : 0 ≤ a ∧ a < 8) : (arrL o).set a.toNat true = arrL (insS a o) := by
 apply List.ext_getElem?
 intro j
 by_cases hj : j < 8
 ·rw [arrL_at _ hj]
  by_cases hja : a.toNat = j
  ·rw [hja, List.getElem?_set_self (by rw [arrL_length]; exact hj), decide_eq_true]
   exact mem_insS.2 (.inl (by omega))
  ·rw [List.getElem?_set_ne hja, arrL_at _ hj]
   congr 1
   rw [decide_eq_decide, mem_insS]
   constructor
   ·exact fun h => .inr h
   ·rintro (h1 | h1)
    ·omega
    ·exact h1
 ·rw [List.getElem?_eq_none (by rw [List.length_set, arrL_length]; omega), List.getElem?_eq_none (by rw [arrL_length]; omega)]
theorem reachStep_arr {l : List S72} (ws : List Int) (width : Int) (hl : okLegs l = true) {i : Nat} (hi : i < l.length) (o : List Int) : reachStep l ws width i (arrL o) = arrL (fire (wideEnough ws width i) (fromOf l i) (toOf l i) o) := by
 have he := ends_in hl i hi
 unfold reachStep fire fires
 rw [show (l.getD i z72).f0 = fromOf l i from rfl, show (l.getD i z72).f1 = toOf l i from rfl, arrL_get he.1, arrL_get he.2, arrL_set he.1, arrL_set he.2]
 rw [show wideEnough ws width i = decide (width ≤ ws.getD i 0) from rfl]
 split <;> rfl
theorem reachPass_arr {l : List S72} (ws : List Int) (width : Int) (hl : okLegs l = true) : ∀ d i (o : List Int), i + d = l.length → reachPass l ws width d i (arrL o) = arrL (iter (fun i s => fire (wideEnough ws width i) (fromOf l i) (toOf l i) s) d i o)
 | 0, _, _, _ => rfl
 | d + 1, i, o, h => by
  simp only [reachPass, iter]
  rw [reachStep_arr ws width hl (by omega) o]
  exact reachPass_arr ws width hl d (i + 1) _ (by omega)
theorem reachAll_arr {l : List S72} (ws : List Int) (width : Int) (hl : okLegs l = true) : ∀ m (o : List Int), reachAll l ws width m (arrL o) = arrL (passes (wideEnough ws width) (fromOf l) (toOf l) l.length m o)
 | 0, _ => rfl
 | m + 1, o => by
  simp only [reachAll, passes]
  rw [reachPass_arr ws width hl l.length 0 o (by omega)]
  exact reachAll_arr ws width hl m _
theorem start_arr {a : Int} (h : 0 ≤ a ∧ a < 8) : (List.replicate 8 false).set a.toNat true = arrL [a] := by
 have h0 : List.replicate 8 false = arrL [] := by simp [arrL, List.range_succ]
 rw [h0, arrL_set h]
 rfl
theorem reachOf_arr {l : List S72} (ws : List Int) (hl : okLegs l = true) {from_ : Int} (hf : 0 ≤ from_ ∧ from_ < 8) (width : Int) : reachOf l ws from_ width = arrL (stationsOf l ws from_ width) := by
 unfold reachOf
 rw [start_arr hf, reachAll_arr ws width hl]
 rfl
theorem reachOk_of {l : List S72} {ws : List Int} (hl : okLegs l = true) (hw : l.length ≤ ws.length) {from_ : Int} (hf : 0 ≤ from_ ∧ from_ < 8) : reachOk l ws from_ = true := by
 unfold reachOk
 simp only [Bool.and_eq_true, decide_eq_true_eq, List.all_eq_true]
 refine ⟨hw, ⟨hf.1, by omega⟩, fun x hx => ?_⟩
 obtain ⟨i, hi, rfl⟩ := List.mem_iff_getElem.1 hx
 have := okLeg_says (okLegs_at hl hi)
 rw [getD_lt _ _ _ hi] at this
 omega
theorem memFrom_eq (B : List Bool) : ∀ d i acc, memFrom B d i acc = acc ++ ((List.range d).map (fun j : Nat => ((i + j : Nat) : Int))).filter (fun z => B.getD z.toNat false)
 | 0, _, _ => by simp [memFrom]
 | d + 1, i, acc => by
  have hr : (List.range (d + 1)).map (fun j : Nat => ((i + j : Nat) : Int)) = (i : Int) :: (List.range d).map (fun j : Nat => ((i + 1 + j : Nat) : Int)) := by
   rw [List.range_succ_eq_map, List.map_cons, List.map_map]
   congr 1
   apply List.map_congr_left
   intro j _
   simp only [Function.comp, Nat.succ_eq_add_one]
   omega
  simp only [memFrom]
  rw [hr, memFrom_eq B d (i + 1), List.filter_cons, Int.toNat_natCast]
  cases B.getD i false with
  | true => simp
  | false => simp
theorem memFrom_arr {o : List Int} (h : Good o) : memFrom (arrL o) 8 0 [] = o := by
 rw [memFrom_eq, List.nil_append]
 have h1 := rising_eq h.1 8 0 (fun z hz => by have := h.2 z hz; omega)
 have h2 : (List.range 8).map (fun j : Nat => ((0 + j : Nat) : Int)) = (List.range 8).map (fun i : Nat => (0 : Int) + (i : Int)) := by
  apply List.map_congr_left
  intro j _
  omega
 rw [h2]
 conv => rhs; rw [h1]
 apply List.filter_congr
 intro z hz
 obtain ⟨i, hi, rfl⟩ := List.mem_map.1 hz
 have hi := List.mem_range.1 hi
 rw [arrL_get (by omega)]
def noWidths (l : List S72) : List Int := List.replicate l.length 0
theorem wide_all (l : List S72) (i : Nat) : wideEnough (noWidths l) 0 i = true := by
 unfold wideEnough noWidths
 rw [List.getD_eq_getElem?_getD, List.getElem?_replicate]
 split <;> simp
theorem specCave_inner {l : List S72} (hl : okLegs l = true) (r : List Int) : ∀ d i (o : List Int) (fl : Bool), i + d = l.length → Good o →
  Ev (fun k => spec_l17Cave.l0 k l (-1) (iter (passStep (wideEnough (noWidths l) 0) (fromOf l) (toOf l)) d i (o, fl)).1 (iter (passStep (wideEnough (noWidths l) 0) (fromOf l) (toOf l)) d i (o, fl)).2) r →
  Ev (fun k => spec_l17Cave.l1 k l (-1) o fl (i : Int)) r := by
 have h12 := okLegs_len hl
 intro d
 induction d with
 | zero =>
  intro i o fl hi hg h
  refine Ev.step (fun k => ?_) h
  simp only [spec_l17Cave.l1, iter]
  rw [if_neg (by omega)]
 | succ d ih =>
  intro i o fl hi hg h
  have hil : i < l.length := by omega
  have he := ends_in hl i hil
  have h8 := hg.len
  have hok := wide_all l i
  simp only [iter, passStep] at h
  have hnext := ih (i + 1) _ _ (by omega) (hg.fire (ok := wideEnough (noWidths l) 0 i) he.1 he.2) h
  have hwr : wrap64 ((i : Int) + 1) = ((i + 1 : Nat) : Int) := by unfold wrap64; omega
  refine Ev.step (f := fun k => (spec_l1Has.f k o (fromOf l i)).bind fun t => (spec_l1Has.f k o (toOf l i)).bind fun t2 => spec_l17Cave.j2 k l (-1) o fl (i : Int) (fromOf l i) (toOf l i) (t == t2)) (fun k => ?_) (Ev.bind (l1Has_ev (by omega)) (Ev.bind (l1Has_ev (by omega)) ?_))
  ·simp only [spec_l17Cave.l1, rdL]
   rw [if_pos (by omega), if_pos (by omega), if_neg (by have := he.1.1; unfold fromOf at this; omega), if_neg (by have := he.2.1; unfold toOf at this; omega)]
   rfl
  ·cases hb : decide (fromOf l i ∈ o) == decide (toOf l i ∈ o) with
   | true =>
    have hf : fires (wideEnough (noWidths l) 0 i) (fromOf l i) (toOf l i) o = false := by unfold fires; rw [hok, bne, hb]; rfl
    have hfi : fire (wideEnough (noWidths l) 0 i) (fromOf l i) (toOf l i) o = o := by unfold fire; rw [hf]; exact if_neg (by decide)
    rw [hfi, hf, Bool.or_false] at hnext
    refine Ev.step (fun k => ?_) hnext
    simp only [spec_l17Cave.j2, hwr, if_true]
   | false =>
    have hf : fires (wideEnough (noWidths l) 0 i) (fromOf l i) (toOf l i) o = true := by unfold fires; rw [hok, bne, hb]; rfl
    have hfi : fire (wideEnough (noWidths l) 0 i) (fromOf l i) (toOf l i) o = insS (toOf l i) (insS (fromOf l i) o) := by unfold fire; rw [hf]; exact if_pos rfl
    rw [hfi, hf, Bool.or_true] at hnext
    refine Ev.step (f := fun k => (spec_l1Put.f k o (fromOf l i)).bind fun t => (spec_l1Put.f k t (toOf l i)).bind fun t2 => spec_l17Cave.l1 k l (-1) t2 true ((i + 1 : Nat) : Int)) (fun k => ?_) (Ev.bind (l1Put_ev (by omega)) (Ev.bind (l1Put_ev ?_) hnext))
    ·simp only [spec_l17Cave.j2, hwr, Bool.false_eq_true, if_false]
    ·have hg1 : Good (insS (fromOf l i) o) := ⟨up_insS hg.1, fun z hz => by
      rcases mem_insS.1 hz with rfl | hz
      ·exact he.1
      ·exact hg.2 z hz⟩
     have := hg1.len
     omega
theorem specCave_outer {l : List S72} (hl : okLegs l = true) : ∀ m (o : List Int), Good o → l.length ≤ m + cnt (wideEnough (noWidths l) 0) (fromOf l) (toOf l) o l.length →
  Ev (fun k => spec_l17Cave.l0 k l (-1) o true) (passes (wideEnough (noWidths l) 0) (fromOf l) (toOf l) l.length m o) := by
 intro m
 induction m with
 | zero =>
  intro o hg hc
  obtain ⟨hp, hq⟩ := pass_flag (wideEnough (noWidths l) 0) (fromOf l) (toOf l) l.length o
  have hs : pass (wideEnough (noWidths l) 0) (fromOf l) (toOf l) l.length o = o := by
   rcases hq with hq | hq
   ·exact hq
   ·have := cnt_le (wideEnough (noWidths l) 0) (fromOf l) (toOf l) (pass (wideEnough (noWidths l) 0) (fromOf l) (toOf l) l.length o) l.length
    omega
  refine Ev.step (f := fun k => spec_l17Cave.l1 k l (-1) o false ((0 : Nat) : Int)) (fun k => ?_) (specCave_inner hl _ l.length 0 o false (by omega) hg ?_)
  ·simp only [spec_l17Cave.l0, if_true]
   rfl
  ·rw [hp, hs]
   simp only [ne_eq, not_true_eq_false, decide_false, passes]
   refine Ev.step (f := fun _ => some o) (fun k => ?_) (Ev.now _)
   simp only [spec_l17Cave.l0, Bool.false_eq_true, if_false]
 | succ m ih =>
  intro o hg hc
  obtain ⟨hp, hq⟩ := pass_flag (wideEnough (noWidths l) 0) (fromOf l) (toOf l) l.length o
  refine Ev.step (f := fun k => spec_l17Cave.l1 k l (-1) o false ((0 : Nat) : Int)) (fun k => ?_) (specCave_inner hl _ l.length 0 o false (by omega) hg ?_)
  ·simp only [spec_l17Cave.l0, if_true]
   rfl
  ·rw [hp]
   by_cases hs : pass (wideEnough (noWidths l) 0) (fromOf l) (toOf l) l.length o = o
   ·rw [hs, passes_still hs]
    simp only [ne_eq, not_true_eq_false, decide_false]
    refine Ev.step (f := fun _ => some o) (fun k => ?_) (Ev.now _)
    simp only [spec_l17Cave.l0, Bool.false_eq_true, if_false]
   ·simp only [ne_eq, hs, not_false_eq_true, decide_true, passes]
    refine ih _ ⟨pass_up hg.1, pass_in (P := fun z => 0 ≤ z ∧ z < 8) (ends_in hl) hg.2⟩ ?_
    rcases hq with hq | hq
    ·exact absurd hq hs
    ·omega
def caveOf (l : List S72) (a : Int) : List Int := stationsOf l (noWidths l) a 0
theorem specCave_ev {l : List S72} (hl : okLegs l = true) {a : Int} (ha : 0 ≤ a ∧ a < 8) : Ev (fun k => spec_l17Cave.f k l a (-1)) (caveOf l a) := by
 simp only [spec_l17Cave.f]
 exact specCave_outer hl l.length [a] (Good.one ha) (by omega)
theorem caveOf_good {l : List S72} (hl : okLegs l = true) {a : Int} (ha : 0 ≤ a ∧ a < 8) : Good (caveOf l a) := stationsOf_good _ hl ha 0
theorem hangOf_arr {l : List S72} (hl : okLegs l = true) {a : Int} (ha : 0 ≤ a ∧ a < 8) : hangOf l a = arrL (caveOf l a) := reachOf_arr (noWidths l) hl ha 0
theorem hangOk_of {l : List S72} (hl : okLegs l = true) {a : Int} (ha : 0 ≤ a ∧ a < 8) : hangOk l a = true := by
 unfold hangOk
 rw [reachOk_of hl (by rw [List.length_replicate]; omega) ha, decide_eq_true (okLegs_len hl)]
 rfl
theorem fire_least {ok : Bool} {a b : Int} {out : List Int} {P : Int → Prop} (hab : ok = true → (P a ↔ P b)) (h : ∀ z ∈ out, P z) : ∀ z ∈ fire ok a b out, P z := by
 intro z hz
 unfold fire at hz
 split at hz
 ·rename_i hf
  unfold fires at hf
  rw [Bool.and_eq_true] at hf
  have hi := hab hf.1
  have hp : P a ∧ P b := by
   by_cases ha : a ∈ out
   ·exact ⟨h a ha, hi.1 (h a ha)⟩
   ·by_cases hb : b ∈ out
    ·exact ⟨hi.2 (h b hb), h b hb⟩
    ·simp [ha, hb] at hf
  rcases mem_insS.1 hz with rfl | hz
  ·exact hp.2
  ·rcases mem_insS.1 hz with rfl | hz
   ·exact hp.1
   ·exact h z hz
 ·exact h z hz
theorem iter_least {ok : Nat → Bool} {a b : Nat → Int} {n : Nat} {P : Int → Prop} (hab : ∀ i, i < n → ok i = true → (P (a i) ↔ P (b i))) : ∀ d i (out : List Int), i + d ≤ n → (∀ z ∈ out, P z) → ∀ z ∈ iter (fun i s => fire (ok i) (a i) (b i) s) d i out, P z
 | 0, _, _, _, h => h
 | d + 1, i, out, hi, h => iter_least hab d (i + 1) _ (by omega) (fire_least (hab i (by omega)) h)
theorem passes_least {ok : Nat → Bool} {a b : Nat → Int} {n : Nat} {P : Int → Prop} (hab : ∀ i, i < n → ok i = true → (P (a i) ↔ P (b i))) : ∀ m (out : List Int), (∀ z ∈ out, P z) → ∀ z ∈ passes ok a b n m out, P z
 | 0, _, h => h
 | m + 1, out, h => passes_least hab m _ (iter_least hab n 0 out (by omega) h)
theorem iter_mem {ok : Nat → Bool} {a b : Nat → Int} {z : Int} : ∀ d i (out : List Int), z ∈ out → z ∈ iter (fun i s => fire (ok i) (a i) (b i) s) d i out
 | 0, _, _, h => h
 | d + 1, i, _, h => iter_mem d (i + 1) _ (fire_mem h)
theorem iter_closed {ok : Nat → Bool} {a b : Nat → Int} : ∀ d i (out : List Int), (∀ z ∈ iter (fun i s => fire (ok i) (a i) (b i) s) d i out, z ∈ out) → ∀ j, i ≤ j → j < i + d → ok j = true → (a j ∈ out ↔ b j ∈ out) := by
 intro d
 induction d with
 | zero => intro i out _ j h1 h2; omega
 | succ d ih =>
  intro i out h j h1 h2 hj
  have hsame : ∀ z, z ∈ fire (ok i) (a i) (b i) out ↔ z ∈ out := fun z => ⟨fun hz => h z (iter_mem d (i + 1) _ hz), fire_mem⟩
  by_cases hji : j = i
  ·subst hji
   cases hf : fires (ok j) (a j) (b j) out with
   | false =>
    unfold fires at hf
    rw [hj, Bool.true_and] at hf
    by_cases ha : a j ∈ out <;> by_cases hb : b j ∈ out <;> simp [ha, hb] at hf ⊢
   | true =>
    have e : fire (ok j) (a j) (b j) out = insS (b j) (insS (a j) out) := by unfold fire; rw [if_pos hf]
    exact ⟨fun _ => (hsame _).1 (by rw [e]; exact mem_insS.2 (.inl rfl)), fun _ => (hsame _).1 (by rw [e]; exact mem_insS.2 (.inr (mem_insS.2 (.inl rfl))))⟩
  ·have := ih (i + 1) (fire (ok i) (a i) (b i) out) (fun z hz => (hsame z).2 (h z hz)) j (by omega) (by omega) hj
   rwa [hsame, hsame] at this
theorem caveOf_self (l : List S72) (a : Int) : a ∈ caveOf l a := passes_mem _ (by simp)
theorem caveOf_closed (l : List S72) (a : Int) {j : Nat} (hj : j < l.length) : fromOf l j ∈ caveOf l a ↔ toOf l j ∈ caveOf l a := by
 have hs := reached_still (wideEnough (noWidths l) 0) (fromOf l) (toOf l) l.length [a]
 refine iter_closed l.length 0 (caveOf l a) (fun z hz => ?_) j (by omega) (by omega) (wide_all l j)
 have hz' : z ∈ pass (wideEnough (noWidths l) 0) (fromOf l) (toOf l) l.length (caveOf l a) := hz
 have e : pass (wideEnough (noWidths l) 0) (fromOf l) (toOf l) l.length (caveOf l a) = caveOf l a := hs
 rwa [e] at hz'
theorem caveOf_sub {l : List S72} {a b : Int} (h : b ∈ caveOf l a) : ∀ z ∈ caveOf l b, z ∈ caveOf l a :=
 passes_least (P := fun z => z ∈ caveOf l a) (fun _ hi _ => caveOf_closed l a hi) _ [b] (fun z hz => by simp at hz; subst hz; exact h)
theorem caveOf_symm {l : List S72} {a b : Int} (h : b ∈ caveOf l a) : a ∈ caveOf l b := by
 refine passes_least (P := fun z => a ∈ caveOf l z) (fun i hi _ => ?_) _ [a] (fun z hz => by simp at hz; subst hz; exact caveOf_self l z) b h
 have h1 : toOf l i ∈ caveOf l (fromOf l i) := (caveOf_closed l _ hi).1 (caveOf_self l _)
 have h2 : fromOf l i ∈ caveOf l (toOf l i) := (caveOf_closed l _ hi).2 (caveOf_self l _)
 exact ⟨fun h => caveOf_sub h2 a h, fun h => caveOf_sub h1 a h⟩
theorem caveOf_eq {l : List S72} (hl : okLegs l = true) {a b : Int} (ha : 0 ≤ a ∧ a < 8) (hb : 0 ≤ b ∧ b < 8) (h : b ∈ caveOf l a) : caveOf l b = caveOf l a := by
 have g1 := caveOf_good hl ha
 have g2 := caveOf_good hl hb
 have e1 := rising_eq g1.1 8 0 (fun z hz => by have := g1.2 z hz; omega)
 have e2 := rising_eq g2.1 8 0 (fun z hz => by have := g2.2 z hz; omega)
 rw [e1, e2]
 apply List.filter_congr
 intro z _
 rw [decide_eq_decide]
 exact ⟨fun hz => caveOf_sub h z hz, fun hz => caveOf_sub (caveOf_symm h) z hz⟩
theorem caveOf_first {l : List S72} (hl : okLegs l = true) {a : Int} (ha : 0 ≤ a ∧ a < 8) : rd (caveOf l a) 0 = a ↔ ∀ t, 0 ≤ t → t < a → a ∉ caveOf l t := by
 have g := caveOf_good hl ha
 have hs := caveOf_self l a
 obtain ⟨x, o, e⟩ : ∃ x o, caveOf l a = x :: o := by
  cases hc : caveOf l a with
  | nil => rw [hc] at hs; simp at hs
  | cons x o => exact ⟨x, o, rfl⟩
 have hx : rd (caveOf l a) 0 = x := by rw [e]; rfl
 have hmin : ∀ z ∈ caveOf l a, x ≤ z := by
  intro z hz
  have hp := g.1
  rw [e, List.pairwise_cons] at hp
  rw [e] at hz
  rcases List.mem_cons.1 hz with rfl | hz
  ·omega
  ·have := hp.1 z hz
   omega
 have hxm : x ∈ caveOf l a := by rw [e]; exact List.mem_cons_self
 rw [hx]
 constructor
 ·rintro rfl t h0 h1 h2
  have := hmin t (caveOf_symm h2)
  omega
 ·intro h
  have h1 := hmin a hs
  have h2 := g.2 x hxm
  by_cases h3 : x < a
  ·exact absurd (caveOf_symm hxm) (h x h2.1 h3)
  ·omega
def touches (l : List S72) (s : Int) (i : Nat) : Bool := decide (fromOf l i = s) || decide (toOf l i = s)
def legsAtL (l : List S72) (s : Int) : List Int := ((List.range' 0 l.length).filter (touches l s)).map (fun j : Nat => (j : Int))
theorem legsAt_loop {l : List S72} (h12 : l.length ≤ 12) (s : Int) : ∀ d i (acc : List Int), i + d = l.length → acc.length ≤ i → Ev (fun k => impl_legsAt.l0 k s acc l (l.length : Int) (i : Int)) (acc ++ ((List.range' i d).filter (touches l s)).map (fun j : Nat => (j : Int))) := by
 intro d
 induction d with
 | zero =>
  intro i acc hi _
  refine Ev.step (f := fun _ => some acc) (fun k => ?_) (by simpa using Ev.now acc)
  simp only [impl_legsAt.l0]
  rw [if_neg (by omega)]
 | succ d ih =>
  intro i acc hi ha
  have hil : i < l.length := by omega
  have hwr : wrap64 ((i : Int) + 1) = ((i + 1 : Nat) : Int) := by unfold wrap64; omega
  rw [List.range'_succ, List.filter_cons]
  by_cases h1 : fromOf l i = s
  ·rw [show touches l s i = true by simp [touches, h1], if_pos rfl, List.map_cons, List.append_cons]
   refine Ev.step (fun k => ?_) (ih (i + 1) (acc ++ [(i : Int)]) (by omega) (by simp; omega))
   simp only [impl_legsAt.l0, rdL, hwr]
   rw [if_pos (by omega), if_pos (by omega), if_pos (by omega), if_pos (show (l.getD i z72).f0 = s from h1), if_pos (by omega)]
  ·by_cases h2 : toOf l i = s
   ·rw [show touches l s i = true by simp [touches, h2], if_pos rfl, List.map_cons, List.append_cons]
    refine Ev.step (fun k => ?_) (ih (i + 1) (acc ++ [(i : Int)]) (by omega) (by simp; omega))
    simp only [impl_legsAt.l0, rdL, hwr]
    rw [if_pos (by omega), if_pos (by omega), if_pos (by omega), if_neg (show ¬ (l.getD i z72).f0 = s from h1), if_pos (show (l.getD i z72).f1 = s from h2), if_pos (by omega)]
   ·rw [show touches l s i = false by simp [touches, h1, h2], if_neg (by decide)]
    refine Ev.step (fun k => ?_) (ih (i + 1) acc (by omega) (by omega))
    simp only [impl_legsAt.l0, rdL, hwr]
    rw [if_pos (by omega), if_pos (by omega), if_pos (by omega), if_neg (show ¬ (l.getD i z72).f0 = s from h1), if_neg (show ¬ (l.getD i z72).f1 = s from h2)]
theorem legsAt_ev {l : List S72} (h12 : l.length ≤ 12) (s : Int) : Ev (fun k => impl_legsAt.f k l s) (legsAtL l s) := by
 have h := legsAt_loop h12 s l.length 0 [] (by omega) (by simp)
 rw [List.nil_append] at h
 simp only [impl_legsAt.f]
 exact h
def usedB (l : List S72) (s : Int) : Bool := (List.range' 0 l.length).any (touches l s)
theorem used_loop {l : List S72} (h12 : l.length ≤ 12) (s : Int) : ∀ d i, i + d = l.length → Ev (fun k => spec_l17Used.l0 k l s (i : Int)) ((List.range' i d).any (touches l s)) := by
 intro d
 induction d with
 | zero =>
  intro i hi
  refine Ev.step (f := fun _ => some false) (fun k => ?_) (by simpa using Ev.now false)
  simp only [spec_l17Used.l0]
  rw [if_neg (by omega)]
 | succ d ih =>
  intro i hi
  have hil : i < l.length := by omega
  have hwr : wrap64 ((i : Int) + 1) = ((i + 1 : Nat) : Int) := by unfold wrap64; omega
  rw [List.range'_succ, List.any_cons]
  by_cases h1 : fromOf l i = s
  ·rw [show touches l s i = true by simp [touches, h1], Bool.true_or]
   refine Ev.step (f := fun _ => some true) (fun k => ?_) (Ev.now _)
   simp only [spec_l17Used.l0, rdL]
   rw [if_pos (by omega), if_pos (by omega), if_pos (show (l.getD i z72).f0 = s from h1)]
  ·by_cases h2 : toOf l i = s
   ·rw [show touches l s i = true by simp [touches, h2], Bool.true_or]
    refine Ev.step (f := fun _ => some true) (fun k => ?_) (Ev.now _)
    simp only [spec_l17Used.l0, rdL]
    rw [if_pos (by omega), if_pos (by omega), if_neg (show ¬ (l.getD i z72).f0 = s from h1), if_pos (show (l.getD i z72).f1 = s from h2)]
   ·rw [show touches l s i = false by simp [touches, h1, h2], Bool.false_or]
    refine Ev.step (fun k => ?_) (ih (i + 1) (by omega))
    simp only [spec_l17Used.l0, rdL, hwr]
    rw [if_pos (by omega), if_pos (by omega), if_neg (show ¬ (l.getD i z72).f0 = s from h1), if_neg (show ¬ (l.getD i z72).f1 = s from h2)]
theorem used_ev {l : List S72} (h12 : l.length ≤ 12) (s : Int) : Ev (fun k => spec_l17Used.f k l s) (usedB l s) := by
 have h := used_loop h12 s l.length 0 (by omega)
 simp only [spec_l17Used.f]
 exact h
theorem used_iff {l : List S72} {s : Int} : usedB l s = true ↔ ∃ i, i < l.length ∧ (fromOf l i = s ∨ toOf l i = s) := by
 simp [usedB, touches, List.any_eq_true, List.mem_range'_1]
theorem legsAt_none {l : List S72} {s : Int} : (legsAtL l s).length = 0 ↔ usedB l s = false := by
 rw [legsAtL, List.length_map, List.length_eq_zero_iff, List.filter_eq_nil_iff, usedB, List.any_eq_false]
theorem caveOf_used {l : List S72} {a z : Int} (h : z ∈ caveOf l a) : z = a ∨ usedB l z = true := by
 refine passes_least (P := fun z => z = a ∨ usedB l z = true) (fun i hi _ => ?_) _ [a] (fun z hz => by simp at hz; exact .inl hz) z h
 have h1 : usedB l (fromOf l i) = true := used_iff.2 ⟨i, hi, .inl rfl⟩
 have h2 : usedB l (toOf l i) = true := used_iff.2 ⟨i, hi, .inr rfl⟩
 exact ⟨fun _ => .inr h2, fun _ => .inr h1⟩
def takes (l : List S72) (s : Int) : Bool := usedB l s && decide (rd (caveOf l s) 0 = s)
def cavesFrom (l : List S72) : Nat → Int → List (List Int) → List (List Int)
 | 0, _, all => all
 | d + 1, s, all => cavesFrom l d (s + 1) (if takes l s = true then all ++ [caveOf l s] else all)
def cavesOf (l : List S72) : List (List Int) := cavesFrom l 8 0 []
structure Told (l : List S72) (x : Int) (all : List (List Int)) : Prop where
 some_ : ∀ c ∈ all, ∃ t, 0 ≤ t ∧ t < x ∧ takes l t = true ∧ c = caveOf l t
 all_ : ∀ t, 0 ≤ t → t < x → takes l t = true → caveOf l t ∈ all
 len : all.length ≤ x.toNat
theorem Told.none_ (l : List S72) : Told l 0 [] := ⟨fun c hc => by simp at hc, fun t h0 h1 => by omega, by simp⟩
theorem Told.step {l : List S72} {x : Int} {all : List (List Int)} (h : Told l x all) (h0 : 0 ≤ x) : Told l (x + 1) (if takes l x = true then all ++ [caveOf l x] else all) := by
 by_cases ht : takes l x = true
 ·rw [if_pos ht]
  refine ⟨fun c hc => ?_, fun t ht0 ht1 htt => ?_, ?_⟩
  ·rcases List.mem_append.1 hc with hc | hc
   ·obtain ⟨t, a, b, c', e⟩ := h.some_ c hc
    exact ⟨t, a, by omega, c', e⟩
   ·rw [List.mem_singleton] at hc
    exact ⟨x, h0, by omega, ht, hc⟩
  ·by_cases he : t = x
   ·subst he
    exact List.mem_append.2 (.inr (by simp))
   ·exact List.mem_append.2 (.inl (h.all_ t ht0 (by omega) htt))
  ·have := h.len
   rw [List.length_append, List.length_singleton]
   omega
 ·rw [if_neg ht]
  refine ⟨fun c hc => ?_, fun t ht0 ht1 htt => ?_, ?_⟩
  ·obtain ⟨t, a, b, c', e⟩ := h.some_ c hc
   exact ⟨t, a, by omega, c', e⟩
  ·by_cases he : t = x
   ·subst he
    exact absurd htt ht
   ·exact h.all_ t ht0 (by omega) htt
  ·have := h.len
   omega
theorem first_of {l : List S72} (hl : okLegs l = true) {x : Int} (hx : 0 ≤ x ∧ x < 8) (hu : usedB l x = true) : ∃ t, 0 ≤ t ∧ t ≤ x ∧ takes l t = true ∧ x ∈ caveOf l t ∧ caveOf l t = caveOf l x := by
 have g := caveOf_good hl hx
 have hs := caveOf_self l x
 obtain ⟨t, o, e⟩ : ∃ t o, caveOf l x = t :: o := by
  cases hc : caveOf l x with
  | nil => rw [hc] at hs; simp at hs
  | cons t o => exact ⟨t, o, rfl⟩
 have ht : t ∈ caveOf l x := by rw [e]; exact List.mem_cons_self
 have ht8 := g.2 t ht
 have hle : t ≤ x := by
  have hp := g.1
  rw [e, List.pairwise_cons] at hp
  rw [e] at hs
  rcases List.mem_cons.1 hs with rfl | h
  ·omega
  ·have := hp.1 x h
   omega
 have heq := caveOf_eq hl hx ht8 ht
 refine ⟨t, ht8.1, hle, ?_, caveOf_symm ht, heq⟩
 unfold takes
 rw [Bool.and_eq_true, decide_eq_true_eq]
 refine ⟨?_, by rw [heq, e]; rfl⟩
 rcases caveOf_used ht with h | h
 ·rw [h]; exact hu
 ·exact h
theorem told_any {l : List S72} (hl : okLegs l = true) {x : Int} (hx : 0 ≤ x ∧ x < 8) (hu : usedB l x = true) {all : List (List Int)} (h : Told l x all) : all.any (fun c => decide (x ∈ c)) = !takes l x := by
 rw [Bool.eq_iff_iff, List.any_eq_true]
 constructor
 ·rintro ⟨c, hc, hxc⟩
  obtain ⟨t, h0, h1, ht, rfl⟩ := h.some_ c hc
  have hxc : x ∈ caveOf l t := by simpa using hxc
  cases hk : takes l x with
  | false => rfl
  | true =>
   unfold takes at hk
   rw [Bool.and_eq_true, decide_eq_true_eq] at hk
   exact absurd hxc ((caveOf_first hl hx).1 hk.2 t h0 h1)
 ·intro hk
  have hk : takes l x = false := by simpa using hk
  obtain ⟨t, h0, h1, ht, hm, _⟩ := first_of hl hx hu
  by_cases he : t = x
  ·subst he
   rw [ht] at hk
   cases hk
  ·exact ⟨caveOf l t, h.all_ t h0 (by omega) ht, by simpa using hm⟩
theorem implCaves_go {l : List S72} (hl : okLegs l = true) : ∀ (d : Nat) (x : Int) (all : List (List Int)), 0 ≤ x → x + d = 8 → Told l x all → Ev (fun k => impl_caves.go k l d x all) (cavesFrom l d x all) := by
 intro d
 induction d with
 | zero =>
  intro x all _ _ _
  simp only [impl_caves.go, cavesFrom]
  exact Ev.now _
 | succ d ih =>
  intro x all h0 hd ht
  have hx : 0 ≤ x ∧ x < 8 := by omega
  have hn := ih (x + 1) _ (by omega) (by omega) (ht.step h0)
  simp only [impl_caves.go, cavesFrom]
  refine Ev.bind (legsAt_ev (okLegs_len hl) x) ?_
  cases hu : usedB l x with
  | false =>
   have e : takes l x = false := by unfold takes; rw [hu]; rfl
   rw [e, if_neg (by decide)] at hn
   rw [e, if_neg (by decide)]
   exact Ev.ite_pos (by have := legsAt_none.2 hu; omega) hn
  | true =>
   refine Ev.ite_neg (fun h => ?_) ?_
   ·rw [legsAt_none.1 (by omega)] at hu
    cases hu
   ·have ha := told_any hl hx hu ht
    cases hk : takes l x with
    | false =>
     rw [hk, if_neg (by decide)] at hn
     rw [if_neg (by decide)]
     exact Ev.ite_pos (by rw [ha, hk]; rfl) hn
    | true =>
     rw [hk, if_pos rfl] at hn
     rw [if_pos rfl]
     refine Ev.ite_neg (by rw [ha, hk]; decide) (Ev.ite_pos ⟨hangOk_of hl hx, by have := ht.len; omega⟩ ?_)
     rw [hangOf_arr hl hx, memFrom_arr (caveOf_good hl hx)]
     exact hn
theorem implCaves_ev {l : List S72} (hl : okLegs l = true) : Ev (fun k => impl_caves.f k l) (cavesOf l) := implCaves_go hl 8 0 [] (by omega) (by omega) (Told.none_ l)
theorem specCaves_go {l : List S72} (hl : okLegs l = true) : ∀ (d : Nat) (x : Int) (all : List (List Int)), 0 ≤ x → x + d = 8 → Told l x all → Ev (fun k => spec_l17Caves.l0 k l all x) (cavesFrom l d x all) := by
 intro d
 induction d with
 | zero =>
  intro x all _ _ _
  refine Ev.step (f := fun _ => some all) (fun k => ?_) (Ev.now _)
  simp only [spec_l17Caves.l0]
  rw [if_neg (by omega)]
 | succ d ih =>
  intro x all h0 hd ht
  have hx : 0 ≤ x ∧ x < 8 := by omega
  have hn := ih (x + 1) _ (by omega) (by omega) (ht.step h0)
  have hw : wrap64 (x + 1) = x + 1 := by unfold wrap64; omega
  have hpos : 0 < ((caveOf l x).length : Int) := by
   have := caveOf_self l x
   cases hc : caveOf l x with
   | nil => rw [hc] at this; simp at this
   | cons y o => simp
  simp only [cavesFrom]
  refine Ev.step (f := fun k => (spec_l17Cave.f k l x (-1)).bind fun t190 => (spec_l17Used.f k l x).bind fun t193 => (if t193 = true then (if 0 < (t190.length : Int) then (if (rd t190 0) = x then (if all.length < 5864062014805 then (spec_l17Caves.l0 k l (all ++ [t190]) (x + 1)) else (none)) else (spec_l17Caves.l0 k l all (x + 1))) else (none)) else (spec_l17Caves.l0 k l all (x + 1)))) (fun k => ?_) (Ev.bind (specCave_ev hl hx) (Ev.bind (used_ev (okLegs_len hl) x) ?_))
  ·simp only [spec_l17Caves.l0, hw]
   rw [if_pos (by omega)]
  ·cases hu : usedB l x with
   | false =>
    have e : takes l x = false := by unfold takes; rw [hu]; rfl
    rw [e, if_neg (by decide)] at hn
    rw [e, if_neg (by decide)]
    exact Ev.ite_neg (by decide) hn
   | true =>
    refine Ev.ite_pos rfl (Ev.ite_pos hpos ?_)
    by_cases hf : rd (caveOf l x) 0 = x
    ·have e : takes l x = true := by unfold takes; rw [hu, decide_eq_true hf]; rfl
     rw [e, if_pos rfl] at hn
     rw [e, if_pos rfl]
     exact Ev.ite_pos hf (Ev.ite_pos (by have := ht.len; omega) hn)
    ·have e : takes l x = false := by unfold takes; rw [hu, decide_eq_false hf]; rfl
     rw [e, if_neg (by decide)] at hn
     rw [e, if_neg (by decide)]
     exact Ev.ite_neg hf hn
theorem specCaves_ev {l : List S72} (hl : okLegs l = true) : Ev (fun k => spec_l17Caves.f k l) (cavesOf l) := specCaves_go hl 8 0 [] (by omega) (by omega) (Told.none_ l)
theorem cavesFrom_told {l : List S72} : ∀ (d : Nat) (x : Int) (all : List (List Int)), 0 ≤ x → Told l x all → Told l (x + d) (cavesFrom l d x all)
 | 0, x, all, _, h => by simpa [cavesFrom] using h
 | d + 1, x, all, h0, h => by
  have := cavesFrom_told d (x + 1) _ (by omega) (h.step h0)
  rw [show x + 1 + (d : Int) = x + ((d + 1 : Nat) : Int) by omega] at this
  exact this
theorem cavesOf_told (l : List S72) : Told l 8 (cavesOf l) := cavesFrom_told 8 0 [] (by omega) (Told.none_ l)
theorem specLength_loop {l : List S72} (hl : okLegs l = true) {o : List Int} (hg : Good o) : ∀ d i (s : Int), i + d = l.length → Ev (fun k => spec_l17Length.l0 k l o s (i : Int)) (lengthFrom l (arrL o) d i s) := by
 have h12 := okLegs_len hl
 have h8 := hg.len
 intro d
 induction d with
 | zero =>
  intro i s hi
  refine Ev.step (f := fun _ => some s) (fun k => ?_) (Ev.now _)
  simp only [spec_l17Length.l0]
  rw [if_neg (by omega)]
 | succ d ih =>
  intro i s hi
  have hil : i < l.length := by omega
  have he := ends_in hl i hil
  have hwr : wrap64 ((i : Int) + 1) = ((i + 1 : Nat) : Int) := by unfold wrap64; omega
  refine Ev.step (f := fun k => (spec_l1Has.f k o (fromOf l i)).bind fun t => if t = true then spec_l17Length.l0 k l o (wrap64 (s + (l.getD i z72).f2)) ((i + 1 : Nat) : Int) else spec_l17Length.l0 k l o s ((i + 1 : Nat) : Int)) (fun k => ?_) (Ev.bind (l1Has_ev (by omega)) ?_)
  ·simp only [spec_l17Length.l0, rdL, hwr]
   rw [if_pos (by omega), if_pos (by omega)]
   rfl
  ·simp only [lengthFrom]
   rw [show (l.getD i z72).f0 = fromOf l i from rfl, arrL_get he.1]
   by_cases h : decide (fromOf l i ∈ o) = true
   ·rw [if_pos h]
    exact Ev.ite_pos h (ih (i + 1) _ (by omega))
   ·rw [if_neg h]
    exact Ev.ite_neg h (ih (i + 1) _ (by omega))
def lengthOf (l : List S72) (a : Int) : Int := lengthFrom l (arrL (caveOf l a)) l.length 0 0
theorem specLength_ev {l : List S72} (hl : okLegs l = true) {a : Int} (ha : 0 ≤ a ∧ a < 8) : Ev (fun k => spec_l17Length.f k l a) (lengthOf l a) := by
 simp only [spec_l17Length.f]
 exact Ev.bind (specCave_ev hl ha) (specLength_loop hl (caveOf_good hl ha) l.length 0 0 (by omega))
theorem implLength_eq {l : List S72} (hl : okLegs l = true) {a : Int} (ha : 0 ≤ a ∧ a < 8) : impl_caveLength.f l a = some (lengthOf l a) := by
 unfold impl_caveLength.f
 rw [if_pos (hangOk_of hl ha), hangOf_arr hl ha]
 rfl
theorem lengthFrom_pos {l : List S72} (hl : okLegs l = true) (B : List Bool) : ∀ d i (s : Int), i + d = l.length → 0 ≤ s → s ≤ 500 * i → s ≤ lengthFrom l B d i s ∧ ((∃ j, i ≤ j ∧ j < l.length ∧ B.getD (fromOf l j).toNat false = true) → 1 ≤ lengthFrom l B d i s) := by
 have h12 := okLegs_len hl
 intro d
 induction d with
 | zero =>
  intro i s hi h0 h1
  exact ⟨by simp [lengthFrom], fun ⟨j, h2, h3, _⟩ => by omega⟩
 | succ d ih =>
  intro i s hi h0 h1
  have hil : i < l.length := by omega
  have hs := okLeg_says (okLegs_at hl hil)
  simp only [lengthFrom]
  rw [show (l.getD i z72).f0 = fromOf l i from rfl]
  by_cases hb : B.getD (fromOf l i).toNat false = true
  ·rw [if_pos hb]
   have hw : wrap64 (s + (l.getD i z72).f2) = s + (l.getD i z72).f2 := by unfold wrap64; omega
   rw [hw]
   have := ih (i + 1) (s + (l.getD i z72).f2) (by omega) (by omega) (by omega)
   exact ⟨by omega, fun _ => by omega⟩
  ·rw [if_neg hb]
   have := ih (i + 1) s (by omega) h0 (by omega)
   refine ⟨this.1, fun ⟨j, h2, h3, h4⟩ => this.2 ⟨j, ?_, h3, h4⟩⟩
   by_cases he : j = i
   ·subst he; exact absurd h4 hb
   ·omega
theorem lengthOf_pos {l : List S72} (hl : okLegs l = true) {a : Int} (ha : 0 ≤ a ∧ a < 8) (hu : usedB l a = true) : 1 ≤ lengthOf l a := by
 obtain ⟨i, hi, h⟩ := used_iff.1 hu
 refine (lengthFrom_pos hl _ l.length 0 0 (by omega) (by omega) (by omega)).2 ⟨i, by omega, hi, ?_⟩
 rw [arrL_get (ends_in hl i hi).1, decide_eq_true_eq]
 rcases h with h | h
 ·rw [h]; exact caveOf_self l a
 ·rw [caveOf_closed l a hi, h]; exact caveOf_self l a
def longStep (l : List S72) (p : Int × Int) (c : List Int) : Int × Int := if lengthOf l (rd c 0) > p.2 then (rd c 0, lengthOf l (rd c 0)) else p
def longestAns (l : List S72) : Int × Int × Bool := if okLegs l = true ∧ l ≠ [] then (((cavesOf l).foldl (longStep l) (0, 0)).1, ((cavesOf l).foldl (longStep l) (0, 0)).2, true) else (0, 0, false)
theorem caves_first {l : List S72} (hl : okLegs l = true) : ∀ c ∈ cavesOf l, (0 ≤ rd c 0 ∧ rd c 0 < 8) ∧ 0 < c.length ∧ 1 ≤ lengthOf l (rd c 0) := by
 intro c hc
 obtain ⟨t, h0, h1, ht, rfl⟩ := (cavesOf_told l).some_ c hc
 unfold takes at ht
 rw [Bool.and_eq_true, decide_eq_true_eq] at ht
 rw [ht.2]
 refine ⟨⟨h0, h1⟩, ?_, lengthOf_pos hl ⟨h0, h1⟩ ht.1⟩
 have := caveOf_self l t
 cases hc : caveOf l t with
 | nil => rw [hc] at this; simp at this
 | cons y o => simp
theorem caves_len {l : List S72} : (cavesOf l).length ≤ 8 := (cavesOf_told l).len
theorem implLong_loop {l : List S72} (hl : okLegs l = true) (cs : List (List Int)) (hcs : ∀ c ∈ cs, (0 ≤ rd c 0 ∧ rd c 0 < 8) ∧ 0 < c.length) (h8 : cs.length ≤ 8) : ∀ d i (p : Int × Int), i + d = cs.length →
  Ev (fun k => impl_LongestCave.l0 k l p.1 p.2 cs (cs.length : Int) (i : Int)) (((cs.drop i).foldl (longStep l) p).1, ((cs.drop i).foldl (longStep l) p).2, decide (((cs.drop i).foldl (longStep l) p).2 > 0)) := by
 intro d
 induction d with
 | zero =>
  intro i p hi
  rw [List.drop_eq_nil_of_le (by omega)]
  refine Ev.step (f := fun _ => some (p.1, p.2, decide (p.2 > 0))) (fun k => ?_) (Ev.now _)
  simp only [impl_LongestCave.l0]
  rw [if_neg (by omega)]
 | succ d ih =>
  intro i p hi
  have hil : i < cs.length := by omega
  have hwr : wrap64 ((i : Int) + 1) = ((i + 1 : Nat) : Int) := by unfold wrap64; omega
  have hr : rd_L5 cs (i : Int) = cs[i] := by simp [rd_L5, List.getD_eq_getElem?_getD, List.getElem?_eq_getElem hil]
  have hc := hcs _ (List.getElem_mem hil)
  have hn := ih (i + 1) (longStep l p cs[i]) (by omega)
  rw [List.drop_eq_getElem_cons hil, List.foldl_cons]
  refine Ev.step (fun k => ?_) hn
  simp only [impl_LongestCave.l0, hr, hwr, implLength_eq hl hc.1, Option.bind_some]
  rw [if_pos (by omega), if_pos (by omega), if_pos (by omega), if_pos (by omega)]
  unfold longStep
  split <;> rfl
theorem caves_some {l : List S72} (hl : okLegs l = true) (hne : l ≠ []) : cavesOf l ≠ [] := by
 have hpos : 0 < l.length := List.length_pos_iff.2 hne
 have he := ends_in hl 0 hpos
 obtain ⟨t, h0, h1, ht, _⟩ := first_of hl he.1 (used_iff.2 ⟨0, hpos, .inl rfl⟩)
 have := (cavesOf_told l).all_ t h0 (by omega) ht
 intro h
 rw [h] at this
 simp at this
theorem long_mono {l : List S72} : ∀ (cs : List (List Int)) (p : Int × Int), p.2 ≤ (cs.foldl (longStep l) p).2
 | [], _ => by simp
 | c :: cs, p => by
  rw [List.foldl_cons]
  refine Int.le_trans ?_ (long_mono cs _)
  unfold longStep
  split
  ·simp only; omega
  ·omega
theorem long_start {l : List S72} (hl : okLegs l = true) (hne : l ≠ []) : (cavesOf l).foldl (longStep l) (0, -1) = (cavesOf l).foldl (longStep l) (0, 0) ∧ 1 ≤ ((cavesOf l).foldl (longStep l) (0, 0)).2 := by
 have h1 := caves_some hl hne
 have h2 := caves_first hl
 generalize cavesOf l = cs at h1 h2
 cases cs with
 | nil => exact absurd rfl h1
 | cons c cs =>
  have h := (h2 c List.mem_cons_self).2.2
  have e1 : longStep l (0, -1) c = (rd c 0, lengthOf l (rd c 0)) := by unfold longStep; rw [if_pos (by simp only; omega)]
  have e2 : longStep l (0, 0) c = (rd c 0, lengthOf l (rd c 0)) := by unfold longStep; rw [if_pos (by simp only; omega)]
  rw [List.foldl_cons, List.foldl_cons, e1, e2]
  refine ⟨rfl, Int.le_trans ?_ (long_mono cs _)⟩
  exact h
theorem implLongest_ev (l : List S72) (hm : l.length ≤ 9223372036854775807) : Ev (fun k => impl_LongestCave.f k l) (longestAns l) := by
 simp only [impl_LongestCave.f]
 refine Ev.bind (areLegs_ev l hm) ?_
 by_cases h : okLegs l = true
 ·refine Ev.ite_pos h (Ev.bind (implCaves_ev h) ?_)
  have hL := implLong_loop h (cavesOf l) (fun c hc => ⟨(caves_first h c hc).1, (caves_first h c hc).2.1⟩) caves_len (cavesOf l).length 0 (0, 0) (by omega)
  rw [List.drop_zero] at hL
  by_cases hne : l = []
  ·subst hne
   have e : longestAns ([] : List S72) = (0, 0, false) := if_neg (fun hh => hh.2 rfl)
   have ec : cavesOf ([] : List S72) = [] := by
    cases hc : cavesOf ([] : List S72) with
    | nil => rfl
    | cons c cs =>
     obtain ⟨t, _, _, ht, _⟩ := (cavesOf_told ([] : List S72)).some_ c (by rw [hc]; exact List.mem_cons_self)
     unfold takes at ht
     rw [Bool.and_eq_true] at ht
     obtain ⟨i, hi, _⟩ := used_iff.1 ht.1
     simp at hi
   rw [e]
   rw [ec] at hL ⊢
   simpa using hL
  ·have e : longestAns l = _ := if_pos ⟨h, hne⟩
   have hs := (long_start h hne).2
   rw [e]
   rw [decide_eq_true (show ((cavesOf l).foldl (longStep l) (0, 0)).2 > 0 by omega)] at hL
   exact hL
 ·rw [show longestAns l = (0, 0, false) from if_neg (fun hh => h hh.1)]
  exact Ev.ite_neg h (Ev.now _)
def risesAt (lo hi : Int) (e : List Int) (i : Nat) : Bool := decide (lo ≤ e.getD i 0 ∧ e.getD i 0 ≤ hi) && !(decide (0 < i) && decide (e.getD (i - 1) 0 ≥ e.getD i 0))
def rises (lo hi : Int) (e : List Int) : Bool := (List.range' 0 e.length).all (risesAt lo hi e)
theorem strictly_loop {e : List Int} (he : e.length ≤ 1048576) (lo hi : Int) : ∀ d i, i + d = e.length → Ev (fun k => impl_strictly.l0 k e lo hi e (e.length : Int) (i : Int)) ((List.range' i d).all (risesAt lo hi e)) := by
 intro d
 induction d with
 | zero =>
  intro i hi_
  refine Ev.step (f := fun _ => some true) (fun k => ?_) (by simpa using Ev.now true)
  simp only [impl_strictly.l0]
  rw [if_neg (by omega)]
 | succ d ih =>
  intro i hi_
  have hil : i < e.length := by omega
  have hn := ih (i + 1) (by omega)
  have hwr : wrap64 ((i : Int) + 1) = ((i + 1 : Nat) : Int) := by unfold wrap64; omega
  rw [List.range'_succ, List.all_cons]
  by_cases h1 : lo ≤ e.getD i 0 ∧ e.getD i 0 ≤ hi
  ·by_cases h0 : 0 < i
   ·have hwm : wrap64 ((i : Int) - 1) = ((i - 1 : Nat) : Int) := by unfold wrap64; omega
    by_cases h2 : e.getD (i - 1) 0 ≥ e.getD i 0
    ·rw [show risesAt lo hi e i = false by simp only [risesAt, h1, h0, h2]; rfl, Bool.false_and]
     refine Ev.step (f := fun _ => some false) (fun k => ?_) (Ev.now _)
     simp only [impl_strictly.l0, rd_nat, within_eq, Option.bind_some, hwm]
     rw [if_pos (by omega), if_pos (by omega), if_pos (by omega), if_pos (decide_eq_true h1), if_pos (by omega), if_pos (by omega), if_pos (by omega), if_pos h2]
    ·rw [show risesAt lo hi e i = true by simp only [risesAt, h1, h0, h2]; rfl, Bool.true_and]
     refine Ev.step (fun k => ?_) hn
     simp only [impl_strictly.l0, rd_nat, within_eq, Option.bind_some, hwm, hwr]
     rw [if_pos (by omega), if_pos (by omega), if_pos (by omega), if_pos (decide_eq_true h1), if_pos (by omega), if_pos (by omega), if_pos (by omega), if_neg h2]
   ·rw [show risesAt lo hi e i = true by simp only [risesAt, h1, h0]; rfl, Bool.true_and]
    refine Ev.step (fun k => ?_) hn
    simp only [impl_strictly.l0, rd_nat, within_eq, Option.bind_some, hwr]
    rw [if_pos (by omega), if_pos (by omega), if_pos (by omega), if_pos (decide_eq_true h1), if_neg (by omega)]
  ·rw [show risesAt lo hi e i = false by simp only [risesAt, h1]; rfl, Bool.false_and]
   refine Ev.step (f := fun _ => some false) (fun k => ?_) (Ev.now _)
   simp only [impl_strictly.l0, rd_nat, within_eq, Option.bind_some]
   rw [if_pos (by omega), if_pos (by omega), if_pos (by omega), if_neg (by simpa using h1)]
theorem strictly_ev (e : List Int) (he : e.length ≤ 1048576) (lo hi : Int) : Ev (fun k => impl_strictly.f k e lo hi) (rises lo hi e) := by
 have h := strictly_loop he lo hi e.length 0 (by omega)
 simp only [impl_strictly.f]
 exact h
theorem rising_loop {e : List Int} (he : e.length ≤ 1048576) (lo hi : Int) : ∀ d i, i + d = e.length → Ev (fun k => spec_l1Rising.l0 k e lo hi (i : Int)) ((List.range' i d).all (risesAt lo hi e)) := by
 intro d
 induction d with
 | zero =>
  intro i hi_
  refine Ev.step (f := fun _ => some true) (fun k => ?_) (by simpa using Ev.now true)
  simp only [spec_l1Rising.l0]
  rw [if_neg (by omega)]
 | succ d ih =>
  intro i hi_
  have hil : i < e.length := by omega
  have hn := ih (i + 1) (by omega)
  have hwr : wrap64 ((i : Int) + 1) = ((i + 1 : Nat) : Int) := by unfold wrap64; omega
  rw [List.range'_succ, List.all_cons]
  by_cases h1 : lo ≤ e.getD i 0 ∧ e.getD i 0 ≤ hi
  ·by_cases h0 : 0 < i
   ·have hwm : wrap64 ((i : Int) - 1) = ((i - 1 : Nat) : Int) := by unfold wrap64; omega
    by_cases h2 : e.getD (i - 1) 0 ≥ e.getD i 0
    ·rw [show risesAt lo hi e i = false by simp only [risesAt, h1, h0, h2]; rfl, Bool.false_and]
     refine Ev.step (f := fun _ => some false) (fun k => ?_) (Ev.now _)
     simp only [spec_l1Rising.l0, rd_nat, l1In_eq, Option.bind_some, hwm]
     rw [if_pos (by omega), if_pos (by omega), if_pos (decide_eq_true h1), if_pos (by omega), if_pos (by omega), if_pos (by omega), if_pos h2]
    ·rw [show risesAt lo hi e i = true by simp only [risesAt, h1, h0, h2]; rfl, Bool.true_and]
     refine Ev.step (fun k => ?_) hn
     simp only [spec_l1Rising.l0, rd_nat, l1In_eq, Option.bind_some, hwm, hwr]
     rw [if_pos (by omega), if_pos (by omega), if_pos (decide_eq_true h1), if_pos (by omega), if_pos (by omega), if_pos (by omega), if_neg h2]
   ·rw [show risesAt lo hi e i = true by simp only [risesAt, h1, h0]; rfl, Bool.true_and]
    refine Ev.step (fun k => ?_) hn
    simp only [spec_l1Rising.l0, rd_nat, l1In_eq, Option.bind_some, hwr]
    rw [if_pos (by omega), if_pos (by omega), if_pos (decide_eq_true h1), if_neg (by omega)]
  ·rw [show risesAt lo hi e i = false by simp only [risesAt, h1]; rfl, Bool.false_and]
   refine Ev.step (f := fun _ => some false) (fun k => ?_) (Ev.now _)
   simp only [spec_l1Rising.l0, rd_nat, l1In_eq, Option.bind_some]
   rw [if_pos (by omega), if_pos (by omega), if_neg (by simpa using h1)]
theorem rising_ev (e : List Int) (he : e.length ≤ 1048576) (lo hi : Int) : Ev (fun k => spec_l1Rising.f k e lo hi) (rises lo hi e) := by
 have h := rising_loop he lo hi e.length 0 (by omega)
 simp only [spec_l1Rising.f]
 exact h
theorem rises_at {lo hi : Int} {e : List Int} (h : rises lo hi e = true) {i : Nat} (hi_ : i < e.length) : (lo ≤ e.getD i 0 ∧ e.getD i 0 ≤ hi) ∧ (0 < i → e.getD (i - 1) 0 < e.getD i 0) := by
 have := List.all_eq_true.1 h i (by simp [List.mem_range'_1, hi_])
 simp only [risesAt, Bool.and_eq_true, decide_eq_true_eq, Bool.not_eq_true', Bool.and_eq_false_iff, decide_eq_false_iff_not] at this
 exact ⟨this.1, fun h0 => by rcases this.2 with h2 | h2 <;> omega⟩
theorem rises_pairwise {lo hi : Int} {e : List Int} (h : rises lo hi e = true) : e.Pairwise (· < ·) := by
 have key : ∀ d i, i + d < e.length → 0 < d → e.getD i 0 < e.getD (i + d) 0 := by
  intro d
  induction d with
  | zero => intro i _ h0; omega
  | succ d ih =>
   intro i hi_ _
   have h1 := (rises_at h (i := i + (d + 1)) hi_).2 (by omega)
   rw [show i + (d + 1) - 1 = i + d by omega] at h1
   by_cases hd : 0 < d
   ·have := ih i (by omega) hd
    omega
   ·obtain rfl : d = 0 := by omega
    exact h1
 rw [List.pairwise_iff_getElem]
 intro i j hi_ hj hij
 have := key (j - i) i (by omega) (by omega)
 rw [show i + (j - i) = j by omega, getD_lt _ _ _ hi_, getD_lt _ _ _ hj] at this
 exact this
theorem rises_in {lo hi : Int} {e : List Int} (h : rises lo hi e = true) : ∀ z ∈ e, lo ≤ z ∧ z ≤ hi := by
 intro z hz
 obtain ⟨i, hi_, rfl⟩ := List.mem_iff_getElem.1 hz
 have := (rises_at h hi_).1
 rwa [getD_lt _ _ _ hi_] at this
def okEnts (e : List Int) : Bool := rises 0 7 e
theorem areEnts_ev (l : List S72) (e : List Int) (hm : l.length ≤ 9223372036854775807) (he : e.length ≤ 1048576) : Ev (fun k => impl_areEntrances.f k l e) (okLegs l && okEnts e) := by
 simp only [impl_areEntrances.f]
 refine Ev.bind (areLegs_ev l hm) ?_
 by_cases h : okLegs l = true
 ·rw [h, Bool.true_and]
  exact Ev.ite_pos rfl (Ev.bind (strictly_ev e he 0 7) (Ev.now _))
 ·rw [show okLegs l = false by simpa using h, Bool.false_and]
  exact Ev.ite_neg (by decide) (Ev.now _)
theorem asked_ev (l : List S72) (e : List Int) (hm : l.length ≤ 9223372036854775807) (he : e.length ≤ 1048576) : Ev (fun k => spec_l17Asked.f k l e) (okLegs l && okEnts e) := by
 simp only [spec_l17Asked.f]
 refine Ev.bind (l4Legs_ev l hm) ?_
 by_cases h : okLegs l = true
 ·rw [h, Bool.true_and]
  exact Ev.ite_pos rfl (Ev.bind (rising_ev e he 0 7) (Ev.now _))
 ·rw [show okLegs l = false by simpa using h, Bool.false_and]
  exact Ev.ite_neg (by decide) (Ev.now _)
theorem okEnts_len {e : List Int} (h : okEnts e = true) : e.length ≤ 8 := by
 have key : ∀ (n : Nat) (l : List Int), l.Pairwise (· < ·) → (∀ z ∈ l, 8 - (n : Int) ≤ z ∧ z ≤ 7) → n ≤ 8 → l.length ≤ n := by
  intro n
  induction n with
  | zero =>
   intro l _ hz _
   cases l with
   | nil => simp
   | cons x l => have := hz x List.mem_cons_self; omega
  | succ n ih =>
   intro l hp hz hn
   cases l with
   | nil => simp
   | cons x l =>
    rw [List.pairwise_cons] at hp
    have hx := hz x List.mem_cons_self
    have := ih l hp.2 (fun z h => by have := hp.1 z h; have := hz z (List.mem_cons_of_mem _ h); omega) (by omega)
    simp only [List.length_cons]
    omega
 exact key 8 e (rises_pairwise h) (fun z hz => by have := rises_in h z hz; omega) (by omega)
theorem together_in {l : List S72} (hl : okLegs l = true) {a b : Int} (ha : 0 ≤ a ∧ a < 8) (hb : 0 ≤ b ∧ b < 8) : impl_together.f l a b = some (decide (b ∈ caveOf l a)) := by
 unfold impl_together.f
 rw [if_pos ⟨hangOk_of hl ha, hb.1, by omega⟩, hangOf_arr hl ha, arrL_get hb]
def pairsIn (l : List S72) (a : Int) : List Int → List S45
 | [] => []
 | b :: r => if b ∈ caveOf l a then ⟨a, b⟩ :: pairsIn l a r else pairsIn l a r
def pairsOf (l : List S72) : List Int → List S45
 | [] => []
 | a :: r => pairsIn l a r ++ pairsOf l r
theorem pairsIn_len (l : List S72) (a : Int) : ∀ r : List Int, (pairsIn l a r).length ≤ r.length
 | [] => by simp [pairsIn]
 | b :: r => by
  have := pairsIn_len l a r
  simp only [pairsIn]
  split <;> simp only [List.length_cons] <;> omega
theorem pairsOf_len (l : List S72) : ∀ r : List Int, r.length ≤ 8 → (pairsOf l r).length ≤ 8 * r.length
 | [], _ => by simp [pairsOf]
 | a :: r, h => by
  simp only [List.length_cons] at h
  have h1 := pairsIn_len l a r
  have h2 := pairsOf_len l r (by omega)
  simp only [pairsOf, List.length_append, List.length_cons]
  omega
def throughAns (l : List S72) (e : List Int) : List S45 × Bool := if okLegs l = true ∧ okEnts e = true then (pairsOf l e, true) else ([], false)
theorem throughAns_len (l : List S72) (e : List Int) : (throughAns l e).1.length ≤ 64 := by
 unfold throughAns
 split
 ·rename_i h
  have h8 := okEnts_len h.2
  have := pairsOf_len l e h8
  simp only
  omega
 ·simp
theorem rd_cons {e : List Int} {i : Nat} (h : i < e.length) : rd e (i : Int) = e[i] := by simp [rd, List.getD_eq_getElem?_getD, List.getElem?_eq_getElem h]
theorem specTT_inner {l : List S72} (hl : okLegs l = true) {e : List Int} (h8 : e.length ≤ 8) (he : ∀ z ∈ e, 0 ≤ z ∧ z ≤ 7) {i : Nat} (hi : i < e.length) (r : List S45 × Bool) : ∀ d j (out : List S45), j + d = e.length → out.length + d ≤ 1000 →
  Ev (fun k => spec_ThroughTrips.l0 k l e (out ++ pairsIn l e[i] (e.drop j)) ((i + 1 : Nat) : Int)) r → Ev (fun k => spec_ThroughTrips.l1 k l e out (i : Int) (caveOf l e[i]) (j : Int)) r := by
 have hwi : wrap64 ((i : Int) + 1) = ((i + 1 : Nat) : Int) := by unfold wrap64; omega
 have ha := he _ (List.getElem_mem hi)
 have hlen := (caveOf_good hl (a := e[i]) (by omega)).len
 intro d
 induction d with
 | zero =>
  intro j out hj _ hn
  rw [List.drop_eq_nil_of_le (by omega)] at hn
  simp only [pairsIn, List.append_nil] at hn
  refine Ev.step (fun k => ?_) hn
  simp only [spec_ThroughTrips.l1, hwi]
  rw [if_neg (by omega)]
 | succ d ih =>
  intro j out hj hm hn
  have hjl : j < e.length := by omega
  have hwj : wrap64 ((j : Int) + 1) = ((j + 1 : Nat) : Int) := by unfold wrap64; omega
  rw [List.drop_eq_getElem_cons hjl] at hn
  simp only [pairsIn] at hn
  by_cases h : e[j] ∈ caveOf l e[i]
  ·rw [if_pos h] at hn
   refine Ev.step (f := fun k => (spec_l1Has.f k (caveOf l e[i]) e[j]).bind fun t => if t = true then spec_ThroughTrips.l1 k l e (out ++ [⟨e[i], e[j]⟩]) (i : Int) (caveOf l e[i]) ((j + 1 : Nat) : Int) else spec_ThroughTrips.l1 k l e out (i : Int) (caveOf l e[i]) ((j + 1 : Nat) : Int)) (fun k => ?_)
    (Ev.bind (l1Has_ev (l := caveOf l e[i]) (n := e[j]) (by omega)) (Ev.ite_pos (decide_eq_true h) (ih (j + 1) (out ++ [⟨e[i], e[j]⟩]) (by omega) (by simp; omega) (by rw [List.append_assoc]; exact hn))))
   simp only [spec_ThroughTrips.l1, hwj, rd_cons hjl, rd_cons hi]
   rw [if_pos (by omega), if_pos (by omega)]
   refine congrArg _ (funext fun t => ?_)
   split
   ·rw [if_pos (by omega), if_pos (by omega), if_pos (by omega)]
   ·rfl
  ·rw [if_neg h] at hn
   refine Ev.step (f := fun k => (spec_l1Has.f k (caveOf l e[i]) e[j]).bind fun t => if t = true then spec_ThroughTrips.l1 k l e (out ++ [⟨e[i], e[j]⟩]) (i : Int) (caveOf l e[i]) ((j + 1 : Nat) : Int) else spec_ThroughTrips.l1 k l e out (i : Int) (caveOf l e[i]) ((j + 1 : Nat) : Int)) (fun k => ?_)
    (Ev.bind (l1Has_ev (l := caveOf l e[i]) (n := e[j]) (by omega)) (Ev.ite_neg (show ¬ (decide (e[j] ∈ caveOf l e[i]) = true) by simpa using h) (ih (j + 1) out (by omega) (by omega) hn)))
   simp only [spec_ThroughTrips.l1, hwj, rd_cons hjl, rd_cons hi]
   rw [if_pos (by omega), if_pos (by omega)]
   refine congrArg _ (funext fun t => ?_)
   split
   ·rw [if_pos (by omega), if_pos (by omega), if_pos (by omega)]
   ·rfl
theorem specTT_outer {l : List S72} (hl : okLegs l = true) {e : List Int} (h8 : e.length ≤ 8) (he : ∀ z ∈ e, 0 ≤ z ∧ z ≤ 7) : ∀ d i (out : List S45), i + d = e.length → out.length ≤ 8 * i →
  Ev (fun k => spec_ThroughTrips.l0 k l e out (i : Int)) (out ++ pairsOf l (e.drop i), true) := by
 intro d
 induction d with
 | zero =>
  intro i out hi _
  rw [List.drop_eq_nil_of_le (by omega)]
  simp only [pairsOf, List.append_nil]
  refine Ev.step (f := fun _ => some (out, true)) (fun k => ?_) (Ev.now _)
  simp only [spec_ThroughTrips.l0]
  rw [if_neg (by omega)]
 | succ d ih =>
  intro i out hi hm
  have hil : i < e.length := by omega
  have hwi : wrap64 ((i : Int) + 1) = ((i + 1 : Nat) : Int) := by unfold wrap64; omega
  have ha := he _ (List.getElem_mem hil)
  have hlen := pairsIn_len l e[i] (e.drop (i + 1))
  rw [List.length_drop] at hlen
  rw [List.drop_eq_getElem_cons hil]
  simp only [pairsOf]
  rw [← List.append_assoc]
  refine Ev.step (f := fun k => (spec_l17Cave.f k l e[i] (-1)).bind fun t => spec_ThroughTrips.l1 k l e out (i : Int) t ((i + 1 : Nat) : Int)) (fun k => ?_) (Ev.bind (specCave_ev hl (a := e[i]) (by omega)) (specTT_inner hl h8 he hil _ d (i + 1) out (by omega) (by omega) (ih (i + 1) _ (by omega) (by simp only [List.length_append]; omega))))
  simp only [spec_ThroughTrips.l0, hwi, rd_cons hil]
  rw [if_pos (by omega), if_pos (by omega)]
theorem implTT_inner {l : List S72} (hl : okLegs l = true) {e q : List Int} (h8 : q.length ≤ 8) (he : ∀ z ∈ q, 0 ≤ z ∧ z ≤ 7) {a : Int} (ha : 0 ≤ a ∧ a ≤ 7) {i : Nat} (hi : i < 8) (r : List S45 × Bool) : ∀ d j (out : List S45), j + d = q.length → out.length + d ≤ 1000 →
  Ev (fun k => impl_ThroughTrips.l0 k l e (out ++ pairsIn l a (q.drop j)) e (e.length : Int) ((i + 1 : Nat) : Int)) r → Ev (fun k => impl_ThroughTrips.l1 k l e out a e (e.length : Int) (i : Int) q (q.length : Int) (j : Int)) r := by
 have hwi : wrap64 ((i : Int) + 1) = ((i + 1 : Nat) : Int) := by unfold wrap64; omega
 intro d
 induction d with
 | zero =>
  intro j out hj _ hn
  rw [List.drop_eq_nil_of_le (by omega)] at hn
  simp only [pairsIn, List.append_nil] at hn
  refine Ev.step (fun k => ?_) hn
  simp only [impl_ThroughTrips.l1, hwi]
  rw [if_neg (by omega)]
 | succ d ih =>
  intro j out hj hm hn
  have hjl : j < q.length := by omega
  have hwj : wrap64 ((j : Int) + 1) = ((j + 1 : Nat) : Int) := by unfold wrap64; omega
  have hb := he _ (List.getElem_mem hjl)
  rw [List.drop_eq_getElem_cons hjl] at hn
  simp only [pairsIn] at hn
  by_cases h : q[j] ∈ caveOf l a
  ·rw [if_pos h] at hn
   refine Ev.step (fun k => ?_) (ih (j + 1) (out ++ [⟨a, q[j]⟩]) (by omega) (by simp; omega) (by rw [List.append_assoc]; exact hn))
   simp only [impl_ThroughTrips.l1, hwj, rd_cons hjl, together_in hl (show 0 ≤ a ∧ a < 8 by omega) (show 0 ≤ q[j] ∧ q[j] < 8 by omega), Option.bind_some]
   rw [if_pos (by omega), if_pos (by omega), if_pos (by omega), if_pos (decide_eq_true h), if_pos (by omega)]
  ·rw [if_neg h] at hn
   refine Ev.step (fun k => ?_) (ih (j + 1) out (by omega) (by omega) hn)
   simp only [impl_ThroughTrips.l1, hwj, rd_cons hjl, together_in hl (show 0 ≤ a ∧ a < 8 by omega) (show 0 ≤ q[j] ∧ q[j] < 8 by omega), Option.bind_some]
   rw [if_pos (by omega), if_pos (by omega), if_pos (by omega), if_neg (by simpa using h)]
theorem implTT_outer {l : List S72} (hl : okLegs l = true) {e : List Int} (h8 : e.length ≤ 8) (he : ∀ z ∈ e, 0 ≤ z ∧ z ≤ 7) : ∀ d i (out : List S45), i + d = e.length → out.length ≤ 8 * i →
  Ev (fun k => impl_ThroughTrips.l0 k l e out e (e.length : Int) (i : Int)) (out ++ pairsOf l (e.drop i), true) := by
 intro d
 induction d with
 | zero =>
  intro i out hi _
  rw [List.drop_eq_nil_of_le (by omega)]
  simp only [pairsOf, List.append_nil]
  refine Ev.step (f := fun _ => some (out, true)) (fun k => ?_) (Ev.now _)
  simp only [impl_ThroughTrips.l0]
  rw [if_neg (by omega)]
 | succ d ih =>
  intro i out hi hm
  have hil : i < e.length := by omega
  have hwi : wrap64 ((i : Int) + 1) = ((i + 1 : Nat) : Int) := by unfold wrap64; omega
  have ha := he _ (List.getElem_mem hil)
  have hlen := pairsIn_len l e[i] (e.drop (i + 1))
  rw [List.length_drop] at hlen
  have hdl : (e.drop (i + 1)).length = d := by rw [List.length_drop]; omega
  rw [List.drop_eq_getElem_cons hil]
  simp only [pairsOf]
  rw [← List.append_assoc]
  refine Ev.step (fun k => ?_) (implTT_inner hl (e := e) (q := e.drop (i + 1)) (by omega) (fun z hz => he z (List.mem_of_mem_drop hz)) (a := e[i]) (by omega) (i := i) (by omega) _ d 0 out (by omega) (by omega) (ih (i + 1) _ (by omega) (by rw [List.drop_zero]; simp only [List.length_append]; omega)))
  simp only [impl_ThroughTrips.l0, hwi, rd_cons hil, Int.toNat_natCast]
  rw [if_pos (by omega), if_pos (by omega), if_pos (by omega), if_pos (by omega), if_pos (by omega)]
  rfl
theorem specTT_ev (l : List S72) (e : List Int) (hm : l.length ≤ 9223372036854775807) (he : e.length ≤ 1048576) : Ev (fun k => spec_ThroughTrips.f k l e) (throughAns l e) := by
 simp only [spec_ThroughTrips.f, Option.bind_some]
 refine Ev.bind (asked_ev l e hm he) ?_
 by_cases h : okLegs l = true ∧ okEnts e = true
 ·rw [show throughAns l e = _ from if_pos h]
  have := specTT_outer h.1 (okEnts_len h.2) (rises_in h.2) e.length 0 [] (by omega) (by simp)
  rw [List.drop_zero, List.nil_append] at this
  exact Ev.ite_pos (by simp [h.1, h.2]) this
 ·rw [show throughAns l e = _ from if_neg h]
  exact Ev.ite_neg (by simpa using h) (Ev.now _)
theorem implTT_ev (l : List S72) (e : List Int) (hm : l.length ≤ 9223372036854775807) (he : e.length ≤ 1048576) : Ev (fun k => impl_ThroughTrips.f k l e) (throughAns l e) := by
 simp only [impl_ThroughTrips.f]
 refine Ev.bind (areEnts_ev l e hm he) ?_
 by_cases h : okLegs l = true ∧ okEnts e = true
 ·rw [show throughAns l e = _ from if_pos h]
  have := implTT_outer h.1 (okEnts_len h.2) (rises_in h.2) e.length 0 [] (by omega) (by simp)
  rw [List.drop_zero, List.nil_append] at this
  exact Ev.ite_pos (by simp [h.1, h.2]) this
 ·rw [show throughAns l e = _ from if_neg h]
  exact Ev.ite_neg (by simpa using h) (Ev.now _)
def Dd (l : List S72) (ents : List Int) : Nat → Int → Prop
 | 0, v => v ∈ ents
 | n + 1, v => Dd l ents n v ∨ ∃ i, i < l.length ∧ ((fromOf l i = v ∧ Dd l ents n (toOf l i)) ∨ (toOf l i = v ∧ Dd l ents n (fromOf l i)))
theorem Dd.mono {l : List S72} {ents : List Int} {n m : Nat} {v : Int} (h : Dd l ents n v) (hn : n ≤ m) : Dd l ents m v := by
 induction m with
 | zero =>
  obtain rfl : n = 0 := by omega
  exact h
 | succ m ih =>
  by_cases he : n = m + 1
  ·subst he; exact h
  ·exact .inl (ih (by omega))
def DistAt (l : List S72) (ents : List Int) (n : Nat) (v : Int) : Prop := Dd l ents n v ∧ ∀ m, m < n → ¬ Dd l ents m v
structure IsDist (l : List S72) (ents : List Int) (r : List Int) : Prop where
 len : r.length = 8
 at_ : ∀ v, 0 ≤ v → v < 8 → (rd r v = -1 ∧ ∀ n, ¬ Dd l ents n v) ∨ ∃ n : Nat, n ≤ 7 ∧ rd r v = (n : Int) ∧ DistAt l ents n v
theorem IsDist.uniq {l : List S72} {ents r s : List Int} (hr : IsDist l ents r) (hs : IsDist l ents s) : r = s := by
 apply List.ext_getElem (by rw [hr.len, hs.len])
 intro i h1 h2
 have h8 : i < 8 := by rw [← hr.len]; exact h1
 have e1 : rd r (i : Int) = r[i] := by rw [rd_nat, getD_lt _ _ _ h1]
 have e2 : rd s (i : Int) = s[i] := by rw [rd_nat, getD_lt _ _ _ h2]
 rw [← e1, ← e2]
 rcases hr.at_ (i : Int) (by omega) (by omega) with ⟨a1, a2⟩ | ⟨n, _, a1, a2⟩
 ·rcases hs.at_ (i : Int) (by omega) (by omega) with ⟨b1, _⟩ | ⟨m, _, _, b2⟩
  ·rw [a1, b1]
  ·exact absurd b2.1 (a2 m)
 ·rcases hs.at_ (i : Int) (by omega) (by omega) with ⟨_, b2⟩ | ⟨m, _, b1, b2⟩
  ·exact absurd a2.1 (b2 n)
  ·rw [a1, b1]
   have h1 : ¬ n < m := fun h => b2.2 n h a2.1
   have h2 : ¬ m < n := fun h => a2.2 m h b2.1
   omega
theorem rd_set {r : List Int} {v w x : Int} (hv : 0 ≤ v ∧ v < r.length) (hw : 0 ≤ w ∧ w < r.length) : rd (r.set v.toNat x) w = if w = v then x else rd r w := by
 unfold rd
 rw [getD_lt _ _ _ (by rw [List.length_set]; omega : w.toNat < (r.set v.toNat x).length), getD_lt _ _ _ (by omega : w.toNat < r.length), List.getElem_set]
 by_cases h : w = v
 ·subst h
  rw [if_pos rfl, if_pos rfl]
 ·rw [if_neg (by omega), if_neg h]
def sizeSS : List (List Int) → Nat
 | [] => 0
 | r :: rs => r.length + sizeSS rs
theorem sizeSS_row : ∀ {l : List (List Int)} {r : List Int}, r ∈ l → r.length ≤ sizeSS l
 | [], _, h => by simp at h
 | x :: l, r, h => by
  simp only [sizeSS]
  rcases List.mem_cons.1 h with rfl | h
  ·omega
  ·have := sizeSS_row h
   omega
theorem sizeSS_le : ∀ (l : List (List Int)) (n : Nat), (∀ c ∈ l, c.length ≤ n) → sizeSS l ≤ n * l.length
 | [], _, _ => by simp [sizeSS]
 | c :: l, n, h => by
  have h1 := h c List.mem_cons_self
  have h2 := sizeSS_le l n (fun x hx => h x (List.mem_cons_of_mem _ hx))
  simp only [sizeSS, List.length_cons, Nat.mul_succ]
  omega
theorem caves_size {l : List S72} (hl : okLegs l = true) : sizeSS (cavesOf l) ≤ 64 ∧ (cavesOf l).length ≤ 8 := by
 have h8 : (cavesOf l).length ≤ 8 := (cavesOf_told l).len
 have := sizeSS_le (cavesOf l) 8 (fun c hc => by
  obtain ⟨t, h0, h1, _, rfl⟩ := (cavesOf_told l).some_ c hc
  exact (caveOf_good hl ⟨h0, h1⟩).len)
 omega
def part (l : List S72) (p : Nat → Bool) : Nat → Nat → Int
 | 0, _ => 0
 | d + 1, i => (if p i = true then (l.getD i z72).f2 else 0) + part l p d (i + 1)
theorem part_le {l : List S72} (hl : okLegs l = true) (p : Nat → Bool) : ∀ d i, i + d = l.length → 0 ≤ part l p d i ∧ part l p d i ≤ 500 * d
 | 0, _, _ => by simp [part]
 | d + 1, i, h => by
  have h1 := part_le hl p d (i + 1) (by omega)
  have h2 := okLeg_says (okLegs_at hl (show i < l.length by omega))
  simp only [part]
  split <;> omega
theorem lengthFrom_part {l : List S72} (hl : okLegs l = true) (B : List Bool) : ∀ d i (s : Int), i + d = l.length → 0 ≤ s → s ≤ 500 * i → lengthFrom l B d i s = s + part l (fun i => B.getD (fromOf l i).toNat false) d i := by
 have h12 := okLegs_len hl
 intro d
 induction d with
 | zero => intro i s _ _ _; simp [lengthFrom, part]
 | succ d ih =>
  intro i s hi h0 h1
  have hs := okLeg_says (okLegs_at hl (show i < l.length by omega))
  simp only [lengthFrom, part]
  rw [show (l.getD i z72).f0 = fromOf l i from rfl]
  by_cases hb : B.getD (fromOf l i).toNat false = true
  ·rw [if_pos hb, if_pos hb, wrap_id (by omega) (by omega), ih (i + 1) _ (by omega) (by omega) (by omega)]
   omega
  ·rw [if_neg hb, if_neg hb, ih (i + 1) _ (by omega) h0 (by omega)]
   omega
theorem part_congr {l : List S72} {p q : Nat → Bool} : ∀ d i, i + d = l.length → (∀ j, i ≤ j → j < l.length → p j = q j) → part l p d i = part l q d i
 | 0, _, _, _ => rfl
 | d + 1, i, h, hc => by
  simp only [part]
  rw [hc i (by omega) (by omega), part_congr d (i + 1) (by omega) (fun j h1 h2 => hc j (by omega) h2)]
def inB (l : List S72) (c : List Int) (i : Nat) : Bool := decide (fromOf l i ∈ c)
theorem lengthOf_part {l : List S72} (hl : okLegs l = true) (a : Int) : lengthOf l a = part l (inB l (caveOf l a)) l.length 0 := by
 unfold lengthOf
 rw [lengthFrom_part hl _ l.length 0 0 (by omega) (by omega) (by omega), part_congr (q := inB l (caveOf l a)) l.length 0 (by omega) (fun j _ hj => arrL_get (ends_in hl j hj).1)]
 omega
def sumOf (f : List Int → Int) : List (List Int) → Int
 | [] => 0
 | c :: cs => f c + sumOf f cs
theorem sumOf_congr {f g : List Int → Int} : ∀ cs : List (List Int), (∀ c ∈ cs, f c = g c) → sumOf f cs = sumOf g cs
 | [], _ => rfl
 | c :: cs, h => by
  simp only [sumOf]
  rw [h c List.mem_cons_self, sumOf_congr cs (fun d hd => h d (List.mem_cons_of_mem _ hd))]
theorem sumOf_add (f g : List Int → Int) : ∀ cs : List (List Int), sumOf (fun c => f c + g c) cs = sumOf f cs + sumOf g cs
 | [] => rfl
 | c :: cs => by
  simp only [sumOf]
  rw [sumOf_add f g cs]
  omega
theorem sumOf_cnt (x n : Int) : ∀ cs : List (List Int), sumOf (fun c => if decide (x ∈ c) = true then n else 0) cs = n * (cs.countP (fun c => decide (x ∈ c)) : Nat)
 | [] => by simp [sumOf]
 | c :: cs => by
  simp only [sumOf, List.countP_cons]
  rw [sumOf_cnt x n cs]
  split
  ·rw [Int.natCast_add, Int.mul_add]; simp; omega
  ·simp
theorem sumOf_zero : ∀ cs : List (List Int), sumOf (fun _ => 0) cs = 0
 | [] => rfl
 | c :: cs => by simp only [sumOf]; rw [sumOf_zero cs]; omega
theorem sum_parts {l : List S72} {cs : List (List Int)} : ∀ d i, i + d = l.length → (∀ j, i ≤ j → j < l.length → cs.countP (fun c => decide (fromOf l j ∈ c)) = 1) → sumOf (fun c => part l (inB l c) d i) cs = part l (fun _ => true) d i
 | 0, _, _, _ => by simp only [part]; exact sumOf_zero cs
 | d + 1, i, h, hc => by
  simp only [part]
  rw [sumOf_add, sum_parts d (i + 1) (by omega) (fun j h1 h2 => hc j (by omega) h2)]
  have := sumOf_cnt (fromOf l i) (l.getD i z72).f2 cs
  rw [hc i (by omega) (by omega)] at this
  unfold inB
  rw [this]
  simp
theorem takes_uniq {l : List S72} (hl : okLegs l = true) {x s t : Int} (hx : 0 ≤ x ∧ x < 8) (hs : 0 ≤ s ∧ s < 8) (ht : takes l t = true) (ec : caveOf l t = caveOf l x) (h1 : takes l s = true) (h2 : x ∈ caveOf l s) : s = t := by
 have e := caveOf_eq hl hs hx h2
 unfold takes at ht h1
 rw [Bool.and_eq_true, decide_eq_true_eq] at ht h1
 rw [← h1.2, ← ht.2, ec, e]
theorem caves_cnt0 {l : List S72} (hl : okLegs l = true) {x t : Int} (hx : 0 ≤ x ∧ x < 8) (h0 : 0 ≤ t) (h8 : t < 8) (ht : takes l t = true) (hxt : x ∈ caveOf l t) (ec : caveOf l t = caveOf l x) : ∀ (d : Nat) (s : Int) (all : List (List Int)), 0 ≤ s → s + d = 8 →
  (cavesFrom l d s all).countP (fun c => decide (x ∈ c)) = all.countP (fun c => decide (x ∈ c)) + (if s ≤ t then 1 else 0) := by
 intro d
 induction d with
 | zero =>
  intro s all hs hd
  rw [if_neg (by omega)]
  rfl
 | succ d ih =>
  intro s all hs hd
  simp only [cavesFrom]
  rw [ih (s + 1) _ (by omega) (by omega)]
  by_cases hst : s = t
  ·subst hst
   rw [if_pos ht, if_neg (by omega), if_pos (by omega), List.countP_append, List.countP_cons, if_pos (decide_eq_true hxt)]
   simp
  ·have hno : ¬ (takes l s = true ∧ x ∈ caveOf l s) := fun h => hst (takes_uniq hl hx ⟨hs, by omega⟩ ht ec h.1 h.2)
   have e2 : (if s + 1 ≤ t then 1 else 0 : Nat) = if s ≤ t then 1 else 0 := by
    by_cases h : s ≤ t
    ·rw [if_pos h, if_pos (by omega)]
    ·rw [if_neg h, if_neg (by omega)]
   rw [e2]
   congr 1
   by_cases h1 : takes l s = true
   ·rw [if_pos h1, List.countP_append, List.countP_cons, if_neg (by simpa using fun h => hno ⟨h1, h⟩)]
    simp
   ·rw [if_neg h1]
theorem caves_cnt {l : List S72} (hl : okLegs l = true) {j : Nat} (hj : j < l.length) : (cavesOf l).countP (fun c => decide (fromOf l j ∈ c)) = 1 := by
 have he := (ends_in hl j hj).1
 obtain ⟨t, h0, h1, ht, hm, ec⟩ := first_of hl he (used_iff.2 ⟨j, hj, .inl rfl⟩)
 have := caves_cnt0 hl he h0 (by omega) ht hm ec 8 0 [] (by omega) (by omega)
 rw [if_pos h0] at this
 simpa [cavesOf] using this
def allLen (l : List S72) : Int := part l (fun _ => true) l.length 0
theorem caves_sum {l : List S72} (hl : okLegs l = true) : sumOf (fun c => lengthOf l (rd c 0)) (cavesOf l) = allLen l := by
 unfold allLen
 rw [← sum_parts (cs := cavesOf l) l.length 0 (by omega) (fun j _ hj => caves_cnt hl hj)]
 refine sumOf_congr _ (fun c hc => ?_)
 obtain ⟨t, h0, h1, ht, rfl⟩ := (cavesOf_told l).some_ c hc
 unfold takes at ht
 rw [Bool.and_eq_true, decide_eq_true_eq] at ht
 rw [ht.2]
 exact lengthOf_part hl t
theorem legsLength_ev {l : List S72} (hl : okLegs l = true) : Ev (fun k => impl_LegsLength.f k l) (allLen l, true) := by
 have h12 := okLegs_len hl
 have key : ∀ d i (s : Int), i + d = l.length → 0 ≤ s → s ≤ 500 * i → Ev (fun k => impl_legsLength.l0 k s l (l.length : Int) (i : Int)) (s + part l (fun _ => true) d i) := by
  intro d
  induction d with
  | zero =>
   intro i s hi _ _
   refine Ev.step (f := fun _ => some s) (fun k => ?_) (by simpa [part] using Ev.now s)
   simp only [impl_legsLength.l0]
   rw [if_neg (by omega)]
  | succ d ih =>
   intro i s hi h0 h1
   have hs := okLeg_says (okLegs_at hl (show i < l.length by omega))
   refine Ev.step (f := fun k => impl_legsLength.l0 k (s + (l.getD i z72).f2) l (l.length : Int) ((i + 1 : Nat) : Int)) (fun k => ?_) ?_
   ·simp only [impl_legsLength.l0, rdL]
    rw [if_pos (by omega), if_pos (by omega), if_pos (by omega), wrap_up (show i < l.length by omega) (by omega), wrap_id (by omega) (by omega)]
   ·have := ih (i + 1) (s + (l.getD i z72).f2) (by omega) (by omega) (by omega)
    simp only [part]
    rw [if_pos trivial, ← Int.add_assoc]
    exact this
 simp only [impl_LegsLength.f]
 refine Ev.bind (areLegs_ev l (by omega)) (Ev.ite_pos hl ?_)
 simp only [impl_legsLength.f]
 have := key l.length 0 0 (by omega) (by omega) (by omega)
 rw [Int.zero_add] at this
 exact Ev.bind this (Ev.now _)
def mostC (l : List S72) : List (List Int) → Int → Int
 | [], m => m
 | c :: cs, m => mostC l cs (if lengthOf l (rd c 0) > m then lengthOf l (rd c 0) else m)
theorem mostC_long (l : List S72) : ∀ (cs : List (List Int)) (p : Int × Int), (cs.foldl (longStep l) p).2 = mostC l cs p.2
 | [], _ => rfl
 | c :: cs, p => by
  rw [List.foldl_cons, mostC_long l cs]
  simp only [mostC]
  congr 1
  unfold longStep
  split <;> rfl
theorem vTable_ev (l : List (List Int)) (hm : l.length ≤ 1000) (hr : ∀ r ∈ l, r.length ≤ 1000000) : Ev (fun k => laws_vTable.f k l l) true := by
 have key : ∀ d i, i + d = l.length → Ev (fun k => laws_vTable.l0 k l l (i : Int)) true := by
  intro d
  induction d with
  | zero =>
   intro i hi
   refine Ev.step (f := fun _ => some true) (fun k => ?_) (Ev.now _)
   simp only [laws_vTable.l0]
   rw [if_neg (by omega)]
  | succ d ih =>
   intro i hi
   have hil : i < l.length := by omega
   have e : rd_L5 l (i : Int) = l[i] := by simp [rd_L5, List.getD_eq_getElem?_getD, List.getElem?_eq_getElem hil]
   refine Ev.step (f := fun k => (laws_vInts.f k l[i] l[i]).bind fun t => if t = true then laws_vTable.l0 k l l ((i + 1 : Nat) : Int) else some false) (fun k => ?_) (Ev.bind (vInts_ev l[i] (by have := hr l[i] (List.getElem_mem hil); omega)) (Ev.ite_pos rfl (ih (i + 1) (by omega))))
   simp only [laws_vTable.l0, e]
   rw [if_pos (by omega), if_pos (by omega), if_pos (by omega), wrap_up hil (by omega)]
 simp only [laws_vTable.f]
 exact Ev.ite_pos (by trivial) (key l.length 0 (by omega))
theorem vPairs_ev (l : List S45) (hm : l.length ≤ 9223372036854775807) : Ev (fun k => laws_vPairs.f k l l) true := by
 simp only [laws_vPairs.f]
 refine Ev.ite_pos (by trivial) ?_
 refine loopV_ev (fun k i (_ : Unit) => laws_vPairs.l0 k l l i) l.length 0 (fun _ _ => True) true () trivial ?_ ?_
 ·rintro k i - - hi -
  refine .inl ⟨(), trivial, ?_⟩
  simp only [laws_vPairs.l0]
  rw [if_pos (by omega), if_pos (by omega), if_pos (by omega), if_neg (by simp), wrap_up hi hm]
 ·rintro k - - -
  simp only [laws_vPairs.l0]
  rw [if_neg (by omega)]
theorem pairsIn_mem {l : List S72} {a : Int} : ∀ {r : List Int} {p : S45}, p ∈ pairsIn l a r → p.f0 = a ∧ p.f1 ∈ r ∧ p.f1 ∈ caveOf l a
 | [], _, h => by simp [pairsIn] at h
 | b :: r, p, h => by
  simp only [pairsIn] at h
  split at h
  ·rename_i hb
   rcases List.mem_cons.1 h with rfl | h
   ·exact ⟨rfl, List.mem_cons_self, hb⟩
   ·have := pairsIn_mem h
    exact ⟨this.1, List.mem_cons_of_mem _ this.2.1, this.2.2⟩
  ·have := pairsIn_mem h
   exact ⟨this.1, List.mem_cons_of_mem _ this.2.1, this.2.2⟩
theorem pairsOf_mem {l : List S72} : ∀ {e : List Int} {p : S45}, e.Pairwise (· < ·) → p ∈ pairsOf l e → p.f0 ∈ e ∧ p.f1 ∈ e ∧ p.f0 < p.f1 ∧ p.f1 ∈ caveOf l p.f0
 | [], _, _, h => by simp [pairsOf] at h
 | a :: e, p, hp, h => by
  rw [List.pairwise_cons] at hp
  simp only [pairsOf] at h
  rcases List.mem_append.1 h with h | h
  ·obtain ⟨h1, h2, h3⟩ := pairsIn_mem h
   rw [h1]
   exact ⟨List.mem_cons_self, List.mem_cons_of_mem _ h2, hp.1 _ h2, h3⟩
  ·obtain ⟨h1, h2, h3, h4⟩ := pairsOf_mem hp.2 h
   exact ⟨List.mem_cons_of_mem _ h1, List.mem_cons_of_mem _ h2, h3, h4⟩
theorem cave_dd {l : List S72} {a b : Int} (h : b ∈ caveOf l a) : ∃ n, Dd l [a] n b := by
 refine passes_least (P := fun z => ∃ n, Dd l [a] n z) (fun i hi _ => ?_) _ [a] (fun z hz => ⟨0, hz⟩) b h
 exact ⟨fun ⟨n, h⟩ => ⟨n + 1, .inr ⟨i, hi, .inr ⟨rfl, h⟩⟩⟩, fun ⟨n, h⟩ => ⟨n + 1, .inr ⟨i, hi, .inl ⟨rfl, h⟩⟩⟩⟩
theorem countP_more {α : Type} {p q : α → Bool} : ∀ (L : List α), (∀ i ∈ L, p i = true → q i = true) → (∃ i ∈ L, q i = true ∧ p i = false) → L.countP p + 1 ≤ L.countP q
 | [], _, h => by obtain ⟨i, h, _⟩ := h; simp at h
 | x :: L, h1, h2 => by
  have hle : L.countP p ≤ L.countP q := List.countP_mono_left (fun i hi => h1 i (List.mem_cons_of_mem _ hi))
  have hx := h1 x List.mem_cons_self
  rw [List.countP_cons, List.countP_cons]
  obtain ⟨i, hi, h3, h4⟩ := h2
  rcases List.mem_cons.1 hi with rfl | hi
  ·rw [if_pos h3, if_neg (by rw [h4]; decide)]
   omega
  ·have := countP_more L (fun i hi => h1 i (List.mem_cons_of_mem _ hi)) ⟨i, hi, h3, h4⟩
   by_cases hp : p x = true
   ·rw [if_pos hp, if_pos (hx hp)]
    omega
   ·rw [if_neg hp]
    omega
noncomputable def ddB (l : List S72) (a : Int) (n : Nat) (i : Nat) : Bool := @decide (Dd l [a] n (i : Int)) (Classical.propDecidable _)
theorem ddB_iff {l : List S72} {a : Int} {n i : Nat} : ddB l a n i = true ↔ Dd l [a] n (i : Int) := by
 unfold ddB
 exact @decide_eq_true_iff _ (Classical.propDecidable _)
theorem dd_near {l : List S72} (hl : okLegs l = true) {a : Int} (ha : 0 ≤ a ∧ a < 8) {n : Nat} {v : Int} (hv : 0 ≤ v ∧ v < 8) (h : Dd l [a] n v) : Dd l [a] 7 v := by
 have claim : ∀ m, (∃ s, s ≤ m ∧ ∀ v, 0 ≤ v → v < 8 → Dd l [a] (s + 1) v → Dd l [a] s v) ∨ m + 1 ≤ (List.range 8).countP (ddB l a m) := by
  intro m
  induction m with
  | zero =>
   right
   have : 0 < (List.range 8).countP (ddB l a 0) := by
    refine List.countP_pos_iff.2 ⟨a.toNat, List.mem_range.2 (by omega), ddB_iff.2 ?_⟩
    rw [Int.toNat_of_nonneg ha.1]
    exact List.mem_singleton.2 rfl
   omega
  | succ m ih =>
   rcases ih with ⟨s, h1, h2⟩ | ih
   ·exact .inl ⟨s, by omega, h2⟩
   ·by_cases hs : ∀ v, 0 ≤ v → v < 8 → Dd l [a] (m + 1) v → Dd l [a] m v
    ·exact .inl ⟨m, by omega, hs⟩
    ·right
     have : ∃ v, 0 ≤ v ∧ v < 8 ∧ Dd l [a] (m + 1) v ∧ ¬ Dd l [a] m v := by
      refine Classical.byContradiction (fun hno => hs (fun v h0 h1 h2 => Classical.byContradiction (fun h3 => hno ⟨v, h0, h1, h2, h3⟩)))
     obtain ⟨v, h0, h1, h2, h3⟩ := this
     have := countP_more (p := ddB l a m) (q := ddB l a (m + 1)) (List.range 8) (fun i _ hi => ddB_iff.2 (.inl (ddB_iff.1 hi))) ⟨v.toNat, List.mem_range.2 (by omega), ddB_iff.2 (by rw [Int.toNat_of_nonneg h0]; exact h2), by
      cases hb : ddB l a m v.toNat with
      | false => rfl
      | true => exact absurd (by have := ddB_iff.1 hb; rwa [Int.toNat_of_nonneg h0] at this) h3⟩
     omega
 obtain ⟨s, hs, hst⟩ : ∃ s, s ≤ 7 ∧ ∀ v, 0 ≤ v → v < 8 → Dd l [a] (s + 1) v → Dd l [a] s v := by
  rcases claim 7 with h | h
  ·exact h
  ·refine ⟨7, Nat.le_refl _, fun v h0 h1 _ => ?_⟩
   have hle : (List.range 8).countP (ddB l a 7) ≤ (List.range 8).length := List.countP_le_length
   have he : (List.range 8).countP (ddB l a 7) = (List.range 8).length := by
    rw [List.length_range] at hle ⊢
    omega
   have := ddB_iff.1 (List.countP_eq_length.1 he v.toNat (List.mem_range.2 (by omega)))
   rwa [Int.toNat_of_nonneg h0] at this
 have key : ∀ k v, 0 ≤ v → v < 8 → Dd l [a] (s + k) v → Dd l [a] s v := by
  intro k
  induction k with
  | zero => intro v _ _ h; exact h
  | succ k ih =>
   intro v h0 h1 h
   rcases h with h | ⟨i, hi, h⟩
   ·exact ih v h0 h1 h
   ·have he := ends_in hl i hi
    refine hst v h0 h1 (.inr ⟨i, hi, ?_⟩)
    rcases h with ⟨e, h⟩ | ⟨e, h⟩
    ·exact .inl ⟨e, ih _ he.2.1 he.2.2 h⟩
    ·exact .inr ⟨e, ih _ he.1.1 he.1.2 h⟩
 refine Dd.mono ?_ hs
 by_cases hn : n ≤ s
 ·exact h.mono hn
 ·refine key (n - s) v hv.1 hv.2 ?_
  rwa [show s + (n - s) = n by omega]
def Bytes (l : List Int) : Prop := ∀ x ∈ l, 0 ≤ x ∧ x ≤ 255
theorem bytes_of {l : List Int} (h : ∀ x ∈ l, (Lit.int .u8 x).wf = true) : Bytes l := fun x hx => by
 have := h x hx
 simp [Lit.wf, IntKind.min, IntKind.max, IntKind.signed, IntKind.bits] at this
 omega
theorem bits_255 (x : Int) : 0 ≤ Go.bits .and .u64 x 255 ∧ Go.bits .and .u64 x 255 ≤ 255 := by
 have h : ((BitVec.ofInt 64 x) &&& (BitVec.ofInt 64 255)).toNat ≤ 255 := by
  rw [BitVec.toNat_and]
  exact Nat.le_trans Nat.and_le_right (by decide)
 have e : Go.bits .and .u64 x 255 = IntKind.u64.wrap (((BitVec.ofInt 64 x) &&& (BitVec.ofInt 64 255)).toNat : Int) := rfl
 have hw : ∀ y : Int, IntKind.u64.wrap y = y % 18446744073709551616 := fun y => by simp [IntKind.wrap, IntKind.signed, IntKind.bits]
 rw [e, hw]
 omega
theorem cur_next {l : List Int} (hb : Bytes l) {i s : Int} (h0 : 0 ≤ i) (h1 : i ≤ 1000000000) : ∃ v t, spec_l1Cur_next.f l i s = some (v, i + 1, t) ∧ 0 ≤ v ∧ v ≤ 255 := by
 have hw : wrap64 (i + 1) = i + 1 := wrap_id (by omega) (by omega)
 have hv : i < l.length → 0 ≤ wrap64 (rd l i) ∧ wrap64 (rd l i) ≤ 255 := fun h => by
  have hi : i.toNat < l.length := by omega
  have h2 := hb _ (List.getElem_mem hi)
  have h3 : rd l i = l[i.toNat] := by simp only [rd]; exact getD_lt l 0 i.toNat hi
  rw [h3, wrap_id (by omega) (by omega)]
  exact h2
 have hc : ∀ x : Int, 0 ≤ wrap64 (Go.bits .and .u64 x 255) ∧ wrap64 (Go.bits .and .u64 x 255) ≤ 255 := fun x => by
  have := bits_255 x
  rw [wrap_id (by omega) (by omega)]
  exact this
 unfold spec_l1Cur_next.f
 simp only [hw]
 by_cases ha : i < l.length
 ·rw [if_pos ha, if_pos h0, if_pos (by omega)]
  exact ⟨_, _, rfl, hv ha⟩
 ·rw [if_neg ha, if_neg (by omega)]
  exact ⟨_, _, rfl, hc _⟩
theorem cur_pick {l : List Int} (hb : Bytes l) {i s n : Int} (h0 : 0 ≤ i) (h1 : i ≤ 999999990) (hn : n ≤ 1000000) : ∃ v j t, spec_l1Cur_pick.f l i s n = some (v, j, t) ∧ i ≤ j ∧ j ≤ i + 2 ∧ 0 ≤ v ∧ (v < n ∨ v = 0) := by
 unfold spec_l1Cur_pick.f
 by_cases c : n ≤ 1
 ·rw [if_pos c]
  exact ⟨_, _, _, rfl, by omega, by omega, by omega, .inr rfl⟩
 ·rw [if_neg c]
  obtain ⟨v, t, e, g0, g1⟩ := cur_next (s := s) hb h0 (by omega)
  rw [e]
  simp only [Option.bind_some]
  by_cases c2 : n > 200
  ·rw [if_pos c2]
   obtain ⟨u, t2, e2, g2, g3⟩ := cur_next (i := i + 1) (s := t) hb (by omega) (by omega)
   rw [e2]
   simp only [Option.bind_some]
   rw [if_neg (by omega)]
   have h1 : wrap64 (v * 256) = v * 256 := wrap_id (by omega) (by omega)
   have h2 : wrap64 (v * 256 + u) = v * 256 + u := wrap_id (by omega) (by omega)
   rw [h1, h2]
   exact ⟨_, _, _, rfl, by omega, by omega, Int.tmod_nonneg _ (by omega), .inl (Int.tmod_lt_of_pos _ (by omega))⟩
  ·rw [if_neg c2, if_neg (by omega)]
   exact ⟨_, _, _, rfl, by omega, by omega, Int.tmod_nonneg _ (by omega), .inl (Int.tmod_lt_of_pos _ (by omega))⟩
theorem cur_among {l : List Int} (hb : Bytes l) {i s : Int} (xs : List Int) (h0 : 0 ≤ i) (h1 : i ≤ 999999990) (hx : 0 < xs.length) (hx2 : xs.length ≤ 1000000) : ∃ v j t, spec_l1Cur_among.f l i s xs = some (v, j, t) ∧ i ≤ j ∧ j ≤ i + 2 ∧ v ∈ xs := by
 obtain ⟨v, j, t, e, g0, g1, g2, g3⟩ := cur_pick (s := s) (n := (xs.length : Int)) hb h0 h1 (by omega)
 unfold spec_l1Cur_among.f
 rw [e]
 simp only [Option.bind_some]
 rw [if_pos g2, if_pos (by omega)]
 refine ⟨_, _, _, rfl, g0, g1, ?_⟩
 have hi : v.toNat < xs.length := by omega
 have h3 : rd xs v = xs[v.toNat] := by simp only [rd]; exact getD_lt xs 0 v.toNat hi
 rw [h3]
 exact List.getElem_mem hi
def Dr {α : Type} (g : Nat → Option α) (P : α → Prop) : Prop := ∃ r, Ev g r ∧ P r
theorem Dr.now {α : Type} {P : α → Prop} (r : α) (h : P r) : Dr (fun _ => some r) P := ⟨r, Ev.now r, h⟩
theorem Dr.ite {α : Type} {c : Prop} [Decidable c] {g g' : Nat → Option α} {P : α → Prop} (h : c → Dr g P) (h' : ¬ c → Dr g' P) : Dr (fun k => if c then g k else g' k) P := by
 by_cases hc : c
 ·obtain ⟨r, h1, h2⟩ := h hc
  exact ⟨r, Ev.ite_pos hc h1, h2⟩
 ·obtain ⟨r, h1, h2⟩ := h' hc
  exact ⟨r, Ev.ite_neg hc h1, h2⟩
theorem Dr.step {α : Type} {g f : Nat → Option α} {P : α → Prop} (he : ∀ k, g (k + 1) = f k) (h : Dr f P) : Dr g P := by
 obtain ⟨r, h1, h2⟩ := h
 exact ⟨r, Ev.step he h1, h2⟩
theorem Dr.bind {α β : Type} {g : Nat → Option α} {f : Nat → α → Option β} {Q : α → Prop} {P : β → Prop} (h : Dr g Q) (k : ∀ r, Q r → Dr (fun n => f n r) P) : Dr (fun n => (g n).bind (f n)) P := by
 obtain ⟨a, h1, h2⟩ := h
 obtain ⟨b, h3, h4⟩ := k a h2
 exact ⟨b, Ev.bind h1 h3, h4⟩
theorem Dr.bindc {α β : Type} {x : Option α} {f : Nat → α → Option β} {P : β → Prop} {a : α} (h : x = some a) (k : Dr (fun n => f n a) P) : Dr (fun n => x.bind (f n)) P := by
 subst h
 exact k
theorem Dr.mono {α : Type} {g : Nat → Option α} {P Q : α → Prop} (h : Dr g P) (hpq : ∀ r, P r → Q r) : Dr g Q := by
 obtain ⟨r, h1, h2⟩ := h
 exact ⟨r, h1, hpq r h2⟩
theorem Dr.pick {α : Type} {l : List Int} (hb : Bytes l) {i s n : Int} {f : Nat → Int × Int × Int → Option α} {P : α → Prop} (h0 : 0 ≤ i) (h1 : i ≤ 999999990) (hn : n ≤ 1000000) (k : ∀ v j t, i ≤ j → j ≤ i + 2 → 0 ≤ v → (v < n ∨ v = 0) → Dr (fun m => f m (v, j, t)) P) : Dr (fun m => (spec_l1Cur_pick.f l i s n).bind (f m)) P := by
 obtain ⟨v, j, t, e, g0, g1, g2, g3⟩ := cur_pick (s := s) hb h0 h1 hn
 exact Dr.bindc e (k v j t g0 g1 g2 g3)
theorem Dr.among {α : Type} {l : List Int} (hb : Bytes l) {i s : Int} {xs : List Int} {f : Nat → Int × Int × Int → Option α} {P : α → Prop} (h0 : 0 ≤ i) (h1 : i ≤ 999999990) (hx : 0 < xs.length) (hx2 : xs.length ≤ 1000000) (k : ∀ v j t, i ≤ j → j ≤ i + 2 → v ∈ xs → Dr (fun m => f m (v, j, t)) P) : Dr (fun m => (spec_l1Cur_among.f l i s xs).bind (f m)) P := by
 obtain ⟨v, j, t, e, g0, g1, g2⟩ := cur_among (s := s) hb xs h0 h1 hx hx2
 exact Dr.bindc e (k v j t g0 g1 g2)
theorem Dr.one {α : Type} {l : List Int} (hb : Bytes l) {i s n : Int} {f : Nat → Bool × Int × Int → Option α} {P : α → Prop} (h0 : 0 ≤ i) (h1 : i ≤ 999999990) (hn : n ≤ 1000000) (k : ∀ b j t, i ≤ j → j ≤ i + 2 → Dr (fun m => f m (b, j, t)) P) : Dr (fun m => (spec_l1Cur_one.f l i s n).bind (f m)) P := by
 obtain ⟨v, j, t, e, g0, g1, g2, g3⟩ := cur_pick (s := s) hb h0 h1 hn
 refine Dr.bindc (a := (v == 0, j, t)) ?_ (k _ j t g0 g1)
 unfold spec_l1Cur_one.f
 rw [e]
 rfl
theorem snoc_len {α : Type} (l : List α) (x : α) : (l ++ [x]).length = l.length + 1 := by simp
theorem wrap_pred (d : Nat) (h : d < 1000000) : wrap64 (((d + 1 : Nat) : Int) - 1) = (d : Int) := by
 unfold wrap64
 omega
theorem wrap_succ (d : Nat) (h : d < 1000000) : wrap64 ((d : Int) + 1) = ((d + 1 : Nat) : Int) := by
 unfold wrap64
 omega
theorem dr_leg0 {l : List Int} (hb : Bytes l) (a b c d e : Int) {i s : Int} (h0 : 0 ≤ i) (h1 : i ≤ 999000000) : Dr (fun k => spec_l1Cur_leg.j0 k l i s a b c d e) (fun r => i ≤ r.2.2.2.2.2.1 ∧ r.2.2.2.2.2.1 ≤ i + 4) := by
 refine Dr.step (fun k => by rw [spec_l1Cur_leg.j0]) ?_
 refine Dr.pick hb (by omega) (by omega) (by omega) (fun v j t g0 g1 g2 g3 => ?_)
 dsimp only
 refine Dr.ite (fun _ => ?_) (fun _ => Dr.ite (fun _ => ?_) (fun _ => Dr.ite (fun _ => ?_) (fun _ => Dr.ite (fun _ => ?_) (fun _ => Dr.now _ ⟨by dsimp only; omega, by dsimp only; omega⟩))))
 all_goals
  refine Dr.among hb (by omega) (by omega) (by simp) (by simp) (fun v2 j2 t2 g4 g5 g6 => ?_)
  exact Dr.now _ ⟨by dsimp only; omega, by dsimp only; omega⟩
theorem dr_leg {l : List Int} (hb : Bytes l) {i s : Int} (h0 : 0 ≤ i) (h1 : i ≤ 998000000) : Dr (fun k => spec_l1Cur_leg.f k l i s) (fun r => i ≤ r.2.2.2.2.2.1 ∧ r.2.2.2.2.2.1 ≤ i + 14) := by
 simp only [spec_l1Cur_leg.f]
 refine Dr.pick hb (by omega) (by omega) (by omega) (fun v j t g0 g1 g2 g3 => ?_)
 dsimp only
 refine Dr.pick hb (by omega) (by omega) (by omega) (fun v2 j2 t2 g4 g5 g6 g7 => ?_)
 dsimp only
 refine Dr.among hb (by omega) (by omega) (by decide) (by decide) (fun v3 j3 t3 g8 g9 _ => ?_)
 dsimp only
 refine Dr.among hb (by omega) (by omega) (by decide) (by decide) (fun v4 j4 t4 g10 g11 _ => ?_)
 dsimp only
 refine Dr.among hb (by omega) (by omega) (by decide) (by decide) (fun v5 j5 t5 g12 g13 _ => ?_)
 dsimp only
 exact Dr.ite (fun _ => (dr_leg0 hb _ _ _ _ _ (by omega) (by omega)).mono (fun r hr => ⟨by omega, by omega⟩)) (fun _ => (dr_leg0 hb _ _ _ _ _ (by omega) (by omega)).mono (fun r hr => ⟨by omega, by omega⟩))
theorem sine_some (a : Int) : ∃ r, spec_l2Sine.f a = some r := by
 have h1 : Int.tmod a 360 < 360 := Int.tmod_lt_of_pos a (by decide)
 have h2 : Int.tmod (-a) 360 < 360 := Int.tmod_lt_of_pos (-a) (by decide)
 rw [Int.neg_tmod] at h2
 have hw : wrap64 (Int.tmod a 360 + 360) = Int.tmod a 360 + 360 := by unfold wrap64; omega
 unfold spec_l2Sine.f
 rw [hw]
 have h3 : 0 ≤ Int.tmod (Int.tmod a 360 + 360) 360 := Int.tmod_nonneg _ (by omega)
 have h4 : Int.tmod (Int.tmod a 360 + 360) 360 < 360 := Int.tmod_lt_of_pos _ (by decide)
 generalize Int.tmod (Int.tmod a 360 + 360) 360 = d at h3 h4
 simp only [spec_l2Table.f, Option.bind_some]
 have e1 : wrap64 (180 - d) = 180 - d := wrap_id (by omega) (by omega)
 have e2 : wrap64 (d - 180) = d - 180 := wrap_id (by omega) (by omega)
 have e3 : wrap64 (360 - d) = 360 - d := wrap_id (by omega) (by omega)
 rw [e1, e2, e3]
 simp only [List.length_cons, List.length_nil]
 by_cases c1 : d ≤ 90
 ·rw [if_pos c1, if_pos h3, if_pos (by omega)]
  exact ⟨_, rfl⟩
 ·rw [if_neg c1]
  by_cases c2 : d ≤ 180
  ·rw [if_pos c2, if_pos (by omega), if_pos (by omega)]
   exact ⟨_, rfl⟩
  ·rw [if_neg c2]
   by_cases c3 : d ≤ 270
   ·rw [if_pos c3, if_pos (by omega), if_pos (by omega)]
    exact ⟨_, rfl⟩
   ·rw [if_neg c3, if_pos (by omega), if_pos (by omega)]
    exact ⟨_, rfl⟩
theorem cosine_some (a : Int) : ∃ r, spec_l2Cosine.f a = some r := by
 obtain ⟨r, h⟩ := sine_some (wrap64 (a + 90))
 exact ⟨r, by simp only [spec_l2Cosine.f, h, Option.bind_some]⟩
theorem div_some (a : Int) : ∃ r, spec_l2Div.f a 1000 = some r := by
 have e : ¬ wrap64 (2 * 1000) = 0 := by unfold wrap64; omega
 unfold spec_l2Div.f
 rw [if_neg e, if_neg e]
 by_cases c : a < 0
 ·rw [if_pos c]
  exact ⟨_, rfl⟩
 ·rw [if_neg c]
  exact ⟨_, rfl⟩
theorem shift_some (a b c d e : Int) : ∃ x y z, spec_l4Shift.f a b c d e = some (x, y, z) := by
 obtain ⟨r1, h1⟩ := cosine_some e
 obtain ⟨r2, h2⟩ := div_some (wrap64 (c * r1))
 obtain ⟨r3, h3⟩ := sine_some d
 obtain ⟨r4, h4⟩ := div_some (wrap64 (r2 * r3))
 obtain ⟨r5, h5⟩ := cosine_some d
 obtain ⟨r6, h6⟩ := div_some (wrap64 (r2 * r5))
 obtain ⟨r7, h7⟩ := sine_some e
 obtain ⟨r8, h8⟩ := div_some (wrap64 (c * r7))
 exact ⟨r4, r6, r8, by simp only [spec_l4Shift.f, h1, h2, h3, h4, h5, h6, h7, h8, Option.bind_some]⟩
theorem long_some (a : Int) : spec_l2Long.f a = some (decide (-100000 ≤ a ∧ a ≤ 100000)) := by
 simp only [spec_l2Long.f, l1In_eq, Option.bind_some]
theorem length_ev0 (q : Int) : ∀ (d : Nat) (x y : Int), 0 ≤ x → x ≤ 200000 → y ≤ 200000 → y - x ≤ d → ∃ r, Ev (fun k => spec_LengthOf.l0 k q x y) r := by
 intro d
 induction d with
 | zero =>
  intro x y h0 h1 h2 hd
  exact ⟨_, Ev.step (fun k => by rw [spec_LengthOf.l0]) (Ev.ite_neg (by omega) (Ev.now _))⟩
 | succ d ih =>
  intro x y h0 h1 h2 hd
  by_cases c : x < y
  ·have e : wrap64 (Int.tdiv (wrap64 (wrap64 (x + y) + 1)) 2) = (x + y + 1) / 2 := by
    rw [wrap_id (x := x + y) (by omega) (by omega), wrap_id (x := x + y + 1) (by omega) (by omega), Int.tdiv_eq_ediv_of_nonneg (by omega), wrap_id (by omega) (by omega)]
   by_cases c2 : wrap64 ((x + y + 1) / 2 * ((x + y + 1) / 2)) ≤ q
   ·obtain ⟨r, h⟩ := ih ((x + y + 1) / 2) y (by omega) (by omega) h2 (by omega)
    refine ⟨r, Ev.step (fun k => by rw [spec_LengthOf.l0]) (Ev.ite_pos c ?_)⟩
    rw [e]
    exact Ev.ite_pos c2 h
   ·obtain ⟨r, h⟩ := ih x ((x + y + 1) / 2 - 1) h0 h1 (by omega) (by omega)
    refine ⟨r, Ev.step (fun k => by rw [spec_LengthOf.l0]) (Ev.ite_pos c ?_)⟩
    rw [e, wrap_id (x := (x + y + 1) / 2 - 1) (by omega) (by omega)]
    exact Ev.ite_neg c2 h
  ·exact ⟨_, Ev.step (fun k => by rw [spec_LengthOf.l0]) (Ev.ite_neg c (Ev.now _))⟩
theorem dr_length (a b c : Int) : Dr (fun k => spec_LengthOf.f k a b c) (fun _ => True) := by
 have hj : ∀ t, Dr (fun k => spec_LengthOf.j0 k a b c t) (fun _ => True) := fun t => by
  refine Dr.step (fun k => by rw [spec_LengthOf.j0]) (Dr.ite (fun _ => Dr.now _ trivial) (fun _ => ?_))
  obtain ⟨r, h⟩ := length_ev0 (wrap64 (wrap64 (wrap64 (a * a) + wrap64 (b * b)) + wrap64 (c * c))) 200000 0 200000 (by omega) (by omega) (by omega) (by omega)
  exact ⟨r, h, trivial⟩
 simp only [spec_LengthOf.f, long_some, Option.bind_some]
 exact Dr.ite (fun _ => Dr.ite (fun _ => hj _) (fun _ => hj _)) (fun _ => hj _)
theorem dr_bearing0 (x y : Int) : ∀ (d q : Nat) (b : Int), q + d = 360 → Dr (fun k => spec_BearingTo.l0 k x y b (q : Int)) (fun _ => True) := by
 intro d
 induction d with
 | zero =>
  intro q b hq
  exact Dr.step (fun k => by rw [spec_BearingTo.l0]) (Dr.ite (fun c => by omega) (fun _ => Dr.now _ trivial))
 | succ d ih =>
  intro q b hq
  obtain ⟨r1, h1⟩ := sine_some (q : Int)
  obtain ⟨r2, h2⟩ := cosine_some (q : Int)
  obtain ⟨r3, h3⟩ := sine_some b
  obtain ⟨r4, h4⟩ := cosine_some b
  refine Dr.step (fun k => by rw [spec_BearingTo.l0]) (Dr.ite (fun _ => ?_) (fun c => by omega))
  simp only [h1, h2, h3, h4, Option.bind_some]
  rw [wrap_succ q (by omega)]
  exact Dr.ite (fun _ => ih (q + 1) _ (by omega)) (fun _ => ih (q + 1) _ (by omega))
theorem dr_bearing (x y : Int) : Dr (fun k => spec_BearingTo.f k x y) (fun _ => True) := by
 have hj : ∀ t, Dr (fun k => spec_BearingTo.j0 k x y t) (fun _ => True) := fun t =>
  Dr.step (fun k => by rw [spec_BearingTo.j0]) (Dr.ite (g := fun _ => some (0, false)) (g' := fun k => spec_BearingTo.l0 k x y 0 1) (fun _ => Dr.now _ trivial) (fun _ => dr_bearing0 x y 359 1 0 (by omega)))
 simp only [spec_BearingTo.f, long_some, Option.bind_some]
 exact Dr.ite (fun _ => Dr.ite (fun _ => Dr.ite (fun _ => hj _) (fun _ => hj _)) (fun _ => hj _)) (fun _ => hj _)
theorem dr_slope0 (x y : Int) : ∀ (d q : Nat) (b : Int), q + d = 91 → Dr (fun k => spec_SlopeTo.l0 k x y b (q : Int)) (fun _ => True) := by
 intro d
 induction d with
 | zero =>
  intro q b hq
  exact Dr.step (fun k => by rw [spec_SlopeTo.l0]) (Dr.ite (fun c => by omega) (fun _ => Dr.now _ trivial))
 | succ d ih =>
  intro q b hq
  refine Dr.step (fun k => by rw [spec_SlopeTo.l0]) (Dr.ite (fun _ => ?_) (fun c => by omega))
  have one : ∀ (b s : Int) (G : Nat → Option (Int × Bool)), (∀ b', Dr (fun k => spec_SlopeTo.l1 k x y b' (q : Int) (wrap64 (s - 2))) (fun _ => True)) → s ≥ -1 → Dr (fun k => spec_SlopeTo.l1 k x y b (q : Int) s) (fun _ => True) := fun b s G hk hs => by
   obtain ⟨r1, h1⟩ := cosine_some (q : Int)
   obtain ⟨r2, h2⟩ := sine_some (wrap64 (s * (q : Int)))
   obtain ⟨r3, h3⟩ := cosine_some b
   obtain ⟨r4, h4⟩ := sine_some b
   refine Dr.step (fun k => by rw [spec_SlopeTo.l1]) (Dr.ite (fun _ => ?_) (fun c => absurd hs c))
   simp only [h1, h2, h3, h4, Option.bind_some]
   exact Dr.ite (fun _ => hk _) (fun _ => hk _)
  refine one b 1 (fun _ => none) (fun b' => ?_) (by decide)
  rw [show wrap64 (1 - 2) = -1 by unfold wrap64; omega]
  refine one b' (-1) (fun _ => none) (fun b2 => ?_) (by decide)
  rw [show wrap64 (-1 - 2) = -3 by unfold wrap64; omega]
  refine Dr.step (fun k => by rw [spec_SlopeTo.l1]) (Dr.ite (fun c => absurd c (by decide)) (fun _ => ?_))
  rw [wrap_succ q (by omega)]
  exact ih (q + 1) b2 (by omega)
theorem dr_slope (x y : Int) : Dr (fun k => spec_SlopeTo.f k x y) (fun _ => True) := by
 have hj : ∀ t, Dr (fun k => spec_SlopeTo.j0 k x y t) (fun _ => True) := fun t =>
  Dr.step (fun k => by rw [spec_SlopeTo.j0]) (Dr.ite (g := fun _ => some (0, false)) (g' := fun k => spec_SlopeTo.l0 k x y 0 1) (fun _ => Dr.now _ trivial) (fun _ => dr_slope0 x y 90 1 0 (by omega)))
 simp only [spec_SlopeTo.f, long_some, l1In_eq, Option.bind_some]
 exact Dr.ite (fun _ => Dr.ite (fun _ => Dr.ite (fun _ => hj _) (fun _ => hj _)) (fun _ => hj _)) (fun _ => hj _)
theorem dr_cave1 {l : List Int} (hb : Bytes l) (n : Int) (hn : n ≤ 100) (hn1 : 1 ≤ n) (ps : List S86) (hps : (ps.length : Int) = n) : ∀ (d : Nat) (xs : List S72) (i s : Int), 0 < xs.length → xs.length + d ≤ 12 → 0 ≤ i → i + 10 * d ≤ 990000000 → Dr (fun k => spec_l1Cur_cave.l1 k xs n ps (d : Int) l i s) (fun r => r.1.length ≤ 13 ∧ i ≤ r.2.1 ∧ r.2.1 ≤ i + 10 * d + 30) := by
 intro d
 induction d with
 | zero =>
  intro xs i s hx hd h0 h1
  refine Dr.step (fun k => by rw [spec_l1Cur_cave.l1]) (Dr.ite (fun c => by omega) (fun _ => ?_))
  refine Dr.pick hb (by omega) (by omega) (by omega) (fun v j t g0 g1 g2 g3 => ?_)
  dsimp only
  refine Dr.ite (fun _ => ?_) (fun _ => Dr.ite (fun _ => ?_) (fun _ => Dr.ite (fun _ => ?_) (fun _ => Dr.now _ ⟨by dsimp only; omega, by dsimp only; omega, by dsimp only; omega⟩)))
  ·refine Dr.bind (dr_leg hb (by omega) (by omega)) (fun r hr => ?_)
   exact Dr.ite (fun _ => Dr.now _ ⟨by dsimp only; rw [List.length_set]; omega, by dsimp only; omega, by dsimp only; omega⟩) (fun c => by omega)
  ·refine Dr.bind (dr_leg hb (by omega) (by omega)) (fun r hr => ?_)
   exact Dr.ite (fun _ => Dr.now _ ⟨by dsimp only; rw [snoc_len]; omega, by dsimp only; omega, by dsimp only; omega⟩) (fun c => by omega)
  ·simp only [Option.bind_some]
   refine Dr.ite (fun _ => ?_) (fun c => by omega)
   refine Dr.ite (fun _ => Dr.now _ ⟨by simp; omega, by dsimp only; omega, by dsimp only; omega⟩) (fun c => by simp at c; omega)
 | succ d ih =>
  intro xs i s hx hd h0 h1
  refine Dr.step (fun k => by rw [spec_l1Cur_cave.l1]) (Dr.ite (fun _ => ?_) (fun c => by omega))
  refine Dr.pick hb (by omega) (by omega) (by omega) (fun a j t g0 g1 g2 g3 => ?_)
  dsimp only
  refine Dr.pick hb (by omega) (by omega) (by omega) (fun b j2 t2 g4 g5 g6 g7 => ?_)
  dsimp only
  refine Dr.ite (fun _ => Dr.ite (fun _ => Dr.ite (fun _ => Dr.ite (fun _ => ?_) (fun c => by omega)) (fun c => by omega)) (fun c => by omega)) (fun c => by omega)
  simp only [spec_l4Plus.f, Option.bind_some]
  refine Dr.bind (dr_length _ _ _) (fun u _ => ?_)
  refine Dr.bind (dr_length _ _ _) (fun w _ => ?_)
  have hskip : ∀ (x y z p q : Int) (e f g : Int), Dr (fun k => spec_l1Cur_cave.j2 k xs n ps ((d + 1 : Nat) : Int) x y z p true l j2 t2 e f g) (fun r => r.1.length ≤ 13 ∧ i ≤ r.2.1 ∧ r.2.1 ≤ i + 10 * ((d + 1 : Nat) : Int) + 30) := fun x y z p q e f g => by
   refine Dr.step (fun k => by rw [spec_l1Cur_cave.j2]) (Dr.ite (fun _ => ?_) (fun c => absurd rfl c))
   rw [wrap_pred d (by omega)]
   exact (ih xs j2 t2 hx (by omega) (by omega) (by omega)).mono (fun r hr => ⟨hr.1, by omega, by omega⟩)
  have hgo : ∀ (b : Bool) (x y z p : Int) (e f g : Int), Dr (fun k => spec_l1Cur_cave.j2 k xs n ps ((d + 1 : Nat) : Int) x y z p b l j2 t2 e f g) (fun r => r.1.length ≤ 13 ∧ i ≤ r.2.1 ∧ r.2.1 ≤ i + 10 * ((d + 1 : Nat) : Int) + 30) := fun b x y z p e f g => by
   cases b with
   | true => exact hskip x y z p 0 e f g
   | false =>
    refine Dr.step (fun k => by rw [spec_l1Cur_cave.j2]) (Dr.ite (fun c => by cases c) (fun _ => ?_))
    refine Dr.bind (dr_bearing _ _) (fun u2 _ => ?_)
    refine Dr.bind (dr_slope _ _) (fun u3 _ => ?_)
    refine Dr.pick hb (by omega) (by omega) (by omega) (fun v3 j3 t3 g8 g9 g10 g11 => ?_)
    dsimp only
    refine Dr.pick hb (by omega) (by omega) (by omega) (fun v4 j4 t4 g12 g13 g14 g15 => ?_)
    dsimp only
    rw [wrap_pred d (by omega)]
    exact Dr.ite (fun _ => (ih _ j4 t4 (by rw [snoc_len]; omega) (by rw [snoc_len]; omega) (by omega) (by omega)).mono (fun r hr => ⟨hr.1, by omega, by omega⟩)) (fun c => by omega)
  refine Dr.ite (fun _ => hgo _ _ _ _ _ _ _ _) (fun _ => ?_)
  simp only [l1In_eq, Option.bind_some]
  exact hgo _ _ _ _ _ _ _ _
theorem dr_cave0 {l : List Int} (hb : Bytes l) (n : Nat) (hn : n ≤ 7) : ∀ (d q : Nat) (xs : List S72) (ps : List S86) (i s : Int), q + d = n → 2 ≤ n → 1 ≤ q → xs.length + 1 = q → ps.length = q → 0 ≤ i → i + 12 * d ≤ 980000000 → Dr (fun k => spec_l1Cur_cave.l0 k xs (n : Int) ps (q : Int) l i s) (fun r => r.1.length ≤ 13 ∧ i ≤ r.2.1 ∧ r.2.1 ≤ i + 12 * d + 80) := by
 intro d
 induction d with
 | zero =>
  intro q xs ps i s hq h2 hq1 hx hp h0 h1
  refine Dr.step (fun k => by rw [spec_l1Cur_cave.l0]) (Dr.ite (fun c => by omega) (fun _ => ?_))
  refine Dr.pick hb (by omega) (by omega) (by omega) (fun v j t g0 g1 g2 g3 => ?_)
  dsimp only
  obtain ⟨m, hm⟩ : ∃ m : Nat, v = (m : Int) := ⟨v.toNat, by omega⟩
  rw [hm]
  exact (dr_cave1 hb (n : Int) (by omega) (by omega) ps (by omega) m xs j t (by omega) (by omega) (by omega) (by omega)).mono (fun r hr => ⟨hr.1, by omega, by omega⟩)
 | succ d ih =>
  intro q xs ps i s hq h2 hq1 hx hp h0 h1
  refine Dr.step (fun k => by rw [spec_l1Cur_cave.l0]) (Dr.ite (fun _ => ?_) (fun c => by omega))
  refine Dr.pick hb (by omega) (by omega) (by omega) (fun v j t g0 g1 g2 g3 => ?_)
  dsimp only
  refine Dr.among hb (by omega) (by omega) (by decide) (by decide) (fun v2 j2 t2 g4 g5 _ => ?_)
  dsimp only
  refine Dr.among hb (by omega) (by omega) (by decide) (by decide) (fun v3 j3 t3 g6 g7 _ => ?_)
  dsimp only
  refine Dr.among hb (by omega) (by omega) (by decide) (by decide) (fun v4 j4 t4 g8 g9 _ => ?_)
  dsimp only
  refine Dr.ite (fun _ => Dr.ite (fun _ => ?_) (fun c => by omega)) (fun c => by omega)
  obtain ⟨x, y, z, hs⟩ := shift_some v (q : Int) v2 v3 v4
  simp only [hs, spec_l4Plus.f, spec_l4Reverse.f, Option.bind_some]
  refine Dr.ite (fun _ => ?_) (fun c => by omega)
  refine Dr.one hb (by omega) (by omega) (by omega) (fun b j5 t5 g10 g11 => ?_)
  dsimp only
  rw [wrap_succ q (by omega)]
  exact Dr.ite (fun _ => Dr.ite (fun _ => (ih (q + 1) _ _ j5 t5 (by omega) h2 (by omega) (by rw [snoc_len]; omega) (by rw [snoc_len]; omega) (by omega) (by omega)).mono (fun r hr => ⟨hr.1, by omega, by omega⟩)) (fun c => by omega)) (fun _ => Dr.ite (fun _ => (ih (q + 1) _ _ j5 t5 (by omega) h2 (by omega) (by rw [snoc_len]; omega) (by rw [snoc_len]; omega) (by omega) (by omega)).mono (fun r hr => ⟨hr.1, by omega, by omega⟩)) (fun c => by omega))
theorem dr_cave {l : List Int} (hb : Bytes l) {i s : Int} (h0 : 0 ≤ i) (h1 : i ≤ 900000000) : Dr (fun k => spec_l1Cur_cave.f k l i s) (fun r => r.1.length ≤ 13 ∧ i ≤ r.2.1 ∧ r.2.1 ≤ i + 200) := by
 simp only [spec_l1Cur_cave.f]
 refine Dr.pick hb (by omega) (by omega) (by omega) (fun v j t g0 g1 g2 g3 => ?_)
 dsimp only
 obtain ⟨m, hm⟩ : ∃ m : Nat, wrap64 (2 + v) = (m : Int) ∧ 2 ≤ m ∧ m ≤ 6 := ⟨(2 + v).toNat, by rw [wrap_id (by omega) (by omega)]; omega, by omega, by omega⟩
 rw [hm.1]
 exact (dr_cave0 hb m (by omega) (m - 1) 1 [] [⟨0, 0, 0⟩] j t (by omega) (by omega) (by omega) rfl rfl (by omega) (by omega)).mono (fun r hr => ⟨hr.1, by omega, by omega⟩)
theorem dr_caves {l : List Int} (hb : Bytes l) {i s : Int} (h0 : 0 ≤ i) (h1 : i ≤ 800000000) : Dr (fun k => spec_l1Cur_caves.f k l i s) (fun r => r.1.length ≤ 13 ∧ i ≤ r.2.1 ∧ r.2.1 ≤ i + 210) := by
 simp only [spec_l1Cur_caves.f]
 refine Dr.bind (dr_cave hb h0 (by omega)) (fun r hr => ?_)
 obtain ⟨g1, g2, g3⟩ := hr
 refine Dr.one hb (by omega) (by omega) (by omega) (fun b j t q0 q1 => ?_)
 dsimp only
 refine Dr.ite (fun _ => Dr.ite (fun c => ?_) (fun _ => Dr.now _ ⟨g1, by dsimp only; omega, by dsimp only; omega⟩)) (fun _ => Dr.now _ ⟨g1, by dsimp only; omega, by dsimp only; omega⟩)
 refine Dr.pick hb (by omega) (by omega) (by omega) (fun v j2 t2 q2 q3 q4 q5 => ?_)
 simp only [Option.bind_some]
 have hw : wrap64 (v + 1) = v + 1 := wrap_id (by omega) (by omega)
 rw [hw]
 have hl : ∀ n m : Nat, ([] ++ r.1.take n ++ r.1.drop m).length ≤ 26 := fun n m => by simp only [List.nil_append, List.length_append, List.length_take, List.length_drop]; omega
 refine Dr.ite (fun _ => Dr.ite (fun _ => Dr.ite (fun _ => Dr.ite (fun _ => Dr.ite (fun _ => Dr.ite (fun _ => Dr.now _ ⟨?_, by dsimp only; omega, by dsimp only; omega⟩) (fun c => ?_)) (fun c => ?_)) (fun c => ?_)) (fun c => ?_)) (fun c => ?_)) (fun c => ?_)
 ·simp only [List.nil_append, List.length_append, List.length_take, List.length_drop]
  omega
 ·simp only [List.nil_append, List.length_append, List.length_take, List.length_drop] at c
  omega
 ·omega
 ·omega
 ·simp only [List.nil_append, List.length_nil, List.length_append, List.length_take, List.length_drop] at c
  omega
 ·omega
 ·omega
theorem dr_ents0 {l : List Int} (hb : Bytes l) : ∀ (d q : Nat) (o : List Int) (i s : Int), q + d = 7 → o.length ≤ q → 0 ≤ i → i + 2 * d ≤ 900000000 → Dr (fun k => spec_l1Cur_entrances.l0 k o (q : Int) l i s) (fun r => r.1.length ≤ 8 ∧ i ≤ r.2.1) := by
 intro d
 induction d with
 | zero =>
  intro q o i s hd ho h0 h1
  refine Dr.step (fun k => by rw [spec_l1Cur_entrances.l0]) (Dr.ite (fun c => by omega) (fun _ => ?_))
  refine Dr.one hb (by omega) (by omega) (by omega) (fun b j t q0 q1 => ?_)
  dsimp only
  refine Dr.ite (fun _ => ?_) (fun _ => Dr.now _ ⟨by dsimp only; omega, by dsimp only; omega⟩)
  refine Dr.among hb (by omega) (by omega) (by decide) (by decide) (fun v j2 t2 q2 q3 _ => ?_)
  dsimp only
  exact Dr.ite (fun _ => Dr.now _ ⟨by dsimp only; rw [snoc_len]; omega, by dsimp only; omega⟩) (fun c => by omega)
 | succ d ih =>
  intro q o i s hd ho h0 h1
  refine Dr.step (fun k => by rw [spec_l1Cur_entrances.l0]) (Dr.ite (fun _ => ?_) (fun c => by omega))
  refine Dr.one hb (by omega) (by omega) (by omega) (fun b j t q0 q1 => ?_)
  dsimp only
  rw [wrap_succ q (by omega)]
  refine Dr.ite (fun _ => Dr.ite (fun _ => ?_) (fun c => by omega)) (fun _ => ?_)
  ·exact (ih (q + 1) _ j t (by omega) (by rw [snoc_len]; omega) (by omega) (by omega)).mono (fun z hz => ⟨hz.1, by omega⟩)
  ·exact (ih (q + 1) _ j t (by omega) (by omega) (by omega) (by omega)).mono (fun z hz => ⟨hz.1, by omega⟩)
theorem dr_ents {l : List Int} (hb : Bytes l) {i s : Int} (h0 : 0 ≤ i) (h1 : i ≤ 800000000) : Dr (fun k => spec_l1Cur_entrances.f k l i s) (fun r => r.1.length ≤ 8 ∧ i ≤ r.2.1) := by
 simp only [spec_l1Cur_entrances.f]
 exact dr_ents0 hb 7 0 [] i s (by omega) (by simp) h0 (by omega)
def cavesAns (l : List S72) : List (List Int) × Bool := if okLegs l = true then (cavesOf l, true) else ([], false)
theorem implCavesOf_ev (l : List S72) (hm : l.length ≤ 9223372036854775807) : Ev (fun k => impl_CavesOf.f k l) (cavesAns l) := by
 simp only [impl_CavesOf.f]
 refine Ev.bind (areLegs_ev l hm) ?_
 by_cases h : okLegs l = true
 ·rw [show cavesAns l = (cavesOf l, true) from if_pos h]
  exact Ev.ite_pos h (Ev.bind (implCaves_ev h) (Ev.now _))
 ·rw [show cavesAns l = ([], false) from if_neg h]
  exact Ev.ite_neg h (Ev.now _)
theorem specCavesOf_ev (l : List S72) (hm : l.length ≤ 9223372036854775807) : Ev (fun k => spec_CavesOf.f k l) (cavesAns l) := by
 simp only [spec_CavesOf.f]
 refine Ev.bind (l4Legs_ev l hm) ?_
 by_cases h : okLegs l = true
 ·rw [show cavesAns l = (cavesOf l, true) from if_pos h]
  exact Ev.ite_pos h (Ev.bind (specCaves_ev h) (Ev.now _))
 ·rw [show cavesAns l = ([], false) from if_neg h]
  exact Ev.ite_neg h (Ev.now _)
theorem cavesAns_len (l : List S72) : sizeSS (cavesAns l).1 ≤ 64 ∧ (cavesAns l).1.length ≤ 8 := by
 unfold cavesAns
 split
 ·rename_i h
  exact caves_size h
 ·exact ⟨by simp [sizeSS], by simp⟩
theorem rdSC (l : List (List Int)) (i : Nat) (h : i < l.length) : rd_L5 l (i : Int) = l[i] := by simp [rd_L5, List.getD_eq_getElem?_getD, List.getElem?_eq_getElem h]
theorem specCW_inner {ents : List Int} (he : ents.length ≤ 1048576) {all : List (List Int)} {x : Nat} (hx : x < all.length) (hrow : all[x].length ≤ 1048576) (out : List (List Int)) (r : List (List Int) × Bool) : ∀ d i (b : Bool), i + d = ents.length →
  Ev (fun k => spec_CavesWithout.l1 k ents out all (x : Int) (b || (ents.drop i).any (fun s => decide (s ∈ all[x]))) (ents.length : Int)) r → Ev (fun k => spec_CavesWithout.l1 k ents out all (x : Int) b (i : Int)) r := by
 intro d
 induction d with
 | zero =>
  intro i b hi h
  obtain rfl : i = ents.length := by omega
  rw [List.drop_length, List.any_nil, Bool.or_false] at h
  exact h
 | succ d ih =>
  intro i b hi h
  have hil : i < ents.length := by omega
  have hwr : wrap64 ((i : Int) + 1) = ((i + 1 : Nat) : Int) := by unfold wrap64; omega
  rw [List.drop_eq_getElem_cons hil, List.any_cons] at h
  cases b with
  | true =>
   refine Ev.step (fun k => ?_) (ih (i + 1) true (by omega) (by simpa using h))
   simp only [spec_CavesWithout.l1, hwr]
   rw [if_pos (by omega), if_pos trivial]
  | false =>
   have hr : rd_L5 all (x : Int) = all[x] := rdSC all x hx
   refine Ev.step (f := fun k => (spec_l1Has.f k all[x] ents[i]).bind fun t => spec_CavesWithout.l1 k ents out all (x : Int) t ((i + 1 : Nat) : Int)) (fun k => ?_) (Ev.bind (l1Has_ev hrow) (ih (i + 1) _ (by omega) (by simpa using h)))
   simp only [spec_CavesWithout.l1, hr, rd_nat, getD_lt _ _ _ hil, hwr]
   rw [if_pos (by omega), if_neg (by decide), if_pos (by omega), if_pos (by omega), if_pos (by omega)]
theorem specCW_outer {ents : List Int} (he : ents.length ≤ 1048576) {all : List (List Int)} (h8 : all.length ≤ 1000) (hrow : ∀ c ∈ all, c.length ≤ 1048576) : ∀ d x (out : List (List Int)), x + d = all.length → out.length ≤ x →
  Ev (fun k => spec_CavesWithout.l0 k ents out all (x : Int)) (out ++ (all.drop x).filter (closedB ents), true) := by
 intro d
 induction d with
 | zero =>
  intro x out hx _
  rw [List.drop_eq_nil_of_le (by omega), List.filter_nil, List.append_nil]
  refine Ev.step (f := fun _ => some (out, true)) (fun k => ?_) (Ev.now _)
  simp only [spec_CavesWithout.l0]
  rw [if_neg (by omega)]
 | succ d ih =>
  intro x out hx ho
  have hxl : x < all.length := by omega
  have hwr : wrap64 ((x : Int) + 1) = ((x + 1 : Nat) : Int) := by unfold wrap64; omega
  have hr : rd_L5 all (x : Int) = all[x] := rdSC all x hxl
  rw [List.drop_eq_getElem_cons hxl, List.filter_cons]
  refine Ev.step (f := fun k => spec_CavesWithout.l1 k ents out all (x : Int) false ((0 : Nat) : Int)) (fun k => ?_) (specCW_inner he hxl (hrow _ (List.getElem_mem hxl)) out _ ents.length 0 false (by omega) ?_)
  ·simp only [spec_CavesWithout.l0]
   rw [if_pos (by omega)]
   rfl
  ·rw [List.drop_zero, Bool.false_or]
   cases hb : ents.any (fun s => decide (s ∈ all[x])) with
   | true =>
    have hc : closedB ents all[x] = false := by unfold closedB; rw [hb]; rfl
    rw [hc, if_neg (by decide)]
    refine Ev.step (fun k => ?_) (ih (x + 1) out (by omega) (by omega))
    simp only [spec_CavesWithout.l1, hwr]
    rw [if_neg (by omega), if_pos trivial]
   | false =>
    have hc : closedB ents all[x] = true := by unfold closedB; rw [hb]; rfl
    rw [hc, if_pos rfl, List.append_cons]
    refine Ev.step (fun k => ?_) (ih (x + 1) (out ++ [all[x]]) (by omega) (by simp; omega))
    simp only [spec_CavesWithout.l1, hr, hwr]
    rw [if_neg (by omega), if_neg (by decide), if_pos (by omega), if_pos (by omega), if_pos (by omega)]
def withoutAns (l : List S72) (e : List Int) : List (List Int) × Bool := if okLegs l = true ∧ okEnts e = true then ((cavesOf l).filter (closedB e), true) else ([], false)
theorem implCW_ev (l : List S72) (e : List Int) (hm : l.length ≤ 9223372036854775807) (he : e.length ≤ 1048576) : Ev (fun k => impl_CavesWithout.f k l e) (withoutAns l e) := by
 simp only [impl_CavesWithout.f]
 refine Ev.bind (areEnts_ev l e hm he) ?_
 by_cases h : okLegs l = true ∧ okEnts e = true
 ·rw [show withoutAns l e = _ from if_pos h]
  refine Ev.ite_pos (by simp [h.1, h.2]) (Ev.bind (implCaves_ev h.1) (Ev.ite_pos (by have := (caves_size h.1).2; omega) (Ev.now _)))
 ·rw [show withoutAns l e = _ from if_neg h]
  exact Ev.ite_neg (by simpa using h) (Ev.now _)
theorem specCW_ev (l : List S72) (e : List Int) (hm : l.length ≤ 9223372036854775807) (he : e.length ≤ 1048576) : Ev (fun k => spec_CavesWithout.f k l e) (withoutAns l e) := by
 simp only [spec_CavesWithout.f, Option.bind_some]
 refine Ev.bind (asked_ev l e hm he) ?_
 by_cases h : okLegs l = true ∧ okEnts e = true
 ·rw [show withoutAns l e = _ from if_pos h]
  have h8 := caves_size h.1
  have := specCW_outer he (all := cavesOf l) (by omega) (fun c hc => by have := sizeSS_row hc; omega) (cavesOf l).length 0 [] (by omega) (by simp)
  rw [List.drop_zero, List.nil_append] at this
  exact Ev.ite_pos (by simp [h.1, h.2]) (Ev.bind (specCaves_ev h.1) this)
 ·rw [show withoutAns l e = _ from if_neg h]
  exact Ev.ite_neg (by simpa using h) (Ev.now _)
theorem sizeSS_filter (p : List Int → Bool) : ∀ l : List (List Int), sizeSS (l.filter p) ≤ sizeSS l
 | [] => by simp [sizeSS]
 | c :: l => by
  have := sizeSS_filter p l
  rw [List.filter_cons]
  split
  ·simp only [sizeSS]; omega
  ·simp only [sizeSS]; omega
theorem withoutAns_len (l : List S72) (e : List Int) : sizeSS (withoutAns l e).1 ≤ 64 ∧ (withoutAns l e).1.length ≤ 8 := by
 unfold withoutAns
 split
 ·rename_i h
  have h8 := caves_size h.1
  have h1 := sizeSS_filter (closedB e) (cavesOf l)
  have h2 := List.length_filter_le (closedB e) (cavesOf l)
  simp only
  omega
 ·exact ⟨by simp [sizeSS], by simp⟩
theorem together_eq {l : List S72} (hl : okLegs l = true) {a b : Int} (ha : 0 ≤ a ∧ a < 8) (hb : 0 ≤ b ∧ b < 8) : impl_together.f l a b = some (decide (b ∈ caveOf l a)) := by
 unfold impl_together.f
 rw [if_pos ⟨hangOk_of hl ha, hb.1, by omega⟩, hangOf_arr hl ha, arrL_get hb]
def connectAns (l : List S72) (a b : Int) : Int × Bool := if okLegs l = true ∧ (0 ≤ a ∧ a ≤ 7) ∧ (0 ≤ b ∧ b ≤ 7) ∧ a ≠ b then (if decide (b ∈ caveOf l a) = true then (0, true) else (lengthOf l b, true)) else (0, false)
theorem specConnect_ev (l : List S72) (a b : Int) (hm : l.length ≤ 9223372036854775807) : Ev (fun k => spec_WouldConnect.f k l a b) (connectAns l a b) := by
 have hno : Ev (fun k => spec_WouldConnect.j0 k l a b true) (0, false) := Ev.step (f := fun _ => some (0, false)) (fun k => by rw [spec_WouldConnect.j0, if_pos rfl]) (Ev.now _)
 simp only [spec_WouldConnect.f, spec_l4Station.f, l1In_eq, Option.bind_some]
 refine Ev.bind (l4Legs_ev l hm) ?_
 by_cases h : okLegs l = true
 ·refine Ev.ite_pos h ?_
  by_cases h1 : 0 ≤ a ∧ a ≤ 7
  ·refine Ev.ite_pos (decide_eq_true h1) ?_
   by_cases h2 : 0 ≤ b ∧ b ≤ 7
   ·refine Ev.ite_pos (decide_eq_true h2) ?_
    by_cases h3 : a = b
    ·rw [show connectAns l a b = (0, false) from if_neg (fun hh => hh.2.2.2 h3), show (a == b) = true from beq_iff_eq.2 h3]
     exact hno
    ·rw [show connectAns l a b = _ from if_pos ⟨h, h1, h2, h3⟩, show (a == b) = false from beq_eq_false_iff_ne.2 h3]
     have h8 := (caveOf_good h (a := a) (by omega)).len
     refine Ev.step (f := fun k => (spec_l17Cave.f k l a (-1)).bind fun t => (spec_l1Has.f k t b).bind fun t2 => if t2 = true then some (0, true) else (spec_l17Length.f k l b).bind fun t3 => some (t3, true)) (fun k => by rw [spec_WouldConnect.j0, if_neg (by decide)]) (Ev.bind (specCave_ev h (by omega)) (Ev.bind (l1Has_ev (by omega)) ?_))
     by_cases h4 : decide (b ∈ caveOf l a) = true
     ·rw [if_pos h4]
      exact Ev.ite_pos h4 (Ev.now _)
     ·rw [if_neg h4]
      exact Ev.ite_neg h4 (Ev.bind (specLength_ev h (by omega)) (Ev.now _))
   ·rw [show connectAns l a b = (0, false) from if_neg (fun hh => h2 hh.2.2.1)]
    exact Ev.ite_neg (by simpa using h2) hno
  ·rw [show connectAns l a b = (0, false) from if_neg (fun hh => h1 hh.2.1)]
   exact Ev.ite_neg (by simpa using h1) hno
 ·rw [show connectAns l a b = (0, false) from if_neg (fun hh => h hh.1)]
  exact Ev.ite_neg h hno
theorem implConnect_ev (l : List S72) (a b : Int) (hm : l.length ≤ 9223372036854775807) : Ev (fun k => impl_WouldConnect.f k l a b) (connectAns l a b) := by
 have hno : Ev (fun k => impl_WouldConnect.j0 k l a b true) (0, false) := Ev.step (f := fun _ => some (0, false)) (fun k => by rw [impl_WouldConnect.j0, if_pos rfl]) (Ev.now _)
 simp only [impl_WouldConnect.f, impl_isStation.f, within_eq, Option.bind_some]
 refine Ev.bind (areLegs_ev l hm) ?_
 by_cases h : okLegs l = true
 ·refine Ev.ite_pos h ?_
  by_cases h1 : 0 ≤ a ∧ a ≤ 7
  ·refine Ev.ite_pos (decide_eq_true h1) ?_
   by_cases h2 : 0 ≤ b ∧ b ≤ 7
   ·refine Ev.ite_pos (decide_eq_true h2) ?_
    by_cases h3 : a = b
    ·rw [show connectAns l a b = (0, false) from if_neg (fun hh => hh.2.2.2 h3), show (a == b) = true from beq_iff_eq.2 h3]
     exact hno
    ·rw [show connectAns l a b = (if decide (b ∈ caveOf l a) = true then (0, true) else (lengthOf l b, true)) from if_pos ⟨h, h1, h2, h3⟩, show (a == b) = false from beq_eq_false_iff_ne.2 h3]
     refine Ev.step (f := fun _ => (impl_together.f l a b).bind fun t => if t = true then some (0, true) else (impl_caveLength.f l b).bind fun t3 => some (t3, true)) (fun k => by rw [impl_WouldConnect.j0, if_neg (by decide)]) ?_
     refine Ev.bindc (f := fun _ t => if t = true then some (0, true) else (impl_caveLength.f l b).bind fun t3 => some (t3, true)) (together_eq h (by omega) (by omega)) ?_
     by_cases h4 : decide (b ∈ caveOf l a) = true
     ·simp only [h4, if_true]
      exact Ev.now _
     ·simp only [h4, Bool.false_eq_true, if_false, implLength_eq h (a := b) (by omega), Option.bind_some]
      exact Ev.now _
   ·rw [show connectAns l a b = (0, false) from if_neg (fun hh => h2 hh.2.2.1)]
    exact Ev.ite_neg (by simpa using h2) hno
  ·rw [show connectAns l a b = (0, false) from if_neg (fun hh => h1 hh.2.1)]
   exact Ev.ite_neg (by simpa using h1) hno
 ·rw [show connectAns l a b = (0, false) from if_neg (fun hh => h hh.1)]
  exact Ev.ite_neg h hno
def caveAns (l : List S72) (a : Int) : Int × Bool := if okLegs l = true ∧ (0 ≤ a ∧ a ≤ 7) then (lengthOf l a, true) else (0, false)
theorem specCaveLength_ev (l : List S72) (a : Int) (hm : l.length ≤ 9223372036854775807) : Ev (fun k => spec_CaveLength.f k l a) (caveAns l a) := by
 simp only [spec_CaveLength.f, spec_l4Station.f, l1In_eq, Option.bind_some]
 refine Ev.bind (l4Legs_ev l hm) ?_
 by_cases h : okLegs l = true
 ·refine Ev.ite_pos h ?_
  by_cases h2 : 0 ≤ a ∧ a ≤ 7
  ·rw [show caveAns l a = (lengthOf l a, true) from if_pos ⟨h, h2⟩]
   exact Ev.ite_pos (decide_eq_true h2) (Ev.bind (specLength_ev h (by omega)) (Ev.now _))
  ·rw [show caveAns l a = (0, false) from if_neg (fun hh => h2 hh.2)]
   exact Ev.ite_neg (by simpa using h2) (Ev.now _)
 ·rw [show caveAns l a = (0, false) from if_neg (fun hh => h hh.1)]
  exact Ev.ite_neg h (Ev.now _)
theorem implCaveLength_ev (l : List S72) (a : Int) (hm : l.length ≤ 9223372036854775807) : Ev (fun k => impl_CaveLength.f k l a) (caveAns l a) := by
 simp only [impl_CaveLength.f, impl_isStation.f, within_eq, Option.bind_some]
 refine Ev.bind (areLegs_ev l hm) ?_
 by_cases h : okLegs l = true
 ·refine Ev.ite_pos h ?_
  by_cases h2 : 0 ≤ a ∧ a ≤ 7
  ·rw [show caveAns l a = (lengthOf l a, true) from if_pos ⟨h, h2⟩]
   exact Ev.ite_pos (decide_eq_true h2) (Ev.bindc (implLength_eq h (by omega)) (Ev.now _))
  ·rw [show caveAns l a = (0, false) from if_neg (fun hh => h2 hh.2)]
   exact Ev.ite_neg (by simpa using h2) (Ev.now _)
 ·rw [show caveAns l a = (0, false) from if_neg (fun hh => h hh.1)]
  exact Ev.ite_neg h (Ev.now _)
def Via (l : List S72) (u v : Int) (i : Nat) : Prop := (fromOf l i = u ∧ toOf l i = v) ∨ (fromOf l i = v ∧ toOf l i = u)
structure LInv (l : List S72) (ents : List Int) (n j : Nat) (st : List Int) : Prop where
 len : st.length = 8
 at_ : ∀ v, 0 ≤ v → v < 8 → (∃ m : Nat, m ≤ n ∧ rd st v = (m : Int) ∧ DistAt l ents m v) ∨ (¬ Dd l ents n v ∧ ((rd st v = -1 ∧ ∀ i, i < j → ∀ u, Via l u v i → ¬ Dd l ents n u) ∨ (rd st v = ((n + 1 : Nat) : Int) ∧ Dd l ents (n + 1) v)))
theorem Dd.up {l : List S72} {ents : List Int} {n : Nat} {u v : Int} (h : Dd l ents n u) {i : Nat} (hi : i < l.length) (hv : Via l u v i) : Dd l ents (n + 1) v := by
 right
 refine ⟨i, hi, ?_⟩
 rcases hv with ⟨a, b⟩ | ⟨a, b⟩
 ·exact .inr ⟨b, by rw [a]; exact h⟩
 ·exact .inl ⟨a, by rw [b]; exact h⟩
theorem DistAt.uniq {l : List S72} {ents : List Int} {n m : Nat} {v : Int} (h : DistAt l ents n v) (g : DistAt l ents m v) : n = m := by
 rcases Nat.lt_trichotomy n m with h1 | h1 | h1
 ·exact absurd h.1 (g.2 n h1)
 ·exact h1
 ·exact absurd g.1 (h.2 m h1)
theorem LInv.now {l : List S72} {ents : List Int} {n j : Nat} {st : List Int} (h : LInv l ents n j st) {v : Int} (h0 : 0 ≤ v) (h8 : v < 8) (he : rd st v = (n : Int)) : Dd l ents n v := by
 rcases h.at_ v h0 h8 with ⟨m, hm, e, hd⟩ | ⟨_, ⟨e, _⟩ | ⟨e, _⟩⟩
 ·obtain rfl : m = n := by omega
  exact hd.1
 ·omega
 ·omega
theorem LInv.neg {l : List S72} {ents : List Int} {n j : Nat} {st : List Int} (h : LInv l ents n j st) {v : Int} (h0 : 0 ≤ v) (h8 : v < 8) (he : rd st v < 0) : ¬ Dd l ents n v ∧ rd st v = -1 ∧ ∀ i, i < j → ∀ u, Via l u v i → ¬ Dd l ents n u := by
 rcases h.at_ v h0 h8 with ⟨m, hm, e, hd⟩ | ⟨h1, ⟨e, h2⟩ | ⟨e, _⟩⟩
 ·omega
 ·exact ⟨h1, e, h2⟩
 ·omega
theorem LInv.set {l : List S72} {ents : List Int} {n j : Nat} {st : List Int} (h : LInv l ents n j st) {u v : Int} (h0 : 0 ≤ v) (h8 : v < 8) (he : rd st v < 0) (hu0 : 0 ≤ u) (hu8 : u < 8) (hu : rd st u = (n : Int)) {i : Nat} (hi : i < l.length) (hv : Via l u v i) : LInv l ents n j (st.set v.toNat ((n : Int) + 1)) := by
 have hl := h.len
 refine ⟨by rw [List.length_set]; exact hl, fun z z0 z8 => ?_⟩
 rw [rd_set (by omega) (by omega)]
 by_cases e : z = v
 ·subst e
  rw [if_pos rfl]
  right
  exact ⟨(h.neg h0 h8 he).1, .inr ⟨by omega, (h.now hu0 hu8 hu).up hi hv⟩⟩
 ·rw [if_neg e]
  exact h.at_ z z0 z8
theorem LInv.next {l : List S72} {ents : List Int} {n j : Nat} {st : List Int} (h : LInv l ents n j st) (hj : j < l.length) (hin : ∀ i, i < l.length → (0 ≤ fromOf l i ∧ fromOf l i < 8) ∧ (0 ≤ toOf l i ∧ toOf l i < 8))
  (h1 : ¬ (rd st (fromOf l j) = (n : Int) ∧ rd st (toOf l j) < 0)) (h2 : ¬ (rd st (toOf l j) = (n : Int) ∧ rd st (fromOf l j) < 0)) : LInv l ents n (j + 1) st := by
 refine ⟨h.len, fun v v0 v8 => ?_⟩
 rcases h.at_ v v0 v8 with hh | ⟨g1, ⟨g2, g3⟩ | hh⟩
 ·exact .inl hh
 ·refine .inr ⟨g1, .inl ⟨g2, fun i hi u hv hd => ?_⟩⟩
  by_cases e : i < j
  ·exact g3 i e u hv hd
  ·obtain rfl : i = j := by omega
   have hii := hin i hj
   have hub : 0 ≤ u ∧ u < 8 := by rcases hv with ⟨a, b⟩ | ⟨a, b⟩ <;> omega
   have hun : rd st u = (n : Int) := by
    rcases h.at_ u hub.1 hub.2 with ⟨m, hm, e, hdm⟩ | ⟨k1, _⟩
    ·by_cases hmn : m = n
     ·rw [e, hmn]
     ·exact absurd ((hdm.1.up hj hv).mono (by omega)) g1
    ·exact absurd hd k1
   rcases hv with ⟨a, b⟩ | ⟨a, b⟩
   ·exact h1 ⟨by rw [a]; exact hun, by rw [b]; omega⟩
   ·exact h2 ⟨by rw [b]; exact hun, by rw [a]; omega⟩
 ·exact .inr ⟨g1, .inr hh⟩
theorem LInv.layer {l : List S72} {ents : List Int} {n : Nat} {st : List Int} (h : LInv l ents n l.length st) : LInv l ents (n + 1) 0 st := by
 refine ⟨h.len, fun v v0 v8 => ?_⟩
 rcases h.at_ v v0 v8 with ⟨m, hm, e, hd⟩ | ⟨g1, ⟨g2, g3⟩ | ⟨g2, g3⟩⟩
 ·exact .inl ⟨m, by omega, e, hd⟩
 ·refine .inr ⟨fun hd => ?_, .inl ⟨g2, fun i hi => by omega⟩⟩
  rcases hd with hd | ⟨i, hi, ⟨a, b⟩ | ⟨a, b⟩⟩
  ·exact g1 hd
  ·exact g3 i hi _ (.inr ⟨a, rfl⟩) b
  ·exact g3 i hi _ (.inl ⟨rfl, a⟩) b
 ·exact .inl ⟨n + 1, by omega, g2, g3, fun m hm hd => g1 (hd.mono (by omega))⟩
theorem j3_step {k : Nat} {l : List S72} {st : List Int} {n j a b : Int} (ha0 : 0 ≤ a) (ha : a < (st.length : Int)) (hb0 : 0 ≤ b) (hb : b < (st.length : Int)) (hn : rd (st.set b.toNat (wrap64 (n + 1))) b ≠ n) (c : Bool) :
  spec_l17Steps.j3 (k + 1) l st n j a b c = spec_l17Steps.l2 k l (if c = true then st.set b.toNat (wrap64 (n + 1)) else if rd st b = n ∧ rd st a < 0 then st.set a.toNat (wrap64 (n + 1)) else st) n (wrap64 (j + 1)) := by
 cases c with
 | true =>
  simp only [spec_l17Steps.j3, Option.bind_some, if_true]
  rw [if_pos hb0, if_pos hb, if_neg hn]
 | false =>
  simp only [spec_l17Steps.j3, Bool.false_eq_true, if_false]
  rw [if_pos hb0, if_pos hb]
  by_cases h1 : rd st b = n
  ·rw [if_pos h1, if_pos ha0, if_pos ha]
   by_cases h2 : rd st a < 0
   ·rw [if_pos h2, if_pos ⟨h1, h2⟩]
   ·rw [if_neg h2, if_neg (fun hh => h2 hh.2)]
  ·rw [if_neg h1, if_neg (fun hh => h1 hh.1)]
theorem l2_step {k : Nat} {l : List S72} {st : List Int} {n j : Int} (h1 : j < (l.length : Int)) (h2 : 0 ≤ j) (ha0 : 0 ≤ (rd_T72 l j).f0) (ha : (rd_T72 l j).f0 < (st.length : Int)) (hb0 : 0 ≤ (rd_T72 l j).f1) (hb : (rd_T72 l j).f1 < (st.length : Int)) :
  spec_l17Steps.l2 (k + 1) l st n j = spec_l17Steps.j3 k l st n j (rd_T72 l j).f0 (rd_T72 l j).f1 (decide (rd st (rd_T72 l j).f0 = n) && decide (rd st (rd_T72 l j).f1 < 0)) := by
 simp only [spec_l17Steps.l2]
 rw [if_pos h1, if_pos h2, if_pos ha0, if_pos ha]
 by_cases h : rd st (rd_T72 l j).f0 = n
 ·rw [if_pos h, if_pos hb0, if_pos hb, decide_eq_true h, Bool.true_and]
 ·rw [if_neg h, decide_eq_false h, Bool.false_and]
theorem layers_in {l : List S72} (hl : okLegs l = true) {ents : List Int} {n : Nat} (hn : n < 8) : ∀ d j st, j + d = l.length → LInv l ents n j st →
  ∃ st', LInv l ents (n + 1) 0 st' ∧ ∀ r, Ev (fun k => spec_l17Steps.l1 k l st' ((n + 1 : Nat) : Int)) r → Ev (fun k => spec_l17Steps.l2 k l st (n : Int) (j : Int)) r := by
 have h12 := okLegs_len hl
 have hwn : wrap64 ((n : Int) + 1) = ((n + 1 : Nat) : Int) := wrap_up hn (by decide)
 intro d
 induction d with
 | zero =>
  intro j st hj h
  obtain rfl : j = l.length := hj
  refine ⟨st, h.layer, fun r hr => Ev.step (fun k => ?_) hr⟩
  simp only [spec_l17Steps.l2]
  rw [if_neg (Int.lt_irrefl _), hwn]
 | succ d ih =>
  intro j st hj h
  have hjl : j < l.length := by omega
  have hin := ends_in hl j hjl
  have hl8 : (st.length : Int) = 8 := by rw [h.len]; rfl
  have ea : (rd_T72 l (j : Int)).f0 = fromOf l j := by rw [rdL]; rfl
  have eb : (rd_T72 l (j : Int)).f1 = toOf l j := by rw [rdL]; rfl
  have hwj : wrap64 ((j : Int) + 1) = ((j + 1 : Nat) : Int) := wrap_up hjl (by omega)
  have hne : rd (st.set (toOf l j).toNat ((n + 1 : Nat) : Int)) (toOf l j) ≠ (n : Int) := by
   rw [rd_set (by omega) (by omega), if_pos rfl]
   omega
  have key : ∀ st1 : List Int, st1 = (if (decide (rd st (fromOf l j) = (n : Int)) && decide (rd st (toOf l j) < 0)) = true then st.set (toOf l j).toNat ((n + 1 : Nat) : Int) else if rd st (toOf l j) = (n : Int) ∧ rd st (fromOf l j) < 0 then st.set (fromOf l j).toNat ((n + 1 : Nat) : Int) else st) → LInv l ents n (j + 1) st1 := by
   intro st1 h1
   by_cases c1 : rd st (fromOf l j) = (n : Int) ∧ rd st (toOf l j) < 0
   ·rw [if_pos (by rw [decide_eq_true c1.1, decide_eq_true c1.2]; rfl)] at h1
    have hs := h.set hin.2.1 hin.2.2 c1.2 hin.1.1 hin.1.2 c1.1 hjl (.inl ⟨rfl, rfl⟩)
    have hlen := h.len
    have hab : fromOf l j ≠ toOf l j := fun e => by rw [e] at c1; omega
    rw [h1, show ((n + 1 : Nat) : Int) = (n : Int) + 1 by omega]
    refine hs.next hjl (ends_in hl) ?_ ?_
    ·rw [rd_set (v := toOf l j) (w := toOf l j) (by omega) (by omega), if_pos rfl]; omega
    ·rw [rd_set (v := toOf l j) (w := toOf l j) (by omega) (by omega), if_pos rfl]; omega
   ·rw [if_neg (fun hh => by rw [Bool.and_eq_true, decide_eq_true_eq, decide_eq_true_eq] at hh; exact c1 hh)] at h1
    by_cases c2 : rd st (toOf l j) = (n : Int) ∧ rd st (fromOf l j) < 0
    ·rw [if_pos c2] at h1
     have hs := h.set hin.1.1 hin.1.2 c2.2 hin.2.1 hin.2.2 c2.1 hjl (.inr ⟨rfl, rfl⟩)
     have hlen := h.len
     rw [h1, show ((n + 1 : Nat) : Int) = (n : Int) + 1 by omega]
     refine hs.next hjl (ends_in hl) ?_ ?_
     ·rw [rd_set (v := fromOf l j) (w := fromOf l j) (by omega) (by omega), if_pos rfl]; omega
     ·rw [rd_set (v := fromOf l j) (w := fromOf l j) (by omega) (by omega), if_pos rfl]; omega
    ·rw [if_neg c2] at h1
     rw [h1]
     exact h.next hjl (ends_in hl) c1 c2
  obtain ⟨st', a1, a2⟩ := ih (j + 1) _ (by omega) (key _ rfl)
  refine ⟨st', a1, fun r hr => ?_⟩
  have e2 : Ev (fun k => spec_l17Steps.j3 k l st (n : Int) (j : Int) (fromOf l j) (toOf l j) (decide (rd st (fromOf l j) = (n : Int)) && decide (rd st (toOf l j) < 0))) r := by
   refine Ev.step (fun k => ?_) (a2 r hr)
   rw [j3_step hin.1.1 (by rw [hl8]; exact hin.1.2) hin.2.1 (by rw [hl8]; exact hin.2.2) (by rw [hwn]; exact hne), hwn, hwj]
  refine Ev.step (fun k => ?_) e2
  rw [l2_step (Int.ofNat_lt.2 hjl) (Int.natCast_nonneg j) (by rw [ea]; exact hin.1.1) (by rw [ea, hl8]; exact hin.1.2) (by rw [eb]; exact hin.2.1) (by rw [eb, hl8]; exact hin.2.2), ea, eb]
theorem layers_out {l : List S72} (hl : okLegs l = true) {ents : List Int} : ∀ d n st, n + d = 8 → LInv l ents n 0 st → ∃ st', LInv l ents 8 0 st' ∧ Ev (fun k => spec_l17Steps.l1 k l st (n : Int)) st' := by
 intro d
 induction d with
 | zero =>
  intro n st hn h
  obtain rfl : n = 8 := by omega
  refine ⟨st, h, Ev.step (f := fun _ => some st) (fun k => ?_) (Ev.now st)⟩
  simp only [spec_l17Steps.l1]
  rw [if_neg (by omega)]
 | succ d ih =>
  intro n st hn h
  obtain ⟨st1, a1, a2⟩ := layers_in hl (show n < 8 by omega) l.length 0 st (by omega) h
  obtain ⟨st2, b1, b2⟩ := ih (n + 1) st1 (by omega) a1
  refine ⟨st2, b1, Ev.step (fun k => ?_) (a2 _ b2)⟩
  simp only [spec_l17Steps.l1]
  rw [if_pos (by omega)]
  rfl
def start0 (ents : List Int) (i : Nat) : List Int := (List.range' 0 i).map (fun v : Nat => if (v : Int) ∈ ents then (0 : Int) else -1)
theorem start_loop (l : List S72) {ents : List Int} (hm : ents.length ≤ 1048576) : ∀ d i, i + d = 8 → ∀ r, Ev (fun k => spec_l17Steps.l1 k l (start0 ents 8) 0) r → Ev (fun k => spec_l17Steps.l0 k l ents (start0 ents i) (i : Int)) r := by
 intro d
 induction d with
 | zero =>
  intro i hi r hr
  obtain rfl : i = 8 := by omega
  refine Ev.step (fun k => ?_) hr
  simp only [spec_l17Steps.l0]
  rw [if_neg (by omega)]
 | succ d ih =>
  intro i hi r hr
  have hw : wrap64 ((i : Int) + 1) = ((i + 1 : Nat) : Int) := wrap_up (show i < 8 by omega) (by decide)
  have hs : start0 ents (i + 1) = start0 ents i ++ [if (i : Int) ∈ ents then (0 : Int) else -1] := by
   unfold start0
   rw [List.range'_1_concat, List.map_append, List.map_singleton, Nat.zero_add]
  have hlen : (start0 ents i).length < 17592186044416 := by rw [start0, List.length_map, List.length_range']; omega
  have hh := ih (i + 1) (by omega) r hr
  rw [hs] at hh
  refine Ev.step (f := fun k => (spec_l1Has.f k ents (i : Int)).bind fun t => if t = true then spec_l17Steps.l0 k l ents (start0 ents i ++ [0]) ((i + 1 : Nat) : Int) else spec_l17Steps.l0 k l ents (start0 ents i ++ [-1]) ((i + 1 : Nat) : Int)) (fun k => ?_) (Ev.bind (l1Has_ev (n := (i : Int)) hm) ?_)
  ·simp only [spec_l17Steps.l0, hw]
   rw [if_pos (by omega)]
   simp only [if_pos hlen]
  ·by_cases hc : (i : Int) ∈ ents
   ·rw [if_pos hc] at hh
    exact Ev.ite_pos (decide_eq_true hc) hh
   ·rw [if_neg hc] at hh
    exact Ev.ite_neg (by rw [decide_eq_false hc]; decide) hh
theorem l17Steps_some {l : List S72} (hl : okLegs l = true) {ents : List Int} (he : okEnts ents = true) : ∃ st, LInv l ents 8 0 st ∧ Ev (fun k => spec_l17Steps.f k l ents) st := by
 have h8 := okEnts_len he
 have h0 : LInv l ents 0 0 (start0 ents 8) := by
  refine ⟨by rw [start0, List.length_map, List.length_range'], fun v v0 v8 => ?_⟩
  obtain ⟨n, rfl⟩ := Int.eq_ofNat_of_zero_le v0
  have hn : n < 8 := by omega
  have hrd : rd (start0 ents 8) (n : Int) = if (n : Int) ∈ ents then (0 : Int) else -1 := by
   rw [rd_nat, getD_lt _ _ _ (by rw [start0, List.length_map, List.length_range']; exact hn)]
   simp [start0]
  rw [hrd]
  by_cases hc : (n : Int) ∈ ents
  ·rw [if_pos hc]
   exact .inl ⟨0, Nat.le_refl _, rfl, hc, fun m hm => absurd hm (Nat.not_lt_zero m)⟩
  ·rw [if_neg hc]
   exact .inr ⟨hc, .inl ⟨rfl, fun i hi => absurd hi (Nat.not_lt_zero i)⟩⟩
 obtain ⟨st, a1, a2⟩ := layers_out hl 8 0 _ (by omega) h0
 refine ⟨st, a1, ?_⟩
 simp only [spec_l17Steps.f]
 exact start_loop l (by omega) 8 0 (by omega) _ a2
end Go.Proofs.Ytkocflfadlempaa.Pure
