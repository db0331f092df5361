/- Reaching: passes over legs, again and again, until nothing is new. Plain lists of numbers; no program in sight. -/
import Derived.Test.YtfgkpokjhihaaaaPBase
namespace Go.Proofs.Ytfgkpokjhihaaaa.Pure
open Go.RowKit Go.Proofs.Ytfgkpokjhihaaaa.MR Go.Proofs.YtfgkpokjhihaaaaW.PrintWords Go.Proofs.YtfgkpokjhihaaaaW.PrintLast Go.Proofs.YtfgkpokjhihaaaaW.PrintMore
set_option linter.unusedVariables false
set_option linter.unusedSimpArgs false
/-- A number put to its place, once. -/
def insS (x : Int) : List Int → List Int
 | [] => [x]
 | y :: l => if y < x then y :: insS x l else if y = x then y :: l else x :: y :: l
theorem mem_insS {x z : Int} {l : List Int} : z ∈ insS x l ↔ z = x ∨ z ∈ l := by
 induction l with
 | nil => simp [insS]
 | cons y l ih =>
  simp only [insS]
  split
  ·simp only [List.mem_cons, ih]
   constructor
   ·rintro (h | h | h)
    ·exact .inr (.inl h)
    ·exact .inl h
    ·exact .inr (.inr h)
   ·rintro (h | h | h)
    ·exact .inr (.inl h)
    ·exact .inl h
    ·exact .inr (.inr h)
  ·split
   ·rename_i h1 h2
    subst h2
    simp only [List.mem_cons]
    constructor
    ·exact fun h => .inr h
    ·rintro (h | h)
     ·exact .inl h
     ·exact h
   ·simp only [List.mem_cons]
theorem up_insS {x : Int} {l : List Int} (h : l.Pairwise (· < ·)) : (insS x l).Pairwise (· < ·) := by
 induction l with
 | nil => simp [insS]
 | cons y l ih =>
  rw [List.pairwise_cons] at h
  simp only [insS]
  split
  ·rename_i h1
   rw [List.pairwise_cons]
   refine ⟨fun z hz => ?_, ih h.2⟩
   rcases mem_insS.1 hz with rfl | hz
   ·exact h1
   ·exact h.1 z hz
  ·split
   ·exact List.pairwise_cons.2 h
   ·rename_i h1 h2
    rw [List.pairwise_cons]
    refine ⟨fun z hz => ?_, List.pairwise_cons.2 h⟩
    rcases List.mem_cons.1 hz with rfl | hz
    ·omega
    ·have := h.1 z hz
     omega
/-- One leg: it brings its other end, if just one of its ends is there. -/
def fires (ok : Bool) (a b : Int) (out : List Int) : Bool := ok && (decide (a ∈ out) != decide (b ∈ out))
def fire (ok : Bool) (a b : Int) (out : List Int) : List Int := if fires ok a b out = true then insS b (insS a out) else out
theorem fire_mem {ok : Bool} {a b z : Int} {out : List Int} (h : z ∈ out) : z ∈ fire ok a b out := by
 unfold fire
 split
 ·exact mem_insS.2 (.inr (mem_insS.2 (.inr h)))
 ·exact h
theorem fire_up {ok : Bool} {a b : Int} {out : List Int} (h : out.Pairwise (· < ·)) : (fire ok a b out).Pairwise (· < ·) := by
 unfold fire
 split
 ·exact up_insS (up_insS h)
 ·exact h
theorem fire_new {ok : Bool} {a b z : Int} {out : List Int} (h : z ∈ fire ok a b out) : z ∈ out ∨ z = a ∨ z = b := by
 unfold fire at h
 split at h
 ·rcases mem_insS.1 h with rfl | h
  ·exact .inr (.inr rfl)
  ·rcases mem_insS.1 h with rfl | h
   ·exact .inr (.inl rfl)
   ·exact .inl h
 ·exact .inl h
/-- Rounds one after the other. -/
def iter {σ : Type} (f : Nat → σ → σ) : Nat → Nat → σ → σ
 | 0, _, s => s
 | d + 1, i, s => iter f d (i + 1) (f i s)
theorem foldN_iter {σ ρ : Type} (f : Nat → σ → σ) (fin : σ → ρ) : ∀ d i s, foldN (fun i s => Sum.inl (f i s)) fin d i s = fin (iter f d i s)
 | 0, _, _ => rfl
 | d + 1, i, s => by
  simp only [foldN, iter]
  exact foldN_iter f fin d (i + 1) (f i s)
/-- How many legs lie wholly inside. -/
def cnt (ok : Nat → Bool) (a b : Nat → Int) (out : List Int) : Nat → Nat
 | 0 => 0
 | n + 1 => cnt ok a b out n + if (ok n && (decide (a n ∈ out) && decide (b n ∈ out))) = true then 1 else 0
theorem cnt_le (ok : Nat → Bool) (a b : Nat → Int) (out : List Int) : ∀ n, cnt ok a b out n ≤ n
 | 0 => Nat.le_refl _
 | n + 1 => by
  have := cnt_le ok a b out n
  simp only [cnt]
  split <;> omega
theorem in_mono {ok : Bool} {a b : Int} {out out' : List Int} (h : ∀ z, z ∈ out → z ∈ out') (hi : (ok && (decide (a ∈ out) && decide (b ∈ out))) = true) : (ok && (decide (a ∈ out') && decide (b ∈ out'))) = true := by
 simp only [Bool.and_eq_true, decide_eq_true_eq] at hi ⊢
 exact ⟨hi.1, h _ hi.2.1, h _ hi.2.2⟩
theorem cnt_mono {ok : Nat → Bool} {a b : Nat → Int} {out out' : List Int} (h : ∀ z, z ∈ out → z ∈ out') : ∀ n, cnt ok a b out n ≤ cnt ok a b out' n
 | 0 => Nat.le_refl _
 | n + 1 => by
  have ih := cnt_mono (ok := ok) (a := a) (b := b) h n
  simp only [cnt]
  by_cases h1 : (ok n && (decide (a n ∈ out) && decide (b n ∈ out))) = true
  ·rw [if_pos h1, if_pos (in_mono h h1)]
   omega
  ·rw [if_neg h1]
   split <;> omega
theorem cnt_lt {ok : Nat → Bool} {a b : Nat → Int} {out out' : List Int} (h : ∀ z, z ∈ out → z ∈ out') {i : Nat} (h0 : ¬ (ok i && (decide (a i ∈ out) && decide (b i ∈ out))) = true) (h1 : (ok i && (decide (a i ∈ out') && decide (b i ∈ out'))) = true) : ∀ n, i < n → cnt ok a b out n < cnt ok a b out' n
 | 0, hi => by omega
 | n + 1, hi => by
  simp only [cnt]
  by_cases hin : i = n
  ·subst hin
   have := cnt_mono (ok := ok) (a := a) (b := b) h i
   rw [if_neg h0, if_pos h1]
   omega
  ·have ih := cnt_lt (ok := ok) (a := a) (b := b) h h0 h1 n (by omega)
   by_cases h2 : (ok n && (decide (a n ∈ out) && decide (b n ∈ out))) = true
   ·rw [if_pos h2, if_pos (in_mono h h2)]
    omega
   ·rw [if_neg h2]
    split <;> omega
/-- One pass over legs, and whether a leg has fired. -/
def passStep (ok : Nat → Bool) (a b : Nat → Int) (i : Nat) (s : List Int × Bool) : List Int × Bool := (fire (ok i) (a i) (b i) s.1, s.2 || fires (ok i) (a i) (b i) s.1)
def pass (ok : Nat → Bool) (a b : Nat → Int) (n : Nat) (out : List Int) : List Int := iter (fun i s => fire (ok i) (a i) (b i) s) n 0 out
theorem passStep_iter {ok : Nat → Bool} {a b : Nat → Int} {N : Nat} : ∀ d i (out : List Int) (fl : Bool), i + d ≤ N →
  (iter (passStep ok a b) d i (out, fl)).1 = iter (fun i s => fire (ok i) (a i) (b i) s) d i out ∧
  (((iter (passStep ok a b) d i (out, fl)).2 = fl ∧ iter (fun i s => fire (ok i) (a i) (b i) s) d i out = out) ∨
   ((iter (passStep ok a b) d i (out, fl)).2 = true ∧ cnt ok a b out N < cnt ok a b (iter (fun i s => fire (ok i) (a i) (b i) s) d i out) N)) ∧
  (∀ z, z ∈ out → z ∈ iter (fun i s => fire (ok i) (a i) (b i) s) d i out) := by
 intro d
 induction d with
 | zero => intro i out fl _; exact ⟨rfl, .inl ⟨rfl, rfl⟩, fun z hz => hz⟩
 | succ d ih =>
  intro i out fl hi
  simp only [iter]
  obtain ⟨h1, h2, h3⟩ := ih (i + 1) (fire (ok i) (a i) (b i) out) (fl || fires (ok i) (a i) (b i) out) (by omega)
  have hm : ∀ z, z ∈ out → z ∈ fire (ok i) (a i) (b i) out := fun z hz => fire_mem hz
  refine ⟨h1, ?_, fun z hz => h3 z (hm z hz)⟩
  cases hf : fires (ok i) (a i) (b i) out with
  | false =>
   have he : fire (ok i) (a i) (b i) out = out := by unfold fire; rw [hf]; exact if_neg (by decide)
   rw [hf, Bool.or_false] at h2
   rw [he] at h2 ⊢
   simpa only [passStep, hf, Bool.or_false, he] using h2
  | true =>
   have he : fire (ok i) (a i) (b i) out = insS (b i) (insS (a i) out) := by unfold fire; rw [hf]; exact if_pos rfl
   have h0 : ¬ (ok i && (decide (a i ∈ out) && decide (b i ∈ out))) = true := by
    intro hh
    simp only [Bool.and_eq_true] at hh
    simp only [fires, hh.1, hh.2.1, hh.2.2] at hf
    exact absurd hf (by decide)
   have hok : ok i = true := by
    simp only [fires, Bool.and_eq_true] at hf
    exact hf.1
   have hin : (ok i && (decide (a i ∈ fire (ok i) (a i) (b i) out) && decide (b i ∈ fire (ok i) (a i) (b i) out))) = true := by
    simp only [Bool.and_eq_true, decide_eq_true_eq, he]
    exact ⟨hok, mem_insS.2 (.inr (mem_insS.2 (.inl rfl))), mem_insS.2 (.inl rfl)⟩
   have hlt := cnt_lt hm h0 hin N (by omega)
   right
   rw [hf, Bool.or_true] at h2
   simp only [passStep, hf, Bool.or_true]
   rcases h2 with ⟨h4, h5⟩ | ⟨h4, h5⟩
   ·refine ⟨h4, ?_⟩
    rw [h5]
    exact hlt
   ·exact ⟨h4, Nat.lt_trans hlt h5⟩
/-- A pass: what is there stays; it says whether anything is new. -/
theorem pass_flag (ok : Nat → Bool) (a b : Nat → Int) (n : Nat) (out : List Int) :
  iter (passStep ok a b) n 0 (out, false) = (pass ok a b n out, decide (pass ok a b n out ≠ out)) ∧ (pass ok a b n out = out ∨ cnt ok a b out n < cnt ok a b (pass ok a b n out) n) := by
 obtain ⟨h1, h2, _⟩ := passStep_iter (ok := ok) (a := a) (b := b) (N := n) n 0 out false (by omega)
 rcases h2 with ⟨h3, h4⟩ | ⟨h3, h4⟩
 ·refine ⟨Prod.ext h1 ?_, .inl h4⟩
  rw [h3, eq_comm, decide_eq_false_iff_not]
  exact fun hh => hh h4
 ·refine ⟨Prod.ext h1 ?_, .inr h4⟩
  rw [h3, eq_comm, decide_eq_true_eq]
  intro hh
  rw [show iter (fun i s => fire (ok i) (a i) (b i) s) n 0 out = out from hh] at h4
  omega
def passes (ok : Nat → Bool) (a b : Nat → Int) (n : Nat) : Nat → List Int → List Int
 | 0, out => out
 | m + 1, out => passes ok a b n m (pass ok a b n out)
theorem passes_still {ok : Nat → Bool} {a b : Nat → Int} {n : Nat} {out : List Int} (h : pass ok a b n out = out) : ∀ m, passes ok a b n m out = out
 | 0 => rfl
 | m + 1 => by simp only [passes, h]; exact passes_still h m
/-- So many passes as there are legs are enough. -/
theorem passes_enough (ok : Nat → Bool) (a b : Nat → Int) (n : Nat) : ∀ m out, n ≤ m + cnt ok a b out n → pass ok a b n (passes ok a b n m out) = passes ok a b n m out := by
 intro m
 induction m with
 | zero =>
  intro out h
  rcases (pass_flag ok a b n out).2 with h1 | h1
  ·exact h1
  ·have := cnt_le ok a b (pass ok a b n out) n
   omega
 | succ m ih =>
  intro out h
  simp only [passes]
  rcases (pass_flag ok a b n out).2 with h1 | h1
  ·rw [h1]
   rw [passes_still h1]
   exact h1
  ·exact ih _ (by omega)
/-- All that is reached. -/
def reached (ok : Nat → Bool) (a b : Nat → Int) (n : Nat) (out : List Int) : List Int := passes ok a b n n out
theorem reached_still (ok : Nat → Bool) (a b : Nat → Int) (n : Nat) (out : List Int) : pass ok a b n (reached ok a b n out) = reached ok a b n out := passes_enough ok a b n n out (by omega)
/-- From where nothing is new on, all passes are the same. -/
theorem reached_of {ok : Nat → Bool} {a b : Nat → Int} {n m : Nat} {out : List Int} (h : pass ok a b n (passes ok a b n m out) = passes ok a b n m out) (hm : m ≤ n) : passes ok a b n m out = reached ok a b n out := by
 have key : ∀ m k out, pass ok a b n (passes ok a b n m out) = passes ok a b n m out → passes ok a b n (m + k) out = passes ok a b n m out := by
  intro m
  induction m with
  | zero =>
   intro k out h
   rw [Nat.zero_add]
   exact passes_still h k
  | succ m ih =>
   intro k out h
   rw [show m + 1 + k = (m + k) + 1 by omega]
   simp only [passes] at h ⊢
   exact ih k _ h
 have := key m (n - m) out h
 rw [show m + (n - m) = n by omega] at this
 exact this.symm
theorem pass_up {ok : Nat → Bool} {a b : Nat → Int} {n : Nat} {out : List Int} (h : out.Pairwise (· < ·)) : (pass ok a b n out).Pairwise (· < ·) := by
 have key : ∀ d i (out : List Int), out.Pairwise (· < ·) → (iter (fun i s => fire (ok i) (a i) (b i) s) d i out).Pairwise (· < ·) := by
  intro d
  induction d with
  | zero => intro i out h; exact h
  | succ d ih => intro i out h; exact ih (i + 1) _ (fire_up h)
 exact key n 0 out h
theorem pass_in {ok : Nat → Bool} {a b : Nat → Int} {n : Nat} {P : Int → Prop} (hab : ∀ i, i < n → P (a i) ∧ P (b i)) {out : List Int} (h : ∀ z ∈ out, P z) : ∀ z ∈ pass ok a b n out, P z := by
 have key : ∀ d i (out : List Int), i + d = n → (∀ z ∈ out, P z) → ∀ z ∈ iter (fun i s => fire (ok i) (a i) (b i) s) d i out, P z := by
  intro d
  induction d with
  | zero => intro i out _ h; exact h
  | succ d ih =>
   intro i out hi h
   refine ih (i + 1) _ (by omega) (fun z hz => ?_)
   rcases fire_new hz with hz | rfl | rfl
   ·exact h z hz
   ·exact (hab i (by omega)).1
   ·exact (hab i (by omega)).2
 exact key n 0 out (by omega) h
theorem passes_up {ok : Nat → Bool} {a b : Nat → Int} {n : Nat} : ∀ m {out : List Int}, out.Pairwise (· < ·) → (passes ok a b n m out).Pairwise (· < ·)
 | 0, _, h => h
 | m + 1, _, h => passes_up m (pass_up h)
theorem passes_in {ok : Nat → Bool} {a b : Nat → Int} {n : Nat} {P : Int → Prop} (hab : ∀ i, i < n → P (a i) ∧ P (b i)) : ∀ m {out : List Int}, (∀ z ∈ out, P z) → ∀ z ∈ passes ok a b n m out, P z
 | 0, _, h => h
 | m + 1, _, h => passes_in hab m (pass_in hab h)
theorem pass_mem {ok : Nat → Bool} {a b : Nat → Int} {n : Nat} {z : Int} {out : List Int} (h : z ∈ out) : z ∈ pass ok a b n out :=
 (passStep_iter (ok := ok) (a := a) (b := b) (N := n) n 0 out false (by omega)).2.2 z h
theorem passes_mem {ok : Nat → Bool} {a b : Nat → Int} {n : Nat} {z : Int} : ∀ m {out : List Int}, z ∈ out → z ∈ passes ok a b n m out
 | 0, _, h => h
 | m + 1, _, h => passes_mem m (pass_mem h)
/-- Rising numbers below 8 are those of 0..7 that are among them. -/
theorem rising_eq {l : List Int} (h : l.Pairwise (· < ·)) : ∀ (m : Nat) (c : Int), (∀ z ∈ l, c ≤ z ∧ z < c + (m : Int)) → l = ((List.range m).map (fun i : Nat => c + (i : Int))).filter (fun z => decide (z ∈ l)) := by
 intro m
 induction m generalizing l with
 | zero =>
  intro c hl
  cases l with
  | nil => rfl
  | cons y l =>
   have := hl y (by simp)
   omega
 | succ m ih =>
  intro c hl
  have hr : (List.range (m + 1)).map (fun i : Nat => c + (i : Int)) = c :: (List.range m).map (fun i : Nat => (c + 1) + (i : Int)) := by
   rw [List.range_succ_eq_map, List.map_cons, List.map_map]
   congr 1
   ·simp
   ·apply List.map_congr_left
    intro i _
    simp only [Function.comp, Nat.succ_eq_add_one]
    omega
  rw [hr]
  cases l with
  | nil => simp
  | cons y l =>
   rw [List.pairwise_cons] at h
   have hy := hl y (by simp)
   by_cases hyc : y = c
   ·subst hyc
    have hne : ∀ z ∈ (List.range m).map (fun i : Nat => (y + 1) + (i : Int)), decide (z ∈ y :: l) = decide (z ∈ l) := by
     intro z hz
     obtain ⟨i, _, rfl⟩ := List.mem_map.1 hz
     rw [decide_eq_decide, List.mem_cons]
     constructor
     ·rintro (h1 | h1)
      ·omega
      ·exact h1
     ·exact fun h1 => .inr h1
    rw [List.filter_cons, if_pos (by simp), List.filter_congr hne]
    congr 1
    exact ih h.2 (y + 1) (fun z hz => by have := h.1 z hz; have := hl z (by simp [hz]); omega)
   ·rw [List.filter_cons, if_neg ?_]
    ·exact ih (List.pairwise_cons.2 h) (c + 1) (fun z hz => by
      have h1 := hl z hz
      rcases List.mem_cons.1 hz with rfl | hz
      ·omega
      ·have := h.1 z hz
       omega)
    ·rw [decide_eq_true_eq, List.mem_cons]
     rintro (h1 | h1)
     ·omega
     ·have := h.1 c h1
      omega
end Go.Proofs.Ytfgkpokjhihaaaa.Pure
