/- The best directions of a way: the program's and the reference's search come to the same. -/
import Derived.Test.YtihekanoigpjpaaMHx7
import Derived.Test.YtihekanoigpjpaaMHx5
import Derived.Test.YtihekanoigpjpaaPFold
namespace Go.Proofs.Ytihekanoigpjpaa.Pure
open Go.RowKit Go.Proofs.Ytihekanoigpjpaa.MH Go.Proofs.YtihekanoigpjpaaW.PrintWords Go.Proofs.YtihekanoigpjpaaW.PrintLast Go.Proofs.YtihekanoigpjpaaW.PrintMore
set_option linter.unusedVariables false
set_option linter.unusedSimpArgs false
/-- All ways to go on for m runs, 1 ahead of -1. -/
def exts : Nat → List Int → List (List Int)
  | 0, p => [p]
  | m + 1, p => exts m (p ++ [1]) ++ exts m (p ++ [-1])
theorem exts_length (m : Nat) : ∀ p, (exts m p).length = 2 ^ m := by
  induction m with
  | zero => intro p; rfl
  | succ m ih => intro p; simp only [exts, List.length_append, ih, Nat.pow_succ]; omega
theorem exts_each {m : Nat} : ∀ {p q}, q ∈ exts m p → q.length = p.length + m := by
  induction m with
  | zero => intro p q h; simp [exts] at h; subst h; rfl
  | succ m ih =>
    intro p q h
    simp only [exts, List.mem_append] at h
    rcases h with h | h
    · have := ih h; simp at this; omega
    · have := ih h; simp at this; omega
/-- The first of the smallest. -/
def pick (f : List Int → Int) (a : Option (List Int × Int)) (q : List Int) : Option (List Int × Int) := match a with
  | none => some (q, f q)
  | some b => if f q < b.2 then some (q, f q) else some b
def both (a b : List Int × Int) : List Int × Int := if b.2 < a.2 then b else a
theorem both_pos {a b : List Int × Int} (h : b.2 < a.2) : both a b = b := by unfold both; rw [if_pos h]
theorem both_neg {a b : List Int × Int} (h : ¬ b.2 < a.2) : both a b = a := by unfold both; rw [if_neg h]
theorem foldl_pick (f : List Int → Int) : ∀ (l : List (List Int)) (a : List Int × Int), l.foldl (pick f) (some a) = match l.foldl (pick f) none with
    | none => some a
    | some b => some (both a b)
  | [], a => rfl
  | q :: l, a => by
    simp only [List.foldl_cons, pick]
    rw [foldl_pick f l (q, f q)]
    by_cases h : f q < a.2
    · rw [if_pos h, foldl_pick f l (q, f q)]
      cases l.foldl (pick f) none with
      | none => exact congrArg some (both_pos (a := a) (b := (q, f q)) h).symm
      | some b =>
        by_cases h2 : b.2 < f q
        · have e : both (q, f q) b = b := both_pos h2
          simp only [e]
          rw [both_pos (show b.2 < a.2 by omega)]
        · have e : both (q, f q) b = (q, f q) := both_neg h2
          simp only [e]
          rw [both_pos (a := a) (b := (q, f q)) h]
    · rw [if_neg h, foldl_pick f l a]
      cases l.foldl (pick f) none with
      | none => exact congrArg some (both_neg (a := a) (b := (q, f q)) h).symm
      | some b =>
        by_cases h2 : b.2 < f q
        · have e : both (q, f q) b = b := both_pos h2
          simp only [e]
        · have e : both (q, f q) b = (q, f q) := both_neg h2
          simp only [e]
          rw [both_neg (a := a) (b := (q, f q)) h, both_neg (show ¬ b.2 < a.2 by omega)]
def bestOf (f : List Int → Int) : Nat → List Int → List Int × Int
  | 0, p => (p, f p)
  | m + 1, p => both (bestOf f m (p ++ [1])) (bestOf f m (p ++ [-1]))
theorem bestOf_fold (f : List Int → Int) (m : Nat) : ∀ p, (exts m p).foldl (pick f) none = some (bestOf f m p) := by
  induction m with
  | zero => intro p; rfl
  | succ m ih =>
    intro p
    simp only [exts, List.foldl_append, ih, bestOf]
    rw [foldl_pick, ih]
theorem l1Own_eq (l : List Int) (h : l.length ≤ 1048576) : spec_l1Own.f l = some l := by
  simp only [spec_l1Own.f, Option.bind_some, List.length_nil, List.nil_append]
  rw [if_pos (by omega)]
theorem specFold_ev (w : List S43) (hw : w.length ≤ 12) : ∀ (m : Nat) (p : List Int), p.length + m = w.length → Ev (fun k => spec_l14Fold.f k w p) (bestOf (widthOf w) m p) := by
  intro m
  induction m with
  | zero =>
    intro p hp
    refine Ev.step (f := fun k => (spec_l14Width.f k w p).bind fun t => some (p, t)) (fun k => ?_) (Ev.bind (specWidth_ev w p (by omega) (by omega)) (Ev.now _))
    simp only [spec_l14Fold.f]
    rw [if_pos (by omega)]
  | succ m ih =>
    intro p hp
    refine Ev.step (f := fun k => (spec_l14Fold.f k w (p ++ [1])).bind fun a => (spec_l14Fold.f k w (p ++ [-1])).bind fun b => if b.2 < a.2 then some (b.1, b.2) else some (a.1, a.2)) (fun k => ?_) (Ev.bind (ih (p ++ [1]) (by simp; omega)) (Ev.bind (ih (p ++ [-1]) (by simp; omega)) ?_))
    · simp only [spec_l14Fold.f, l1Own_eq p (by omega), Option.bind_some]
      rw [if_neg (by omega), if_pos (by omega)]
      simp only [if_pos (show p.length < 17592186044416 by omega)]
    · simp only [bestOf, both]
      by_cases h : (bestOf (widthOf w) m (p ++ [-1])).2 < (bestOf (widthOf w) m (p ++ [1])).2
      · simp only [if_pos h]
        exact Ev.now _
      · simp only [if_neg h]
        exact Ev.now _
/-- The directions that a number tells, the highest bit first. -/
def dirs (m b : Nat) : List Int := (List.range m).map (fun i => 1 - 2 * (((b / 2 ^ (m - 1 - i)) % 2 : Nat) : Int))
theorem dirs_succ (m b : Nat) : dirs (m + 1) b = (1 - 2 * (((b / 2 ^ m) % 2 : Nat) : Int)) :: dirs m b := by
  simp only [dirs, List.range_succ_eq_map, List.map_cons, List.map_map]
  congr 1
  apply List.map_congr_left
  intro i _
  simp only [Function.comp, Nat.succ_eq_add_one]
  rw [show m + 1 - 1 - (i + 1) = m - 1 - i by omega]
theorem dirs_mod (m b c : Nat) : dirs m (c * 2 ^ m + b) = dirs m b := by
  simp only [dirs]
  apply List.map_congr_left
  intro i hi
  have hi := List.mem_range.1 hi
  congr 3
  have h1 : 2 ^ m = 2 ^ (m - 1 - i) * (2 * 2 ^ i) := by
    rw [show 2 * 2 ^ i = 2 ^ (i + 1) by rw [Nat.pow_succ]; omega, ← Nat.pow_add]
    congr 1
    omega
  rw [h1, show c * (2 ^ (m - 1 - i) * (2 * 2 ^ i)) + b = b + 2 ^ (m - 1 - i) * (2 * (c * 2 ^ i)) by rw [Nat.mul_left_comm, Nat.mul_left_comm c 2, Nat.add_comm], Nat.add_mul_div_left _ _ (Nat.pow_pos (by omega)), Nat.add_mul_mod_self_left]
theorem exts_dirs (m : Nat) : ∀ (p : List Int), exts m p = (List.range (2 ^ m)).map (fun b => p ++ dirs m b) := by
  induction m with
  | zero => intro p; simp [exts, dirs]
  | succ m ih =>
    intro p
    have hr : List.range (2 ^ (m + 1)) = List.range (2 ^ m) ++ (List.range (2 ^ m)).map (2 ^ m + ·) := by
      rw [Nat.pow_succ, Nat.mul_two, List.range_add]
    rw [hr, List.map_append, exts, ih, ih, List.map_map]
    congr 1
    · apply List.map_congr_left
      intro b hb
      have hb := List.mem_range.1 hb
      rw [dirs_succ, Nat.div_eq_of_lt hb]
      simp
    · apply List.map_congr_left
      intro b hb
      have hb := List.mem_range.1 hb
      have h1 : (2 ^ m + b) / 2 ^ m = 1 := by
        rw [Nat.add_div_left _ (Nat.pow_pos (by omega)), Nat.div_eq_of_lt hb]
      have h2 := dirs_mod m b 1
      rw [Nat.one_mul] at h2
      simp only [Function.comp]
      rw [dirs_succ, h1, h2]
      simp
theorem bit_eq : ∀ (b : Fin 1024) (s : Fin 10), Go.bits .and .i64 (shr .i64 (b.val : Int) (s.val : Int)) 1 = (((b.val / 2 ^ s.val) % 2 : Nat) : Int) := by decide +kernel
theorem bit_nat {b s : Nat} (hb : b < 1024) (hs : s < 10) : Go.bits .and .i64 (shr .i64 (b : Int) (s : Int)) 1 = (((b / 2 ^ s) % 2 : Nat) : Int) := bit_eq ⟨b, hb⟩ ⟨s, hs⟩
theorem dirs_length (m b : Nat) : (dirs m b).length = m := by simp [dirs]
def bitv (m b i : Nat) : Int := 1 - 2 * (((b / 2 ^ (m - 1 - i)) % 2 : Nat) : Int)
theorem bitv_eq {n b i : Nat} (hb : b < 1024) (hn : n ≤ 10) (hi : i < n) : wrap64 (1 - wrap64 (2 * Go.bits .and .i64 (shr .i64 (b : Int) (wrap64 (wrap64 ((n : Int) - 1) - (i : Int)))) 1)) = bitv n b i := by
  have h1 : wrap64 (wrap64 ((n : Int) - 1) - (i : Int)) = ((n - 1 - i : Nat) : Int) := by unfold wrap64; omega
  rw [h1, bit_nat hb (by omega)]
  unfold bitv
  have := Nat.mod_lt (b / 2 ^ (n - 1 - i)) (show 0 < 2 by omega)
  generalize (b / 2 ^ (n - 1 - i)) % 2 = v at *
  unfold wrap64
  omega
theorem dirs_at {n b i : Nat} (hi : i < n) : (dirs n b)[i]? = some (bitv n b i) := by
  simp [dirs, bitv, hi]
theorem inner_step (w : List S43) (x5 : List Int) (x6 M : Int) (b i k : Nat) (s : List Int) (hw : w.length ≤ 10) (hb : b < 1024) (hi : i < w.length) (hl : s.length = w.length) :
    impl_BestFold.l1 (k + 1) w x5 x6 (b : Int) s M (b : Int) (w.length : Int) (i : Int) = impl_BestFold.l1 k w x5 x6 (b : Int) (s.set i (bitv w.length b i)) M (b : Int) (w.length : Int) ((i + 1 : Nat) : Int) := by
  have h0 : 0 ≤ wrap64 (wrap64 ((w.length : Int) - 1) - (i : Int)) := by unfold wrap64; omega
  rw [impl_BestFold.l1, if_pos (by omega), if_pos h0, if_pos (by omega), if_pos (by omega), bitv_eq hb hw hi, Int.toNat_natCast, wrap_up hi (by omega)]
theorem inner_end (w : List S43) (x5 : List Int) (x6 M : Int) (b k : Nat) (s : List Int) :
    impl_BestFold.l1 (k + 1) w x5 x6 (b : Int) s M (b : Int) (w.length : Int) (w.length : Int) = (impl_foldedWidth.f k w s).bind fun t => if x6 < 0 then impl_BestFold.l0 k w s t M (wrap64 ((b : Int) + 1)) else if t < x6 then impl_BestFold.l0 k w s t M (wrap64 ((b : Int) + 1)) else impl_BestFold.l0 k w x5 x6 M (wrap64 ((b : Int) + 1)) := by
  rw [impl_BestFold.l1, if_neg (by omega)]
theorem inner_ev (w : List S43) (x5 : List Int) (x6 M : Int) (b : Nat) (r : List Int × Int × Bool) (hw : w.length ≤ 10) (hb : b < 1024)
    (hr : Ev (fun k => (impl_foldedWidth.f k w (dirs w.length b)).bind fun t => if x6 < 0 then impl_BestFold.l0 k w (dirs w.length b) t M (wrap64 ((b : Int) + 1)) else if t < x6 then impl_BestFold.l0 k w (dirs w.length b) t M (wrap64 ((b : Int) + 1)) else impl_BestFold.l0 k w x5 x6 M (wrap64 ((b : Int) + 1))) r) :
    ∀ (d i : Nat) (s : List Int), i + d = w.length → s.length = w.length → s.take i = (dirs w.length b).take i → Ev (fun k => impl_BestFold.l1 k w x5 x6 (b : Int) s M (b : Int) (w.length : Int) (i : Int)) r := by
  intro d
  induction d with
  | zero =>
    intro i s hi hl ht
    have hd : s = dirs w.length b := by
      rw [List.take_of_length_le (by omega), List.take_of_length_le (by rw [dirs_length]; omega)] at ht
      exact ht
    obtain rfl : i = w.length := by omega
    subst hd
    exact Ev.step (fun k => inner_end w x5 x6 M b k _) hr
  | succ d ih =>
    intro i s hi hl ht
    have hil : i < w.length := by omega
    refine Ev.step (fun k => inner_step w x5 x6 M b i k s hw hb hil hl) (ih (i + 1) (s.set i (bitv w.length b i)) (by omega) (by rw [List.length_set]; exact hl) ?_)
    rw [set_take _ _ _ (by omega), ht]
    have h1 : (dirs w.length b)[i]? = some (bitv w.length b i) := dirs_at hil
    rw [List.take_add_one, h1]
    rfl
theorem pick_some (f : List Int → Int) (a : Option (List Int × Int)) (q : List Int) : ∃ r, pick f a q = some r := by
  unfold pick
  split
  · exact ⟨_, rfl⟩
  · split <;> exact ⟨_, rfl⟩
def bestL (a : Option (List Int × Int)) : List Int := (a.map (·.1)).getD []
def bestW (a : Option (List Int × Int)) : Int := (a.map (·.2)).getD (-1)
theorem outer_ev (w : List S43) (M : Nat) (hM : M ≤ 1024) (hw : w.length ≤ 10) (hpos : ∀ b, 0 ≤ widthOf w (dirs w.length b)) : ∀ (d b : Nat) (a : Option (List Int × Int)), b + d = M → (∀ q, a = some q → 0 ≤ q.2) →
    Ev (fun k => impl_BestFold.l0 k w (bestL a) (bestW a) (M : Int) (b : Int)) (bestL (((List.range d).map (fun j => dirs w.length (b + j))).foldl (pick (widthOf w)) a), bestW (((List.range d).map (fun j => dirs w.length (b + j))).foldl (pick (widthOf w)) a), true) := by
  intro d
  induction d with
  | zero =>
    intro b a hb ha
    refine Ev.step (f := fun _ => some (bestL a, bestW a, true)) (fun k => ?_) (Ev.now _)
    rw [impl_BestFold.l0, if_neg (by omega)]
  | succ d ih =>
    intro b a hb ha
    have hds : 0 ≤ widthOf w (dirs w.length b) := hpos b
    have hlist : (List.range (d + 1)).map (fun j => dirs w.length (b + j)) = dirs w.length b :: (List.range d).map (fun j => dirs w.length (b + 1 + j)) := by
      rw [List.range_succ_eq_map, List.map_cons, List.map_map]
      congr 1
      apply List.map_congr_left
      intro j _
      simp only [Function.comp, Nat.succ_eq_add_one]
      congr 1
      omega
    rw [hlist, List.foldl_cons]
    have hnext := ih (b + 1) (pick (widthOf w) a (dirs w.length b)) (by omega) (by
      intro q hq
      unfold pick at hq
      cases a with
      | none => simp only [Option.some.injEq] at hq; subst hq; exact hds
      | some a0 =>
        simp only at hq
        split at hq
        · simp only [Option.some.injEq] at hq; subst hq; exact hds
        · simp only [Option.some.injEq] at hq; subst hq; exact ha _ rfl)
    have hwr : wrap64 ((b : Int) + 1) = ((b + 1 : Nat) : Int) := by unfold wrap64; omega
    refine Ev.step (f := fun k => impl_BestFold.l1 k w (bestL a) (bestW a) (b : Int) (List.replicate w.length 0) (M : Int) (b : Int) (w.length : Int) ((0 : Nat) : Int)) (fun k => ?_) (inner_ev w (bestL a) (bestW a) (M : Int) b (bestL (((List.range d).map (fun j => dirs w.length (b + 1 + j))).foldl (pick (widthOf w)) (pick (widthOf w) a (dirs w.length b))), bestW (((List.range d).map (fun j => dirs w.length (b + 1 + j))).foldl (pick (widthOf w)) (pick (widthOf w) a (dirs w.length b))), true) hw (by omega) ?_ w.length 0 (List.replicate w.length 0) (by omega) (by simp) rfl)
    · rw [impl_BestFold.l0, if_pos (by omega), if_pos (by omega), if_pos (by omega), Int.toNat_natCast]
      rfl
    · refine Ev.bind (implWidth_ev w _ (dirs_length _ _) (by omega)) ?_
      rw [hwr]
      cases a with
      | none => exact Ev.ite_pos (by decide) hnext
      | some a0 =>
        refine Ev.ite_neg (by have := ha a0 rfl; simp only [bestW, Option.map_some, Option.getD_some]; omega) ?_
        by_cases hlt : widthOf w (dirs w.length b) < a0.2
        · refine Ev.ite_pos hlt ?_
          rw [show pick (widthOf w) (some a0) (dirs w.length b) = some (dirs w.length b, widthOf w (dirs w.length b)) by unfold pick; simp only; rw [if_pos hlt]] at hnext
          simp only [show pick (widthOf w) (some a0) (dirs w.length b) = some (dirs w.length b, widthOf w (dirs w.length b)) by unfold pick; simp only; rw [if_pos hlt]]
          exact hnext
        · refine Ev.ite_neg hlt ?_
          rw [show pick (widthOf w) (some a0) (dirs w.length b) = some a0 by unfold pick; simp only; rw [if_neg hlt]] at hnext
          simp only [show pick (widthOf w) (some a0) (dirs w.length b) = some a0 by unfold pick; simp only; rw [if_neg hlt]]
          exact hnext
theorem bitv_one (m b i : Nat) : bitv m b i = 1 ∨ bitv m b i = -1 := by
  unfold bitv
  have := Nat.mod_lt (b / 2 ^ (m - 1 - i)) (show 0 < 2 by omega)
  generalize (b / 2 ^ (m - 1 - i)) % 2 = v at *
  omega
theorem foldStep_small {x lo hi v d f : Int} (i : Nat) (hi12 : i < 12) (hd : d = 1 ∨ d = -1) (hf : 0 ≤ f ∧ f ≤ 500) (hx : x - 500 * (i : Int) ≤ 0 ∧ -(500 * (i : Int)) ≤ x) (hlo : lo ≤ 0 ∧ -(500 * (i : Int)) ≤ lo) (hhi : 0 ≤ hi ∧ hi ≤ 500 * (i : Int)) (hv : v = wrap64 (x + wrap64 (d * f))) :
    (v - 500 * ((i + 1 : Nat) : Int) ≤ 0 ∧ -(500 * ((i + 1 : Nat) : Int)) ≤ v) ∧ (min lo v ≤ 0 ∧ -(500 * ((i + 1 : Nat) : Int)) ≤ min lo v) ∧ (0 ≤ max hi v ∧ max hi v ≤ 500 * ((i + 1 : Nat) : Int)) := by
  have h1 : d * f = f ∨ d * f = -f := by
    rcases hd with rfl | rfl
    · exact .inl (Int.one_mul f)
    · exact .inr (by omega)
  have h2 : v = x + d * f := by
    rw [hv]
    unfold wrap64
    omega
  omega
theorem width_pos (w : List S43) (h : okWay w = true) (b : Nat) : 0 ≤ widthOf w (dirs w.length b) := by
  have h12 := okWay_len h
  unfold widthOf
  rw [dirs_length]
  refine foldN_inv w.length (fun i (s : Int × Int × Int) => (s.1 - 500 * (i : Int) ≤ 0 ∧ -(500 * (i : Int)) ≤ s.1) ∧ (s.2.1 ≤ 0 ∧ -(500 * (i : Int)) ≤ s.2.1) ∧ (0 ≤ s.2.2 ∧ s.2.2 ≤ 500 * (i : Int))) (fun r => 0 ≤ r) ?_ ?_ w.length 0 (0, 0, 0) (by omega) (by simp)
  · rintro i s ⟨hx, hlo, hhi⟩ hi
    refine .inl ⟨_, rfl, ?_⟩
    have hr := okWay_at h hi
    have hd : (dirs w.length b).getD i 0 = bitv w.length b i := by
      rw [List.getD_eq_getElem?_getD, dirs_at hi]
      rfl
    simp only [okRun, Bool.and_eq_true, decide_eq_true_eq] at hr
    simp only [foldStep, hd]
    exact foldStep_small i (by omega) (bitv_one _ _ _) hr.1.1 hx hlo hhi rfl
  · rintro s ⟨hx, hlo, hhi⟩
    have : wrap64 (s.2.2 - s.2.1) = s.2.2 - s.2.1 := by unfold wrap64; omega
    rw [this]
    omega
theorem shl_eq : ∀ n : Fin 11, shl .i64 1 (n.val : Int) = ((2 ^ n.val : Nat) : Int) := by decide +kernel
theorem shl_nat {n : Nat} (h : n ≤ 10) : shl .i64 1 (n : Int) = ((2 ^ n : Nat) : Int) := shl_eq ⟨n, by omega⟩
theorem pow_small {n : Nat} (h : n ≤ 10) : 2 ^ n ≤ 1024 := Nat.pow_le_pow_right (by omega) h
def bestAnswer (w : List S43) : List Int × Int × Bool := if okWay w = true ∧ w.length ≤ 10 then ((bestOf (widthOf w) w.length []).1, (bestOf (widthOf w) w.length []).2, true) else ([], 0, false)
theorem bestOf_length (f : List Int → Int) (m : Nat) : ∀ p, (bestOf f m p).1.length = p.length + m := by
  induction m with
  | zero => intro p; rfl
  | succ m ih =>
    intro p
    simp only [bestOf, both]
    split
    · rw [ih]; simp; omega
    · rw [ih]; simp; omega
theorem bestAnswer_len (w : List S43) : (bestAnswer w).1.length ≤ 10 := by
  unfold bestAnswer
  split
  · rename_i h
    simp only [bestOf_length]
    simpa using h.2
  · simp
theorem specBest_ev (w : List S43) (hm : w.length ≤ 9223372036854775807) : Ev (fun k => spec_BestFold.f k w) (bestAnswer w) := by
  simp only [spec_BestFold.f]
  refine Ev.bind (l14Good_ev w hm) ?_
  unfold bestAnswer
  by_cases h : okWay w = true
  · refine Ev.ite_pos h ?_
    by_cases h2 : w.length ≤ 10
    · rw [if_pos ⟨h, h2⟩]
      exact Ev.ite_neg (by omega) (Ev.bind (specFold_ev w (by omega) w.length [] (by simp)) (Ev.now _))
    · rw [if_neg (fun hh => h2 hh.2)]
      exact Ev.ite_pos (by omega) (Ev.now _)
  · rw [if_neg (fun hh => h hh.1)]
    exact Ev.ite_neg h (Ev.now _)
theorem implBest_ev (w : List S43) (hm : w.length ≤ 9223372036854775807) : Ev (fun k => impl_BestFold.f k w) (bestAnswer w) := by
  simp only [impl_BestFold.f]
  refine Ev.bind (isWay_ev w hm) ?_
  unfold bestAnswer
  by_cases h : okWay w = true
  · refine Ev.ite_pos h ?_
    by_cases h2 : w.length ≤ 10
    · rw [if_pos ⟨h, h2⟩]
      refine Ev.step (f := fun k => impl_BestFold.l0 k w [] (-1) ((2 ^ w.length : Nat) : Int) 0) (fun k => ?_) ?_
      · rw [impl_BestFold.j0, if_neg (fun hh => by have := of_decide_eq_true hh; omega), shl_nat h2]
      · have h3 := outer_ev w (2 ^ w.length) (pow_small h2) h2 (width_pos w h) (2 ^ w.length) 0 none (by omega) (by simp)
        have h4 : (List.range (2 ^ w.length)).map (fun j => dirs w.length (0 + j)) = exts w.length [] := by
          rw [exts_dirs]
          apply List.map_congr_left
          intro b _
          rw [Nat.zero_add]
          rfl
        rw [h4, bestOf_fold] at h3
        exact h3
    · rw [if_neg (fun hh => h2 hh.2)]
      refine Ev.step (f := fun _ => some ([], 0, false)) (fun k => ?_) (Ev.now _)
      rw [impl_BestFold.j0, if_pos (decide_eq_true (by omega))]
  · rw [if_neg (fun hh => h hh.1)]
    refine Ev.ite_neg h (Ev.step (f := fun _ => some ([], 0, false)) (fun k => ?_) (Ev.now _))
    rw [impl_BestFold.j0, if_pos rfl]
end Go.Proofs.Ytihekanoigpjpaa.Pure
