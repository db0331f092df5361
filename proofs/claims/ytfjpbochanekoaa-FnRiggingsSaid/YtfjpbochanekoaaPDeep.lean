/- How many of the first pitches can be rigged: the search and the sorted lists agree. -/
import Derived.Test.YtfjpbochanekoaaMJx3
import Derived.Test.YtfjpbochanekoaaMJx4
import Derived.Test.YtfjpbochanekoaaMJx1
import Derived.Test.YtfjpbochanekoaaPBestGo
import Derived.Test.YtfjpbochanekoaaPHall
namespace Go.Proofs.Ytfjpbochanekoaa.Pure
open Go.RowKit Go.Proofs.Ytfjpbochanekoaa.MJ Go.Proofs.YtfjpbochanekoaaW.PrintWords Go.Proofs.YtfjpbochanekoaaW.PrintLast Go.Proofs.YtfjpbochanekoaaW.PrintMore
set_option linter.unusedVariables false
set_option linter.unusedSimpArgs false
def needf (l0 : List S36) (j : Nat) : Int := rigNeed (l0.getD j z36)
theorem bestLoop_iff {f : List Int → Int → List Int × Int} {need : Int} {l1 rig : List Int} {sum : Int} : ∀ d k (acc : List Int × Int), 0 ≤ (bestLoop f need l1 rig sum d k acc).2 ↔ 0 ≤ acc.2 ∨ ∃ j, k ≤ j ∧ j < k + d ∧ ¬ (j : Int) ∈ rig ∧ need ≤ l1.getD j 0 ∧ 0 ≤ (f (rig ++ [(j : Int)]) (sum + l1.getD j 0)).2
 | 0, k, acc => by
  simp only [bestLoop]
  refine ⟨.inl, fun h => h.elim id ?_⟩
  rintro ⟨j, h1, h2, -⟩
  omega
 | d + 1, k, acc => by
  simp only [bestLoop]
  rw [bestLoop_iff d (k + 1)]
  by_cases hc : (k : Int) ∈ rig ∨ l1.getD k 0 < need
  ·rw [if_pos hc]
   refine or_congr Iff.rfl ⟨?_, ?_⟩
   ·rintro ⟨j, h1, h2, h3⟩
    exact ⟨j, by omega, by omega, h3⟩
   ·rintro ⟨j, h1, h2, h3, h4, h5⟩
    refine ⟨j, ?_, by omega, h3, h4, h5⟩
    refine Nat.lt_of_le_of_ne h1 (fun e => ?_)
    subst e
    rcases hc with hc | hc
    ·exact h3 hc
    ·omega
  ·rw [if_neg hc]
   have hc1 : ¬ (k : Int) ∈ rig := fun h => hc (.inl h)
   have hc2 : need ≤ l1.getD k 0 := Int.not_lt.1 (fun h => hc (.inr h))
   constructor
   ·rintro (h | ⟨j, h1, h2, h3⟩)
    ·split at h
     ·exact .inr ⟨k, by omega, by omega, hc1, hc2, h⟩
     ·exact .inl h
    ·exact .inr ⟨j, by omega, by omega, h3⟩
   ·rintro (h | ⟨j, h1, h2, h3, h4, h5⟩)
    ·refine .inl ?_
     split
     ·rename_i hh; exact hh.1
     ·exact h
    ·by_cases e : j = k
     ·subst e
      refine .inl ?_
      split
      ·exact h5
      ·rename_i hh
       refine Int.not_lt.1 (fun hlt => hh ⟨h5, .inl hlt⟩)
     ·exact .inr ⟨j, by omega, by omega, h3, h4, h5⟩
theorem bestGo_iff {l0 : List S36} {l1 : List Int} (hv : ∀ x ∈ l1, 0 ≤ x) : ∀ d rig (sum : Int), 0 ≤ sum → (0 ≤ (bestGo l0 l1 d rig sum).2 ↔ Fit (needf l0) l1 d rig)
 | 0, rig, sum, h => ⟨fun _ => trivial, fun _ => h⟩
 | d + 1, rig, sum, h => by
  simp only [bestGo]
  rw [bestLoop_iff]
  constructor
  ·rintro (h0 | ⟨j, h1, h2, h3, h4, h5⟩)
   ·simp at h0
   ·have hjl : j < l1.length := by omega
    have := hv _ (List.getElem_mem hjl)
    exact ⟨j, hjl, h3, h4, (bestGo_iff hv d _ _ (by rw [getD_lt _ _ _ hjl]; omega)).1 h5⟩
  ·rintro ⟨j, h1, h3, h4, h5⟩
   have := hv _ (List.getElem_mem h1)
   exact .inr ⟨j, by omega, by omega, h3, h4, (bestGo_iff hv d _ _ (by rw [getD_lt _ _ _ h1]; omega)).2 h5⟩
theorem fit_congr {need need' : Nat → Int} {l1 : List Int} {d : Nat} {rig : List Int} (h : ∀ j, j < rig.length + d → need j = need' j) : Fit need l1 d rig ↔ Fit need' l1 d rig := by
 rw [fit_iff, fit_iff]
 have e : needs need rig.length d = needs need' rig.length d := by
  unfold needs
  exact List.map_congr_left (fun j hj => h _ (by rw [List.mem_range] at hj; omega))
 rw [e]
/-! sorting -/
theorem take_snoc (l : List Int) (i : Nat) (h : i < l.length) : l.take (i + 1) = l.take i ++ [l.getD i 0] := by
 rw [List.take_succ_eq_append_getElem h, getD_lt _ _ _ h]
theorem down_ev (l : List Int) (hl : l.length ≤ 1000) : ∃ r, Ev (fun k => spec_l16Down.f k l) r ∧ Sorted r ∧ (∀ t, cnt t r = cnt t l) ∧ r.length = l.length := by
 have outer : ∀ e i (out : List Int), i + e = l.length → Sorted out → out.length = i → (∀ t, cnt t out = cnt t (l.take i)) → ∃ r, Ev (fun k => spec_l16Down.l0 k l out (i : Int)) r ∧ Sorted r ∧ (∀ t, cnt t r = cnt t l) ∧ r.length = l.length := by
  intro e
  induction e with
  | zero =>
   intro i out hi hs ho hc
   refine ⟨out, ?_, hs, fun t => ?_, by omega⟩
   ·refine Ev.step (fun k => by rw [spec_l16Down.l0]) ?_
    exact Ev.ite_neg (by omega) (Ev.now _)
   ·rw [hc, List.take_of_length_le (by omega)]
  | succ e ih =>
   intro i out hi hs ho hc
   have hil : i < l.length := by omega
   have hx := getD_lt l 0 i hil
   have hwi : wrap64 ((i : Int) + 1) = ((i + 1 : Nat) : Int) := by unfold wrap64; omega
   have cont : ∀ p, p ≤ out.length → (∀ j, j < p → out.getD j 0 ≤ l.getD i 0) → (∀ j, p ≤ j → j < out.length → l.getD i 0 ≤ out.getD j 0) → ∃ r, Ev (fun k => spec_l16Down.l0 k l (ins (l.getD i 0) out p) ((i + 1 : Nat) : Int)) r ∧ Sorted r ∧ (∀ t, cnt t r = cnt t l) ∧ r.length = l.length := by
    intro p hp h1 h2
    refine ih (i + 1) _ (by omega) (ins_sorted hs hp h1 h2) (by rw [ins_length]; omega) (fun t => ?_)
    rw [ins_cnt, hc, take_snoc l i hil, cnt_append]
   have inner : ∀ p, p ≤ out.length → (∀ j, p ≤ j → j < out.length → l.getD i 0 ≤ out.getD j 0) → ∃ r, Ev (fun k => spec_l16Down.l1 k l out (i : Int) (p : Int)) r ∧ Sorted r ∧ (∀ t, cnt t r = cnt t l) ∧ r.length = l.length := by
    intro p
    induction p with
    | zero =>
     intro hp h2
     obtain ⟨r, hr, hq⟩ := cont 0 hp (fun j hj => by omega) h2
     refine ⟨r, Ev.step (fun k => ?_) hr, hq⟩
     rw [spec_l16Down.l1, if_neg (by omega)]
     simp only [Option.bind_some, hwi, rd_nat]
     rw [if_pos (by omega), if_pos (by omega), if_pos (by first | (simp; done) | (simp; omega)), if_pos (by omega), if_pos (by omega), if_pos (by first | (simp; done) | (simp; omega)), if_pos (by first | (simp; done) | (simp; omega))]
     rfl
    | succ p ihp =>
     intro hp h2
     have hw : wrap64 (((p + 1 : Nat) : Int) - 1) = (p : Int) := by unfold wrap64; omega
     by_cases hgt : out.getD p 0 > l.getD i 0
     ·obtain ⟨r, hr, hq⟩ := ihp (by omega) (fun j h3 h4 => by
       by_cases e : j = p
       ·subst e; omega
       ·exact h2 j (by omega) h4)
      refine ⟨r, Ev.step (fun k => ?_) hr, hq⟩
      rw [spec_l16Down.l1, if_pos (by omega)]
      simp only [hw, rd_nat]
      rw [if_pos (by omega), if_pos (by omega), if_pos (by omega), if_pos (by omega), if_pos hgt]
     ·obtain ⟨r, hr, hq⟩ := cont (p + 1) hp (fun j hj => by
       have := hs j p (by omega) (by omega)
       omega) h2
      refine ⟨r, Ev.step (fun k => ?_) hr, hq⟩
      rw [spec_l16Down.l1, if_pos (by omega)]
      simp only [hw, rd_nat, Option.bind_some, hwi]
      rw [if_pos (by omega), if_pos (by omega), if_pos (by omega), if_pos (by omega), if_neg hgt, if_pos (by omega), if_pos (by omega), if_pos (by first | (simp; done) | (simp; omega)), if_pos (by first | (simp; done) | (simp; omega)), if_pos (by first | (simp; done) | (simp; omega))]
      rfl
   obtain ⟨r, hr, hq⟩ := inner out.length (Nat.le_refl _) (fun j h1 h2 => by omega)
   refine ⟨r, ?_, hq⟩
   refine Ev.step (fun k => by rw [spec_l16Down.l0]) ?_
   exact Ev.ite_pos (by omega) hr
 simp only [spec_l16Down.f]
 exact outer l.length 0 [] (by omega) (fun i j _ h => by simp at h) rfl (fun t => by simp)
/-! can it be rigged -/
theorem can_ev (l0 : List S36) (l1 : List Int) (hp : okPitches l0 = true) (hr : okRopes l1 = true) : ∃ b, Ev (fun k => spec_l16Can.f k l0 l1) b ∧ (b = true ↔ Fit (needf l0) l1 l0.length []) := by
 have h6 := okPitches_len hp
 have h8 := okRopes_says hr
 have hn : ∀ j, j < l0.length → 0 ≤ needf l0 j := fun j hj => by
  have := okPitches_at hp hj
  simp only [okPitch, Bool.and_eq_true, decide_eq_true_eq] at this
  unfold needf rigNeed
  rw [wrap_id (x := 15 * _) (by omega) (by omega), wrap_id (x := _ + 15 * _) (by omega) (by omega), wrap_id (by omega) (by omega)]
  omega
 obtain ⟨a, ha, sa, ca, la⟩ := down_ev (needs (needf l0) 0 l0.length) (by simp [needs]; omega)
 obtain ⟨b, hb, sb, cb, lb⟩ := down_ev l1 (by omega)
 have lna : a.length = l0.length := by rw [la]; simp [needs]
 have hcov := coverB_iff sa sb 0 (fun x hx => by
  have h1 : cnt x a = cnt x (needs (needf l0) 0 l0.length) := ca x
  have h2 : 0 < cnt x a := by
   unfold cnt
   exact List.countP_pos_iff.2 ⟨x, hx, by simp⟩
  refine Int.not_lt.1 (fun hlt => ?_)
  have h3 : cnt 0 a = a.length := by
   rw [ca 0, la]
   refine cnt_all (fun y hy => ?_)
   simp only [needs, List.mem_map, List.mem_range] at hy
   obtain ⟨j, hj, rfl⟩ := hy
   exact hn _ (by omega)
  have h4 := List.countP_eq_length.1 h3 x hx
  simp only [decide_eq_true_eq] at h4
  omega)
 have hfin : ∀ (e : Nat) (i : Nat), i + e = a.length → a.length ≤ b.length → Ev (fun k => spec_l16Can.l1 k a b (i : Int)) ((List.range e).all (fun j => decide (a.getD (i + j) 0 ≤ b.getD (b.length - a.length + (i + j)) 0))) := by
  intro e
  induction e with
  | zero =>
   intro i hi hle
   refine Ev.step (fun k => by rw [spec_l16Can.l1]) ?_
   exact Ev.ite_neg (by omega) (Ev.now _)
  | succ e ih =>
   intro i hi hle
   have hw : wrap64 (wrap64 ((b.length : Int) - (a.length : Int)) + (i : Int)) = ((b.length - a.length + i : Nat) : Int) := by unfold wrap64; omega
   have hwi : wrap64 ((i : Int) + 1) = ((i + 1 : Nat) : Int) := by unfold wrap64; omega
   refine Ev.step (fun k => by rw [spec_l16Can.l1]) ?_
   refine Ev.ite_pos (by omega) ?_
   rw [hw]
   refine Ev.ite_pos (by omega) (Ev.ite_pos (by omega) (Ev.ite_pos (by omega) ?_))
   rw [rd_nat, rd_nat, hwi]
   have hall : (List.range (e + 1)).all (fun j => decide (a.getD (i + j) 0 ≤ b.getD (b.length - a.length + (i + j)) 0)) = (decide (a.getD i 0 ≤ b.getD (b.length - a.length + i) 0) && (List.range e).all (fun j => decide (a.getD (i + 1 + j) 0 ≤ b.getD (b.length - a.length + (i + 1 + j)) 0))) := by
    rw [List.range_succ_eq_map, List.all_cons, List.all_map]
    congr 1
    refine congrArg (List.all (List.range e)) (funext (fun j => ?_))
    simp only [Function.comp]
    rw [show i + j.succ = i + 1 + j by omega]
   rw [hall]
   by_cases hlt : b.getD (b.length - a.length + i) 0 < a.getD i 0
   ·rw [decide_eq_false (by omega), Bool.false_and]
    exact Ev.ite_pos hlt (Ev.now _)
   ·rw [decide_eq_true (by omega), Bool.true_and]
    exact Ev.ite_neg hlt (ih (i + 1) (by omega) hle)
 have hbuild : ∀ (e : Nat) (i : Nat) (r : Bool), i + e = l0.length → Ev (fun k => spec_l16Can.l0 k l0 l1 (needs (needf l0) 0 l0.length) (l0.length : Int)) r → Ev (fun k => spec_l16Can.l0 k l0 l1 (needs (needf l0) 0 i) (i : Int)) r := by
  intro e
  induction e with
  | zero =>
   intro i r hi h
   obtain rfl : i = l0.length := by omega
   exact h
  | succ e ih =>
   intro i r hi h
   have hwi : wrap64 ((i : Int) + 1) = ((i + 1 : Nat) : Int) := by unfold wrap64; omega
   have hs : needs (needf l0) 0 (i + 1) = needs (needf l0) 0 i ++ [needf l0 i] := by
    unfold needs
    rw [List.range_succ, List.map_append]
    simp
   refine Ev.step (fun k => ?_) (ih (i + 1) r (by omega) h)
   rw [spec_l16Can.l0, if_pos (by omega), if_pos (by omega), rdP, hs, hwi]
   simp only [spec_l16Need.f, Option.bind_some]
   rw [if_pos (by simp [needs]; omega)]
   rfl
 refine ⟨coverB a b, ?_, ?_⟩
 ·simp only [spec_l16Can.f]
  refine hbuild l0.length 0 _ (by omega) ?_
  refine Ev.step (fun k => by rw [spec_l16Can.l0]) ?_
  refine Ev.ite_neg (by omega) (Ev.bind ha (Ev.bind hb ?_))
  unfold coverB
  by_cases hle : a.length ≤ b.length
  ·rw [decide_eq_true hle, Bool.true_and]
   refine Ev.ite_neg (by omega) ?_
   have h := hfin a.length 0 (by omega) hle
   simp only [Nat.zero_add] at h
   exact h
  ·rw [decide_eq_false hle, Bool.false_and]
   exact Ev.ite_pos (by omega) (Ev.now _)
 ·rw [hcov, fit_iff]
  constructor
  ·intro h t
   rw [free_nil]
   have := h t
   rw [ca, cb] at this
   exact this
  ·intro h t
   have := h t
   rw [free_nil] at this
   rw [ca, cb]
   exact this
theorem okPitches_take {l : List S36} (h : okPitches l = true) (n : Nat) : okPitches (l.take n) = true := by
 simp only [okPitches, Bool.and_eq_true, List.all_eq_true, decide_eq_true_eq] at h ⊢
 exact ⟨fun x hx => h.1 x (List.mem_of_mem_take hx), by rw [List.length_take]; omega⟩
theorem fit_take (l0 : List S36) (l1 : List Int) (n : Nat) (hn : n ≤ l0.length) : Fit (needf (l0.take n)) l1 (l0.take n).length [] ↔ Fit (needf l0) l1 n [] := by
 rw [List.length_take, Nat.min_eq_left hn]
 refine fit_congr (fun j hj => ?_)
 simp only [List.length_nil, Nat.zero_add] at hj
 unfold needf
 rw [List.getD_eq_getElem?_getD, List.getD_eq_getElem?_getD, List.getElem?_take_of_lt hj]
/-- The number of pitches that both answer. -/
def Deep (l0 : List S36) (l1 : List Int) (m : Nat) : Prop := m ≤ l0.length ∧ Fit (needf l0) l1 m [] ∧ (m = l0.length ∨ ¬ Fit (needf l0) l1 (m + 1) [])
theorem fit_down {l0 : List S36} {l1 : List Int} {m n : Nat} (h : m ≤ n) (hf : Fit (needf l0) l1 n []) : Fit (needf l0) l1 m [] := by
 obtain ⟨d, rfl⟩ : ∃ d, n = m + d := ⟨n - m, by omega⟩
 clear h
 induction d with
 | zero => exact hf
 | succ d ih => exact ih (fit_less _ _ _ _ hf)
theorem Deep.unique {l0 : List S36} {l1 : List Int} {m n : Nat} (h : Deep l0 l1 m) (h' : Deep l0 l1 n) : m = n := by
 rcases Nat.lt_trichotomy m n with hlt | he | hlt
 ·rcases h.2.2 with e | e
  ·have := h'.1; omega
  ·exact absurd (fit_down hlt h'.2.1) e
 ·exact he
 ·rcases h'.2.2 with e | e
  ·have := h.1; omega
  ·exact absurd (fit_down hlt h.2.1) e
theorem specDeep_loop {l0 : List S36} {l1 : List Int} (hp : okPitches l0 = true) (hr : okRopes l1 = true) : ∀ e n, n + e = l0.length → Fit (needf l0) l1 n [] → ∃ m, Ev (fun k => spec_DeepestFirst.l0 k l0 l1 (n : Int)) ((m : Nat), true) ∧ Deep l0 l1 m := by
 have h6 := okPitches_len hp
 intro e
 induction e with
 | zero =>
  intro n hn hf
  refine ⟨n, ?_, by omega, hf, .inl (by omega)⟩
  refine Ev.step (fun k => by rw [spec_DeepestFirst.l0]) ?_
  exact Ev.ite_neg (by omega) (Ev.now _)
 | succ e ih =>
  intro n hn hf
  have hw : wrap64 ((n : Int) + 1) = ((n + 1 : Nat) : Int) := by unfold wrap64; omega
  obtain ⟨b, hb, hiff⟩ := can_ev (l0.take (n + 1)) l1 (okPitches_take hp _) hr
  rw [fit_take l0 l1 (n + 1) (by omega)] at hiff
  have hgo : ∀ m, Ev (fun k => if b = true then spec_DeepestFirst.l0 k l0 l1 ((n + 1 : Nat) : Int) else some ((n : Int), true)) ((m : Nat), true) → Ev (fun k => spec_DeepestFirst.l0 k l0 l1 (n : Int)) ((m : Nat), true) := by
   intro m h
   refine Ev.step (fun k => by rw [spec_DeepestFirst.l0]) ?_
   refine Ev.ite_pos (by omega) ?_
   rw [hw]
   exact Ev.ite_pos (by omega) (Ev.ite_pos (by omega) (Ev.bind hb h))
  cases b with
  | true =>
   obtain ⟨m, h1, h2⟩ := ih (n + 1) (by omega) (hiff.1 rfl)
   exact ⟨m, hgo m (Ev.ite_pos rfl h1), h2⟩
  | false =>
   exact ⟨n, hgo n (Ev.ite_neg (by decide) (Ev.now _)), by omega, hf, .inr (fun h => by have := hiff.2 h; cases this)⟩
theorem implBest_found {l0 : List S36} {l1 : List Int} (hp : l0.length ≤ 6) (hr : okRopes l1 = true) : ∃ x y b, impl_bestRigging.f l0 l1 = some (x, y, b) ∧ (b = true ↔ Fit (needf l0) l1 l0.length []) := by
 have hv : ∀ x ∈ l1, 0 ≤ x := fun x hx => by have := (okRopes_says hr).2 x hx; omega
 have hiff := bestGo_iff (l0 := l0) hv l0.length [] 0 (by omega)
 rw [implBest_eq hp hr]
 unfold comb
 by_cases h : 0 ≤ (bestGo l0 l1 l0.length [] 0).2
 ·rw [if_pos ⟨h, .inl rfl⟩]
  exact ⟨_, _, _, rfl, ⟨fun _ => hiff.1 h, fun _ => rfl⟩⟩
 ·rw [if_neg (fun hh => h hh.1)]
  exact ⟨_, _, _, rfl, ⟨fun hh => absurd hh (by decide), fun hh => absurd (hiff.2 hh) h⟩⟩
theorem implDeep_loop {l0 : List S36} {l1 : List Int} (hp : okPitches l0 = true) (hr : okRopes l1 = true) : ∀ n, n ≤ l0.length → (n = l0.length ∨ ¬ Fit (needf l0) l1 (n + 1) []) → ∃ m, Ev (fun k => impl_DeepestFirst.l0 k l0 l1 (n : Int)) ((m : Nat), true) ∧ Deep l0 l1 m := by
 have h6 := okPitches_len hp
 intro n
 induction n with
 | zero =>
  intro hn hq
  refine ⟨0, ?_, by omega, trivial, hq⟩
  refine Ev.step (fun k => by rw [impl_DeepestFirst.l0]) ?_
  exact Ev.ite_neg (by omega) (Ev.now _)
 | succ n ih =>
  intro hn hq
  have hw : wrap64 (((n + 1 : Nat) : Int) - 1) = (n : Int) := by unfold wrap64; omega
  obtain ⟨x, y, b, hb, hiff⟩ := implBest_found (l0 := l0.take (n + 1)) (l1 := l1) (by rw [List.length_take]; omega) hr
  rw [fit_take l0 l1 (n + 1) hn] at hiff
  have hgo : ∀ m, Ev (fun k => if b = true then some (((n + 1 : Nat) : Int), true) else impl_DeepestFirst.l0 k l0 l1 (n : Int)) ((m : Nat), true) → Ev (fun k => impl_DeepestFirst.l0 k l0 l1 ((n + 1 : Nat) : Int)) ((m : Nat), true) := by
   intro m h
   refine Ev.step (fun k => by rw [impl_DeepestFirst.l0]) ?_
   refine Ev.ite_pos (by omega) (Ev.ite_pos (by omega) (Ev.ite_pos (by omega) (Ev.bindc hb ?_)))
   rw [hw]
   exact h
  cases b with
  | true => exact ⟨n + 1, hgo (n + 1) (Ev.ite_pos rfl (Ev.now _)), hn, hiff.1 rfl, hq⟩
  | false =>
   obtain ⟨m, h1, h2⟩ := ih (by omega) (.inr (fun h => by have := hiff.2 h; cases this))
   exact ⟨m, hgo m (Ev.ite_neg (by decide) h1), h2⟩
/-- Both answers. -/
theorem deep_both (l0 : List S36) (l1 : List Int) (hm0 : l0.length ≤ 9223372036854775807) (hm1 : l1.length ≤ 9223372036854775807) : ∃ v, Ev (fun k => spec_DeepestFirst.f k l0 l1) v ∧ Ev (fun k => impl_DeepestFirst.f k l0 l1) v ∧ (v.2 = true → okPitches l0 = true ∧ okRopes l1 = true ∧ ∃ m : Nat, v.1 = (m : Int) ∧ Deep l0 l1 m) := by
 have hno : Ev (fun k => impl_DeepestFirst.j0 k l0 l1 true) (0, false) := by
  refine Ev.step (fun k => by rw [impl_DeepestFirst.j0]) ?_
  exact Ev.ite_pos rfl (Ev.now _)
 simp only [spec_DeepestFirst.f, impl_DeepestFirst.f, arePitches_eq, areRopes_eq, Option.bind_some]
 have ha := asked_ev l0 l1 hm0 hm1
 cases hp : okPitches l0 with
 | false =>
  rw [hp, Bool.false_and] at ha
  exact ⟨(0, false), Ev.bind ha (Ev.ite_neg (by decide) (Ev.now _)), Ev.ite_neg (by decide) hno, fun h => by cases h⟩
 | true =>
  cases hr : okRopes l1 with
  | false =>
   rw [hp, hr] at ha
   exact ⟨(0, false), Ev.bind ha (Ev.ite_neg (by decide) (Ev.now _)), Ev.ite_pos rfl hno, fun h => by cases h⟩
  | true =>
   rw [hp, hr] at ha
   obtain ⟨m, h1, h2⟩ := specDeep_loop hp hr l0.length 0 (by omega) trivial
   obtain ⟨n, h3, h4⟩ := implDeep_loop hp hr l0.length (Nat.le_refl _) (.inl rfl)
   obtain rfl := h2.unique h4
   refine ⟨(m, true), Ev.bind ha (Ev.ite_pos rfl h1), ?_, fun _ => ⟨rfl, rfl, m, rfl, h2⟩⟩
   refine Ev.ite_pos rfl ?_
   refine Ev.step (fun k => by rw [impl_DeepestFirst.j0]) ?_
   exact Ev.ite_neg (by decide) h3
end Go.Proofs.Ytfjpbochanekoaa.Pure
