/- The law FnFolds's pure statement. -/
import Derived.Test.YtihekanoigpjpaaMHx11
import Derived.Test.YtihekanoigpjpaaMHx3
import Derived.Test.YtihekanoigpjpaaMHx6
import Derived.Test.YtihekanoigpjpaaMHx8
import Derived.Test.YtihekanoigpjpaaPDrawWays
import Derived.Test.YtihekanoigpjpaaPFolded
import Derived.Test.YtihekanoigpjpaaPBestFold
import Derived.Test.YtihekanoigpjpaaPSteepest
import Derived.Test.YtihekanoigpjpaaPRInts
namespace Go.Proofs.Ytihekanoigpjpaa.Pure
open Go.RowKit Go.Proofs.Ytihekanoigpjpaa.MH Go.Proofs.YtihekanoigpjpaaW.PrintWords Go.Proofs.YtihekanoigpjpaaW.PrintLast Go.Proofs.YtihekanoigpjpaaW.PrintMore
set_option linter.unusedVariables false
set_option linter.unusedSimpArgs false
/-! the draws -/
theorem dr_folded0 {l : List Int} (hb : Bytes l) (w : List S43) (hw : w.length ≤ 13) : ∀ (e q : Nat) (ds : List Int) (i s : Int), q + e = w.length → ds.length = q → 0 ≤ i → i ≤ 1000000 + 2 * q → Dr (fun k => spec_DrawFoldedWidth.l0 k w ds (q : Int) l i s) (fun r => r.1 = w ∧ r.2.length ≤ 100) := by
  intro e
  induction e with
  | zero =>
    intro q ds i s hq hd h0 h1
    refine Dr.step (fun k => by rw [spec_DrawFoldedWidth.l0]) ?_
    refine Dr.ite (fun c => by omega) (fun _ => ?_)
    refine Dr.pick hb (by omega) (by omega) (by omega) (fun v j t g0 g1 g2 g3 => ?_)
    dsimp only
    refine Dr.ite (fun _ => Dr.ite (fun _ => Dr.now _ ⟨rfl, by dsimp only; rw [snoc_len]; omega⟩) (fun _ => Dr.none (by omega))) (fun _ => Dr.ite (fun _ => Dr.ite (fun c => ?_) (fun _ => Dr.now _ ⟨rfl, by dsimp only; omega⟩)) (fun _ => Dr.now _ ⟨rfl, by dsimp only; omega⟩))
    refine Dr.among hb (by omega) (by omega) (by decide) (by decide) (fun v2 j2 t2 g4 g5 g6 => ?_)
    exact Dr.ite (fun _ => Dr.now _ ⟨rfl, by dsimp only; rw [List.length_set]; omega⟩) (fun _ => Dr.none (by omega))
  | succ e ih =>
    intro q ds i s hq hd h0 h1
    refine Dr.step (fun k => by rw [spec_DrawFoldedWidth.l0]) ?_
    refine Dr.ite (fun _ => ?_) (fun c => by omega)
    refine Dr.among hb (by omega) (by omega) (by decide) (by decide) (fun v j t g0 g1 g2 => ?_)
    dsimp only
    rw [wrap_succ q (by omega)]
    exact Dr.ite (fun _ => ih (q + 1) _ j t (by omega) (by rw [snoc_len]; omega) (by omega) (by omega)) (fun _ => Dr.none (by omega))
theorem dr_folded {l : List Int} (hb : Bytes l) : Dr (fun k => spec_DrawFoldedWidth.f k l) (fun r => r.1.length ≤ 13 ∧ r.2.length ≤ 100) := by
  simp only [spec_DrawFoldedWidth.f]
  refine Dr.bind (dr_way hb (by omega) (by omega)) (fun r hr => ?_)
  exact (dr_folded0 hb r.1 hr.1 r.1.length 0 [] r.2.1 r.2.2 (by omega) rfl (by omega) (by omega)).mono (fun z hz => ⟨by rw [hz.1]; exact hr.1, hz.2⟩)
theorem dr_best0 {l : List Int} (hb : Bytes l) : ∀ (d : Nat) (xs : List S43) (i s : Int), 13 ≤ xs.length + d → xs.length ≤ 13 → 0 ≤ i → i + 2 * d ≤ 999990000 → Dr (fun k => spec_DrawBestFold.l0 k xs l i s) (fun r => r.length ≤ 13) := by
  intro d
  induction d with
  | zero =>
    intro xs i s hd hx h0 h1
    refine Dr.step (fun k => by rw [spec_DrawBestFold.l0]) ?_
    refine Dr.pick hb (by omega) (by omega) (by omega) (fun v j t g0 g1 g2 g3 => ?_)
    dsimp only
    rw [wrap_id (x := 9 + v) (by omega) (by omega)]
    refine Dr.ite (fun c => ?_) (fun c => Dr.now _ hx)
    omega
  | succ d ih =>
    intro xs i s hd hx h0 h1
    refine Dr.step (fun k => by rw [spec_DrawBestFold.l0]) ?_
    refine Dr.pick hb (by omega) (by omega) (by omega) (fun v j t g0 g1 g2 g3 => ?_)
    dsimp only
    rw [wrap_id (x := 9 + v) (by omega) (by omega)]
    refine Dr.ite (fun c => ?_) (fun c => Dr.now _ hx)
    refine Dr.ite (fun _ => ?_) (fun _ => Dr.none (by omega))
    exact ih _ j t (by rw [snoc_len]; omega) (by rw [snoc_len]; omega) (by omega) (by omega)
theorem dr_best {l : List Int} (hb : Bytes l) : Dr (fun k => spec_DrawBestFold.f k l) (fun r => r.length ≤ 13) := by
  simp only [spec_DrawBestFold.f]
  refine Dr.bind (dr_way hb (by omega) (by omega)) (fun r hr => ?_)
  refine Dr.one hb (by omega) (by omega) (by omega) (fun b j t g0 g1 => ?_)
  exact Dr.ite (fun _ => dr_best0 hb 13 r.1 j t (by omega) hr.1 (by omega) (by omega)) (fun _ => Dr.now _ hr.1)
theorem dr_steep {l : List Int} (hb : Bytes l) : Dr (fun k => spec_DrawSteepestRun.f k l) (fun r => r.length ≤ 13) := by
  simp only [spec_DrawSteepestRun.f, spec_DrawIsWay.f]
  refine Dr.bind (Q := fun r => r.length ≤ 13) (Dr.bind (dr_way hb (by omega) (by omega)) (fun r hr => Dr.now _ hr.1)) (fun r hr => Dr.now _ hr)
/-! the best directions -/
theorem bestOf_says (f : List Int → Int) : ∀ m p, (bestOf f m p).1 ∈ exts m p ∧ (bestOf f m p).2 = f (bestOf f m p).1 ∧ ∀ q ∈ exts m p, (bestOf f m p).2 ≤ f q
  | 0, p => ⟨by simp [exts, bestOf], rfl, fun q hq => by
      simp only [exts, List.mem_singleton] at hq
      subst hq
      exact Int.le_refl _⟩
  | m + 1, p => by
    obtain ⟨a1, a2, a3⟩ := bestOf_says f m (p ++ [1])
    obtain ⟨b1, b2, b3⟩ := bestOf_says f m (p ++ [-1])
    simp only [bestOf, both, exts, List.mem_append]
    by_cases h : (bestOf f m (p ++ [-1])).2 < (bestOf f m (p ++ [1])).2
    · rw [if_pos h]
      refine ⟨.inr b1, b2, fun q hq => hq.elim (fun z => ?_) (b3 q)⟩
      have := a3 q z
      omega
    · rw [if_neg h]
      refine ⟨.inl a1, a2, fun q hq => hq.elim (a3 q) (fun z => ?_)⟩
      have := b3 q z
      omega
def ones (t : List Int) : Prop := ∀ x ∈ t, x = 1 ∨ x = -1
theorem mem_exts : ∀ (m : Nat) (t p : List Int), t.length = m → ones t → p ++ t ∈ exts m p
  | 0, t, p, hl, _ => by
    have : t = [] := List.eq_nil_of_length_eq_zero hl
    subst this
    simp [exts]
  | m + 1, [], p, hl, _ => by simp at hl
  | m + 1, x :: t, p, hl, h => by
    have h1 : ones t := fun y hy => h y (List.mem_cons_of_mem _ hy)
    have h2 : t.length = m := by simpa using hl
    have e : p ++ x :: t = (p ++ [x]) ++ t := by simp
    simp only [exts, List.mem_append]
    rw [e]
    rcases h x List.mem_cons_self with rfl | rfl
    · exact .inl (mem_exts m t _ h2 h1)
    · exact .inr (mem_exts m t _ h2 h1)
theorem exts_ones : ∀ (m : Nat) (p q : List Int), ones p → q ∈ exts m p → ones q
  | 0, p, q, hp, hq => by
    simp only [exts, List.mem_singleton] at hq
    subst hq
    exact hp
  | m + 1, p, q, hp, hq => by
    simp only [exts, List.mem_append] at hq
    rcases hq with hq | hq
    · refine exts_ones m _ q (fun x hx => ?_) hq
      rw [List.mem_append, List.mem_singleton] at hx
      exact hx.elim (hp x) .inl
    · refine exts_ones m _ q (fun x hx => ?_) hq
      rw [List.mem_append, List.mem_singleton] at hx
      exact hx.elim (hp x) .inr
/-- No fold is narrower than a run. -/
theorem level_le (w : List S43) (h : okWay w = true) (ds : List Int) (hl : ds.length = w.length) (hd : ones ds) (j : Nat) (hj : j < w.length) : (w.getD j z43).f0 ≤ widthOf w ds := by
  have h12 := okWay_len h
  unfold widthOf
  refine foldN_inv ds.length (fun i (s : Int × Int × Int) => ((s.1 - 500 * (i : Int) ≤ 0 ∧ -(500 * (i : Int)) ≤ s.1) ∧ (s.2.1 ≤ 0 ∧ -(500 * (i : Int)) ≤ s.2.1) ∧ (0 ≤ s.2.2 ∧ s.2.2 ≤ 500 * (i : Int))) ∧ (s.2.1 ≤ s.1 ∧ s.1 ≤ s.2.2) ∧ (j < i → (w.getD j z43).f0 ≤ s.2.2 - s.2.1)) (fun r => (w.getD j z43).f0 ≤ r) ?_ ?_ ds.length 0 (0, 0, 0) (by omega) (by simp)
  · rintro i s ⟨⟨hx, hlo, hhi⟩, ⟨h1, h2⟩, h3⟩ hi
    refine .inl ⟨_, rfl, ?_⟩
    have hr := okWay_at h (i := i) (by omega)
    have hd1 : ds.getD i 0 = 1 ∨ ds.getD i 0 = -1 := by
      rw [getD_lt _ _ _ hi]
      exact hd _ (List.getElem_mem hi)
    simp only [okRun, Bool.and_eq_true, decide_eq_true_eq] at hr
    have hsm := foldStep_small i (by omega) hd1 hr.1.1 hx hlo hhi rfl
    have hv : wrap64 (s.1 + wrap64 (ds.getD i 0 * (w.getD i z43).f0)) = s.1 + (w.getD i z43).f0 ∨ wrap64 (s.1 + wrap64 (ds.getD i 0 * (w.getD i z43).f0)) = s.1 - (w.getD i z43).f0 := by
      have := hr.1.1
      rcases hd1 with e | e
      · refine .inl ?_
        rw [e, Int.one_mul, wrap_id (x := (w.getD i z43).f0) (by omega) (by omega), wrap_id (by omega) (by omega)]
      · refine .inr ?_
        rw [e, show (-1 : Int) * (w.getD i z43).f0 = -(w.getD i z43).f0 by omega, wrap_id (x := -(w.getD i z43).f0) (by omega) (by omega), wrap_id (by omega) (by omega)]
        omega
    simp only [foldStep]
    refine ⟨hsm, ?_, ?_⟩
    · omega
    · intro hji
      have := hr.1.1
      by_cases e : j = i
      · subst e
        omega
      · have := h3 (by omega)
        omega
  · rintro s ⟨⟨hx, hlo, hhi⟩, -, h3⟩
    have h4 := h3 (by omega)
    have : wrap64 (s.2.2 - s.2.1) = s.2.2 - s.2.1 := by unfold wrap64; omega
    rw [this]
    exact h4
/-! the steepest run -/
theorem steep_trans {ui li ub lb uc lc : Int} (h0 : 0 ≤ ui) (h1 : 0 ≤ li) (h2 : 0 ≤ ub) (h3 : 0 ≤ lb) (h5 : 0 ≤ lc) (hne : ¬ (ui = 0 ∧ li = 0)) (ha : ui * lb ≤ ub * li) (hb : ub * lc < uc * lb) : ui * lc < uc * li := by
  have hlb : 0 < lb := by
    rcases Int.lt_or_eq_of_le h3 with h | h
    · exact h
    · rw [← h, Int.mul_zero] at hb
      have := Int.mul_nonneg h2 h5
      omega
  rcases Int.lt_or_eq_of_le h1 with hl | hl
  · have e1 : ui * lb * lc ≤ ub * li * lc := Int.mul_le_mul_of_nonneg_right ha h5
    have e2 : ub * lc * li < uc * lb * li := Int.mul_lt_mul_of_pos_right hb hl
    refine Int.lt_of_mul_lt_mul_right (a := lb) ?_ h3
    rw [show ui * lc * lb = ui * lb * lc from Int.mul_right_comm ui lc lb, show uc * li * lb = uc * lb * li from Int.mul_right_comm uc li lb]
    rw [show ub * li * lc = ub * lc * li from Int.mul_right_comm ub li lc] at e1
    omega
  · rw [← hl, Int.mul_zero] at ha
    have h6 : ui = 0 := by
      rcases Int.lt_or_eq_of_le h0 with h | h
      · have := Int.mul_pos h hlb
        omega
      · exact h.symm
    exact absurd ⟨h6, hl.symm⟩ hne
def au (x : S43) : Int := if x.f1 < 0 then -x.f1 else x.f1
theorem prod_small {a b : Int} (h0 : 0 ≤ a) (h1 : a ≤ 500) (h2 : 0 ≤ b) (h3 : b ≤ 500) : 0 ≤ a * b ∧ a * b ≤ 250000 := by
  have := Int.mul_nonneg h0 h2
  have := Int.mul_le_mul h1 h3 h2 (by omega)
  omega
theorem steeper_iff {a b : S43} (ha : okRun a = true) (hb : okRun b = true) : steeper a b ↔ au b * a.f0 < au a * b.f0 := by
  simp only [okRun, Bool.and_eq_true, decide_eq_true_eq] at ha hb
  have h1 : max a.f1 (wrap64 (-a.f1)) = au a := by
    rw [wrap_id (by omega) (by omega)]
    unfold au
    split <;> omega
  have h2 : max b.f1 (wrap64 (-b.f1)) = au b := by
    rw [wrap_id (by omega) (by omega)]
    unfold au
    split <;> omega
  have u1 : 0 ≤ au a ∧ au a ≤ 500 := by unfold au; split <;> omega
  have u2 : 0 ≤ au b ∧ au b ≤ 500 := by unfold au; split <;> omega
  have p1 := prod_small u1.1 u1.2 hb.1.1.1 hb.1.1.2
  have p2 := prod_small u2.1 u2.2 ha.1.1.1 ha.1.1.2
  unfold steeper
  rw [h1, h2, wrap_id (x := au a * b.f0) (by omega) (by omega), wrap_id (x := au b * a.f0) (by omega) (by omega)]
def Steepest (l : List S43) (n b : Nat) : Prop := (b < l.length ∧ b ≤ n) ∧ (∀ i, i < n → au (l.getD i z43) * (l.getD b z43).f0 ≤ au (l.getD b z43) * (l.getD i z43).f0) ∧ (∀ i, i < n → i < b → au (l.getD i z43) * (l.getD b z43).f0 < au (l.getD b z43) * (l.getD i z43).f0)
theorem au_pos (x : S43) : 0 ≤ au x := by unfold au; split <;> omega
theorem steepest_says {l : List S43} (h : (steepest l).2 = true) : okWay l = true ∧ ∃ b : Nat, (steepest l).1 = (b : Int) ∧ Steepest l l.length b := by
  unfold steepest at h ⊢
  by_cases hc : okWay l = true ∧ l.length ≠ 0
  · rw [if_pos hc]
    refine ⟨hc.1, ?_⟩
    have hrun : ∀ i, i < l.length → okRun (l.getD i z43) = true := fun i hi => okWay_at hc.1 hi
    have hz : ∀ i, i < l.length → 0 ≤ (l.getD i z43).f0 ∧ ¬ (au (l.getD i z43) = 0 ∧ (l.getD i z43).f0 = 0) := fun i hi => by
      have := hrun i hi
      simp only [okRun, Bool.and_eq_true, decide_eq_true_eq, Bool.not_eq_true', Bool.and_eq_false_iff, beq_eq_false_iff_ne, ne_eq] at this
      refine ⟨this.1.1.1, fun hh => ?_⟩
      have h1 := hh.1
      unfold au at h1
      rcases this.2 with h2 | h2
      · exact h2 hh.2
      · split at h1 <;> omega
    refine foldN_inv (ρ := Int × Bool) l.length (fun n (b : Nat) => Steepest l n b) (fun r => ∃ b : Nat, r.1 = (b : Int) ∧ Steepest l l.length b) ?_ ?_ l.length 0 0 (by omega) ⟨⟨by omega, by omega⟩, fun i hi => by omega, fun i hi => by omega⟩
    · rintro n b ⟨⟨h1, hbn⟩, h2, h3⟩ hn
      refine .inl ⟨_, rfl, ?_⟩
      unfold steepStep
      by_cases hs : steeper (l.getD n z43) (l.getD b z43)
      · rw [if_pos hs]
        rw [steeper_iff (hrun n hn) (hrun b h1)] at hs
        have key : ∀ i, i < n → au (l.getD i z43) * (l.getD n z43).f0 < au (l.getD n z43) * (l.getD i z43).f0 := fun i hi =>
          steep_trans (au_pos _) (hz i (by omega)).1 (au_pos _) (hz b h1).1 (hz n hn).1 (hz i (by omega)).2 (h2 i hi) hs
        refine ⟨⟨hn, by omega⟩, fun i hi => ?_, fun i hi hin => key i hin⟩
        by_cases e : i = n
        · subst e; exact Int.le_refl _
        · exact Int.le_of_lt (key i (by omega))
      · rw [if_neg hs]
        rw [steeper_iff (hrun n hn) (hrun b h1)] at hs
        refine ⟨⟨h1, by omega⟩, fun i hi => ?_, fun i hi hib => ?_⟩
        · by_cases e : i = n
          · subst e; omega
          · exact h2 i (by omega)
        · by_cases e : i = n
          · subst e
            omega
          · exact h3 i (by omega) hib
    · rintro b hb
      exact ⟨b, rfl, hb⟩
  · rw [if_neg hc] at h
    cases h
/-! the law -/
theorem folds_l1 {l : List S43} (hm : l.length ≤ 13) (x : Int) (ok : Bool) (hok : ok = true → okWay l = true ∧ ∃ b : Nat, x = (b : Int) ∧ Steepest l l.length b) : ∀ e i, i + e = l.length → Ev (fun k => laws_FnFolds.l1 k l x ok (i : Int)) true := by
  intro e
  induction e with
  | zero =>
    intro i hi
    refine Ev.step (fun k => by rw [laws_FnFolds.l1]) ?_
    refine Ev.ite_neg (by omega) ?_
    refine Ev.step (fun k => by rw [laws_FnFolds.j7]) ?_
    exact Ev.ite_neg (by decide) (Ev.now _)
  | succ e ih =>
    intro i hi
    have hil : i < l.length := by omega
    refine Ev.step (fun k => by rw [laws_FnFolds.l1]) ?_
    refine Ev.ite_pos (by omega) ?_
    refine Ev.step (fun k => by rw [laws_FnFolds.j7]) ?_
    cases ok with
    | false => exact Ev.ite_neg (by decide) (Ev.now _)
    | true =>
      obtain ⟨hw, b, hx, ⟨hb, -⟩, h2, h3⟩ := hok rfl
      subst hx
      have hnext := ih (i + 1) (by omega)
      refine Ev.ite_pos rfl ?_
      refine Ev.ite_pos (by omega) ?_
      refine Ev.ite_pos (by omega) ?_
      refine Ev.ite_pos (by omega) ?_
      refine Ev.ite_pos (by omega) ?_
      rw [rdR, rdR]
      have ha := okWay_at hw hil
      have hbb := okWay_at hw hb
      have h2i := h2 i hil
      have h3i := h3 i hil
      generalize l.getD i z43 = a at ha h2i h3i ⊢
      generalize l.getD b z43 = c at hbb h2i h3i ⊢
      simp only [okRun, Bool.and_eq_true, decide_eq_true_eq] at ha hbb
      have u1 : 0 ≤ au a ∧ au a ≤ 500 := by unfold au; split <;> omega
      have u2 : 0 ≤ au c ∧ au c ≤ 500 := by unfold au; split <;> omega
      have p1 := prod_small u1.1 u1.2 hbb.1.1.1 hbb.1.1.2
      have p2 := prod_small u2.1 u2.2 ha.1.1.1 ha.1.1.2
      have hj8 : ∀ y, y = au a → Ev (fun k => laws_FnFolds.j8 k l (b : Int) true (i : Int) a.f0 y c.f0 c.f1) true := by
        intro y hy
        subst hy
        refine Ev.step (fun k => by rw [laws_FnFolds.j8]) ?_
        have hgo : ∀ z, z = au c → Ev (fun k => if wrap64 (au a * c.f0) > wrap64 (z * a.f0) then some false else if (i : Int) < (b : Int) then (if wrap64 (au a * c.f0) = wrap64 (z * a.f0) then some false else laws_FnFolds.l1 k l (b : Int) true (wrap64 ((i : Int) + 1))) else laws_FnFolds.l1 k l (b : Int) true (wrap64 ((i : Int) + 1))) true := by
          intro z hz
          subst hz
          rw [wrap_id (x := au a * c.f0) (by omega) (by omega), wrap_id (x := au c * a.f0) (by omega) (by omega), wrap_succ i (by omega)]
          refine Ev.ite_neg (by omega) ?_
          by_cases hib : (i : Int) < (b : Int)
          · have := h3i (by omega)
            exact Ev.ite_pos hib (Ev.ite_neg (by omega) hnext)
          · exact Ev.ite_neg hib hnext
        by_cases hneg : c.f1 < 0
        · refine Ev.ite_pos hneg ?_
          refine hgo _ ?_
          rw [wrap_id (by omega) (by omega)]
          unfold au
          rw [if_pos hneg]
        · refine Ev.ite_neg hneg ?_
          refine hgo _ ?_
          unfold au
          rw [if_neg hneg]
      by_cases hneg : a.f1 < 0
      · refine Ev.ite_pos hneg ?_
        refine hj8 _ ?_
        rw [wrap_id (by omega) (by omega)]
        unfold au
        rw [if_pos hneg]
      · refine Ev.ite_neg hneg ?_
        refine hj8 _ ?_
        unfold au
        rw [if_neg hneg]
theorem folds_last {l : List Int} (hb : Bytes l) (t : List S43) (x : Int) (ok : Bool) (q : Int) : Ev (fun k => laws_FnFolds.j4 k l t x ok q false) true := by
  obtain ⟨w, h1, h2⟩ := dr_steep hb
  refine Ev.step (fun k => by rw [laws_FnFolds.j4]) ?_
  refine Ev.ite_neg (by decide) ?_
  refine Ev.bind h1 ?_
  refine Ev.bind (implSteep_ev w (by omega)) ?_
  refine Ev.bind (specSteep_ev w (by omega)) ?_
  refine Ev.ite_pos rfl ?_
  refine Ev.step (fun k => by rw [laws_FnFolds.j5]) ?_
  refine Ev.ite_neg (by simp) ?_
  exact folds_l1 (by omega) _ _ (fun h => steepest_says h) w.length 0 (by omega)
theorem folds_l0 {l : List Int} (hb : Bytes l) (t : List S43) (ht : t.length ≤ 13) (x : Int) (ok : Bool) (hx : ok = true → ∀ i, i < t.length → (t.getD i z43).f0 ≤ x) : ∀ e i, i + e = t.length → Ev (fun k => laws_FnFolds.l0 k l t x ok (i : Int)) true := by
  intro e
  induction e with
  | zero =>
    intro i hi
    refine Ev.step (fun k => by rw [laws_FnFolds.l0]) ?_
    exact Ev.ite_neg (by omega) (folds_last hb t x ok i)
  | succ e ih =>
    intro i hi
    refine Ev.step (fun k => by rw [laws_FnFolds.l0]) ?_
    refine Ev.ite_pos (by omega) ?_
    cases ok with
    | false => exact folds_last hb t x false i
    | true =>
      have := hx rfl i (by omega)
      refine Ev.step (fun k => by rw [laws_FnFolds.j4]) ?_
      refine Ev.ite_pos rfl ?_
      refine Ev.ite_pos (by omega) ?_
      refine Ev.ite_pos (by omega) ?_
      rw [rdR, wrap_succ i (by omega)]
      exact Ev.ite_neg (by omega) (ih (i + 1) (by omega))
theorem nil_ones : ones [] := fun x hx => by simp at hx
theorem folds_mid {l : List Int} (hb : Bytes l) : Ev (fun k => laws_FnFolds.j1 k l) true := by
  obtain ⟨w, h1, h2⟩ := dr_best hb
  refine Ev.step (fun k => by rw [laws_FnFolds.j1]) ?_
  refine Ev.bind h1 ?_
  refine Ev.bind (implBest_ev w (by omega)) ?_
  refine Ev.bind (specBest_ev w (by omega)) ?_
  refine Ev.ite_neg (by simp) ?_
  refine Ev.ite_pos rfl ?_
  refine Ev.bind (rInts_ev _ (by have := bestAnswer_len w; omega)) ?_
  refine Ev.step (fun k => by rw [laws_FnFolds.j2]) ?_
  refine Ev.ite_neg (by simp) ?_
  refine folds_l0 hb w h2 _ _ (fun hok i hi => ?_) w.length 0 (by omega)
  unfold bestAnswer at hok ⊢
  by_cases hc : okWay w = true ∧ w.length ≤ 10
  · rw [if_pos hc]
    obtain ⟨a1, a2, -⟩ := bestOf_says (widthOf w) w.length []
    simp only
    rw [a2]
    refine level_le w hc.1 _ ?_ (exts_ones _ _ _ nil_ones a1) i hi
    have := exts_each a1
    simpa using this
  · rw [if_neg hc] at hok
    cases hok
theorem FnFolds (l0 : List Int) (hm0 : l0.length ≤ 9223372036854775807) (hw0 : ∀ x ∈ l0, (Lit.int .u8 x).wf = true) : ∃ k, laws_FnFolds.f k l0 = some true := by
  apply Ev.rounds
  have hb := bytes_of hw0
  simp only [laws_FnFolds.f, laws_rBig.f, Option.bind_some]
  by_cases hbig : (l0.length : Int) > 65536
  · exact Ev.ite_pos (decide_eq_true hbig) (Ev.now true)
  refine Ev.ite_neg (by simpa using hbig) ?_
  obtain ⟨⟨w, ds⟩, h1, h2, h3⟩ := dr_folded hb
  simp only at h2 h3
  refine Ev.bind h1 ?_
  refine Ev.bind (implFolded_ev w ds (by omega)) ?_
  refine Ev.bind (specFolded_ev w ds (by omega)) ?_
  refine Ev.ite_pos rfl ?_
  refine Ev.step (fun k => by rw [laws_FnFolds.j0]) ?_
  refine Ev.ite_neg (by simp) ?_
  cases hok : (foldAnswer w ds).2 with
  | false => exact Ev.ite_neg (by decide) (folds_mid hb)
  | true =>
    refine Ev.ite_pos rfl ?_
    refine Ev.bind (implBest_ev w (by omega)) ?_
    by_cases h10 : (w.length : Int) ≤ 10
    · refine Ev.ite_pos h10 ?_
      refine Ev.bind (implFolded_ev w _ (by omega)) ?_
      unfold foldAnswer at hok
      by_cases hc : okWay w = true ∧ ds.length = w.length ∧ ds.all (fun d => decide (d = 1 ∨ d = -1)) = true
      · have hbest : bestAnswer w = ((bestOf (widthOf w) w.length []).1, (bestOf (widthOf w) w.length []).2, true) := by
          unfold bestAnswer
          rw [if_pos ⟨hc.1, by omega⟩]
        obtain ⟨a1, a2, a3⟩ := bestOf_says (widthOf w) w.length []
        have hone := exts_ones _ _ _ nil_ones a1
        have hlen : (bestOf (widthOf w) w.length []).1.length = w.length := by
          have := exts_each a1
          simpa using this
        have hf : foldAnswer w (bestOf (widthOf w) w.length []).1 = (widthOf w (bestOf (widthOf w) w.length []).1, true) := by
          unfold foldAnswer
          rw [if_pos ⟨hc.1, hlen, by
            rw [List.all_eq_true]
            exact fun x hx => decide_eq_true (hone x hx)⟩]
        have hds : foldAnswer w ds = (widthOf w ds, true) := by
          unfold foldAnswer
          rw [if_pos hc]
        have hmem := mem_exts w.length ds [] hc.2.1 (fun x hx => by
          have := List.all_eq_true.1 hc.2.2 x hx
          exact of_decide_eq_true this)
        have hle := a3 ds hmem
        rw [hbest, hds]
        simp only
        rw [hf]
        refine Ev.ite_pos (by trivial) ?_
        refine Ev.ite_pos (by trivial) ?_
        refine Ev.ite_pos a2.symm ?_
        exact Ev.ite_neg (by omega) (folds_mid hb)
      · rw [if_neg hc] at hok
        cases hok
    · exact Ev.ite_neg h10 (folds_mid hb)
end Go.Proofs.Ytihekanoigpjpaa.Pure
