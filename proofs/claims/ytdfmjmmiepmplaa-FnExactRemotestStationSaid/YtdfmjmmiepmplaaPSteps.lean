/- The program's search for the smallest numbers of legs. -/
import Derived.Test.YtdfmjmmiepmplaaMTx5
import Derived.Test.YtdfmjmmiepmplaaPLegsAtI
import Derived.Test.YtdfmjmmiepmplaaPDist
import Derived.Test.YtdfmjmmiepmplaaPEnts
namespace Go.Proofs.Ytdfmjmmiepmplaa.Pure
open Go.RowKit Go.Proofs.Ytdfmjmmiepmplaa.MT Go.Proofs.YtdfmjmmiepmplaaW.PrintWords Go.Proofs.YtdfmjmmiepmplaaW.PrintLast Go.Proofs.YtdfmjmmiepmplaaW.PrintMore
set_option linter.unusedVariables false
set_option linter.unusedSimpArgs false
structure SInv (l : List S69) (ents : List Int) (at_ : Nat) (st q : List Int) : Prop where
  len : st.length = 8
  qin : ∀ v ∈ q, 0 ≤ v ∧ v < 8
  cnt : q.length + st.countP (fun x => decide (x < 0)) = 8
  mem : ∀ v, 0 ≤ v → v < 8 → (0 ≤ rd st v ↔ v ∈ q)
  neg : ∀ v, 0 ≤ v → v < 8 → rd st v < 0 → rd st v = -1
  sound : ∀ v, 0 ≤ v → v < 8 → 0 ≤ rd st v → Dd l ents (rd st v).toNat v
  srt : ∀ i j, i ≤ j → j < q.length → rd st (q.getD i 0) ≤ rd st (q.getD j 0)
  near : ∀ j, j < q.length → at_ < q.length → rd st (q.getD j 0) ≤ rd st (q.getD at_ 0) + 1
  lin : ∀ j, j < q.length → rd st (q.getD j 0) ≤ j
  ent : ∀ v ∈ ents, rd st v = 0
  le : at_ ≤ q.length
  entin : ∀ v ∈ ents, 0 ≤ v ∧ v < 8
/-- Legs join these. -/
def Joined (l : List S69) (u w : Int) : Prop := ∃ i, i < l.length ∧ ((fromOf l i = u ∧ toOf l i = w) ∨ (fromOf l i = w ∧ toOf l i = u))
def Done (l : List S69) (st q : List Int) (at_ : Nat) : Prop := ∀ i, i < at_ → ∀ w, Joined l (q.getD i 0) w → 0 ≤ rd st w ∧ rd st w ≤ rd st (q.getD i 0) + 1
theorem SInv.final {l : List S69} (hl : okLegs l = true) {ents : List Int} (he : ∀ v ∈ ents, 0 ≤ v ∧ v < 8) {at_ : Nat} {st q : List Int} (h : SInv l ents at_ st q) (hd : Done l st q at_) (hend : at_ = q.length) : IsDist l ents st := by
  have comp : ∀ n v, 0 ≤ v → v < 8 → Dd l ents n v → 0 ≤ rd st v ∧ rd st v ≤ n := by
    intro n
    induction n with
    | zero =>
      intro v _ _ hv
      have := h.ent v hv
      omega
    | succ n ih =>
      intro v h0 h8 hv
      rcases hv with hv | ⟨i, hi, hv⟩
      · have := ih v h0 h8 hv
        omega
      · have hin := ends_in hl i hi
        have key : ∀ u, 0 ≤ u → u < 8 → Dd l ents n u → Joined l u v → 0 ≤ rd st v ∧ rd st v ≤ ((n + 1 : Nat) : Int) := by
          intro u hu0 hu8 hu hj
          have h1 := ih u hu0 hu8 hu
          obtain ⟨j, hj2, hq⟩ := List.mem_iff_getElem.1 ((h.mem u hu0 hu8).1 h1.1)
          have hq2 : q.getD j 0 = u := by rw [getD_lt _ _ _ hj2]; exact hq
          have := hd j (by omega) v (by rw [hq2]; exact hj)
          rw [hq2] at this
          omega
        rcases hv with ⟨e, hu⟩ | ⟨e, hu⟩
        · exact key _ hin.2.1 hin.2.2 hu ⟨i, hi, .inr ⟨e, rfl⟩⟩
        · exact key _ hin.1.1 hin.1.2 hu ⟨i, hi, .inl ⟨rfl, e⟩⟩
  refine ⟨h.len, fun v h0 h8 => ?_⟩
  by_cases hv : 0 ≤ rd st v
  · right
    have hs := h.sound v h0 h8 hv
    obtain ⟨j, hj2, hq⟩ := List.mem_iff_getElem.1 ((h.mem v h0 h8).1 hv)
    have hl7 := h.lin j hj2
    rw [getD_lt _ _ _ hj2, hq] at hl7
    have hc := h.cnt
    refine ⟨(rd st v).toNat, by omega, by omega, hs, fun m hm hd2 => ?_⟩
    have := comp m v h0 h8 hd2
    omega
  · left
    refine ⟨h.neg v h0 h8 (by omega), fun n hd2 => hv (comp n v h0 h8 hd2).1⟩
theorem getD_append_left {q : List Int} {w : Int} {i : Nat} (h : i < q.length) : (q ++ [w]).getD i 0 = q.getD i 0 := by
  rw [getD_lt _ _ _ (by rw [List.length_append]; omega : i < (q ++ [w]).length), getD_lt _ _ _ h, List.getElem_append_left h]
theorem getD_append_last (q : List Int) (w : Int) : (q ++ [w]).getD q.length 0 = w := by
  simp [List.getD_eq_getElem?_getD]
theorem getD_mem {q : List Int} {i : Nat} (h : i < q.length) : q.getD i 0 ∈ q := by
  rw [getD_lt _ _ _ h]
  exact List.getElem_mem h
/-- A new station is told and goes to the end of the queue. -/
theorem SInv.put {l : List S69} {ents : List Int} {at_ : Nat} {st q : List Int} (h : SInv l ents at_ st q) (hd : Done l st q at_) (ha : at_ < q.length) {w : Int} (hw : 0 ≤ w ∧ w < 8) (hneg : rd st w < 0) (hj : Joined l (q.getD at_ 0) w) (hin : ∀ i, i < l.length → (0 ≤ fromOf l i ∧ fromOf l i < 8) ∧ (0 ≤ toOf l i ∧ toOf l i < 8)) :
    SInv l ents at_ (st.set w.toNat (rd st (q.getD at_ 0) + 1)) (q ++ [w]) ∧ Done l (st.set w.toNat (rd st (q.getD at_ 0) + 1)) (q ++ [w]) at_ ∧ ∀ v, 0 ≤ v → v < 8 → rd (st.set w.toNat (rd st (q.getD at_ 0) + 1)) v = if v = w then rd st (q.getD at_ 0) + 1 else rd st v := by
  have hu := h.qin _ (getD_mem ha)
  have hud : 0 ≤ rd st (q.getD at_ 0) := (h.mem _ hu.1 hu.2).2 (getD_mem ha)
  have hrd : ∀ v, 0 ≤ v → v < 8 → rd (st.set w.toNat (rd st (q.getD at_ 0) + 1)) v = if v = w then rd st (q.getD at_ 0) + 1 else rd st v := fun v h0 h8 => rd_set (by rw [h.len]; omega) (by rw [h.len]; omega)
  have hwq : w ∉ q := fun hm => by have := (h.mem w hw.1 hw.2).2 hm; omega
  have hne : ∀ i, i < q.length → q.getD i 0 ≠ w := fun i hi e => hwq (e ▸ getD_mem hi)
  have hold : ∀ i, i < q.length → rd (st.set w.toNat (rd st (q.getD at_ 0) + 1)) (q.getD i 0) = rd st (q.getD i 0) := fun i hi => by
    have hi2 := h.qin _ (getD_mem hi)
    rw [hrd _ hi2.1 hi2.2, if_neg (hne i hi)]
  have hnew : rd (st.set w.toNat (rd st (q.getD at_ 0) + 1)) w = rd st (q.getD at_ 0) + 1 := by rw [hrd w hw.1 hw.2, if_pos rfl]
  have hlast : ∀ j, j < (q ++ [w]).length → ¬ j < q.length → j = q.length := fun j h1 h2 => by rw [List.length_append, List.length_singleton] at h1; omega
  refine ⟨⟨by rw [List.length_set]; exact h.len, ?_, ?_, ?_, ?_, ?_, ?_, ?_, ?_, ?_, ?_, h.entin⟩, ?_, hrd⟩
  · intro v hv
    rcases List.mem_append.1 hv with hv | hv
    · exact h.qin v hv
    · rw [List.mem_singleton] at hv
      subst hv
      exact hw
  · have hc := h.cnt
    have hwl : w.toNat < st.length := by rw [h.len]; omega
    have hs : (st[w.toNat]'hwl) < 0 := by
      have := hneg
      rw [rd, getD_lt _ _ _ hwl] at this
      exact this
    rw [List.countP_set hwl, List.length_append, List.length_singleton]
    have hpos : 0 < st.countP (fun x => decide (x < 0)) := List.countP_pos_iff.2 ⟨_, List.getElem_mem hwl, decide_eq_true hs⟩
    simp only [hs, decide_true, if_true, show ¬ rd st (q.getD at_ 0) + 1 < 0 by omega, decide_false, Bool.false_eq_true, if_false]
    omega
  · intro v h0 h8
    rw [hrd v h0 h8, List.mem_append, List.mem_singleton]
    by_cases e : v = w
    · rw [if_pos e]
      exact ⟨fun _ => .inr e, fun _ => by omega⟩
    · rw [if_neg e, h.mem v h0 h8]
      exact ⟨.inl, fun hh => hh.resolve_right e⟩
  · intro v h0 h8 hv
    rw [hrd v h0 h8] at hv ⊢
    by_cases e : v = w
    · rw [if_pos e] at hv; omega
    · rw [if_neg e] at hv ⊢
      exact h.neg v h0 h8 hv
  · intro v h0 h8 hv
    rw [hrd v h0 h8] at hv ⊢
    by_cases e : v = w
    · rw [if_pos e]
      subst e
      have hs := h.sound _ hu.1 hu.2 hud
      rw [show (rd st (q.getD at_ 0) + 1).toNat = (rd st (q.getD at_ 0)).toNat + 1 by omega]
      obtain ⟨i, hi, hj2⟩ := hj
      right
      refine ⟨i, hi, ?_⟩
      rcases hj2 with ⟨a, b⟩ | ⟨a, b⟩
      · exact .inr ⟨b, by rw [a]; exact hs⟩
      · exact .inl ⟨a, by rw [b]; exact hs⟩
    · rw [if_neg e] at hv ⊢
      exact h.sound v h0 h8 hv
  · intro i j hij hj2
    by_cases hjq : j < q.length
    · rw [getD_append_left (by omega), getD_append_left hjq, hold i (by omega), hold j hjq]
      exact h.srt i j hij hjq
    · obtain rfl := hlast j hj2 hjq
      rw [getD_append_last, hnew]
      by_cases hiq : i < q.length
      · rw [getD_append_left hiq, hold i hiq]
        exact h.near i hiq ha
      · obtain rfl : i = q.length := by omega
        rw [getD_append_last, hnew]
        exact Int.le_refl _
  · intro j hj2 _
    rw [getD_append_left ha, hold at_ ha]
    by_cases hjq : j < q.length
    · rw [getD_append_left hjq, hold j hjq]
      exact h.near j hjq ha
    · obtain rfl := hlast j hj2 hjq
      rw [getD_append_last, hnew]
      exact Int.le_refl _
  · intro j hj2
    by_cases hjq : j < q.length
    · rw [getD_append_left hjq, hold j hjq]
      exact h.lin j hjq
    · obtain rfl := hlast j hj2 hjq
      rw [getD_append_last, hnew]
      have := h.lin at_ ha
      omega
  · intro v hv
    have hz := h.ent v hv
    by_cases e : v = w
    · subst e; omega
    · have hb := h.entin v hv
      rw [hrd v hb.1 hb.2, if_neg e]; exact hz
  · rw [List.length_append]; have := h.le; omega
  · intro i hi v hv
    rw [getD_append_left (by omega)] at hv ⊢
    rw [hold i (by omega)]
    have hdi := hd i hi v hv
    have hvb : 0 ≤ v ∧ v < 8 := by
      obtain ⟨j, hj1, hj2⟩ := hv
      have := hin j hj1
      rcases hj2 with ⟨a, b⟩ | ⟨a, b⟩ <;> omega
    rw [hrd v hvb.1 hvb.2, if_neg (fun e => by rw [e] at hdi; omega)]
    exact hdi

theorem SInv.next {l : List S69} {ents : List Int} {at_ : Nat} {st q : List Int} (h : SInv l ents at_ st q) (ha : at_ < q.length) : SInv l ents (at_ + 1) st q :=
  ⟨h.len, h.qin, h.cnt, h.mem, h.neg, h.sound, h.srt, fun j hj ha2 => by
    have h1 := h.near j hj ha
    have h2 := h.srt at_ (at_ + 1) (by omega) ha2
    omega, h.lin, h.ent, by omega, h.entin⟩
def oth (l : List S69) (u : Int) (p : Nat) : Int := fromOf l p + toOf l p - u
theorem legsAt_at {l : List S69} {u : Int} {j : Nat} (h : j < (legsAtL l u).length) : ∃ p : Nat, p < l.length ∧ touches l u p = true ∧ rd (legsAtL l u) (j : Int) = (p : Int) := by
  have hm := getD_mem h
  rw [rd_nat]
  generalize hx : (legsAtL l u).getD j 0 = x at hm ⊢
  rw [legsAtL, List.mem_map] at hm
  obtain ⟨p, hp, e⟩ := hm
  rw [List.mem_filter, List.mem_range'_1] at hp
  exact ⟨p, by omega, hp.2, e.symm⟩
theorem legsAt_has {l : List S69} {u : Int} {p : Nat} (h : p < l.length) (ht : touches l u p = true) : ∃ j, j < (legsAtL l u).length ∧ rd (legsAtL l u) (j : Int) = (p : Int) := by
  have hm : (p : Int) ∈ legsAtL l u := by
    rw [legsAtL, List.mem_map]
    exact ⟨p, by rw [List.mem_filter, List.mem_range'_1]; exact ⟨by omega, ht⟩, rfl⟩
  obtain ⟨j, hj, e⟩ := List.mem_iff_getElem.1 hm
  exact ⟨j, hj, by rw [rd_nat, getD_lt _ _ _ hj]; exact e⟩
theorem oth_joined {l : List S69} {u : Int} {p : Nat} (hp : p < l.length) (ht : touches l u p = true) : Joined l u (oth l u p) := by
  refine ⟨p, hp, ?_⟩
  unfold oth
  simp only [touches, Bool.or_eq_true, decide_eq_true_eq] at ht
  rcases ht with h | h
  · left; constructor <;> omega
  · right; constructor <;> omega
theorem oth_in {l : List S69} (hl : okLegs l = true) {u : Int} {p : Nat} (hp : p < l.length) (ht : touches l u p = true) : 0 ≤ oth l u p ∧ oth l u p < 8 := by
  obtain ⟨i, hi, hh⟩ := oth_joined hp ht
  have := ends_in hl i hi
  rcases hh with h | h <;> omega
theorem l2_put {k : Nat} {l : List S69} {st q ts : List Int} {a n j p u w : Int} (h1 : j < n) (h2 : 0 ≤ j) (h3 : j < (ts.length : Int)) (hp : rd ts j = p) (h4 : 0 ≤ p) (h5 : p < (l.length : Int)) (h6 : 0 ≤ a) (h7 : a < (q.length : Int)) (hu : rd q a = u)
    (hw : wrap64 (wrap64 ((rd_T69 l p).f0 + (rd_T69 l p).f1) - u) = w) (h8 : 0 ≤ w) (h9 : w < (st.length : Int)) (h10 : rd st w < 0) (h11 : 0 ≤ u) (h12 : u < (st.length : Int)) (h13 : q.length < 17592186044416) :
    impl_stepsFrom.l2 (k + 1) l st q a ts n j = impl_stepsFrom.l2 k l (st.set w.toNat (wrap64 (rd st u + 1))) (q ++ [w]) a ts n (wrap64 (j + 1)) := by
  simp only [impl_stepsFrom.l2, hp, hu, hw]
  rw [if_pos h1, if_pos h2, if_pos h3, if_pos h4, if_pos h5, if_pos h6, if_pos h7, if_pos h8, if_pos h9, if_pos h10, if_pos h11, if_pos h12, if_pos h13]
theorem l2_skip {k : Nat} {l : List S69} {st q ts : List Int} {a n j p u w : Int} (h1 : j < n) (h2 : 0 ≤ j) (h3 : j < (ts.length : Int)) (hp : rd ts j = p) (h4 : 0 ≤ p) (h5 : p < (l.length : Int)) (h6 : 0 ≤ a) (h7 : a < (q.length : Int)) (hu : rd q a = u)
    (hw : wrap64 (wrap64 ((rd_T69 l p).f0 + (rd_T69 l p).f1) - u) = w) (h8 : 0 ≤ w) (h9 : w < (st.length : Int)) (h10 : ¬ rd st w < 0) :
    impl_stepsFrom.l2 (k + 1) l st q a ts n j = impl_stepsFrom.l2 k l st q a ts n (wrap64 (j + 1)) := by
  simp only [impl_stepsFrom.l2, hp, hu, hw]
  rw [if_pos h1, if_pos h2, if_pos h3, if_pos h4, if_pos h5, if_pos h6, if_pos h7, if_pos h8, if_pos h9, if_neg h10]
theorem oth_wrap {l : List S69} (hl : okLegs l = true) {u : Int} (hu : 0 ≤ u ∧ u < 8) {p : Nat} (hp : p < l.length) : wrap64 (wrap64 ((rd_T69 l (p : Int)).f0 + (rd_T69 l (p : Int)).f1) - u) = oth l u p := by
  have hpi := ends_in hl p hp
  rw [rdL]
  show wrap64 (wrap64 (fromOf l p + toOf l p) - u) = fromOf l p + toOf l p - u
  rw [wrap_id (x := fromOf l p + toOf l p) (by omega) (by omega), wrap_id (by omega) (by omega)]
theorem legsAt_len {l : List S69} (hl : okLegs l = true) (u : Int) : (legsAtL l u).length ≤ 12 := by
  have h12 := okLegs_len hl
  rw [legsAtL, List.length_map]
  have := List.length_filter_le (touches l u) (List.range' 0 l.length)
  rw [List.length_range'] at this
  omega
theorem SInv.q8 {l : List S69} {ents : List Int} {at_ : Nat} {st q : List Int} (h : SInv l ents at_ st q) : q.length ≤ 8 := by
  have := h.cnt
  omega
theorem done_next {l : List S69} {st q : List Int} {at_ : Nat} {u : Int} (hd : Done l st q at_) (hu : q.getD at_ 0 = u)
    (hI : ∀ j', j' < (legsAtL l u).length → ∀ p : Nat, rd (legsAtL l u) (j' : Int) = (p : Int) → 0 ≤ rd st (oth l u p) ∧ rd st (oth l u p) ≤ rd st u + 1) : Done l st q (at_ + 1) := by
  intro i hi w hw
  by_cases e : i < at_
  · exact hd i e w hw
  · obtain rfl : i = at_ := by omega
    rw [hu] at hw ⊢
    obtain ⟨p, hp, hpw⟩ := hw
    have ht : touches l u p = true := by
      simp only [touches, Bool.or_eq_true, decide_eq_true_eq]
      rcases hpw with h | h
      · exact .inl h.1
      · exact .inr h.2
    obtain ⟨j', hj', e2⟩ := legsAt_has hp ht
    have := hI j' hj' p e2
    rw [show oth l u p = w by unfold oth; rcases hpw with h | h <;> omega] at this
    exact this
/-- One station's legs. -/
theorem steps_in {l : List S69} (hl : okLegs l = true) {ents : List Int} (at_ : Nat) (u : Int) : ∀ d j st q, j + d = (legsAtL l u).length → SInv l ents at_ st q → Done l st q at_ → at_ < q.length → q.getD at_ 0 = u →
    (∀ j', j' < j → ∀ p : Nat, rd (legsAtL l u) (j' : Int) = (p : Int) → 0 ≤ rd st (oth l u p) ∧ rd st (oth l u p) ≤ rd st u + 1) →
    ∃ st' q', SInv l ents (at_ + 1) st' q' ∧ Done l st' q' (at_ + 1) ∧ ∀ r, Ev (fun k => impl_stepsFrom.l1 k l st' q' ((at_ + 1 : Nat) : Int)) r → Ev (fun k => impl_stepsFrom.l2 k l st q (at_ : Int) (legsAtL l u) ((legsAtL l u).length : Int) (j : Int)) r := by
  intro d
  induction d with
  | zero =>
    intro j st q hj hs hd ha hu hI
    obtain rfl : j = (legsAtL l u).length := hj
    refine ⟨st, q, hs.next ha, done_next hd hu hI, fun r hr => ?_⟩
    have h8 := hs.q8
    refine Ev.step (fun k => ?_) hr
    simp only [impl_stepsFrom.l2]
    rw [if_neg (Int.lt_irrefl _), wrap_up ha (Nat.le_trans h8 (by decide))]
  | succ d ih =>
    intro j st q hj hs hd ha hu hI
    have hjl : j < (legsAtL l u).length := by omega
    obtain ⟨p, hp, ht, hpj⟩ := legsAt_at hjl
    have hub := hs.qin _ (getD_mem ha)
    rw [hu] at hub
    have hw := oth_in hl hp ht
    have hwd := oth_wrap hl hub hp
    have hqu : rd q (at_ : Int) = u := by rw [rd_nat, hu]
    have hw1 : wrap64 ((j : Int) + 1) = ((j + 1 : Nat) : Int) := wrap_up hjl (Nat.le_trans (legsAt_len hl u) (by decide))
    have hl8 : (st.length : Int) = 8 := by rw [hs.len]; rfl
    have f1 : (j : Int) < ((legsAtL l u).length : Int) := Int.ofNat_lt.2 hjl
    have f5 : (p : Int) < (l.length : Int) := Int.ofNat_lt.2 hp
    have f7 : (at_ : Int) < (q.length : Int) := Int.ofNat_lt.2 ha
    have f9 : oth l u p < (st.length : Int) := by rw [hl8]; exact hw.2
    by_cases hneg : rd st (oth l u p) < 0
    · have hud : 0 ≤ rd st u := (hs.mem u hub.1 hub.2).2 (by rw [← hu]; exact getD_mem ha)
      have hul := hs.lin at_ ha
      rw [hu] at hul
      have h8 := hs.q8
      have f12 : u < (st.length : Int) := by rw [hl8]; exact hub.2
      have f13 : q.length < 17592186044416 := Nat.lt_of_le_of_lt h8 (by decide)
      have hr7 : rd st u ≤ 7 := by omega
      have hwr : wrap64 (rd st u + 1) = rd st u + 1 := wrap_id (by omega) (by omega)
      obtain ⟨h1, h2, h3⟩ := hs.put hd ha hw hneg (by rw [hu]; exact oth_joined hp ht) (ends_in hl)
      rw [hu] at h1 h2 h3
      have hnu : u ≠ oth l u p := fun e => by rw [← e] at hneg; exact Int.not_lt.2 hud hneg
      obtain ⟨st', q', a1, a2, a3⟩ := ih (j + 1) _ _ (by omega) h1 h2 (by rw [List.length_append]; omega) (by rw [getD_append_left ha]; exact hu) (by
        intro j' hj' p' hp'
        rw [h3 u hub.1 hub.2, if_neg hnu]
        by_cases e : j' < j
        · have hh := hI j' e p' hp'
          obtain ⟨p2, hp2, ht2, e2⟩ := legsAt_at (show j' < (legsAtL l u).length from Nat.lt_trans e hjl)
          have hpe : p' = p2 := Int.ofNat.inj (hp'.symm.trans e2)
          subst hpe
          have hb := oth_in hl hp2 ht2
          rw [h3 _ hb.1 hb.2, if_neg (fun e3 => by rw [e3] at hh; exact Int.not_lt.2 hh.1 hneg)]
          exact hh
        · obtain rfl : j' = j := Nat.le_antisymm (Nat.le_of_lt_succ hj') (Nat.le_of_not_lt e)
          have hpe : p' = p := Int.ofNat.inj (hp'.symm.trans hpj)
          subst hpe
          rw [h3 _ hw.1 hw.2, if_pos rfl]
          exact ⟨Int.le_trans hud (Int.le_add_of_nonneg_right (by decide)), Int.le_refl _⟩)
      refine ⟨st', q', a1, a2, fun r hr => Ev.step (fun k => ?_) (a3 r hr)⟩
      rw [l2_put f1 (Int.natCast_nonneg j) f1 hpj (Int.natCast_nonneg p) f5 (Int.natCast_nonneg at_) f7 hqu hwd hw.1 f9 hneg hub.1 f12 f13, hwr, hw1]
    · obtain ⟨st', q', a1, a2, a3⟩ := ih (j + 1) st q (by omega) hs hd ha hu (by
        intro j' hj' p' hp'
        by_cases e : j' < j
        · exact hI j' e p' hp'
        · obtain rfl : j' = j := Nat.le_antisymm (Nat.le_of_lt_succ hj') (Nat.le_of_not_lt e)
          have hpe : p' = p := Int.ofNat.inj (hp'.symm.trans hpj)
          subst hpe
          refine ⟨Int.not_lt.1 hneg, ?_⟩
          obtain ⟨jj, hjj, hq⟩ := List.mem_iff_getElem.1 ((hs.mem _ hw.1 hw.2).1 (Int.not_lt.1 hneg))
          have hn := hs.near jj hjj ha
          rw [getD_lt _ _ _ hjj, hq, hu] at hn
          exact hn)
      refine ⟨st', q', a1, a2, fun r hr => Ev.step (fun k => ?_) (a3 r hr)⟩
      rw [l2_skip f1 (Int.natCast_nonneg j) f1 hpj (Int.natCast_nonneg p) f5 (Int.natCast_nonneg at_) f7 hqu hwd hw.1 f9 hneg, hw1]
theorem steps_out {l : List S69} (hl : okLegs l = true) {ents : List Int} (he : ∀ v ∈ ents, 0 ≤ v ∧ v < 8) : ∀ d at_ st q, at_ + d = 8 → SInv l ents at_ st q → Done l st q at_ →
    ∃ r, IsDist l ents r ∧ Ev (fun k => impl_stepsFrom.l1 k l st q (at_ : Int)) r := by
  intro d
  induction d with
  | zero =>
    intro at_ st q ha hs hd
    have h1 := hs.cnt
    have h2 := hs.le
    refine ⟨st, hs.final hl he hd (by omega), Ev.step (f := fun _ => some st) (fun k => ?_) (Ev.now st)⟩
    simp only [impl_stepsFrom.l1]
    rw [if_neg (by omega)]
  | succ d ih =>
    intro at_ st q ha hs hd
    have h1 := hs.cnt
    have h2 := hs.le
    by_cases hlt : at_ < q.length
    · obtain ⟨st', q', a1, a2, a3⟩ := steps_in hl at_ (q.getD at_ 0) (legsAtL l (q.getD at_ 0)).length 0 st q (by omega) hs hd hlt rfl (fun j' hj' => by omega)
      obtain ⟨r, b1, b2⟩ := ih (at_ + 1) st' q' (by omega) a1 a2
      refine ⟨r, b1, Ev.step (f := fun k => (impl_legsAt.f k l (q.getD at_ 0)).bind fun t => impl_stepsFrom.l2 k l st q (at_ : Int) t (t.length : Int) 0) (fun k => ?_) (Ev.bind (legsAt_ev (okLegs_len hl) (q.getD at_ 0)) (a3 r b2))⟩
      simp only [impl_stepsFrom.l1, rd_nat]
      rw [if_pos (by omega), if_pos (by omega)]
    · refine ⟨st, hs.final hl he hd (by omega), Ev.step (f := fun _ => some st) (fun k => ?_) (Ev.now st)⟩
      simp only [impl_stepsFrom.l1]
      rw [if_neg (by omega)]
structure StInv (ents : List Int) (i : Nat) (st : List Int) : Prop where
  len : st.length = 8
  at_ : ∀ v, 0 ≤ v → v < 8 → rd st v = if v ∈ ents.take i then 0 else -1
  cnt : i + st.countP (fun x => decide (x < 0)) = 8
theorem steps_start {l : List S69} {ents : List Int} (hu : ents.Pairwise (· < ·)) (he : ∀ v ∈ ents, 0 ≤ v ∧ v < 8) (h8 : ents.length ≤ 8) : ∀ d i st, i + d = ents.length → StInv ents i st →
    ∃ st', StInv ents ents.length st' ∧ ∀ r, Ev (fun k => impl_stepsFrom.l1 k l st' ents 0) r → Ev (fun k => impl_stepsFrom.l0 k l st ents ents (ents.length : Int) (i : Int)) r := by
  intro d
  induction d with
  | zero =>
    intro i st hi hs
    obtain rfl : i = ents.length := by omega
    refine ⟨st, hs, fun r hr => Ev.step (fun k => ?_) hr⟩
    simp only [impl_stepsFrom.l0]
    rw [if_neg (by omega)]
  | succ d ih =>
    intro i st hi hs
    have hil : i < ents.length := by omega
    have hb := he _ (getD_mem hil)
    have hl := hs.len
    have hni : ents.getD i 0 ∉ ents.take i := by
      intro hm
      obtain ⟨j, hj, e⟩ := List.mem_iff_getElem.1 hm
      rw [List.length_take] at hj
      rw [List.getElem_take, getD_lt _ _ _ hil] at e
      have := List.pairwise_iff_getElem.1 hu j i (by omega) hil (by omega)
      omega
    have hneg : rd st (ents.getD i 0) = -1 := by rw [hs.at_ _ hb.1 hb.2, if_neg hni]
    have htk : ents.take (i + 1) = ents.take i ++ [ents.getD i 0] := by rw [List.take_succ_eq_append_getElem hil, getD_lt _ _ _ hil]
    obtain ⟨st', a1, a2⟩ := ih (i + 1) (st.set (ents.getD i 0).toNat 0) (by omega) (by
      refine ⟨by rw [List.length_set]; exact hl, fun v h0 h8 => ?_, ?_⟩
      · rw [rd_set (by omega) (by omega), htk]
        by_cases e : v = ents.getD i 0
        · rw [if_pos e, if_pos (by rw [List.mem_append, List.mem_singleton]; exact .inr e)]
        · rw [if_neg e, hs.at_ v h0 h8]
          by_cases hm : v ∈ ents.take i
          · rw [if_pos hm, if_pos (List.mem_append_left _ hm)]
          · rw [if_neg hm, if_neg (by rw [List.mem_append, List.mem_singleton]; exact fun hh => hh.elim hm e)]
      · have hwl : (ents.getD i 0).toNat < st.length := by omega
        have hs2 : (st[(ents.getD i 0).toNat]'hwl) < 0 := by
          have := hneg
          rw [rd, getD_lt _ _ _ hwl] at this
          omega
        have hpos : 0 < st.countP (fun x => decide (x < 0)) := List.countP_pos_iff.2 ⟨_, List.getElem_mem hwl, decide_eq_true hs2⟩
        have hc := hs.cnt
        rw [List.countP_set hwl]
        simp only [hs2, decide_true, if_true, show ¬ (0 : Int) < 0 by omega, decide_false, Bool.false_eq_true, if_false]
        omega)
    refine ⟨st', a1, fun r hr => Ev.step (fun k => ?_) (a2 r hr)⟩
    simp only [impl_stepsFrom.l0, rd_nat]
    rw [if_pos (by omega), if_pos (by omega), if_pos (by omega), if_pos (by omega), if_pos (by omega), show wrap64 ((i : Int) + 1) = ((i + 1 : Nat) : Int) by unfold wrap64; omega]
theorem stepsFrom_dist {l : List S69} (hl : okLegs l = true) {ents : List Int} (he : okEnts ents = true) : ∃ r, IsDist l ents r ∧ Ev (fun k => impl_stepsFrom.f k l ents) r := by
  have hb : ∀ v ∈ ents, 0 ≤ v ∧ v < 8 := fun v hv => by have := rises_in he v hv; omega
  have hup := rises_pairwise he
  have h8 := okEnts_len he
  obtain ⟨st, a1, a2⟩ := steps_start (l := l) hup hb h8 ents.length 0 (List.replicate 8 (-1)) (by omega) ⟨by simp, fun v h0 h8 => by
      rw [rd, List.take_zero, if_neg (by simp), getD_lt _ _ _ (by rw [List.length_replicate]; omega), List.getElem_replicate], by decide⟩
  have hrd : ∀ v, 0 ≤ v → v < 8 → rd st v = if v ∈ ents then 0 else -1 := fun v h0 h8 => by
    have := a1.at_ v h0 h8
    rwa [List.take_length] at this
  have hz : ∀ v ∈ ents, rd st v = 0 := fun v hv => by rw [hrd v (hb v hv).1 (hb v hv).2, if_pos hv]
  have hs : SInv l ents 0 st ents := by
    refine ⟨a1.len, hb, a1.cnt, ?_, ?_, ?_, ?_, ?_, ?_, hz, by omega, hb⟩
    · intro v h0 h8
      rw [hrd v h0 h8]
      by_cases h : v ∈ ents
      · rw [if_pos h]; exact ⟨fun _ => h, fun _ => by omega⟩
      · rw [if_neg h]; exact ⟨fun hh => by omega, fun hh => absurd hh h⟩
    · intro v h0 h8 hn
      rw [hrd v h0 h8] at hn ⊢
      by_cases h : v ∈ ents
      · rw [if_pos h] at hn; omega
      · rw [if_neg h]
    · intro v h0 h8 hn
      rw [hrd v h0 h8] at hn ⊢
      by_cases h : v ∈ ents
      · rw [if_pos h]; exact h
      · rw [if_neg h] at hn; omega
    · intro i j hij hj
      rw [hz _ (getD_mem hj), hz _ (getD_mem (by omega))]
      exact Int.le_refl _
    · intro j hj h0
      rw [hz _ (getD_mem hj), hz _ (getD_mem h0)]
      omega
    · intro j hj
      rw [hz _ (getD_mem hj)]
      omega
  obtain ⟨r, b1, b2⟩ := steps_out hl hb 8 0 st ents (by omega) hs (fun i hi => by omega)
  refine ⟨r, b1, ?_⟩
  have b3 := a2 r b2
  simp only [impl_stepsFrom.f]
  refine Ev.bindc (a := List.replicate 8 (-1)) (by unfold slices_Repeat_int_int.f; rw [if_pos ⟨rfl, rfl⟩]; rfl) ?_
  refine Ev.bindc (a := ents) (by unfold slices_Clone_int_int.f; rw [if_pos (by omega)]) ?_
  exact b3
end Go.Proofs.Ytdfmjmmiepmplaa.Pure
