/- The reference's layers. -/
import Derived.Test.YtdfmjmmiepmplaaMTx3
import Derived.Test.YtdfmjmmiepmplaaPL1Has
import Derived.Test.YtdfmjmmiepmplaaPDist
import Derived.Test.YtdfmjmmiepmplaaPEnts
namespace Go.Proofs.Ytdfmjmmiepmplaa.Pure
open Go.RowKit Go.Proofs.Ytdfmjmmiepmplaa.MT Go.Proofs.YtdfmjmmiepmplaaW.PrintWords Go.Proofs.YtdfmjmmiepmplaaW.PrintLast Go.Proofs.YtdfmjmmiepmplaaW.PrintMore
set_option linter.unusedVariables false
set_option linter.unusedSimpArgs false
/-- Legs join these: an end that the leg a has, and the other. -/
def Via (l : List S69) (u v : Int) (i : Nat) : Prop := (fromOf l i = u ∧ toOf l i = v) ∨ (fromOf l i = v ∧ toOf l i = u)
/-- Behind j legs of layer n. -/
structure LInv (l : List S69) (ents : List Int) (n j : Nat) (st : List Int) : Prop where
  len : st.length = 8
  at_ : ∀ v, 0 ≤ v → v < 8 → (∃ m : Nat, m ≤ n ∧ rd st v = (m : Int) ∧ DistAt l ents m v) ∨ (¬ Dd l ents n v ∧ ((rd st v = -1 ∧ ∀ i, i < j → ∀ u, Via l u v i → ¬ Dd l ents n u) ∨ (rd st v = ((n + 1 : Nat) : Int) ∧ Dd l ents (n + 1) v)))
theorem Dd.up {l : List S69} {ents : List Int} {n : Nat} {u v : Int} (h : Dd l ents n u) {i : Nat} (hi : i < l.length) (hv : Via l u v i) : Dd l ents (n + 1) v := by
  right
  refine ⟨i, hi, ?_⟩
  rcases hv with ⟨a, b⟩ | ⟨a, b⟩
  · exact .inr ⟨b, by rw [a]; exact h⟩
  · exact .inl ⟨a, by rw [b]; exact h⟩
theorem DistAt.uniq {l : List S69} {ents : List Int} {n m : Nat} {v : Int} (h : DistAt l ents n v) (g : DistAt l ents m v) : n = m := by
  rcases Nat.lt_trichotomy n m with h1 | h1 | h1
  · exact absurd h.1 (g.2 n h1)
  · exact h1
  · exact absurd g.1 (h.2 m h1)
/-- The stations whose number is n are told so. -/
theorem LInv.now {l : List S69} {ents : List Int} {n j : Nat} {st : List Int} (h : LInv l ents n j st) {v : Int} (h0 : 0 ≤ v) (h8 : v < 8) (he : rd st v = (n : Int)) : Dd l ents n v := by
  rcases h.at_ v h0 h8 with ⟨m, hm, e, hd⟩ | ⟨_, ⟨e, _⟩ | ⟨e, _⟩⟩
  · obtain rfl : m = n := by omega
    exact hd.1
  · omega
  · omega
theorem LInv.neg {l : List S69} {ents : List Int} {n j : Nat} {st : List Int} (h : LInv l ents n j st) {v : Int} (h0 : 0 ≤ v) (h8 : v < 8) (he : rd st v < 0) : ¬ Dd l ents n v ∧ rd st v = -1 ∧ ∀ i, i < j → ∀ u, Via l u v i → ¬ Dd l ents n u := by
  rcases h.at_ v h0 h8 with ⟨m, hm, e, hd⟩ | ⟨h1, ⟨e, h2⟩ | ⟨e, _⟩⟩
  · omega
  · exact ⟨h1, e, h2⟩
  · omega
/-- A station v that is not told yet, and u of number n: no more to do for v behind this leg. -/
theorem LInv.set {l : List S69} {ents : List Int} {n j : Nat} {st : List Int} (h : LInv l ents n j st) {u v : Int} (h0 : 0 ≤ v) (h8 : v < 8) (he : rd st v < 0) (hu0 : 0 ≤ u) (hu8 : u < 8) (hu : rd st u = (n : Int)) {i : Nat} (hi : i < l.length) (hv : Via l u v i) : LInv l ents n j (st.set v.toNat ((n : Int) + 1)) := by
  have hl := h.len
  refine ⟨by rw [List.length_set]; exact hl, fun z z0 z8 => ?_⟩
  rw [rd_set (by omega) (by omega)]
  by_cases e : z = v
  · subst e
    rw [if_pos rfl]
    right
    exact ⟨(h.neg h0 h8 he).1, .inr ⟨by omega, (h.now hu0 hu8 hu).up hi hv⟩⟩
  · rw [if_neg e]
    exact h.at_ z z0 z8
/-- The same where nothing is to be done. -/
theorem LInv.next {l : List S69} {ents : List Int} {n j : Nat} {st : List Int} (h : LInv l ents n j st) (hj : j < l.length) (hin : ∀ i, i < l.length → (0 ≤ fromOf l i ∧ fromOf l i < 8) ∧ (0 ≤ toOf l i ∧ toOf l i < 8))
    (h1 : ¬ (rd st (fromOf l j) = (n : Int) ∧ rd st (toOf l j) < 0)) (h2 : ¬ (rd st (toOf l j) = (n : Int) ∧ rd st (fromOf l j) < 0)) : LInv l ents n (j + 1) st := by
  refine ⟨h.len, fun v v0 v8 => ?_⟩
  rcases h.at_ v v0 v8 with hh | ⟨g1, ⟨g2, g3⟩ | hh⟩
  · exact .inl hh
  · refine .inr ⟨g1, .inl ⟨g2, fun i hi u hv hd => ?_⟩⟩
    by_cases e : i < j
    · exact g3 i e u hv hd
    · obtain rfl : i = j := by omega
      have hii := hin i hj
      have hub : 0 ≤ u ∧ u < 8 := by rcases hv with ⟨a, b⟩ | ⟨a, b⟩ <;> omega
      have hun : rd st u = (n : Int) := by
        rcases h.at_ u hub.1 hub.2 with ⟨m, hm, e, hdm⟩ | ⟨k1, _⟩
        · by_cases hmn : m = n
          · rw [e, hmn]
          · exact absurd ((hdm.1.up hj hv).mono (by omega)) g1
        · exact absurd hd k1
      rcases hv with ⟨a, b⟩ | ⟨a, b⟩
      · exact h1 ⟨by rw [a]; exact hun, by rw [b]; omega⟩
      · exact h2 ⟨by rw [b]; exact hun, by rw [a]; omega⟩
  · exact .inr ⟨g1, .inr hh⟩
/-- Behind the last leg the layer is whole. -/
theorem LInv.layer {l : List S69} {ents : List Int} {n : Nat} {st : List Int} (h : LInv l ents n l.length st) : LInv l ents (n + 1) 0 st := by
  refine ⟨h.len, fun v v0 v8 => ?_⟩
  rcases h.at_ v v0 v8 with ⟨m, hm, e, hd⟩ | ⟨g1, ⟨g2, g3⟩ | ⟨g2, g3⟩⟩
  · exact .inl ⟨m, by omega, e, hd⟩
  · refine .inr ⟨fun hd => ?_, .inl ⟨g2, fun i hi => by omega⟩⟩
    rcases hd with hd | ⟨i, hi, ⟨a, b⟩ | ⟨a, b⟩⟩
    · exact g1 hd
    · exact g3 i hi _ (.inr ⟨a, rfl⟩) b
    · exact g3 i hi _ (.inl ⟨rfl, a⟩) b
  · exact .inl ⟨n + 1, by omega, g2, g3, fun m hm hd => g1 (hd.mono (by omega))⟩
theorem j3_step {k : Nat} {l : List S69} {st : List Int} {n j a b : Int} (ha0 : 0 ≤ a) (ha : a < (st.length : Int)) (hb0 : 0 ≤ b) (hb : b < (st.length : Int)) (hn : rd (st.set b.toNat (wrap64 (n + 1))) b ≠ n) (c : Bool) :
    spec_l17Steps.j3 (k + 1) l st n j a b c = spec_l17Steps.l2 k l (if c = true then st.set b.toNat (wrap64 (n + 1)) else if rd st b = n ∧ rd st a < 0 then st.set a.toNat (wrap64 (n + 1)) else st) n (wrap64 (j + 1)) := by
  cases c with
  | true =>
    simp only [spec_l17Steps.j3, Option.bind_some, if_true]
    rw [if_pos hb0, if_pos hb, if_neg hn]
  | false =>
    simp only [spec_l17Steps.j3, Bool.false_eq_true, if_false]
    rw [if_pos hb0, if_pos hb]
    by_cases h1 : rd st b = n
    · rw [if_pos h1, if_pos ha0, if_pos ha]
      by_cases h2 : rd st a < 0
      · rw [if_pos h2, if_pos ⟨h1, h2⟩]
      · rw [if_neg h2, if_neg (fun hh => h2 hh.2)]
    · rw [if_neg h1, if_neg (fun hh => h1 hh.1)]
theorem l2_step {k : Nat} {l : List S69} {st : List Int} {n j : Int} (h1 : j < (l.length : Int)) (h2 : 0 ≤ j) (ha0 : 0 ≤ (rd_T69 l j).f0) (ha : (rd_T69 l j).f0 < (st.length : Int)) (hb0 : 0 ≤ (rd_T69 l j).f1) (hb : (rd_T69 l j).f1 < (st.length : Int)) :
    spec_l17Steps.l2 (k + 1) l st n j = spec_l17Steps.j3 k l st n j (rd_T69 l j).f0 (rd_T69 l j).f1 (decide (rd st (rd_T69 l j).f0 = n) && decide (rd st (rd_T69 l j).f1 < 0)) := by
  simp only [spec_l17Steps.l2]
  rw [if_pos h1, if_pos h2, if_pos ha0, if_pos ha]
  by_cases h : rd st (rd_T69 l j).f0 = n
  · rw [if_pos h, if_pos hb0, if_pos hb, decide_eq_true h, Bool.true_and]
  · rw [if_neg h, decide_eq_false h, Bool.false_and]
theorem layers_in {l : List S69} (hl : okLegs l = true) {ents : List Int} {n : Nat} (hn : n < 8) : ∀ d j st, j + d = l.length → LInv l ents n j st →
    ∃ st', LInv l ents (n + 1) 0 st' ∧ ∀ r, Ev (fun k => spec_l17Steps.l1 k l st' ((n + 1 : Nat) : Int)) r → Ev (fun k => spec_l17Steps.l2 k l st (n : Int) (j : Int)) r := by
  have h12 := okLegs_len hl
  have hwn : wrap64 ((n : Int) + 1) = ((n + 1 : Nat) : Int) := wrap_up hn (by decide)
  intro d
  induction d with
  | zero =>
    intro j st hj h
    obtain rfl : j = l.length := hj
    refine ⟨st, h.layer, fun r hr => Ev.step (fun k => ?_) hr⟩
    simp only [spec_l17Steps.l2]
    rw [if_neg (Int.lt_irrefl _), hwn]
  | succ d ih =>
    intro j st hj h
    have hjl : j < l.length := by omega
    have hin := ends_in hl j hjl
    have hl8 : (st.length : Int) = 8 := by rw [h.len]; rfl
    have ea : (rd_T69 l (j : Int)).f0 = fromOf l j := by rw [rdL]; rfl
    have eb : (rd_T69 l (j : Int)).f1 = toOf l j := by rw [rdL]; rfl
    have hwj : wrap64 ((j : Int) + 1) = ((j + 1 : Nat) : Int) := wrap_up hjl (by omega)
    have hne : rd (st.set (toOf l j).toNat ((n + 1 : Nat) : Int)) (toOf l j) ≠ (n : Int) := by
      rw [rd_set (by omega) (by omega), if_pos rfl]
      omega
    have key : ∀ st1 : List Int, st1 = (if (decide (rd st (fromOf l j) = (n : Int)) && decide (rd st (toOf l j) < 0)) = true then st.set (toOf l j).toNat ((n + 1 : Nat) : Int) else if rd st (toOf l j) = (n : Int) ∧ rd st (fromOf l j) < 0 then st.set (fromOf l j).toNat ((n + 1 : Nat) : Int) else st) → LInv l ents n (j + 1) st1 := by
      intro st1 h1
      by_cases c1 : rd st (fromOf l j) = (n : Int) ∧ rd st (toOf l j) < 0
      · rw [if_pos (by rw [decide_eq_true c1.1, decide_eq_true c1.2]; rfl)] at h1
        have hs := h.set hin.2.1 hin.2.2 c1.2 hin.1.1 hin.1.2 c1.1 hjl (.inl ⟨rfl, rfl⟩)
        have hlen := h.len
        have hab : fromOf l j ≠ toOf l j := fun e => by rw [e] at c1; omega
        rw [h1, show ((n + 1 : Nat) : Int) = (n : Int) + 1 by omega]
        refine hs.next hjl (ends_in hl) ?_ ?_
        · rw [rd_set (v := toOf l j) (w := toOf l j) (by omega) (by omega), if_pos rfl]; omega
        · rw [rd_set (v := toOf l j) (w := toOf l j) (by omega) (by omega), if_pos rfl]; omega
      · rw [if_neg (fun hh => by rw [Bool.and_eq_true, decide_eq_true_eq, decide_eq_true_eq] at hh; exact c1 hh)] at h1
        by_cases c2 : rd st (toOf l j) = (n : Int) ∧ rd st (fromOf l j) < 0
        · rw [if_pos c2] at h1
          have hs := h.set hin.1.1 hin.1.2 c2.2 hin.2.1 hin.2.2 c2.1 hjl (.inr ⟨rfl, rfl⟩)
          have hlen := h.len
          rw [h1, show ((n + 1 : Nat) : Int) = (n : Int) + 1 by omega]
          refine hs.next hjl (ends_in hl) ?_ ?_
          · rw [rd_set (v := fromOf l j) (w := fromOf l j) (by omega) (by omega), if_pos rfl]; omega
          · rw [rd_set (v := fromOf l j) (w := fromOf l j) (by omega) (by omega), if_pos rfl]; omega
        · rw [if_neg c2] at h1
          rw [h1]
          exact h.next hjl (ends_in hl) c1 c2
    obtain ⟨st', a1, a2⟩ := ih (j + 1) _ (by omega) (key _ rfl)
    refine ⟨st', a1, fun r hr => ?_⟩
    have e2 : Ev (fun k => spec_l17Steps.j3 k l st (n : Int) (j : Int) (fromOf l j) (toOf l j) (decide (rd st (fromOf l j) = (n : Int)) && decide (rd st (toOf l j) < 0))) r := by
      refine Ev.step (fun k => ?_) (a2 r hr)
      rw [j3_step hin.1.1 (by rw [hl8]; exact hin.1.2) hin.2.1 (by rw [hl8]; exact hin.2.2) (by rw [hwn]; exact hne), hwn, hwj]
    refine Ev.step (fun k => ?_) e2
    rw [l2_step (Int.ofNat_lt.2 hjl) (Int.natCast_nonneg j) (by rw [ea]; exact hin.1.1) (by rw [ea, hl8]; exact hin.1.2) (by rw [eb]; exact hin.2.1) (by rw [eb, hl8]; exact hin.2.2), ea, eb]
theorem layers_out {l : List S69} (hl : okLegs l = true) {ents : List Int} : ∀ d n st, n + d = 8 → LInv l ents n 0 st → ∃ st', LInv l ents 8 0 st' ∧ Ev (fun k => spec_l17Steps.l1 k l st (n : Int)) st' := by
  intro d
  induction d with
  | zero =>
    intro n st hn h
    obtain rfl : n = 8 := by omega
    refine ⟨st, h, Ev.step (f := fun _ => some st) (fun k => ?_) (Ev.now st)⟩
    simp only [spec_l17Steps.l1]
    rw [if_neg (by omega)]
  | succ d ih =>
    intro n st hn h
    obtain ⟨st1, a1, a2⟩ := layers_in hl (show n < 8 by omega) l.length 0 st (by omega) h
    obtain ⟨st2, b1, b2⟩ := ih (n + 1) st1 (by omega) a1
    refine ⟨st2, b1, Ev.step (fun k => ?_) (a2 _ b2)⟩
    simp only [spec_l17Steps.l1]
    rw [if_pos (by omega)]
    rfl
def start0 (ents : List Int) (i : Nat) : List Int := (List.range' 0 i).map (fun v : Nat => if (v : Int) ∈ ents then (0 : Int) else -1)
theorem start_loop (l : List S69) {ents : List Int} (hm : ents.length ≤ 1048576) : ∀ d i, i + d = 8 → ∀ r, Ev (fun k => spec_l17Steps.l1 k l (start0 ents 8) 0) r → Ev (fun k => spec_l17Steps.l0 k l ents (start0 ents i) (i : Int)) r := by
  intro d
  induction d with
  | zero =>
    intro i hi r hr
    obtain rfl : i = 8 := by omega
    refine Ev.step (fun k => ?_) hr
    simp only [spec_l17Steps.l0]
    rw [if_neg (by omega)]
  | succ d ih =>
    intro i hi r hr
    have hw : wrap64 ((i : Int) + 1) = ((i + 1 : Nat) : Int) := wrap_up (show i < 8 by omega) (by decide)
    have hs : start0 ents (i + 1) = start0 ents i ++ [if (i : Int) ∈ ents then (0 : Int) else -1] := by
      unfold start0
      rw [List.range'_1_concat, List.map_append, List.map_singleton, Nat.zero_add]
    have hlen : (start0 ents i).length < 17592186044416 := by rw [start0, List.length_map, List.length_range']; omega
    have hh := ih (i + 1) (by omega) r hr
    rw [hs] at hh
    refine Ev.step (f := fun k => (spec_l1Has.f k ents (i : Int)).bind fun t => if t = true then spec_l17Steps.l0 k l ents (start0 ents i ++ [0]) ((i + 1 : Nat) : Int) else spec_l17Steps.l0 k l ents (start0 ents i ++ [-1]) ((i + 1 : Nat) : Int)) (fun k => ?_) (Ev.bind (l1Has_ev (n := (i : Int)) hm) ?_)
    · simp only [spec_l17Steps.l0, hw]
      rw [if_pos (by omega)]
      simp only [if_pos hlen]
    · by_cases hc : (i : Int) ∈ ents
      · rw [if_pos hc] at hh
        exact Ev.ite_pos (decide_eq_true hc) hh
      · rw [if_neg hc] at hh
        exact Ev.ite_neg (by rw [decide_eq_false hc]; decide) hh
theorem l17Steps_ev {l : List S69} (hl : okLegs l = true) {ents : List Int} (he : okEnts ents = true) {r : List Int} (hr : IsDist l ents r) : Ev (fun k => spec_l17Steps.f k l ents) r := by
  have h8 := okEnts_len he
  have h0 : LInv l ents 0 0 (start0 ents 8) := by
    refine ⟨by rw [start0, List.length_map, List.length_range'], fun v v0 v8 => ?_⟩
    obtain ⟨n, rfl⟩ := Int.eq_ofNat_of_zero_le v0
    have hn : n < 8 := by omega
    have hrd : rd (start0 ents 8) (n : Int) = if (n : Int) ∈ ents then (0 : Int) else -1 := by
      rw [rd_nat, getD_lt _ _ _ (by rw [start0, List.length_map, List.length_range']; exact hn)]
      simp [start0]
    rw [hrd]
    by_cases hc : (n : Int) ∈ ents
    · rw [if_pos hc]
      exact .inl ⟨0, Nat.le_refl _, rfl, hc, fun m hm => absurd hm (Nat.not_lt_zero m)⟩
    · rw [if_neg hc]
      exact .inr ⟨hc, .inl ⟨rfl, fun i hi => absurd hi (Nat.not_lt_zero i)⟩⟩
  obtain ⟨st, a1, a2⟩ := layers_out hl 8 0 _ (by omega) h0
  have hs : IsDist l ents st := by
    refine ⟨a1.len, fun v v0 v8 => ?_⟩
    rcases a1.at_ v v0 v8 with ⟨m, _, e, hd⟩ | ⟨g1, hh⟩
    · right
      rcases hr.at_ v v0 v8 with ⟨_, b2⟩ | ⟨n, hn, _, b2⟩
      · exact absurd hd.1 (b2 m)
      · obtain rfl := hd.uniq b2
        exact ⟨m, hn, e, hd⟩
    · left
      rcases hr.at_ v v0 v8 with ⟨_, b2⟩ | ⟨n, hn, _, b2⟩
      · refine ⟨?_, b2⟩
        rcases hh with ⟨e, _⟩ | ⟨_, e⟩
        · exact e
        · exact absurd e (b2 _)
      · exact absurd (b2.1.mono (by omega)) g1
  rw [hr.uniq hs]
  simp only [spec_l17Steps.f]
  exact start_loop l (by omega) 8 0 (by omega) _ a2
end Go.Proofs.Ytdfmjmmiepmplaa.Pure
