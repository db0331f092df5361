/- The law FnRescues's pure statement. -/
import Derived.Test.YtoljdjgndogegaaPAllFnRescues
import Derived.Test.YtoljdjgndogegaaMSx16
import Derived.Test.YtoljdjgndogegaaMSx6
import Derived.Test.YtoljdjgndogegaaMSx9
import Derived.Test.YtoljdjgndogegaaMSx12
import Derived.Test.YtoljdjgndogegaaMSx0
namespace Go.Proofs.Ytoljdjgndogegaa.Pure
open Go.RowKit Go.Proofs.Ytoljdjgndogegaa.MS Go.Proofs.YtoljdjgndogegaaW.PrintWords Go.Proofs.YtoljdjgndogegaaW.PrintLast
set_option linter.unusedVariables false
set_option linter.unusedSimpArgs false
theorem dr_narrow {l : List Int} (hb : Bytes l) : Dr (fun k => spec_DrawNarrowPlaces.f k l) (fun r => r.1.length ≤ 13 ∧ r.2.1.length ≤ 15) := by
 simp only [spec_DrawNarrowPlaces.f]
 refine Dr.bind (Q := fun r => r.1.length ≤ 13 ∧ r.2.1.length ≤ 15) ?_ (fun r hr => Dr.now _ hr)
 simp only [spec_DrawGreatestWidth.f]
 refine Dr.bind (dr_wide hb (by omega) (by omega)) (fun r hr => ?_)
 refine dr_station hb (by omega) (by omega) (fun v j t g0 g1 => ?_)
 dsimp only
 refine dr_station hb (by omega) (by omega) (fun v2 j2 t2 g2 g3 => ?_)
 exact Dr.now _ ⟨hr.1, hr.2.1⟩
theorem dr_stations {l : List Int} (hb : Bytes l) : Dr (fun k => spec_DrawStationsFor.f k l) (fun r => r.1.length ≤ 13 ∧ r.2.1.length ≤ 15) := by
 simp only [spec_DrawStationsFor.f]
 refine Dr.bind (dr_wide hb (by omega) (by omega)) (fun r hr => ?_)
 refine dr_station hb (by omega) (by omega) (fun v j t g0 g1 => ?_)
 dsimp only
 refine Dr.among hb (by omega) (by omega) (by decide) (by decide) (fun v3 j3 t3 g4 g5 _ => ?_)
 exact Dr.now _ ⟨hr.1, hr.2.1⟩
theorem dr_order0 {l : List Int} (hb : Bytes l) (xs : List S58) (ws : List Int) : ∀ (d : Nat) (e : List Int) (q : Nat) (i s : Int), q + d = 7 → e.length ≤ q → 0 ≤ i → i + 2 * d ≤ 980000000 → Dr (fun k => spec_DrawRescueOrder.l0 k xs ws e (q : Int) l i s) (fun r => r.1 = xs ∧ r.2.1 = ws ∧ r.2.2.2.length ≤ 8) := by
 intro d
 induction d with
 | zero =>
  intro e q i s hq he h0 h1
  refine Dr.step (fun k => by rw [spec_DrawRescueOrder.l0]) (Dr.ite (fun c => by omega) (fun _ => ?_))
  refine Dr.one hb (by omega) (by omega) (by omega) (fun b j t g0 g1 => ?_)
  dsimp only
  refine Dr.ite (fun _ => ?_) (fun _ => ?_)
  ·refine Dr.among hb (by omega) (by omega) (by decide) (by decide) (fun v2 j2 t2 g4 g5 _ => ?_)
   dsimp only
   refine Dr.ite (fun _ => ?_) (fun c => by omega)
   refine dr_station hb (by omega) (by omega) (fun v j t g0 g1 => ?_)
   exact Dr.now _ ⟨rfl, rfl, by dsimp only; rw [snoc_len]; omega⟩
  ·refine dr_station hb (by omega) (by omega) (fun v j t g0 g1 => ?_)
   exact Dr.now _ ⟨rfl, rfl, by dsimp only; omega⟩
 | succ d ih =>
  intro e q i s hq he h0 h1
  refine Dr.step (fun k => by rw [spec_DrawRescueOrder.l0]) (Dr.ite (fun _ => ?_) (fun c => by omega))
  refine Dr.one hb (by omega) (by omega) (by omega) (fun b j t g0 g1 => ?_)
  dsimp only
  rw [wrap_succ q (by omega)]
  exact Dr.ite (fun _ => Dr.ite (fun _ => ih _ (q + 1) j t (by omega) (by rw [snoc_len]; omega) (by omega) (by omega)) (fun c => by omega)) (fun _ => ih _ (q + 1) j t (by omega) (by omega) (by omega) (by omega))
theorem dr_order {l : List Int} (hb : Bytes l) : Dr (fun k => spec_DrawRescueOrder.f k l) (fun r => r.1.length ≤ 13 ∧ r.2.1.length ≤ 15 ∧ r.2.2.2.length ≤ 8) := by
 simp only [spec_DrawRescueOrder.f]
 refine Dr.bind (dr_wide hb (by omega) (by omega)) (fun r hr => ?_)
 exact (dr_order0 hb r.1 r.2.1 7 [] 0 _ _ (by omega) (by simp) (by omega) (by omega)).mono (fun z hz => ⟨by rw [hz.1]; exact hr.1, by rw [hz.2.1]; exact hr.2.1, hz.2.2⟩)
theorem okWidths_less {l : List S58} {ws : List Int} (h : okWidths l ws = true) {q : Nat} (hq : q < l.length) : okWidths (l.eraseIdx q) (ws.eraseIdx q) = true := by
 have h1 := okLegs_less (okWidths_legs h) q
 have h2 := okWidths_len h
 simp only [okWidths, Bool.and_eq_true, List.all_eq_true, decide_eq_true_eq] at h ⊢
 exact ⟨h1, by rw [List.length_eraseIdx_of_lt hq, List.length_eraseIdx_of_lt (by omega), h2], fun x hx => h.2.2 x (List.mem_of_mem_eraseIdx hx)⟩
theorem okAsked_of {l : List S58} {ws : List Int} {a b : Int} (h : okWidths l ws = true) (ha : 0 ≤ a ∧ a ≤ 7) (hb : 0 ≤ b ∧ b ≤ 7) : okAsked l ws a b = true := by
 simp only [okAsked, Bool.and_eq_true, decide_eq_true_eq]
 exact ⟨h, ha, hb⟩
theorem narrow_mem {l : List S58} {ws : List Int} {a b m : Int} : ∀ d i z, z ∈ narrowFrom l ws a b m d i → ∃ q : Nat, z = (q : Int) ∧ q < i + d ∧ ws.getD q 0 = m ∧ greatestDown (l.eraseIdx q) (ws.eraseIdx q) a b 201 < m
 | 0, i, z, h => by simp [narrowFrom] at h
 | d + 1, i, z, h => by
  have ih := narrow_mem (l := l) (ws := ws) (a := a) (b := b) (m := m) d (i + 1) z
  simp only [narrowFrom] at h
  split at h
  ·rename_i hc
   rcases List.mem_cons.1 h with e | h
   ·simp only [narrowAt, Bool.and_eq_true, decide_eq_true_eq] at hc
    exact ⟨i, e, by omega, hc.1, hc.2⟩
   ·obtain ⟨q, q1, q2, q3⟩ := ih h
    exact ⟨q, q1, by omega, q3⟩
  ·obtain ⟨q, q1, q2, q3⟩ := ih h
   exact ⟨q, q1, by omega, q3⟩
theorem put_sorted (G : Int → Int) (x : Int) : ∀ (k : Nat) (out : List Int), k ≤ out.length → out.Pairwise (fun u v => G v ≤ G u) → (∀ y ∈ out.drop k, G y < G x) → (put G x k out).Pairwise (fun u v => G v ≤ G u)
 | 0, out, _, hs, hd => by
  simp only [put]
  exact List.pairwise_cons.2 ⟨fun y hy => Int.le_of_lt (hd y (by simpa using hy)), hs⟩
 | k + 1, out, hk, hs, hd => by
  have hkl : k < out.length := by omega
  have e : out.getD k 0 = out[k] := by rw [List.getD_eq_getElem?_getD, List.getElem?_eq_getElem hkl]; rfl
  simp only [put]
  split
  ·rename_i hc
   refine put_sorted G x k out (by omega) hs (fun y hy => ?_)
   rw [List.drop_eq_getElem_cons hkl] at hy
   rcases List.mem_cons.1 hy with h | h
   ·rw [h, ← e]; exact hc
   ·exact hd y h
  ·rename_i hc
   have ht : out.take (k + 1) = out.take k ++ [out[k]] := by rw [List.take_add_one, List.getElem?_eq_getElem hkl]; rfl
   have hst : (out.take (k + 1)).Pairwise (fun u v => G v ≤ G u) := hs.sublist (List.take_sublist _ _)
   refine List.pairwise_append.2 ⟨hst, List.pairwise_cons.2 ⟨fun y hy => Int.le_of_lt (hd y hy), hs.sublist (List.drop_sublist _ _)⟩, fun u hu v hv => ?_⟩
   have h1 : G out[k] ≤ G u := by
    rw [ht] at hu hst
    rcases List.mem_append.1 hu with h | h
    ·exact (List.pairwise_append.1 hst).2.2 u h _ (by simp)
    ·rw [List.mem_singleton.1 h]; exact Int.le_refl _
   have h2 : G v ≤ G x := by
    rcases List.mem_cons.1 hv with h | h
    ·rw [h]; exact Int.le_refl _
    ·exact Int.le_of_lt (hd v h)
   rw [e] at hc
   omega
theorem build_says (G : Int → Int) : ∀ (e out : List Int), out.Pairwise (fun u v => G v ≤ G u) → (buildS G e out).Pairwise (fun u v => G v ≤ G u) ∧ ∀ z ∈ buildS G e out, z ∈ out ∨ (z ∈ e ∧ 0 ≤ G z)
 | [], out, h => ⟨h, fun z hz => .inl hz⟩
 | s :: r, out, h => by
  simp only [buildS]
  split
  ·obtain ⟨h1, h2⟩ := build_says G r out h
   exact ⟨h1, fun z hz => (h2 z hz).imp_right (fun q => ⟨List.mem_cons_of_mem _ q.1, q.2⟩)⟩
  ·rename_i hc
   obtain ⟨h1, h2⟩ := build_says G r (put G s out.length out) (put_sorted G s _ out (Nat.le_refl _) h (by simp))
   refine ⟨h1, fun z hz => ?_⟩
   rcases h2 z hz with q | q
   ·rcases put_mem G s z _ _ q with e | q
    ·rw [e]; exact .inr ⟨List.mem_cons_self, by omega⟩
    ·exact .inl q
   ·exact .inr ⟨List.mem_cons_of_mem _ q.1, q.2⟩
theorem rescues_l2 {xs : List S58} {ws : List Int} {a wd : Int} (h : okAsked xs ws a 0 = true) (hw : 0 ≤ wd ∧ wd ≤ 200) : ∀ d i : Nat, i + d = 8 → Ev (fun k => laws_FnRescues.l2 k xs ws a wd (stationsOf xs ws a wd) (i : Int)) true := by
 obtain ⟨c1, c2, c3⟩ := okAsked_says h
 have hl := okWidths_legs c1
 have h12 := okLegs_len hl
 have hS := (stationsOf_good ws hl (from_ := a) (by omega) wd).len
 intro d
 induction d with
 | zero => exact fun i hi => Ev.step (fun k => by rw [laws_FnRescues.l2]) (Ev.ite_neg (by omega) (Ev.now _))
 | succ d ih =>
  intro i hi
  have hwi : wrap64 ((i : Int) + 1) = ((i + 1 : Nat) : Int) := by unfold wrap64; omega
  refine Ev.step (fun k => by rw [laws_FnRescues.l2]) (Ev.ite_pos (by omega) (Ev.bind (implGreat_ev xs ws a _ (by omega)) ?_))
  rw [show greatAns xs ws a (i : Int) = (greatestDown xs ws a (i : Int) 201, true) from if_pos (okAsked_of c1 c2 (by omega)), hwi]
  refine Ev.ite_pos rfl (Ev.bind (vHas_ev _ (by omega) _) ?_)
  have hg := great_iff ws hl c2 (b := (i : Int)) (by omega) 201 wd hw.1 (by omega)
  refine Ev.ite_neg ?_ (ih (i + 1) (by omega))
  rw [show decide ((i : Int) ∈ stationsOf xs ws a wd) = decide (greatestDown xs ws a (i : Int) 201 ≥ wd) from decide_eq_decide.2 hg.symm]
  simp
theorem rescues_end {l : List Int} (hb : Bytes l) : Ev (fun k => (spec_DrawStationsFor.f k l).bind fun bt780 => ((impl_StationsFor.f k bt780.1 bt780.2.1 bt780.2.2.1 bt780.2.2.2).bind fun bt788 => ((spec_StationsFor.f k bt780.1 bt780.2.1 bt780.2.2.1 bt780.2.2.2).bind fun bt792 => (if (bt788.2 != bt792.2) = true then (laws_FnRescues.j5 k bt780.1 bt780.2.1 bt780.2.2.1 bt780.2.2.2 bt788.1 bt788.2 true) else ((laws_vInts.f k bt788.1 bt792.1).bind fun t796 => (laws_FnRescues.j5 k bt780.1 bt780.2.1 bt780.2.2.1 bt780.2.2.2 bt788.1 bt788.2 (!t796))))))) true := by
 obtain ⟨⟨xs, ws, a, wd⟩, h1, h2, h3⟩ := dr_stations hb
 simp only at h2 h3
 have hlen := stationsAns_len xs ws a wd
 refine Ev.bind h1 (Ev.bind (implStations_ev xs ws a wd (by omega)) (Ev.bind (specStations_ev xs ws a wd (by omega) (by omega)) (Ev.ite_neg (by simp) (Ev.bind (vInts_ev _ (by omega)) ?_))))
 refine Ev.step (fun k => by rw [laws_FnRescues.j5]) (Ev.ite_neg (by decide) ?_)
 by_cases h : okAsked xs ws a 0 = true ∧ (0 ≤ wd ∧ wd ≤ 200)
 ·rw [show stationsAns xs ws a wd = (stationsOf xs ws a wd, true) from if_pos h]
  exact Ev.ite_pos rfl (rescues_l2 h.1 h.2 8 0 (by omega))
 ·rw [show stationsAns xs ws a wd = ([], false) from if_neg h]
  exact Ev.ite_neg (by decide) (Ev.now _)
theorem rescues_l1 {l : List Int} (hb : Bytes l) {xs : List S58} {ws : List Int} (hm : xs.length ≤ 13) {a : Int} {o : List Int} (ho : o.length ≤ 8) (hs : o.Pairwise (fun u v => gOf xs ws a v ≤ gOf xs ws a u)) (hz : ∀ z ∈ o, okAsked xs ws a z = true ∧ 0 ≤ gOf xs ws a z) : ∀ (d i : Nat) (last : Int), i + d = o.length → (∀ z ∈ o.drop i, gOf xs ws a z ≤ last) → Ev (fun k => laws_FnRescues.l1 k l xs ws a o last (i : Int)) true := by
 intro d
 induction d with
 | zero =>
  intro i last hi _
  refine Ev.step (fun k => by rw [laws_FnRescues.l1]) (Ev.ite_neg (by omega) ?_)
  exact rescues_end hb
 | succ d ih =>
  intro i last hi hd
  have hwi : wrap64 ((i : Int) + 1) = ((i + 1 : Nat) : Int) := by unfold wrap64; omega
  have hil : i < o.length := by omega
  have hp := hs.sublist (List.drop_sublist i o)
  rw [List.drop_eq_getElem_cons hil] at hp hd
  obtain ⟨z1, z2⟩ := hz _ (List.getElem_mem hil)
  have z3 := hd _ List.mem_cons_self
  have e : rd o (i : Int) = o[i] := by rw [rd_nat, getD_lt _ _ _ hil]
  refine Ev.step (fun k => by rw [laws_FnRescues.l1]) (Ev.ite_pos (by omega) (Ev.ite_pos (by omega) (Ev.bind (implGreat_ev xs ws a _ (by omega)) ?_)))
  rw [e, show greatAns xs ws a o[i] = (gOf xs ws a o[i], true) from if_pos z1, hwi]
  exact Ev.ite_pos rfl (Ev.ite_neg (by dsimp only; omega) (Ev.ite_neg (by dsimp only; omega) (ih (i + 1) _ (by omega) (List.pairwise_cons.1 hp).1)))
theorem rescues_j2 {l : List Int} (hb : Bytes l) : Ev (fun k => laws_FnRescues.j2 k l) true := by
 obtain ⟨⟨xs, ws, a, e⟩, h1, h2, h3, h4⟩ := dr_order hb
 simp only at h2 h3 h4
 have hlen := rescueAns_len xs ws a e
 refine Ev.step (fun k => by rw [laws_FnRescues.j2]) ?_
 have key : (rescueAns xs ws a e).1.Pairwise (fun u v => gOf xs ws a v ≤ gOf xs ws a u) ∧ ∀ z ∈ (rescueAns xs ws a e).1, z ∈ e ∧ okAsked xs ws a z = true ∧ 0 ≤ gOf xs ws a z := by
  by_cases h : okAsked xs ws a 0 = true ∧ rises 0 7 e = true
  ·rw [show rescueAns xs ws a e = (buildS (gOf xs ws a) e [], true) from if_pos h]
   obtain ⟨b1, b2⟩ := build_says (gOf xs ws a) e [] List.Pairwise.nil
   refine ⟨b1, fun z hz => ?_⟩
   rcases b2 z hz with q | q
   ·cases q
   ·obtain ⟨c1, c2, -⟩ := okAsked_says h.1
    exact ⟨q.1, okAsked_of c1 c2 (rises_in h.2 z q.1), q.2⟩
  ·rw [show rescueAns xs ws a e = ([], false) from if_neg h]
   exact ⟨List.Pairwise.nil, fun z hz => by cases hz⟩
 refine Ev.bind h1 (Ev.bind (implRescue_ev xs ws a e (by omega) (by omega)) (Ev.bind (specRescue_ev xs ws a e (by omega) (by omega) (by omega)) (Ev.ite_neg (by simp) (Ev.bind (vInts_ev _ (by omega)) (Ev.ite_pos rfl (Ev.bind (vWithin_ev _ _ (by omega) (by dsimp only; omega) (fun z hz => (key.2 z hz).1)) ?_))))))
 refine Ev.step (fun k => by rw [laws_FnRescues.j3]) (Ev.ite_neg (by decide) ?_)
 refine rescues_l1 hb h2 hlen key.1 (fun z hz => (key.2 z hz).2) (rescueAns xs ws a e).1.length 0 200 (by omega) (fun z hz => ?_)
 have := great_range xs ws a z 201
 unfold gOf
 omega
theorem rescues_l0 {l : List Int} (hb : Bytes l) {xs : List S58} {ws : List Int} {a b g : Int} (h : okAsked xs ws a b = true) {o : List Int} (ho : o.length ≤ 12) (hz : ∀ z ∈ o, ∃ q : Nat, z = (q : Int) ∧ q < xs.length ∧ ws.getD q 0 = g) (hy : ∀ q : Nat, (q : Int) ∈ o → greatestDown (xs.eraseIdx q) (ws.eraseIdx q) a b 201 < g) : ∀ (d i : Nat), i + d = o.length → Ev (fun k => laws_FnRescues.l0 k l xs ws a b o g true (i : Int)) true := by
 obtain ⟨c1, c2, c3⟩ := okAsked_says h
 have hl := okWidths_legs c1
 have hw := okWidths_len c1
 have h12 := okLegs_len hl
 intro d
 induction d with
 | zero =>
  intro i hi
  refine Ev.step (fun k => by rw [laws_FnRescues.l0]) (Ev.ite_neg (by omega) ?_)
  exact rescues_j2 hb
 | succ d ih =>
  intro i hi
  have hil : i < o.length := by omega
  have hmem := List.getElem_mem hil
  obtain ⟨q, q1, q2, q3⟩ := hz _ hmem
  have e : rd o (i : Int) = (q : Int) := by rw [rd_nat, getD_lt _ _ _ hil, q1]
  have h1 : (xs.take q).length ≤ 12 := by rw [List.length_take]; omega
  have h2 : (xs.drop (q + 1)).length ≤ 12 := by rw [List.length_drop]; omega
  have h3 : (ws.take q).length ≤ 12 := by rw [List.length_take]; omega
  have h4 : (ws.drop (q + 1)).length ≤ 12 := by rw [List.length_drop]; omega
  have hx := List.length_eraseIdx_le xs q
  have hwq : wrap64 ((q : Int) + 1) = ((q + 1 : Nat) : Int) := by unfold wrap64; omega
  have hwi : wrap64 ((i : Int) + 1) = ((i + 1 : Nat) : Int) := by clear hwq; unfold wrap64; omega
  refine Ev.step (fun k => by rw [laws_FnRescues.l0]) ?_
  simp only [Option.bind_some, hwi, e, hwq, Int.toNat_natCast, List.nil_append, List.length_nil, rd_nat, q3, ← List.eraseIdx_eq_take_drop_succ]
  clear hwi hwq
  refine Ev.ite_pos (by omega) (Ev.ite_pos (by omega) (Ev.ite_pos (by omega) (Ev.ite_pos (by omega) (Ev.ite_pos (by omega) (Ev.ite_pos (by omega) (Ev.ite_pos (by omega) (Ev.ite_pos (by omega) (Ev.ite_pos (by omega) (Ev.ite_pos (by omega) (Ev.ite_pos (by omega) (Ev.ite_pos (by omega) (Ev.bind (implGreat_ev _ _ a b (by omega)) ?_))))))))))))
  rw [show greatAns (xs.eraseIdx q) (ws.eraseIdx q) a b = (greatestDown (xs.eraseIdx q) (ws.eraseIdx q) a b 201, true) from if_pos (okAsked_of (okWidths_less c1 q2) c2 c3)]
  exact Ev.ite_pos trivial (Ev.ite_pos (by omega) (Ev.ite_pos trivial (Ev.ite_pos rfl (Ev.ite_neg (Int.not_le.2 (hy q (q1 ▸ hmem))) (ih (i + 1) (by omega))))))
theorem FnRescues (l0 : List Int) (hm0 : l0.length ≤ 9223372036854775807) (hw0 : ∀ x ∈ l0, (Lit.int .u8 x).wf = true) : ∃ k, laws_FnRescues.f k l0 = some true := by
 apply Ev.rounds
 have hb := bytes_of hw0
 simp only [laws_FnRescues.f, laws_vBig.f, Option.bind_some]
 by_cases hbig : (l0.length : Int) > 65536
 ·exact Ev.ite_pos (decide_eq_true hbig) (Ev.now true)
 refine Ev.ite_neg (by simpa using hbig) ?_
 obtain ⟨⟨xs, ws, a, b⟩, h1, h2, h3⟩ := dr_narrow hb
 simp only at h2 h3
 have hlen := narrowAns_len xs ws a b
 refine Ev.bind h1 (Ev.bind (implNarrow_ev xs ws a b (by omega)) (Ev.bind (specNarrow_ev xs ws a b (by omega) (by omega)) (Ev.ite_neg (by simp) (Ev.bind (vInts_ev _ (by omega)) ?_))))
 refine Ev.step (fun k => by rw [laws_FnRescues.j0]) (Ev.ite_neg (by decide) ?_)
 by_cases h : okAsked xs ws a b = true ∧ greatestDown xs ws a b 201 ≠ -1
 ·rw [show narrowAns xs ws a b = _ from if_pos h] at hlen ⊢
  replace h := h.1
  refine Ev.ite_pos rfl (Ev.bind (implGreat_ev xs ws a b (by omega)) ?_)
  rw [show greatAns xs ws a b = (greatestDown xs ws a b 201, true) from if_pos h]
  refine rescues_l0 hb h hlen (fun z hz => ?_) (fun p hp => ?_) (narrowFrom xs ws a b (greatestDown xs ws a b 201) xs.length 0).length 0 (Nat.zero_add _)
  ·obtain ⟨q, q1, q2, q3, -⟩ := narrow_mem _ _ _ hz
   exact ⟨q, q1, by omega, q3⟩
  ·obtain ⟨q, q1, -, -, q4⟩ := narrow_mem _ _ _ hp
   have e : p = q := by clear q4 hlen; omega
   rw [e]
   exact q4
 ·rw [show narrowAns xs ws a b = ([], false) from if_neg h]
  exact Ev.ite_neg (by decide) (rescues_j2 hb)
end Go.Proofs.Ytoljdjgndogegaa.Pure
