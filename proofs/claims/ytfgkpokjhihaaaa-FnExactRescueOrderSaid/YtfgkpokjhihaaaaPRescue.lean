/- The rescue's order: the program's and the reference's answer. -/
import Derived.Test.YtfgkpokjhihaaaaMRx5
import Derived.Test.YtfgkpokjhihaaaaMRx6
import Derived.Test.YtfgkpokjhihaaaaMRx8
import Derived.Test.YtfgkpokjhihaaaaMRx7
import Derived.Test.YtfgkpokjhihaaaaPReached
import Derived.Test.YtfgkpokjhihaaaaPAsked
import Derived.Test.YtfgkpokjhihaaaaPRising
namespace Go.Proofs.Ytfgkpokjhihaaaa.Pure
open Go.RowKit Go.Proofs.Ytfgkpokjhihaaaa.MR Go.Proofs.YtfgkpokjhihaaaaW.PrintWords Go.Proofs.YtfgkpokjhihaaaaW.PrintLast Go.Proofs.YtfgkpokjhihaaaaW.PrintMore
set_option linter.unusedVariables false
set_option linter.unusedSimpArgs false
theorem reach_has {l : List S66} (ws : List Int) (hl : okLegs l = true) {a b : Int} (ha : 0 ≤ a ∧ a ≤ 7) (hb : 0 ≤ b ∧ b ≤ 7) (width : Int) : (reachOf l ws a width).getD b.toNat false = decide (b ∈ stationsOf l ws a width) := by
 rw [reachOf_arr ws hl (by omega), arrL_get (by omega)]
theorem specGreatest_ev {l : List S66} {ws : List Int} (hl : okLegs l = true) (hw : l.length ≤ ws.length) (hm : ws.length ≤ 1048576) {a b : Int} (ha : 0 ≤ a ∧ a ≤ 7) (hb : 0 ≤ b ∧ b ≤ 7) : Ev (fun k => spec_l15Greatest.f k l ws a b) (greatestDown l ws a b 201) := by
 have key : ∀ n : Nat, n ≤ 201 → Ev (fun k => spec_l15Greatest.l0 k l ws a b ((n : Int) - 1)) (greatestDown l ws a b n) := by
  intro n
  induction n with
  | zero =>
   intro _
   refine Ev.step (f := fun _ => some (-1)) (fun k => ?_) (Ev.now _)
   simp only [spec_l15Greatest.l0]
   rw [if_neg (by omega)]
  | succ n ih =>
   intro hn
   have hx : (((n + 1 : Nat) : Int) - 1) = (n : Int) := by omega
   have hwr : wrap64 ((n : Int) - 1) = (n : Int) - 1 := wrap_id (by omega) (by omega)
   rw [hx]
   have hg := (stationsOf_good ws hl (from_ := a) (by omega) (n : Int)).len
   refine Ev.step (f := fun k => (spec_l15Reach.f k l ws a (n : Int)).bind fun t => (spec_l1Has.f k t b).bind fun t2 => if t2 = true then some (n : Int) else spec_l15Greatest.l0 k l ws a b ((n : Int) - 1)) (fun k => ?_) (Ev.bind (specReach_ev hl hw hm (by omega) (n : Int)) (Ev.bind (l1Has_ev (by omega)) ?_))
   ·simp only [spec_l15Greatest.l0, hwr]
    rw [if_pos (by omega)]
   ·simp only [greatestDown, reach_has ws hl ha hb]
    by_cases h : decide (b ∈ stationsOf l ws a (n : Int)) = true
    ·rw [if_pos h]
     exact Ev.ite_pos h (Ev.now _)
    ·rw [if_neg h]
     exact Ev.ite_neg h (ih (by omega))
 simp only [spec_l15Greatest.f]
 exact key 201 (by omega)
theorem okAsked_same (l : List S66) (ws : List Int) (a : Int) : okAsked l ws a a = okAsked l ws a 0 := by
 unfold okAsked
 cases decide (0 ≤ a ∧ a ≤ 7) <;> simp
theorem greatestDown_ge (l : List S66) (ws : List Int) (a b : Int) : ∀ n, -1 ≤ greatestDown l ws a b n
 | 0 => by simp [greatestDown]
 | n + 1 => by
  simp only [greatestDown]
  split
  ·omega
  ·exact greatestDown_ge l ws a b n
theorem rises_len8 {e : List Int} (h : rises 0 7 e = true) : e.length ≤ 8 := by
 have key : ∀ (n : Nat) (l : List Int), l.Pairwise (· < ·) → (∀ z ∈ l, 8 - (n : Int) ≤ z ∧ z ≤ 7) → n ≤ 8 → l.length ≤ n := by
  intro n
  induction n with
  | zero =>
   intro l _ hz _
   cases l with
   | nil => simp
   | cons x l => have := hz x List.mem_cons_self; omega
  | succ n ih =>
   intro l hp hz hn
   cases l with
   | nil => simp
   | cons x l =>
    rw [List.pairwise_cons] at hp
    have hx := hz x List.mem_cons_self
    have := ih l hp.2 (fun z h => by have := hp.1 z h; have := hz z (List.mem_cons_of_mem _ h); omega) (by omega)
    simp only [List.length_cons]
    omega
 exact key 8 e (rises_pairwise h) (fun z hz => by have := rises_in h z hz; omega) (by omega)
/-- x is put behind the first k, but ahead of those among them that are less. -/
def put (G : Int → Int) (x : Int) : Nat → List Int → List Int
 | 0, out => x :: out
 | k + 1, out => if G (out.getD k 0) < G x then put G x k out else out.take (k + 1) ++ x :: out.drop (k + 1)
theorem put_length (G : Int → Int) (x : Int) : ∀ (k : Nat) (out : List Int), (put G x k out).length = out.length + 1
 | 0, out => by simp [put]
 | k + 1, out => by
  simp only [put]
  split
  ·exact put_length G x k out
  ·simp only [List.length_append, List.length_cons, List.length_take, List.length_drop]
   omega
theorem put_mem (G : Int → Int) (x z : Int) : ∀ (k : Nat) (out : List Int), z ∈ put G x k out → z = x ∨ z ∈ out
 | 0, out, h => by simpa [put] using h
 | k + 1, out, h => by
  simp only [put] at h
  split at h
  ·exact put_mem G x z k out h
  ·rcases List.mem_append.1 h with h | h
   ·exact .inr (List.mem_of_mem_take h)
   ·rcases List.mem_cons.1 h with h | h
    ·exact .inl h
    ·exact .inr (List.mem_of_mem_drop h)
theorem put_app (G : Int → Int) (x : Int) (Q : List Int) : ∀ (k : Nat) (P : List Int), k ≤ P.length → put G x k (P ++ Q) = put G x k P ++ Q
 | 0, P, _ => by simp [put]
 | k + 1, P, h => by
  have e1 : (P ++ Q).getD k 0 = P.getD k 0 := by rw [List.getD_eq_getElem?_getD, List.getD_eq_getElem?_getD, List.getElem?_append_left (by omega)]
  simp only [put, e1]
  split
  ·exact put_app G x Q k P (by omega)
  ·rw [List.take_append_of_le_length h, List.drop_append_of_le_length h, List.append_assoc, List.cons_append]
theorem cmpOf_neg (a b : Int) : cmpOf a b < 0 ↔ a < b := by
 unfold cmpOf
 split
 ·simp [*]
 ·split <;> simp [*]
theorem insIn_put (G : Int → Int) (x : Int) : ∀ (k : Nat) (P Q : List Int), P.length = k → insIn (fun a b => cmpOf (G b) (G a)) k (P ++ x :: Q) = put G x k P ++ Q := by
 intro k
 induction k with
 | zero =>
  intro P Q hP
  obtain rfl := List.length_eq_zero_iff.1 hP
  simp [insIn, put]
 | succ k ih =>
  intro P Q hP
  obtain ⟨P', y, rfl⟩ : ∃ P' y, P = P' ++ [y] := ⟨P.dropLast, P.getLast (by intro h; simp [h] at hP), (List.dropLast_concat_getLast _).symm⟩
  have hP' : P'.length = k := by simpa using hP
  have e1 : ((P' ++ [y]) ++ x :: Q).getD (k + 1) 0 = x := by
   rw [List.getD_eq_getElem?_getD, List.getElem?_append_right (by simp; omega)]
   simp [hP']
  have e0 : ((P' ++ [y]) ++ x :: Q).getD k 0 = y := by
   rw [List.getD_eq_getElem?_getD, List.getElem?_append_left (by simp; omega), List.getElem?_append_right (by omega)]
   simp [hP']
  have e2 : (P' ++ [y]).getD k 0 = y := by
   rw [List.getD_eq_getElem?_getD, List.getElem?_append_right (by omega)]
   simp [hP']
  simp only [insIn, put, e0, e1, e2, cmpOf_neg]
  by_cases h : G y < G x
  ·rw [if_pos h, if_pos h, put_app G x [y] k P' (by omega)]
   have hset : ((((P' ++ [y]) ++ x :: Q).set (k + 1) y).set k x) = P' ++ x :: (y :: Q) := by
    rw [List.set_append_right _ _ (by simp; omega)]
    simp only [List.length_append, List.length_singleton, hP', Nat.sub_self, List.set_cons_zero]
    rw [List.append_assoc, List.set_append_right _ _ (by omega)]
    simp [hP']
   rw [hset, ih P' (y :: Q) hP', List.append_assoc]
   rfl
  ·rw [if_neg h, if_neg h, List.take_of_length_le (by simp; omega), List.drop_eq_nil_of_le (by simp; omega)]
   simp
def buildS (G : Int → Int) : List Int → List Int → List Int
 | [], out => out
 | s :: r, out => if G s < 0 then buildS G r out else buildS G r (put G s out.length out)
theorem insOut_build (G : Int → Int) : ∀ (R P : List Int), (∀ z ∈ R, ¬ G z < 0) → insOut (fun a b => cmpOf (G b) (G a)) R.length P.length (P ++ R) = buildS G R P := by
 intro R
 induction R with
 | nil => intro P _; simp [insOut, buildS]
 | cons x R ih =>
  intro P hR
  simp only [List.length_cons, insOut, buildS, if_neg (hR x List.mem_cons_self), insIn_put G x P.length P R rfl]
  rw [← put_length G x P.length P]
  exact ih _ (fun z hz => hR z (List.mem_cons_of_mem _ hz))
theorem build_filter (G : Int → Int) (p : Int → Bool) : ∀ (e out : List Int), (∀ z ∈ e, p z = true ↔ ¬ G z < 0) → buildS G (e.filter p) out = buildS G e out := by
 intro e
 induction e with
 | nil => intro out _; rfl
 | cons x e ih =>
  intro out h
  have hx := h x List.mem_cons_self
  have ht := fun z hz => h z (List.mem_cons_of_mem x hz)
  rw [List.filter_cons]
  by_cases hp : p x = true
  ·rw [if_pos hp]
   simp only [buildS, if_neg (hx.1 hp)]
   exact ih _ ht
  ·rw [if_neg hp]
   have hg : G x < 0 := Decidable.byContradiction (fun hn => hp (hx.2 hn))
   simp only [buildS, if_pos hg]
   exact ih _ ht
theorem build_len (G : Int → Int) : ∀ (e out : List Int), (buildS G e out).length ≤ out.length + e.length
 | [], out => by simp [buildS]
 | x :: e, out => by
  simp only [buildS]
  split
  ·have := build_len G e out
   simp only [List.length_cons]
   omega
  ·have := build_len G e (put G x out.length out)
   rw [put_length] at this
   simp only [List.length_cons]
   omega
def gOf (l : List S66) (ws : List Int) (a : Int) (s : Int) : Int := greatestDown l ws a s 201
theorem sorted_eq (l : List S66) (ws : List Int) (a : Int) (e : List Int) : insOut (rescueCf l ws a) ((e.filter (reachable l ws a)).length - 1) 1 (e.filter (reachable l ws a)) = buildS (gOf l ws a) e [] := by
 have hp : ∀ z, reachable l ws a z = true ↔ ¬ gOf l ws a z < 0 := fun z => by
  have := greatestDown_ge l ws a z 201
  unfold reachable gOf
  rw [bne_iff_ne]
  omega
 rw [← build_filter (gOf l ws a) (reachable l ws a) e [] (fun z _ => hp z)]
 have hall : ∀ z ∈ e.filter (reachable l ws a), ¬ gOf l ws a z < 0 := fun z hz => (hp z).1 (List.mem_filter.1 hz).2
 generalize e.filter (reachable l ws a) = f at hall
 cases f with
 | nil => rfl
 | cons x R =>
  have h1 := insOut_build (gOf l ws a) R [x] (fun z hz => hall z (List.mem_cons_of_mem _ hz))
  simp only [buildS, if_neg (hall x List.mem_cons_self)]
  exact h1
def rescueAns (l : List S66) (ws : List Int) (a : Int) (e : List Int) : List Int × Bool := if okAsked l ws a 0 = true ∧ rises 0 7 e = true then (buildS (gOf l ws a) e [], true) else ([], false)
theorem rescueAns_len (l : List S66) (ws : List Int) (a : Int) (e : List Int) : (rescueAns l ws a e).1.length ≤ 8 := by
 unfold rescueAns
 split
 ·rename_i h
  have h1 := rises_len8 h.2
  have h2 := build_len (gOf l ws a) e []
  simp only [List.length_nil] at h2 ⊢
  omega
 ·simp
theorem rdN (e : List Int) (i : Nat) : rd e (i : Int) = e.getD i 0 := by simp [rd]
theorem getD_mem {e : List Int} {i : Nat} (h : i < e.length) : e.getD i 0 ∈ e := by rw [List.getD_eq_getElem?_getD, List.getElem?_eq_getElem h]; exact List.getElem_mem _
theorem specRescue_inner {l : List S66} {ws : List Int} (hl : okLegs l = true) (hw : l.length ≤ ws.length) (hm : ws.length ≤ 1048576) {a : Int} (ha : 0 ≤ a ∧ a ≤ 7) {e : List Int} (h8 : e.length ≤ 8) {i : Nat} (hi : i < e.length) (out : List Int) (ho : out.length ≤ 8) (hz : ∀ z ∈ out, 0 ≤ z ∧ z ≤ 7) (r : List Int × Bool) : ∀ k, k ≤ out.length →
  Ev (fun n => spec_RescueOrder.l0 n l ws a e (put (gOf l ws a) (e.getD i 0) k out) ((i + 1 : Nat) : Int)) r → Ev (fun n => spec_RescueOrder.l1 n l ws a e out (i : Int) (gOf l ws a (e.getD i 0)) (k : Int)) r := by
 have hwi : wrap64 ((i : Int) + 1) = ((i + 1 : Nat) : Int) := by unfold wrap64; omega
 have htk : ∀ k, (out.take k).length ≤ 8 := fun k => by rw [List.length_take]; omega
 have hdk : ∀ k, (out.drop k).length ≤ 8 := fun k => by rw [List.length_drop]; omega
 intro k
 induction k with
 | zero =>
  intro _ hn
  simp only [put] at hn
  have h1 := htk 0
  have h2 := hdk 0
  refine Ev.step (fun n => ?_) hn
  simp only [spec_RescueOrder.l1, Option.bind_some, hwi, rdN, Int.toNat_natCast, List.nil_append, List.length_nil, List.length_append, List.length_singleton]
  rw [if_neg (by omega), if_pos (by omega), if_pos (by omega), if_pos (by omega), if_pos (by omega), if_pos (by omega), if_pos (by omega), if_pos (by omega)]
  rfl
 | succ k ih =>
  intro hk hn
  have hwk : wrap64 (((k + 1 : Nat) : Int) - 1) = (k : Int) := by unfold wrap64; omega
  have hG := specGreatest_ev hl hw hm ha (hz _ (getD_mem (show k < out.length by omega)))
  have h1 := htk (k + 1)
  have h2 := hdk (k + 1)
  simp only [put] at hn
  by_cases hc : gOf l ws a (out.getD k 0) < gOf l ws a (e.getD i 0)
  ·rw [if_pos hc] at hn
   refine Ev.step (f := fun n => (spec_l15Greatest.f n l ws a (out.getD k 0)).bind fun t => if t < gOf l ws a (e.getD i 0) then spec_RescueOrder.l1 n l ws a e out (i : Int) (gOf l ws a (e.getD i 0)) (k : Int) else spec_RescueOrder.l0 n l ws a e (out.take (k + 1) ++ e.getD i 0 :: out.drop (k + 1)) ((i + 1 : Nat) : Int)) (fun n => ?_) (Ev.bind hG (Ev.ite_pos hc (ih (by omega) hn)))
   simp only [spec_RescueOrder.l1, Option.bind_some, hwi, hwk, rdN, Int.toNat_natCast, List.nil_append, List.length_nil, List.length_append, List.length_singleton, List.append_assoc, List.singleton_append]
   rw [if_pos (by omega), if_pos (by omega), if_pos (by omega)]
   refine congrArg _ (funext fun t => ?_)
   split
   ·rfl
   ·rw [if_pos (by omega), if_pos (by omega), if_pos (by omega), if_pos (by omega), if_pos (by omega), if_pos (by omega), if_pos (by omega)]
  ·rw [if_neg hc] at hn
   refine Ev.step (f := fun n => (spec_l15Greatest.f n l ws a (out.getD k 0)).bind fun t => if t < gOf l ws a (e.getD i 0) then spec_RescueOrder.l1 n l ws a e out (i : Int) (gOf l ws a (e.getD i 0)) (k : Int) else spec_RescueOrder.l0 n l ws a e (out.take (k + 1) ++ e.getD i 0 :: out.drop (k + 1)) ((i + 1 : Nat) : Int)) (fun n => ?_) (Ev.bind hG (Ev.ite_neg hc hn))
   simp only [spec_RescueOrder.l1, Option.bind_some, hwi, hwk, rdN, Int.toNat_natCast, List.nil_append, List.length_nil, List.length_append, List.length_singleton, List.append_assoc, List.singleton_append]
   rw [if_pos (by omega), if_pos (by omega), if_pos (by omega)]
   refine congrArg _ (funext fun t => ?_)
   split
   ·rfl
   ·rw [if_pos (by omega), if_pos (by omega), if_pos (by omega), if_pos (by omega), if_pos (by omega), if_pos (by omega), if_pos (by omega)]
theorem specRescue_outer {l : List S66} {ws : List Int} (hl : okLegs l = true) (hw : l.length ≤ ws.length) (hm : ws.length ≤ 1048576) {a : Int} (ha : 0 ≤ a ∧ a ≤ 7) {e : List Int} (h8 : e.length ≤ 8) (he : ∀ z ∈ e, 0 ≤ z ∧ z ≤ 7) : ∀ d i (out : List Int), i + d = e.length → out.length ≤ i → (∀ z ∈ out, 0 ≤ z ∧ z ≤ 7) →
  Ev (fun n => spec_RescueOrder.l0 n l ws a e out (i : Int)) (buildS (gOf l ws a) (e.drop i) out, true) := by
 intro d
 induction d with
 | zero =>
  intro i out hi _ _
  rw [List.drop_eq_nil_of_le (by omega)]
  simp only [buildS]
  refine Ev.step (f := fun _ => some (out, true)) (fun n => ?_) (Ev.now _)
  simp only [spec_RescueOrder.l0]
  rw [if_neg (by omega)]
 | succ d ih =>
  intro i out hi ho hz
  have hil : i < e.length := by omega
  have hwi : wrap64 ((i : Int) + 1) = ((i + 1 : Nat) : Int) := by unfold wrap64; omega
  have hx : e[i] = e.getD i 0 := by rw [List.getD_eq_getElem?_getD, List.getElem?_eq_getElem hil]; rfl
  have hxm := he _ (getD_mem hil)
  have hG := specGreatest_ev hl hw hm ha hxm
  rw [List.drop_eq_getElem_cons hil, hx]
  simp only [buildS]
  by_cases hc : gOf l ws a (e.getD i 0) < 0
  ·rw [if_pos hc]
   refine Ev.step (f := fun n => (spec_l15Greatest.f n l ws a (e.getD i 0)).bind fun t => if t < 0 then spec_RescueOrder.l0 n l ws a e out ((i + 1 : Nat) : Int) else spec_RescueOrder.l1 n l ws a e out (i : Int) t (out.length : Int)) (fun n => ?_) (Ev.bind hG (Ev.ite_pos hc (ih (i + 1) out (by omega) (by omega) hz)))
   simp only [spec_RescueOrder.l0, hwi, rdN]
   rw [if_pos (by omega), if_pos (by omega)]
  ·rw [if_neg hc]
   refine Ev.step (f := fun n => (spec_l15Greatest.f n l ws a (e.getD i 0)).bind fun t => if t < 0 then spec_RescueOrder.l0 n l ws a e out ((i + 1 : Nat) : Int) else spec_RescueOrder.l1 n l ws a e out (i : Int) t (out.length : Int)) (fun n => ?_)
    (Ev.bind hG (Ev.ite_neg hc (specRescue_inner hl hw hm ha h8 hil out (by omega) hz _ out.length (Nat.le_refl _) (ih (i + 1) _ (by omega) (by rw [put_length]; omega) (fun z hz_ => (put_mem _ _ z _ _ hz_).elim (fun h_ => by rw [h_]; exact hxm) (hz z))))))
   simp only [spec_RescueOrder.l0, hwi, rdN]
   rw [if_pos (by omega), if_pos (by omega)]
theorem specRescue_ev (l : List S66) (ws : List Int) (a : Int) (e : List Int) (hm : l.length ≤ 9223372036854775807) (hw : ws.length ≤ 9223372036854775807) (he : e.length ≤ 1048576) : Ev (fun k => spec_RescueOrder.f k l ws a e) (rescueAns l ws a e) := by
 have hno : Ev (fun k => spec_RescueOrder.j0 k l ws a e [] true) ([], false) := Ev.step (f := fun _ => some ([], false)) (fun k => by rw [spec_RescueOrder.j0, if_pos rfl]) (Ev.now _)
 simp only [spec_RescueOrder.f, Option.bind_some]
 refine Ev.bind (l15Asked_ev l ws a 0 hm hw) ?_
 by_cases h : okAsked l ws a 0 = true
 ·have hs := okAsked_says h
  have hn := okWidths_len hs.1
  have hl := okWidths_legs hs.1
  have h12 := okLegs_len hl
  refine Ev.ite_pos h (Ev.bind (rising_ev e he 0 7) ?_)
  by_cases h2 : rises 0 7 e = true
  ·rw [show rescueAns l ws a e = _ from if_pos ⟨h, h2⟩, show (!rises 0 7 e) = false by rw [h2]; rfl]
   have := specRescue_outer hl (ws := ws) (by omega) (by omega) hs.2.1 (rises_len8 h2) (rises_in h2) e.length 0 [] (by omega) (by simp) (by simp)
   rw [List.drop_zero] at this
   exact Ev.step (fun k => by rw [spec_RescueOrder.j0, if_neg (by decide)]; rfl) this
  ·rw [show rescueAns l ws a e = ([], false) from if_neg (fun hh => h2 hh.2), show (!rises 0 7 e) = true by simpa using h2]
   exact hno
 ·rw [show rescueAns l ws a e = ([], false) from if_neg (fun hh => h hh.1)]
  exact Ev.ite_neg h hno
theorem implRescue_ev (l : List S66) (ws : List Int) (a : Int) (e : List Int) (hm : l.length ≤ 9223372036854775807) (he : e.length ≤ 1048576) : Ev (fun k => impl_RescueOrder.f k l ws a e) (rescueAns l ws a e) := by
 simp only [impl_RescueOrder.f]
 refine Ev.bind (areEnds_ev l ws a a hm) ?_
 rw [okAsked_same]
 by_cases h : okAsked l ws a 0 = true
 ·have hs := okAsked_says h
  have hn := okWidths_len hs.1
  have hl := okWidths_legs hs.1
  refine Ev.ite_pos h (Ev.bind (strictly_ev e he 0 7) ?_)
  by_cases h2 : rises 0 7 e = true
  ·rw [show rescueAns l ws a e = _ from if_pos ⟨h, h2⟩]
   have h8 := rises_len8 h2
   refine Ev.ite_pos h2 (Ev.ite_pos ⟨reachOk_of hl (by omega) (by omega), rises_in h2, by omega⟩ ?_)
   rw [sorted_eq]
   exact Ev.now _
  ·rw [show rescueAns l ws a e = ([], false) from if_neg (fun hh => h2 hh.2)]
   exact Ev.ite_neg h2 (Ev.now _)
 ·rw [show rescueAns l ws a e = ([], false) from if_neg (fun hh => h hh.1)]
  exact Ev.ite_neg h (Ev.now _)
end Go.Proofs.Ytfgkpokjhihaaaa.Pure
