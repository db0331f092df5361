/- Through trips: the program's and the reference's answer. -/
import Derived.Test.YtdlbciobndpgnaaMTx3
import Derived.Test.YtdlbciobndpgnaaMTx5
import Derived.Test.YtdlbciobndpgnaaPCaves
import Derived.Test.YtdlbciobndpgnaaPEnts
namespace Go.Proofs.Ytdlbciobndpgnaa.Pure
open Go.RowKit Go.Proofs.Ytdlbciobndpgnaa.MT Go.Proofs.YtdlbciobndpgnaaW.PrintWords Go.Proofs.YtdlbciobndpgnaaW.PrintLast Go.Proofs.YtdlbciobndpgnaaW.PrintMore
set_option linter.unusedVariables false
set_option linter.unusedSimpArgs false
theorem together_in {l : List S65} (hl : okLegs l = true) {a b : Int} (ha : 0 ≤ a ∧ a < 8) (hb : 0 ≤ b ∧ b < 8) : impl_together.f l a b = some (decide (b ∈ caveOf l a)) := by
  unfold impl_together.f
  rw [if_pos ⟨hangOk_of hl ha, hb.1, by omega⟩, hangOf_arr hl ha, arrL_get hb]
def pairsIn (l : List S65) (a : Int) : List Int → List S55
  | [] => []
  | b :: r => if b ∈ caveOf l a then ⟨a, b⟩ :: pairsIn l a r else pairsIn l a r
def pairsOf (l : List S65) : List Int → List S55
  | [] => []
  | a :: r => pairsIn l a r ++ pairsOf l r
theorem pairsIn_len (l : List S65) (a : Int) : ∀ r : List Int, (pairsIn l a r).length ≤ r.length
  | [] => by simp [pairsIn]
  | b :: r => by
    have := pairsIn_len l a r
    simp only [pairsIn]
    split <;> simp only [List.length_cons] <;> omega
theorem pairsOf_len (l : List S65) : ∀ r : List Int, r.length ≤ 8 → (pairsOf l r).length ≤ 8 * r.length
  | [], _ => by simp [pairsOf]
  | a :: r, h => by
    simp only [List.length_cons] at h
    have h1 := pairsIn_len l a r
    have h2 := pairsOf_len l r (by omega)
    simp only [pairsOf, List.length_append, List.length_cons]
    omega
def throughAns (l : List S65) (e : List Int) : List S55 × Bool := if okLegs l = true ∧ okEnts e = true then (pairsOf l e, true) else ([], false)
theorem throughAns_len (l : List S65) (e : List Int) : (throughAns l e).1.length ≤ 64 := by
  unfold throughAns
  split
  · rename_i h
    have h8 := okEnts_len h.2
    have := pairsOf_len l e h8
    simp only
    omega
  · simp
theorem rd_cons {e : List Int} {i : Nat} (h : i < e.length) : rd e (i : Int) = e[i] := by simp [rd, List.getD_eq_getElem?_getD, List.getElem?_eq_getElem h]
theorem specTT_inner {l : List S65} (hl : okLegs l = true) {e : List Int} (h8 : e.length ≤ 8) (he : ∀ z ∈ e, 0 ≤ z ∧ z ≤ 7) {i : Nat} (hi : i < e.length) (r : List S55 × Bool) : ∀ d j (out : List S55), j + d = e.length → out.length + d ≤ 1000 →
    Ev (fun k => spec_ThroughTrips.l0 k l e (out ++ pairsIn l e[i] (e.drop j)) ((i + 1 : Nat) : Int)) r → Ev (fun k => spec_ThroughTrips.l1 k l e out (i : Int) (caveOf l e[i]) (j : Int)) r := by
  have hwi : wrap64 ((i : Int) + 1) = ((i + 1 : Nat) : Int) := by unfold wrap64; omega
  have ha := he _ (List.getElem_mem hi)
  have hlen := (caveOf_good hl (a := e[i]) (by omega)).len
  intro d
  induction d with
  | zero =>
    intro j out hj _ hn
    rw [List.drop_eq_nil_of_le (by omega)] at hn
    simp only [pairsIn, List.append_nil] at hn
    refine Ev.step (fun k => ?_) hn
    simp only [spec_ThroughTrips.l1, hwi]
    rw [if_neg (by omega)]
  | succ d ih =>
    intro j out hj hm hn
    have hjl : j < e.length := by omega
    have hwj : wrap64 ((j : Int) + 1) = ((j + 1 : Nat) : Int) := by unfold wrap64; omega
    rw [List.drop_eq_getElem_cons hjl] at hn
    simp only [pairsIn] at hn
    by_cases h : e[j] ∈ caveOf l e[i]
    · rw [if_pos h] at hn
      refine Ev.step (f := fun k => (spec_l1Has.f k (caveOf l e[i]) e[j]).bind fun t => if t = true then spec_ThroughTrips.l1 k l e (out ++ [⟨e[i], e[j]⟩]) (i : Int) (caveOf l e[i]) ((j + 1 : Nat) : Int) else spec_ThroughTrips.l1 k l e out (i : Int) (caveOf l e[i]) ((j + 1 : Nat) : Int)) (fun k => ?_)
        (Ev.bind (l1Has_ev (l := caveOf l e[i]) (n := e[j]) (by omega)) (Ev.ite_pos (decide_eq_true h) (ih (j + 1) (out ++ [⟨e[i], e[j]⟩]) (by omega) (by simp; omega) (by rw [List.append_assoc]; exact hn))))
      simp only [spec_ThroughTrips.l1, hwj, rd_cons hjl, rd_cons hi]
      rw [if_pos (by omega), if_pos (by omega)]
      refine congrArg _ (funext fun t => ?_)
      split
      · rw [if_pos (by omega), if_pos (by omega), if_pos (by omega)]
      · rfl
    · rw [if_neg h] at hn
      refine Ev.step (f := fun k => (spec_l1Has.f k (caveOf l e[i]) e[j]).bind fun t => if t = true then spec_ThroughTrips.l1 k l e (out ++ [⟨e[i], e[j]⟩]) (i : Int) (caveOf l e[i]) ((j + 1 : Nat) : Int) else spec_ThroughTrips.l1 k l e out (i : Int) (caveOf l e[i]) ((j + 1 : Nat) : Int)) (fun k => ?_)
        (Ev.bind (l1Has_ev (l := caveOf l e[i]) (n := e[j]) (by omega)) (Ev.ite_neg (show ¬ (decide (e[j] ∈ caveOf l e[i]) = true) by simpa using h) (ih (j + 1) out (by omega) (by omega) hn)))
      simp only [spec_ThroughTrips.l1, hwj, rd_cons hjl, rd_cons hi]
      rw [if_pos (by omega), if_pos (by omega)]
      refine congrArg _ (funext fun t => ?_)
      split
      · rw [if_pos (by omega), if_pos (by omega), if_pos (by omega)]
      · rfl
theorem specTT_outer {l : List S65} (hl : okLegs l = true) {e : List Int} (h8 : e.length ≤ 8) (he : ∀ z ∈ e, 0 ≤ z ∧ z ≤ 7) : ∀ d i (out : List S55), i + d = e.length → out.length ≤ 8 * i →
    Ev (fun k => spec_ThroughTrips.l0 k l e out (i : Int)) (out ++ pairsOf l (e.drop i), true) := by
  intro d
  induction d with
  | zero =>
    intro i out hi _
    rw [List.drop_eq_nil_of_le (by omega)]
    simp only [pairsOf, List.append_nil]
    refine Ev.step (f := fun _ => some (out, true)) (fun k => ?_) (Ev.now _)
    simp only [spec_ThroughTrips.l0]
    rw [if_neg (by omega)]
  | succ d ih =>
    intro i out hi hm
    have hil : i < e.length := by omega
    have hwi : wrap64 ((i : Int) + 1) = ((i + 1 : Nat) : Int) := by unfold wrap64; omega
    have ha := he _ (List.getElem_mem hil)
    have hlen := pairsIn_len l e[i] (e.drop (i + 1))
    rw [List.length_drop] at hlen
    rw [List.drop_eq_getElem_cons hil]
    simp only [pairsOf]
    rw [← List.append_assoc]
    refine Ev.step (f := fun k => (spec_l17Cave.f k l e[i] (-1)).bind fun t => spec_ThroughTrips.l1 k l e out (i : Int) t ((i + 1 : Nat) : Int)) (fun k => ?_) (Ev.bind (specCave_ev hl (a := e[i]) (by omega)) (specTT_inner hl h8 he hil _ d (i + 1) out (by omega) (by omega) (ih (i + 1) _ (by omega) (by simp only [List.length_append]; omega))))
    simp only [spec_ThroughTrips.l0, hwi, rd_cons hil]
    rw [if_pos (by omega), if_pos (by omega)]
theorem implTT_inner {l : List S65} (hl : okLegs l = true) {e q : List Int} (h8 : q.length ≤ 8) (he : ∀ z ∈ q, 0 ≤ z ∧ z ≤ 7) {a : Int} (ha : 0 ≤ a ∧ a ≤ 7) {i : Nat} (hi : i < 8) (r : List S55 × Bool) : ∀ d j (out : List S55), j + d = q.length → out.length + d ≤ 1000 →
    Ev (fun k => impl_ThroughTrips.l0 k l e (out ++ pairsIn l a (q.drop j)) e (e.length : Int) ((i + 1 : Nat) : Int)) r → Ev (fun k => impl_ThroughTrips.l1 k l e out a e (e.length : Int) (i : Int) q (q.length : Int) (j : Int)) r := by
  have hwi : wrap64 ((i : Int) + 1) = ((i + 1 : Nat) : Int) := by unfold wrap64; omega
  intro d
  induction d with
  | zero =>
    intro j out hj _ hn
    rw [List.drop_eq_nil_of_le (by omega)] at hn
    simp only [pairsIn, List.append_nil] at hn
    refine Ev.step (fun k => ?_) hn
    simp only [impl_ThroughTrips.l1, hwi]
    rw [if_neg (by omega)]
  | succ d ih =>
    intro j out hj hm hn
    have hjl : j < q.length := by omega
    have hwj : wrap64 ((j : Int) + 1) = ((j + 1 : Nat) : Int) := by unfold wrap64; omega
    have hb := he _ (List.getElem_mem hjl)
    rw [List.drop_eq_getElem_cons hjl] at hn
    simp only [pairsIn] at hn
    by_cases h : q[j] ∈ caveOf l a
    · rw [if_pos h] at hn
      refine Ev.step (fun k => ?_) (ih (j + 1) (out ++ [⟨a, q[j]⟩]) (by omega) (by simp; omega) (by rw [List.append_assoc]; exact hn))
      simp only [impl_ThroughTrips.l1, hwj, rd_cons hjl, together_in hl (show 0 ≤ a ∧ a < 8 by omega) (show 0 ≤ q[j] ∧ q[j] < 8 by omega), Option.bind_some]
      rw [if_pos (by omega), if_pos (by omega), if_pos (by omega), if_pos (decide_eq_true h), if_pos (by omega)]
    · rw [if_neg h] at hn
      refine Ev.step (fun k => ?_) (ih (j + 1) out (by omega) (by omega) hn)
      simp only [impl_ThroughTrips.l1, hwj, rd_cons hjl, together_in hl (show 0 ≤ a ∧ a < 8 by omega) (show 0 ≤ q[j] ∧ q[j] < 8 by omega), Option.bind_some]
      rw [if_pos (by omega), if_pos (by omega), if_pos (by omega), if_neg (by simpa using h)]
theorem implTT_outer {l : List S65} (hl : okLegs l = true) {e : List Int} (h8 : e.length ≤ 8) (he : ∀ z ∈ e, 0 ≤ z ∧ z ≤ 7) : ∀ d i (out : List S55), i + d = e.length → out.length ≤ 8 * i →
    Ev (fun k => impl_ThroughTrips.l0 k l e out e (e.length : Int) (i : Int)) (out ++ pairsOf l (e.drop i), true) := by
  intro d
  induction d with
  | zero =>
    intro i out hi _
    rw [List.drop_eq_nil_of_le (by omega)]
    simp only [pairsOf, List.append_nil]
    refine Ev.step (f := fun _ => some (out, true)) (fun k => ?_) (Ev.now _)
    simp only [impl_ThroughTrips.l0]
    rw [if_neg (by omega)]
  | succ d ih =>
    intro i out hi hm
    have hil : i < e.length := by omega
    have hwi : wrap64 ((i : Int) + 1) = ((i + 1 : Nat) : Int) := by unfold wrap64; omega
    have ha := he _ (List.getElem_mem hil)
    have hlen := pairsIn_len l e[i] (e.drop (i + 1))
    rw [List.length_drop] at hlen
    have hdl : (e.drop (i + 1)).length = d := by rw [List.length_drop]; omega
    rw [List.drop_eq_getElem_cons hil]
    simp only [pairsOf]
    rw [← List.append_assoc]
    refine Ev.step (fun k => ?_) (implTT_inner hl (e := e) (q := e.drop (i + 1)) (by omega) (fun z hz => he z (List.mem_of_mem_drop hz)) (a := e[i]) (by omega) (i := i) (by omega) _ d 0 out (by omega) (by omega) (ih (i + 1) _ (by omega) (by rw [List.drop_zero]; simp only [List.length_append]; omega)))
    simp only [impl_ThroughTrips.l0, hwi, rd_cons hil, Int.toNat_natCast]
    rw [if_pos (by omega), if_pos (by omega), if_pos (by omega), if_pos (by omega), if_pos (by omega)]
    rfl
theorem specTT_ev (l : List S65) (e : List Int) (hm : l.length ≤ 9223372036854775807) (he : e.length ≤ 1048576) : Ev (fun k => spec_ThroughTrips.f k l e) (throughAns l e) := by
  simp only [spec_ThroughTrips.f, Option.bind_some]
  refine Ev.bind (asked_ev l e hm he) ?_
  by_cases h : okLegs l = true ∧ okEnts e = true
  · rw [show throughAns l e = _ from if_pos h]
    have := specTT_outer h.1 (okEnts_len h.2) (rises_in h.2) e.length 0 [] (by omega) (by simp)
    rw [List.drop_zero, List.nil_append] at this
    exact Ev.ite_pos (by simp [h.1, h.2]) this
  · rw [show throughAns l e = _ from if_neg h]
    exact Ev.ite_neg (by simpa using h) (Ev.now _)
theorem implTT_ev (l : List S65) (e : List Int) (hm : l.length ≤ 9223372036854775807) (he : e.length ≤ 1048576) : Ev (fun k => impl_ThroughTrips.f k l e) (throughAns l e) := by
  simp only [impl_ThroughTrips.f]
  refine Ev.bind (areEnts_ev l e hm he) ?_
  by_cases h : okLegs l = true ∧ okEnts e = true
  · rw [show throughAns l e = _ from if_pos h]
    have := implTT_outer h.1 (okEnts_len h.2) (rises_in h.2) e.length 0 [] (by omega) (by simp)
    rw [List.drop_zero, List.nil_append] at this
    exact Ev.ite_pos (by simp [h.1, h.2]) this
  · rw [show throughAns l e = _ from if_neg h]
    exact Ev.ite_neg (by simpa using h) (Ev.now _)
end Go.Proofs.Ytdlbciobndpgnaa.Pure
