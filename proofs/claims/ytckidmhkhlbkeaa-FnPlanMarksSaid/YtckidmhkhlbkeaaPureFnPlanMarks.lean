/- The law FnPlanMarks's pure statement. -/
import Derived.Test.YtckidmhkhlbkeaaPAllFnPlanMarks
import Derived.Test.YtckidmhkhlbkeaaMKx17
import Derived.Test.YtckidmhkhlbkeaaMKx3
import Derived.Test.YtckidmhkhlbkeaaMKx12
namespace Go.Proofs.Ytckidmhkhlbkeaa.Pure
open Go.RowKit Go.Proofs.Ytckidmhkhlbkeaa.MK Go.Proofs.YtckidmhkhlbkeaaW.PrintWords Go.Proofs.YtckidmhkhlbkeaaW.PrintLast
set_option linter.unusedVariables false
set_option linter.unusedSimpArgs false
theorem rMarks_ev (l : List M13) (hm : l.length ≤ 1000000) : Ev (fun k => laws_rMarks.f k l l) true := by
 simp only [laws_rMarks.f]
 refine Ev.ite_pos trivial ?_
 refine loopV_ev (fun k i (_ : Unit) => laws_rMarks.l0 k l l i) l.length 0 (fun _ _ => True) true () trivial ?_ ?_
 ·rintro k i - - hi -
  refine .inl ⟨(), trivial, ?_⟩
  simp only [laws_rMarks.l0]
  rw [if_pos (by omega), if_pos (by omega), if_pos (by omega), if_neg (by simp), wrap_up hi (by omega)]
 ·rintro k - - -
  simp only [laws_rMarks.l0]
  rw [if_neg (by omega)]
theorem okMarks_mk {l : List M13} (h12 : l.length ≤ 12) (h : ∀ j, j < l.length → markStep l j = true) : okMarks l = true := by
 have key : ∀ d i, i + d = l.length → foldN (fun i (_ : Unit) => if markStep l i = true then Sum.inl () else Sum.inr false) (fun _ => decide (l.length ≤ 12)) d i () = true := by
  intro d
  induction d with
  | zero =>
   intro i hi
   simp only [foldN]
   exact decide_eq_true h12
  | succ d ih =>
   intro i hi
   simp only [foldN]
   rw [h i (by omega)]
   simp only [if_true]
   exact ih (i + 1) (by omega)
 exact key l.length 0 (by omega)
theorem okMarks_map {l : List M13} (f : M13 → M13) (h : okMarks l = true) (h0 : ∀ x, (f x).f0 = x.f0) (hr : ∀ x, x ∈ l → (-1000 ≤ (f x).f1 ∧ (f x).f1 ≤ 1000) ∧ (-1000 ≤ (f x).f2 ∧ (f x).f2 ≤ 1000)) : okMarks (l.map f) = true := by
 have hs := okMarks_less l l.length 0 (by omega) h
 refine okMarks_mk (by rw [List.length_map]; exact okMarks_len h) (fun j hj => ?_)
 rw [List.length_map] at hj
 have e : ∀ i, (hi : i < l.length) → (l.map f).getD i z44 = f (l.getD i z44) := fun i hi => by
  rw [getD_lt _ _ _ (by rw [List.length_map]; exact hi), getD_lt _ _ _ hi]
  simp
 have h1 := hs j (Nat.zero_le _) hj
 have h2 := hr (l.getD j z44) (by rw [getD_lt _ _ _ hj]; exact List.getElem_mem hj)
 unfold markStep okMark at h1 ⊢
 rw [e j hj, e (j - 1) (by omega), h0, h0]
 simp only [Bool.and_eq_true, decide_eq_true_eq] at h1 ⊢
 exact ⟨⟨h1.1.1, h2⟩, h1.2⟩
theorem turn_ok {l : List M13} (h : okMarks l = true) : okMarks (l.map turnOne) = true := by
 refine okMarks_map turnOne h (fun _ => rfl) (fun x hx => ?_)
 obtain ⟨_, h1, h2, h3, h4⟩ := okMarks_mem h hx
 have : wrap64 (-x.f1) = -x.f1 := wrap_id (by omega) (by omega)
 simp only [turnOne, this]
 omega
theorem turn_yes {l : List M13} (h : okMarks l = true) : turnAns l = (l.map turnOne, true) := if_pos h
theorem turn_four {l : List M13} (h : okMarks l = true) : (((l.map turnOne).map turnOne).map turnOne).map turnOne = l := by
 simp only [List.map_map]
 refine (List.map_congr_left (fun x hx => ?_)).trans (List.map_id l)
 obtain ⟨_, h1, h2, h3, h4⟩ := okMarks_mem h hx
 have e1 : wrap64 (-x.f1) = -x.f1 := wrap_id (by omega) (by omega)
 have e2 : wrap64 (-x.f2) = -x.f2 := wrap_id (by omega) (by omega)
 have e3 : wrap64 (- -x.f1) = x.f1 := by rw [Int.neg_neg]; exact wrap_id (by omega) (by omega)
 have e4 : wrap64 (- -x.f2) = x.f2 := by rw [Int.neg_neg]; exact wrap_id (by omega) (by omega)
 simp only [Function.comp, turnOne, e1, e2, e3, e4, id]
theorem marks_j3 {l0 : List Int} (hb : Bytes l0) : Ev (fun k => laws_FnPlanMarks.j3 k l0) true := by
 refine Ev.step (fun k => by rw [laws_FnPlanMarks.j3]) ?_
 obtain ⟨⟨u, a, b⟩, hd, hl⟩ := dr_move hb
 dsimp only at hl
 have hml := moveAns_len u a b
 refine Ev.bind hd (Ev.bind (implMove_ev u a b (by omega)) (Ev.bind (specMove_ev u a b (by omega)) (Ev.ite_neg (by simp) (Ev.bind (rMarks_ev _ (by omega)) ?_))))
 refine Ev.step (fun k => by rw [laws_FnPlanMarks.j4]) (Ev.ite_neg (by simp) ?_)
 dsimp only
 by_cases c : okMarks u = true ∧ (-2000 ≤ a ∧ a ≤ 2000) ∧ (-2000 ≤ b ∧ b ≤ 2000)
 ·by_cases c2 : okMarks (u.map (moveOne a b)) = true
  ·have e : moveAns u a b = (u.map (moveOne a b), true) := by unfold moveAns; rw [if_pos c, if_pos c2]
   rw [e]
   refine Ev.ite_pos rfl ?_
   have wa : wrap64 (-a) = -a := wrap_id (by omega) (by omega)
   have wb : wrap64 (-b) = -b := wrap_id (by omega) (by omega)
   have back : (u.map (moveOne a b)).map (moveOne (-a) (-b)) = u := by
    rw [List.map_map]
    refine (List.map_congr_left (fun x hx => ?_)).trans (List.map_id u)
    obtain ⟨_, h1, h2, h3, h4⟩ := okMarks_mem c.1 hx
    have e1 : wrap64 (x.f1 + a) = x.f1 + a := wrap_id (by omega) (by omega)
    have e2 : wrap64 (x.f2 + b) = x.f2 + b := wrap_id (by omega) (by omega)
    have e3 : wrap64 (x.f1 + a + -a) = x.f1 := by rw [Int.add_neg_cancel_right]; exact wrap_id (by omega) (by omega)
    have e4 : wrap64 (x.f2 + b + -b) = x.f2 := by rw [Int.add_neg_cancel_right]; exact wrap_id (by omega) (by omega)
    simp only [Function.comp, moveOne, e1, e2, e3, e4, id]
   have e5 : moveAns (u.map (moveOne a b)) (-a) (-b) = (u, true) := by
    unfold moveAns
    rw [if_pos ⟨c2, by omega, by omega⟩, back, if_pos c.1]
   have h12 := okMarks_len c2
   rw [wa, wb]
   refine Ev.bind (implMove_ev (u.map (moveOne a b)) (-a) (-b) (by omega)) ?_
   rw [e5]
   exact Ev.ite_pos rfl (Ev.bind (rMarks_ev u (by omega)) (Ev.now _))
  ·have e : moveAns u a b = ([], false) := by unfold moveAns; rw [if_pos c, if_neg c2]
   rw [e]
   exact Ev.ite_neg (by simp) (Ev.now _)
 ·have e : moveAns u a b = ([], false) := by unfold moveAns; rw [if_neg c]
  rw [e]
  exact Ev.ite_neg (by simp) (Ev.now _)
theorem marks_j1 {l0 : List Int} (hb : Bytes l0) : Ev (fun k => laws_FnPlanMarks.j1 k l0) true := by
 refine Ev.step (fun k => by rw [laws_FnPlanMarks.j1]) ?_
 obtain ⟨l, hd, hl⟩ := dr_turn hb
 have hml := turnAns_len l
 refine Ev.bind hd (Ev.bind (implTurn_ev l (by omega)) (Ev.bind (specTurn_ev l (by omega)) (Ev.ite_neg (by simp) (Ev.bind (rMarks_ev _ (by omega)) ?_))))
 refine Ev.step (fun k => by rw [laws_FnPlanMarks.j2]) (Ev.ite_neg (by simp) ?_)
 by_cases h : okMarks l = true
 ·have h12 := okMarks_len h
  have k1 := turn_ok h
  have k2 := turn_ok k1
  have k3 := turn_ok k2
  rw [turn_yes h]
  refine Ev.ite_pos rfl ?_
  dsimp only
  have t1 := implTurn_ev (l.map turnOne) (by rw [List.length_map]; omega)
  have t2 := implTurn_ev ((l.map turnOne).map turnOne) (by rw [List.length_map, List.length_map]; omega)
  have t3 := implTurn_ev (((l.map turnOne).map turnOne).map turnOne) (by rw [List.length_map, List.length_map, List.length_map]; omega)
  rw [turn_yes k1] at t1
  rw [turn_yes k2] at t2
  rw [turn_yes k3, turn_four h] at t3
  refine Ev.bind t1 (Ev.bind t2 (Ev.bind t3 (Ev.ite_pos rfl (Ev.ite_pos rfl (Ev.ite_pos rfl (Ev.bind (rMarks_ev l (by omega)) (Ev.ite_pos rfl (marks_j3 hb))))))))
 ·have e : turnAns l = ([], false) := if_neg h
  rw [e]
  exact Ev.ite_neg (by simp) (marks_j3 hb)
theorem FnPlanMarks (l0 : List Int) (hm0 : l0.length ≤ 9223372036854775807) (hw0 : ∀ x ∈ l0, (Lit.int .u8 x).wf = true) : ∃ k, laws_FnPlanMarks.f k l0 = some true := by
 have hb := bytes_of hw0
 apply Ev.rounds
 simp only [laws_FnPlanMarks.f, laws_rBig.f, Option.bind_some]
 by_cases hbig : (l0.length : Int) > 65536
 ·exact Ev.ite_pos (decide_eq_true hbig) (Ev.now _)
 refine Ev.ite_neg (by simpa using hbig) ?_
 obtain ⟨s, hd, hs⟩ := dr_readPlan hb
 have hrl := readAns_len s
 refine Ev.bind hd (Ev.bind (implRead_ev s (by omega)) (Ev.bind (specRead_ev s) (Ev.ite_neg (by simp) (Ev.bind (rMarks_ev _ (by omega)) ?_))))
 refine Ev.step (fun k => by rw [laws_FnPlanMarks.j0]) (Ev.ite_neg (by simp) ?_)
 by_cases h : s.size ≤ 420 ∧ (planTextAns (out13 s) 1).2 = true ∧ (planTextAns (out13 s) 1).1.toList = s.toList
 ·have e : readAns s = (out13 s, true) := if_pos h
  have hol := out13_len s
  have hok : okMarks (out13 s) = true := by
   have h2 := h.2.1
   unfold planTextAns at h2
   by_cases c : (mayFit (out13 s) 1 && fits20 (out13 s) 1) = true
   ·rw [Bool.and_eq_true] at c
    exact (mayFit_says c.1).1
   ·rw [if_neg c] at h2
    cases h2
  rw [e]
  refine Ev.ite_pos rfl ?_
  dsimp only
  exact Ev.bind (implPlanText_ev (out13 s) 1 (by omega)) (Ev.ite_pos h.2.1 (Ev.ite_pos h.2.2 (Ev.bind (areMarks_ev (out13 s) (by omega)) (Ev.ite_pos hok (marks_j1 hb)))))
 ·have e : readAns s = ([], false) := if_neg h
  rw [e]
  exact Ev.ite_neg (by simp) (marks_j1 hb)
end Go.Proofs.Ytckidmhkhlbkeaa.Pure
