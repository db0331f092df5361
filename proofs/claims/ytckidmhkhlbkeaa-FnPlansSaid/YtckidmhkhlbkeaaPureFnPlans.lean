/- The law FnPlans's pure statement. -/
import Derived.Test.YtckidmhkhlbkeaaPAllFnPlans
import Derived.Test.YtckidmhkhlbkeaaMPx14
import Derived.Test.YtckidmhkhlbkeaaMPx6
import Derived.Test.YtckidmhkhlbkeaaMPx8
namespace Go.Proofs.Ytckidmhkhlbkeaa.Pure
open Go.RowKit Go.Proofs.Ytckidmhkhlbkeaa.MP Go.Proofs.YtckidmhkhlbkeaaW.PrintWords Go.Proofs.YtckidmhkhlbkeaaW.PrintLast
set_option linter.unusedVariables false
set_option linter.unusedSimpArgs false
theorem rTexts_ev (l : List ByteArray) (hm : l.length ≤ 1000000) : Ev (fun k => laws_rTexts.f k l l) true := by
 simp only [laws_rTexts.f]
 refine Ev.ite_pos trivial ?_
 refine loopV_ev (fun k i (_ : Unit) => laws_rTexts.l0 k l l i) l.length 0 (fun _ _ => True) true () trivial ?_ ?_
 ·rintro k i - - hi -
  refine .inl ⟨(), trivial, ?_⟩
  simp only [laws_rTexts.l0]
  rw [if_pos (by omega), if_pos (by omega), if_pos (by omega), if_pos trivial, wrap_up hi (by omega)]
 ·rintro k - - -
  simp only [laws_rTexts.l0]
  rw [if_neg (by omega)]
theorem rHasText_loop (l : List ByteArray) (t : ByteArray) (hm : l.length ≤ 1000000) : ∀ (d i : Nat), i + d = l.length → Ev (fun k => laws_rHasText.l0 k l t (i : Int)) ((l.drop i).any (fun x => decide (x.toList = t.toList))) := by
 intro d
 induction d with
 | zero =>
  intro i hi
  refine Ev.step (f := fun _ => some false) (fun k => ?_) (by rw [List.drop_of_length_le (by omega)]; exact Ev.now _)
  simp only [laws_rHasText.l0]
  rw [if_neg (by omega)]
 | succ d ih =>
  intro i hi
  have hil : i < l.length := by omega
  have hr : rdOf ByteArray.empty l (i : Int) = l[i] := by simp [rdOf, List.getD_eq_getElem?_getD, List.getElem?_eq_getElem hil]
  rw [List.drop_eq_getElem_cons hil, List.any_cons]
  refine Ev.step (fun k => by rw [laws_rHasText.l0]) ?_
  refine Ev.ite_pos (by omega) (Ev.ite_pos (by omega) ?_)
  rw [hr, wrap_up hil (by omega)]
  by_cases c : l[i].toList = t.toList
  ·rw [decide_eq_true c, Bool.true_or]
   exact Ev.ite_pos c (Ev.now _)
  ·rw [decide_eq_false c, Bool.false_or]
   exact Ev.ite_neg c (ih (i + 1) (by omega))
theorem rHasText_ev (l : List ByteArray) (t : ByteArray) (hm : l.length ≤ 1000000) : Ev (fun k => laws_rHasText.f k l t) (l.any (fun x => decide (x.toList = t.toList))) := by
 have := rHasText_loop l t hm l.length 0 (by omega)
 simpa [laws_rHasText.f] using this
theorem scan_found (l : List M13) (c r : Int) : ∀ (d s : Nat) (x : Int), scanScale l c r d s = (x, true) → ∃ n : Nat, x = (n : Int) ∧ s ≤ n ∧ n < s + d ∧ fitsAt l c r (n : Int) = true ∧ ∀ m : Nat, s ≤ m → m < n → fitsAt l c r (m : Int) = false
 | 0, s, x, h => by simp [scanScale] at h
 | d + 1, s, x, h => by
  simp only [scanScale] at h
  by_cases hf : fitsAt l c r (s : Int) = true
  ·rw [if_pos hf] at h
   exact ⟨s, (Prod.mk.inj h).1.symm, Nat.le_refl _, by omega, hf, fun m h1 h2 => by omega⟩
  ·rw [if_neg hf] at h
   obtain ⟨n, h1, h2, h3, h4, h5⟩ := scan_found l c r d (s + 1) x h
   refine ⟨n, h1, by omega, by omega, h4, fun m h6 h7 => ?_⟩
   by_cases hm : m = s
   ·subst hm; exact Bool.eq_false_iff.2 hf
   ·exact h5 m (by omega) h7
theorem scale_found {l : List M13} {c r x : Int} (h : scaleAns l c r = (x, true)) : (sizeAns l x).2.2 = true ∧ (sizeAns l x).1 ≤ c ∧ (sizeAns l x).2.1 ≤ r ∧ ¬ ((sizeAns l (wrap64 (x - 1))).2.2 = true ∧ (sizeAns l (wrap64 (x - 1))).1 ≤ c ∧ (sizeAns l (wrap64 (x - 1))).2.1 ≤ r) := by
 unfold scaleAns at h
 by_cases hc : okMarks l = true ∧ l.length ≠ 0 ∧ (1 ≤ c ∧ c ≤ 20) ∧ (1 ≤ r ∧ r ≤ 20)
 case neg => rw [if_neg hc] at h; simp at h
 rw [if_pos hc] at h
 obtain ⟨n, rfl, h1, h2, h3, h4⟩ := scan_found l c r 500 1 x h
 obtain ⟨ho, h0, hcc, hrr⟩ := hc
 have hw : wrap64 ((n : Int) - 1) = (n : Int) - 1 := wrap_id (by omega) (by omega)
 rw [hw]
 have hfit : ∀ m : Nat, 1 ≤ m → m ≤ 500 → mayFit l (m : Int) = true := fun m g1 g2 => by simp [mayFit, ho, h0]; omega
 simp only [fitsAt, Bool.and_eq_true, decide_eq_true_eq] at h3
 have e1 : (mayFit l (n : Int) && fits20 l (n : Int)) = true := by
  rw [hfit n h1 (by omega), Bool.true_and]
  simp only [fits20, Bool.and_eq_true, decide_eq_true_eq]
  omega
 have e2 : sizeAns l (n : Int) = ((bd l (n : Int) (l.length - 1)).2.1 - (bd l (n : Int) (l.length - 1)).1 + 1, (bd l (n : Int) (l.length - 1)).2.2.2 - (bd l (n : Int) (l.length - 1)).2.2.1 + 1, true) := by unfold sizeAns; rw [if_pos e1]
 rw [e2]
 refine ⟨rfl, by dsimp only; omega, by dsimp only; omega, ?_⟩
 rintro ⟨g1, g2, g3⟩
 unfold sizeAns at g1 g2 g3
 by_cases hk : (mayFit l ((n : Int) - 1) && fits20 l ((n : Int) - 1)) = true
 case neg => rw [if_neg hk] at g1; cases g1
 rw [if_pos hk] at g2 g3
 dsimp only at g2 g3
 rw [Bool.and_eq_true] at hk
 have hs := (mayFit_says hk.1).2.1
 have h5 := h4 (n - 1) (by omega) (by omega)
 rw [show ((n - 1 : Nat) : Int) = (n : Int) - 1 by omega] at h5
 simp only [fitsAt, Bool.and_eq_false_iff, decide_eq_false_iff_not] at h5
 omega
theorem plans_sq {l : List Int} (hb : Bytes l) : Ev (fun k => (spec_DrawSquareOf.f k l).bind fun bt412 => ((impl_SquareOf.f k bt412.1 bt412.2.1 bt412.2.2).bind fun bt417 => ((spec_SquareOf.f k bt412.1 bt412.2.1 bt412.2.2).bind fun bt420 => (if bt417.1 = bt420.1 then (if bt417.2.1 = bt420.2.1 then (some (bt417.2.2 == bt420.2.2)) else (some false)) else (some false))))) true := by
 obtain ⟨r, hd, hl⟩ := dr_squareOf hb
 refine Ev.bind hd (Ev.bind (implSquareOf_ev r.1 r.2.1 r.2.2 (by omega)) (Ev.bind (specSquareOf_ev r.1 r.2.1 r.2.2 (by omega)) (Ev.ite_pos rfl (Ev.ite_pos rfl ?_))))
 rw [beq_self_eq_true]
 exact Ev.now _
theorem plans_j5 {l0 : List Int} (hb : Bytes l0) (x3 : List M13) (x4 : Int) (x5 : ByteArray) (x6 : Bool) (x9 : Int) (x15 : List ByteArray) (x19 : Int) : Ev (fun k => laws_FnPlans.j5 k l0 x3 x4 x5 x6 x9 x15 x19 false) true := by
 refine Ev.step (fun k => by rw [laws_FnPlans.j5]) (Ev.ite_neg (by simp) ?_)
 obtain ⟨r, hd, hl⟩ := dr_smallest hb
 refine Ev.bind hd (Ev.bind (implScale_ev r.1 r.2.1 r.2.2 (by omega)) (Ev.bind (specScale_ev r.1 r.2.1 r.2.2 (by omega)) (Ev.ite_pos rfl ?_)))
 refine Ev.step (fun k => by rw [laws_FnPlans.j6]) (Ev.ite_neg (by simp) ?_)
 by_cases hk : (scaleAns r.1 r.2.1 r.2.2).2 = true
 ·refine Ev.ite_pos hk ?_
  obtain ⟨h1, h2, h3, h4⟩ := scale_found (l := r.1) (c := r.2.1) (r := r.2.2) (x := (scaleAns r.1 r.2.1 r.2.2).1) (by rw [← hk])
  refine Ev.bind (implSize_ev r.1 _ (by omega)) (Ev.ite_pos h1 (Ev.ite_neg (by omega) ?_))
  rw [decide_eq_false (show ¬ (sizeAns r.1 (scaleAns r.1 r.2.1 r.2.2).1).2.1 > r.2.2 by omega)]
  refine Ev.step (fun k => by rw [laws_FnPlans.j7]) (Ev.ite_neg (by simp) ?_)
  refine Ev.bind (implSize_ev r.1 _ (by omega)) ?_
  have h8 : Ev (fun k => laws_FnPlans.j8 k l0 false) true := Ev.step (fun k => by rw [laws_FnPlans.j8]) (Ev.ite_neg (by simp) (plans_sq hb))
  by_cases c1 : (sizeAns r.1 (wrap64 ((scaleAns r.1 r.2.1 r.2.2).1 - 1))).2.2 = true
  ·refine Ev.ite_pos c1 ?_
   by_cases c2 : (sizeAns r.1 (wrap64 ((scaleAns r.1 r.2.1 r.2.2).1 - 1))).1 ≤ r.2.1
   ·refine Ev.ite_pos c2 ?_
    rw [decide_eq_false (fun c3 => h4 ⟨c1, c2, c3⟩)]
    exact h8
   ·exact Ev.ite_neg c2 h8
  ·exact Ev.ite_neg c1 h8
 ·exact Ev.ite_neg hk (plans_sq hb)
/-- The marks, one after the other. -/
theorem plans_marks {l0 : List Int} (hb : Bytes l0) {l : List M13} {s : Int} (h : mayFit l s = true) (h2 : fits20 l s = true) : ∀ (d i : Nat), i + d = l.length → Ev (fun k => laws_FnPlans.l0 k l0 l s (pl_text (planOf l s)) true (sizeAns l s).1 (pl_hidden (planOf l s) l) (i : Int)) true := by
 obtain ⟨ho, hs, h0⟩ := mayFit_says h
 have h12 := okMarks_len ho
 have hand : (mayFit l s && fits20 l s) = true := by rw [h, h2]; rfl
 have hcols : (sizeAns l s).1 = (planOf l s).2.2.2.2.1 := by unfold sizeAns planOf; rw [if_pos hand]
 have hbd := bd_small ho hs (l.length - 1) (by omega)
 have h2' := h2
 simp only [fits20, Bool.and_eq_true, decide_eq_true_eq] at h2'
 intro d
 induction d with
 | zero =>
  intro i hi
  exact Ev.step (fun k => by rw [laws_FnPlans.l0]) (Ev.ite_neg (by omega) (plans_j5 hb _ _ _ _ _ _ _))
 | succ d ih =>
  intro i hi
  have hil : i < l.length := by omega
  have hmem : l.getD i z44 ∈ l := by rw [getD_lt _ _ _ hil]; exact List.getElem_mem hil
  refine Ev.step (fun k => by rw [laws_FnPlans.l0]) (Ev.ite_pos (by omega) ?_)
  refine Ev.step (fun k => by rw [laws_FnPlans.j5]) (Ev.ite_pos rfl (Ev.ite_pos (by omega) (Ev.ite_pos (by omega) ?_)))
  simp only [rdM]
  obtain ⟨m, hme⟩ : ∃ m, l.getD i z44 = m := ⟨_, rfl⟩
  have hfound : impl_SquareOf.at l m.f0 = (i : Int) := by rw [← hme]; exact let_found ho hil
  have hsize : m.f0.size = 1 := by rw [← hme]; exact let_size ho hil
  rw [hme] at hmem ⊢
  have hsq : squareAns l s m.f0 = (m.f1 / s - (bd l s (l.length - 1)).1, (bd l s (l.length - 1)).2.2.2 - m.f2 / s, true) := by
   unfold squareAns sqAns sqA
   rw [if_pos hand, hfound, if_neg (by omega), Int.toNat_natCast, hme]
  have hI := implSquareOf_ev l s m.f0 (by omega)
  rw [hsq] at hI
  have hq := bd_mem s hmem
  have hw1 : wrap64 ((sizeAns l s).1 + 1) = (sizeAns l s).1 + 1 := wrap_id (by rw [hcols]; simp only [planOf]; omega) (by rw [hcols]; simp only [planOf]; omega)
  obtain ⟨y, hy⟩ : ∃ y : Nat, (bd l s (l.length - 1)).2.2.2 - m.f2 / s = (y : Int) := ⟨((bd l s (l.length - 1)).2.2.2 - m.f2 / s).toNat, by omega⟩
  obtain ⟨x, hx⟩ : ∃ x : Nat, m.f1 / s - (bd l s (l.length - 1)).1 = (x : Int) := ⟨(m.f1 / s - (bd l s (l.length - 1)).1).toNat, by omega⟩
  have ec : (planOf l s).2.2.2.2.1 = (((planOf l s).2.2.2.2.1.toNat : Nat) : Int) := by simp only [planOf]; omega
  have er : (planOf l s).2.2.2.2.2 = (((planOf l s).2.2.2.2.2.toNat : Nat) : Int) := by simp only [planOf]; omega
  have hcb : (planOf l s).2.2.2.2.1.toNat ≤ 20 := by simp only [planOf]; omega
  have hyr : y < (planOf l s).2.2.2.2.2.toNat := by simp only [planOf]; omega
  have hyb : (planOf l s).2.2.2.2.2.toNat ≤ 20 := by simp only [planOf]; omega
  have hxc : x < (planOf l s).2.2.2.2.1.toNat := by simp only [planOf]; omega
  have hat := text_bt (planOf l s) y x hyr hxc
  have hidx0 : ∀ cc : Nat, (sizeAns l s).1 = (cc : Int) → cc ≤ 20 → x ≤ 20 → wrap64 (wrap64 ((y : Int) * ((sizeAns l s).1 + 1)) + (x : Int)) = ((y * (cc + 1) + x : Nat) : Int) := by
   intro cc hcc hc20 hx20
   rw [hcc]
   have e1 : (y : Int) * ((cc : Int) + 1) = ((y * (cc + 1) : Nat) : Int) := by rw [Int.natCast_mul, Int.natCast_add]; rfl
   have e2 : y * (cc + 1) ≤ 20 * 21 := Nat.mul_le_mul (by omega) (by omega)
   rw [e1, wrap_id (x := ((y * (cc + 1) : Nat) : Int)) (by omega) (by omega), wrap_id (by omega) (by omega)]
   omega
  have hidx := hidx0 (planOf l s).2.2.2.2.1.toNat (by rw [hcols]; exact ec) hcb (by omega)
  clear hidx0
  have hsz : y * ((planOf l s).2.2.2.2.1.toNat + 1) + x < (pl_text (planOf l s)).size := by
   rw [text_size]
   have : (y + 1) * ((planOf l s).2.2.2.2.1.toNat + 1) ≤ (planOf l s).2.2.2.2.2.toNat * ((planOf l s).2.2.2.2.1.toNat + 1) := Nat.mul_le_mul_right _ hyr
   rw [Nat.succ_mul] at this
   omega
  have hhas : (pl_hidden (planOf l s) l).any (fun t => decide (t.toList = m.f0.toList)) = pl_hides (planOf l s) m := by
   rw [Bool.eq_iff_iff, List.any_eq_true]
   constructor
   ·rintro ⟨t, ht, he⟩
    obtain ⟨m2, hm2, rfl⟩ := List.mem_map.1 ht
    obtain ⟨hm3, hh⟩ := List.mem_filter.1 hm2
    obtain ⟨j, hj, e⟩ := List.getElem_of_mem hm3
    have ej : l.getD j z44 = m2 := by rw [getD_lt _ _ _ hj, e]
    by_cases hji : j = i
    ·subst hji
     rw [← hme, ej]
     exact hh
    ·exfalso
     apply let_ne ho hj hil hji
     rw [ej, hme]
     exact of_decide_eq_true he
   ·intro hh
    exact ⟨m.f0, List.mem_map.2 ⟨m, List.mem_filter.2 ⟨hmem, hh⟩, rfl⟩, decide_eq_true rfl⟩
  refine Ev.bind hI (Ev.ite_pos rfl ?_)
  have hH := rHasText_ev (pl_hidden (planOf l s) l) m.f0 (by have := pl_hidden_len (planOf l s) l; omega)
  rw [hhas] at hH
  refine Ev.bind hH ?_
  dsimp only
  rw [hw1, hy, hx, hidx]
  refine Ev.ite_pos (by omega) (Ev.ite_pos (by omega) (Ev.ite_pos (by omega) ?_))
  rw [hat]
  have hhid : pl_hides (planOf l s) m = decide (pl_at (pl_X (planOf l s)) (pl_Y (planOf l s)) (planOf l s).1 y x ≠ bt m.f0 0) := by
   unfold pl_hides
   rw [plan_X h hmem, plan_Y h hmem, hx, hy, Int.toNat_natCast, Int.toNat_natCast]
  rw [hhid, wrap_up hil (by omega)]
  refine Ev.ite_neg ?_ (ih (i + 1) (by omega))
  by_cases hc : pl_at (pl_X (planOf l s)) (pl_Y (planOf l s)) (planOf l s).1 y x = bt m.f0 0 <;> simp [hc]
theorem FnPlans (l0 : List Int) (hm0 : l0.length ≤ 9223372036854775807) (hw0 : ∀ x ∈ l0, (Lit.int .u8 x).wf = true) : ∃ k, laws_FnPlans.f k l0 = some true := by
 have hb := bytes_of hw0
 apply Ev.rounds
 simp only [laws_FnPlans.f, laws_rBig.f, Option.bind_some]
 by_cases hbig : (l0.length : Int) > 65536
 ·exact Ev.ite_pos (decide_eq_true hbig) (Ev.now _)
 refine Ev.ite_neg (by simpa using hbig) ?_
 obtain ⟨⟨l, s⟩, hd, hl⟩ := dr_planText hb
 dsimp only at hl
 refine Ev.bind hd (Ev.bind (implPlanText_ev l s (by omega)) (Ev.bind (specPlanText_ev l s (by omega)) (Ev.ite_pos rfl ?_)))
 refine Ev.step (fun k => by rw [laws_FnPlans.j0]) (Ev.ite_neg (by simp) ?_)
 refine Ev.bind (implSize_ev l s (by omega)) (Ev.bind (specSize_ev l s (by omega)) (Ev.ite_pos rfl (Ev.ite_pos rfl (Ev.ite_neg (by simp) ?_))))
 have hok : (sizeAns l s).2.2 = (planTextAns l s).2 := by
  unfold sizeAns planTextAns
  by_cases c : (mayFit l s && fits20 l s) = true
  ·rw [if_pos c, if_pos c]
  ·rw [if_neg c, if_neg c]
 rw [hok]
 refine Ev.step (fun k => by rw [laws_FnPlans.j1]) (Ev.ite_neg (by simp) ?_)
 have hhl := hiddenAns_len l s
 refine Ev.bind (implHidden_ev l s (by omega)) (Ev.bind (specHidden_ev l s (by omega)) (Ev.ite_neg (by simp) (Ev.bind (rTexts_ev _ (by omega)) ?_)))
 refine Ev.step (fun k => by rw [laws_FnPlans.j2]) (Ev.ite_neg (by simp) ?_)
 by_cases c : (mayFit l s && fits20 l s) = true
 ·have hT : planTextAns l s = (pl_text (planOf l s), true) := by unfold planTextAns; rw [if_pos c]
  have hH : hiddenAns l s = (pl_hidden (planOf l s) l, true) := by unfold hiddenAns; rw [if_pos c]
  have hS : sizeAns l s = ((planOf l s).2.2.2.2.1, (planOf l s).2.2.2.2.2, true) := by unfold sizeAns planOf; rw [if_pos c]
  rw [hT, hH]
  rw [Bool.and_eq_true] at c
  obtain ⟨ho, hs, h0⟩ := mayFit_says c.1
  have hf := c.2
  simp only [fits20, Bool.and_eq_true, decide_eq_true_eq] at hf
  have hne : l ≠ [] := fun e => h0 (by simp [e])
  have hq := bd_mem s (List.head_mem hne)
  refine Ev.ite_pos rfl ?_
  have hsz : (((pl_text (planOf l s)).size : Int) != wrap64 (wrap64 ((sizeAns l s).1 + 1) * (sizeAns l s).2.1)) = false := by
   rw [bne_eq_false_iff_eq, text_size, hS]
   have ec : (planOf l s).2.2.2.2.1 = (((planOf l s).2.2.2.2.1.toNat : Nat) : Int) := by simp only [planOf]; omega
   have er : (planOf l s).2.2.2.2.2 = (((planOf l s).2.2.2.2.2.toNat : Nat) : Int) := by simp only [planOf]; omega
   have hcb : (planOf l s).2.2.2.2.1.toNat ≤ 20 := by simp only [planOf]; omega
   have hrb : (planOf l s).2.2.2.2.2.toNat ≤ 20 := by simp only [planOf]; omega
   generalize (planOf l s).2.2.2.2.1.toNat = cc at ec hcb ⊢
   generalize (planOf l s).2.2.2.2.2.toNat = rr at er hrb ⊢
   dsimp only
   rw [ec, er]
   have h1 : rr * (cc + 1) ≤ 20 * 21 := Nat.mul_le_mul hrb (by omega)
   rw [wrap_id (x := (cc : Int) + 1) (by omega) (by omega)]
   have e3 : ((cc : Int) + 1) * (rr : Int) = ((rr * (cc + 1) : Nat) : Int) := by rw [Int.natCast_mul, Int.natCast_add, Int.mul_comm]; rfl
   rw [e3, wrap_id (by omega) (by omega)]
  dsimp only
  rw [hsz]
  refine Ev.step (fun k => by rw [laws_FnPlans.j3]) (Ev.ite_neg (by simp) ?_)
  exact plans_marks hb c.1 c.2 l.length 0 (by omega)
 ·have hT : planTextAns l s = (⟨#[]⟩, false) := by unfold planTextAns; rw [if_neg c]
  rw [hT]
  refine Ev.ite_neg (by simp) ?_
  refine Ev.step (fun k => by rw [laws_FnPlans.j3]) (Ev.ite_neg (by simp) ?_)
  refine Ev.step (fun k => by rw [laws_FnPlans.l0]) ?_
  by_cases c2 : (0 : Int) < (l.length : Int)
  ·exact Ev.ite_pos c2 (plans_j5 hb _ _ _ _ _ _ _)
  ·exact Ev.ite_neg c2 (plans_j5 hb _ _ _ _ _ _ _)
end Go.Proofs.Ytckidmhkhlbkeaa.Pure
