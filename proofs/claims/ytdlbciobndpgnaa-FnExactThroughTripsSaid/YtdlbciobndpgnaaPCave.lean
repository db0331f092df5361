/- The cave of a station: the reference's list and the program's array. -/
import Derived.Test.YtdlbciobndpgnaaMTx3
import Derived.Test.YtdlbciobndpgnaaMTx5
import Derived.Test.YtdlbciobndpgnaaPReachB
namespace Go.Proofs.Ytdlbciobndpgnaa.Pure
open Go.RowKit Go.Proofs.Ytdlbciobndpgnaa.MT Go.Proofs.YtdlbciobndpgnaaW.PrintWords Go.Proofs.YtdlbciobndpgnaaW.PrintLast Go.Proofs.YtdlbciobndpgnaaW.PrintMore
set_option linter.unusedVariables false
set_option linter.unusedSimpArgs false
/-- Each leg is wide enough. -/
def noWidths (l : List S65) : List Int := List.replicate l.length 0
theorem wide_all (l : List S65) (i : Nat) : wideEnough (noWidths l) 0 i = true := by
  unfold wideEnough noWidths
  rw [List.getD_eq_getElem?_getD, List.getElem?_replicate]
  split <;> simp
theorem specCave_inner {l : List S65} (hl : okLegs l = true) (r : List Int) : ∀ d i (o : List Int) (fl : Bool), i + d = l.length → Good o →
    Ev (fun k => spec_l17Cave.l0 k l (-1) (iter (passStep (wideEnough (noWidths l) 0) (fromOf l) (toOf l)) d i (o, fl)).1 (iter (passStep (wideEnough (noWidths l) 0) (fromOf l) (toOf l)) d i (o, fl)).2) r →
    Ev (fun k => spec_l17Cave.l1 k l (-1) o fl (i : Int)) r := by
  have h12 := okLegs_len hl
  intro d
  induction d with
  | zero =>
    intro i o fl hi hg h
    refine Ev.step (fun k => ?_) h
    simp only [spec_l17Cave.l1, iter]
    rw [if_neg (by omega)]
  | succ d ih =>
    intro i o fl hi hg h
    have hil : i < l.length := by omega
    have he := ends_in hl i hil
    have h8 := hg.len
    have hok := wide_all l i
    simp only [iter, passStep] at h
    have hnext := ih (i + 1) _ _ (by omega) (hg.fire (ok := wideEnough (noWidths l) 0 i) he.1 he.2) h
    have hwr : wrap64 ((i : Int) + 1) = ((i + 1 : Nat) : Int) := by unfold wrap64; omega
    refine Ev.step (f := fun k => (spec_l1Has.f k o (fromOf l i)).bind fun t => (spec_l1Has.f k o (toOf l i)).bind fun t2 => spec_l17Cave.j2 k l (-1) o fl (i : Int) (fromOf l i) (toOf l i) (t == t2)) (fun k => ?_) (Ev.bind (l1Has_ev (by omega)) (Ev.bind (l1Has_ev (by omega)) ?_))
    · simp only [spec_l17Cave.l1, rdL]
      rw [if_pos (by omega), if_pos (by omega), if_neg (by have := he.1.1; unfold fromOf at this; omega), if_neg (by have := he.2.1; unfold toOf at this; omega)]
      rfl
    · cases hb : decide (fromOf l i ∈ o) == decide (toOf l i ∈ o) with
      | true =>
        have hf : fires (wideEnough (noWidths l) 0 i) (fromOf l i) (toOf l i) o = false := by unfold fires; rw [hok, bne, hb]; rfl
        have hfi : fire (wideEnough (noWidths l) 0 i) (fromOf l i) (toOf l i) o = o := by unfold fire; rw [hf]; exact if_neg (by decide)
        rw [hfi, hf, Bool.or_false] at hnext
        refine Ev.step (fun k => ?_) hnext
        simp only [spec_l17Cave.j2, hwr, if_true]
      | false =>
        have hf : fires (wideEnough (noWidths l) 0 i) (fromOf l i) (toOf l i) o = true := by unfold fires; rw [hok, bne, hb]; rfl
        have hfi : fire (wideEnough (noWidths l) 0 i) (fromOf l i) (toOf l i) o = insS (toOf l i) (insS (fromOf l i) o) := by unfold fire; rw [hf]; exact if_pos rfl
        rw [hfi, hf, Bool.or_true] at hnext
        refine Ev.step (f := fun k => (spec_l1Put.f k o (fromOf l i)).bind fun t => (spec_l1Put.f k t (toOf l i)).bind fun t2 => spec_l17Cave.l1 k l (-1) t2 true ((i + 1 : Nat) : Int)) (fun k => ?_) (Ev.bind (l1Put_ev (by omega)) (Ev.bind (l1Put_ev ?_) hnext))
        · simp only [spec_l17Cave.j2, hwr, Bool.false_eq_true, if_false]
        · have hg1 : Good (insS (fromOf l i) o) := ⟨up_insS hg.1, fun z hz => by
            rcases mem_insS.1 hz with rfl | hz
            · exact he.1
            · exact hg.2 z hz⟩
          have := hg1.len
          omega
theorem specCave_outer {l : List S65} (hl : okLegs l = true) : ∀ m (o : List Int), Good o → l.length ≤ m + cnt (wideEnough (noWidths l) 0) (fromOf l) (toOf l) o l.length →
    Ev (fun k => spec_l17Cave.l0 k l (-1) o true) (passes (wideEnough (noWidths l) 0) (fromOf l) (toOf l) l.length m o) := by
  intro m
  induction m with
  | zero =>
    intro o hg hc
    obtain ⟨hp, hq⟩ := pass_flag (wideEnough (noWidths l) 0) (fromOf l) (toOf l) l.length o
    have hs : pass (wideEnough (noWidths l) 0) (fromOf l) (toOf l) l.length o = o := by
      rcases hq with hq | hq
      · exact hq
      · have := cnt_le (wideEnough (noWidths l) 0) (fromOf l) (toOf l) (pass (wideEnough (noWidths l) 0) (fromOf l) (toOf l) l.length o) l.length
        omega
    refine Ev.step (f := fun k => spec_l17Cave.l1 k l (-1) o false ((0 : Nat) : Int)) (fun k => ?_) (specCave_inner hl _ l.length 0 o false (by omega) hg ?_)
    · simp only [spec_l17Cave.l0, if_true]
      rfl
    · rw [hp, hs]
      simp only [ne_eq, not_true_eq_false, decide_false, passes]
      refine Ev.step (f := fun _ => some o) (fun k => ?_) (Ev.now _)
      simp only [spec_l17Cave.l0, Bool.false_eq_true, if_false]
  | succ m ih =>
    intro o hg hc
    obtain ⟨hp, hq⟩ := pass_flag (wideEnough (noWidths l) 0) (fromOf l) (toOf l) l.length o
    refine Ev.step (f := fun k => spec_l17Cave.l1 k l (-1) o false ((0 : Nat) : Int)) (fun k => ?_) (specCave_inner hl _ l.length 0 o false (by omega) hg ?_)
    · simp only [spec_l17Cave.l0, if_true]
      rfl
    · rw [hp]
      by_cases hs : pass (wideEnough (noWidths l) 0) (fromOf l) (toOf l) l.length o = o
      · rw [hs, passes_still hs]
        simp only [ne_eq, not_true_eq_false, decide_false]
        refine Ev.step (f := fun _ => some o) (fun k => ?_) (Ev.now _)
        simp only [spec_l17Cave.l0, Bool.false_eq_true, if_false]
      · simp only [ne_eq, hs, not_false_eq_true, decide_true, passes]
        refine ih _ ⟨pass_up hg.1, pass_in (P := fun z => 0 ≤ z ∧ z < 8) (ends_in hl) hg.2⟩ ?_
        rcases hq with hq | hq
        · exact absurd hq hs
        · omega
/-- The stations of a cave. -/
def caveOf (l : List S65) (a : Int) : List Int := stationsOf l (noWidths l) a 0
theorem specCave_ev {l : List S65} (hl : okLegs l = true) {a : Int} (ha : 0 ≤ a ∧ a < 8) : Ev (fun k => spec_l17Cave.f k l a (-1)) (caveOf l a) := by
  simp only [spec_l17Cave.f]
  exact specCave_outer hl l.length [a] (Good.one ha) (by omega)
theorem caveOf_good {l : List S65} (hl : okLegs l = true) {a : Int} (ha : 0 ≤ a ∧ a < 8) : Good (caveOf l a) := stationsOf_good _ hl ha 0
theorem hangOf_arr {l : List S65} (hl : okLegs l = true) {a : Int} (ha : 0 ≤ a ∧ a < 8) : hangOf l a = arrL (caveOf l a) := reachOf_arr (noWidths l) hl ha 0
theorem hangOk_of {l : List S65} (hl : okLegs l = true) {a : Int} (ha : 0 ≤ a ∧ a < 8) : hangOk l a = true := by
  unfold hangOk
  rw [reachOk_of hl (by rw [List.length_replicate]; omega) ha, decide_eq_true (okLegs_len hl)]
  rfl
end Go.Proofs.Ytdlbciobndpgnaa.Pure
