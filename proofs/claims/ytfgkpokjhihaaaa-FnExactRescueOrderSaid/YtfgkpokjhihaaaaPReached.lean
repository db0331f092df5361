/- What is reached: the reference's list. -/
import Derived.Test.YtfgkpokjhihaaaaMRx5
import Derived.Test.YtfgkpokjhihaaaaPReachB
import Derived.Test.YtfgkpokjhihaaaaPWidths
namespace Go.Proofs.Ytfgkpokjhihaaaa.Pure
open Go.RowKit Go.Proofs.Ytfgkpokjhihaaaa.MR Go.Proofs.YtfgkpokjhihaaaaW.PrintWords Go.Proofs.YtfgkpokjhihaaaaW.PrintLast Go.Proofs.YtfgkpokjhihaaaaW.PrintMore
set_option linter.unusedVariables false
set_option linter.unusedSimpArgs false
theorem specReach_inner {l : List S66} {ws : List Int} (hl : okLegs l = true) (hw : l.length ≤ ws.length) (hm : ws.length ≤ 1048576) (width : Int) (r : List Int) : ∀ d i (o : List Int) (fl : Bool), i + d = l.length → Good o →
  Ev (fun k => spec_l15Reach.l0 k l ws width (iter (passStep (wideEnough ws width) (fromOf l) (toOf l)) d i (o, fl)).1 (iter (passStep (wideEnough ws width) (fromOf l) (toOf l)) d i (o, fl)).2) r →
  Ev (fun k => spec_l15Reach.l1 k l ws width o fl (i : Int)) r := by
 intro d
 induction d with
 | zero =>
  intro i o fl hi hg h
  refine Ev.step (fun k => ?_) h
  simp only [spec_l15Reach.l1, iter]
  rw [if_neg (by omega)]
 | succ d ih =>
  intro i o fl hi hg h
  have hil : i < l.length := by omega
  have he := ends_in hl i hil
  have h8 := hg.len
  simp only [iter, passStep] at h
  have hnext := ih (i + 1) _ _ (by omega) (hg.fire (ok := wideEnough ws width i) he.1 he.2) h
  have hwr : wrap64 ((i : Int) + 1) = ((i + 1 : Nat) : Int) := by unfold wrap64; omega
  by_cases hlt : ws.getD i 0 < width
  ·have hok : wideEnough ws width i = false := decide_eq_false (by omega)
   have hf : fires (wideEnough ws width i) (fromOf l i) (toOf l i) o = false := by unfold fires; rw [hok]; rfl
   have hfi : fire (wideEnough ws width i) (fromOf l i) (toOf l i) o = o := by unfold fire; rw [hf]; exact if_neg (by decide)
   rw [hfi, hf, Bool.or_false] at hnext
   refine Ev.step (f := fun k => spec_l15Reach.j2 k l ws width o fl (i : Int) (fromOf l i) (toOf l i) true) (fun k => ?_) (Ev.step (fun k => ?_) hnext)
   ·simp only [spec_l15Reach.l1, rd_nat, rdL]
    rw [if_pos (by omega), if_pos (by omega), if_pos (by omega), if_pos hlt]
    rfl
   ·simp only [spec_l15Reach.j2, hwr, if_true]
  ·have hok : wideEnough ws width i = true := decide_eq_true (by omega)
   refine Ev.step (f := fun k => (spec_l1Has.f k o (fromOf l i)).bind fun t => (spec_l1Has.f k o (toOf l i)).bind fun t2 => spec_l15Reach.j2 k l ws width o fl (i : Int) (fromOf l i) (toOf l i) (t == t2)) (fun k => ?_) (Ev.bind (l1Has_ev (by omega)) (Ev.bind (l1Has_ev (by omega)) ?_))
   ·simp only [spec_l15Reach.l1, rd_nat, rdL]
    rw [if_pos (by omega), if_pos (by omega), if_pos (by omega), if_neg hlt]
    rfl
   ·cases hb : decide (fromOf l i ∈ o) == decide (toOf l i ∈ o) with
    | true =>
     have hf : fires (wideEnough ws width i) (fromOf l i) (toOf l i) o = false := by unfold fires; rw [hok, bne, hb]; rfl
     have hfi : fire (wideEnough ws width i) (fromOf l i) (toOf l i) o = o := by unfold fire; rw [hf]; exact if_neg (by decide)
     rw [hfi, hf, Bool.or_false] at hnext
     refine Ev.step (fun k => ?_) hnext
     simp only [spec_l15Reach.j2, hwr, if_true]
    | false =>
     have hf : fires (wideEnough ws width i) (fromOf l i) (toOf l i) o = true := by unfold fires; rw [hok, bne, hb]; rfl
     have hfi : fire (wideEnough ws width i) (fromOf l i) (toOf l i) o = insS (toOf l i) (insS (fromOf l i) o) := by unfold fire; rw [hf]; exact if_pos rfl
     rw [hfi, hf, Bool.or_true] at hnext
     refine Ev.step (f := fun k => (spec_l1Put.f k o (fromOf l i)).bind fun t => (spec_l1Put.f k t (toOf l i)).bind fun t2 => spec_l15Reach.l1 k l ws width t2 true ((i + 1 : Nat) : Int)) (fun k => ?_) (Ev.bind (l1Put_ev (by omega)) (Ev.bind (l1Put_ev ?_) hnext))
     ·simp only [spec_l15Reach.j2, hwr, Bool.false_eq_true, if_false]
     ·have hg1 : Good (insS (fromOf l i) o) := ⟨up_insS hg.1, fun z hz => by
       rcases mem_insS.1 hz with rfl | hz
       ·exact he.1
       ·exact hg.2 z hz⟩
      have := hg1.len
      omega
theorem specReach_outer {l : List S66} {ws : List Int} (hl : okLegs l = true) (hw : l.length ≤ ws.length) (hm : ws.length ≤ 1048576) (width : Int) : ∀ m (o : List Int), Good o → l.length ≤ m + cnt (wideEnough ws width) (fromOf l) (toOf l) o l.length →
  Ev (fun k => spec_l15Reach.l0 k l ws width o true) (passes (wideEnough ws width) (fromOf l) (toOf l) l.length m o) := by
 intro m
 induction m with
 | zero =>
  intro o hg hc
  obtain ⟨hp, hq⟩ := pass_flag (wideEnough ws width) (fromOf l) (toOf l) l.length o
  have hs : pass (wideEnough ws width) (fromOf l) (toOf l) l.length o = o := by
   rcases hq with hq | hq
   ·exact hq
   ·have := cnt_le (wideEnough ws width) (fromOf l) (toOf l) (pass (wideEnough ws width) (fromOf l) (toOf l) l.length o) l.length
    omega
  refine Ev.step (f := fun k => spec_l15Reach.l1 k l ws width o false ((0 : Nat) : Int)) (fun k => ?_) (specReach_inner hl hw hm width _ l.length 0 o false (by omega) hg ?_)
  ·simp only [spec_l15Reach.l0, if_true]
   rfl
  ·rw [hp, hs]
   simp only [ne_eq, not_true_eq_false, decide_false, passes]
   refine Ev.step (f := fun _ => some o) (fun k => ?_) (Ev.now _)
   simp only [spec_l15Reach.l0, Bool.false_eq_true, if_false]
 | succ m ih =>
  intro o hg hc
  obtain ⟨hp, hq⟩ := pass_flag (wideEnough ws width) (fromOf l) (toOf l) l.length o
  refine Ev.step (f := fun k => spec_l15Reach.l1 k l ws width o false ((0 : Nat) : Int)) (fun k => ?_) (specReach_inner hl hw hm width _ l.length 0 o false (by omega) hg ?_)
  ·simp only [spec_l15Reach.l0, if_true]
   rfl
  ·rw [hp]
   by_cases hs : pass (wideEnough ws width) (fromOf l) (toOf l) l.length o = o
   ·rw [hs, passes_still hs]
    simp only [ne_eq, not_true_eq_false, decide_false]
    refine Ev.step (f := fun _ => some o) (fun k => ?_) (Ev.now _)
    simp only [spec_l15Reach.l0, Bool.false_eq_true, if_false]
   ·simp only [ne_eq, hs, not_false_eq_true, decide_true, passes]
    refine ih _ ⟨pass_up hg.1, pass_in (P := fun z => 0 ≤ z ∧ z < 8) (ends_in hl) hg.2⟩ ?_
    rcases hq with hq | hq
    ·exact absurd hq hs
    ·omega
theorem specReach_ev {l : List S66} {ws : List Int} (hl : okLegs l = true) (hw : l.length ≤ ws.length) (hm : ws.length ≤ 1048576) {from_ : Int} (hf : 0 ≤ from_ ∧ from_ < 8) (width : Int) : Ev (fun k => spec_l15Reach.f k l ws from_ width) (stationsOf l ws from_ width) := by
 simp only [spec_l15Reach.f]
 exact specReach_outer hl hw hm width l.length [from_] (Good.one hf) (by omega)
end Go.Proofs.Ytfgkpokjhihaaaa.Pure
