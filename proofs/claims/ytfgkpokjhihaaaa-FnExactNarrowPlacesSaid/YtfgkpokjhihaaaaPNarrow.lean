/- Narrow places: the program's and the reference's answer. -/
import Derived.Test.YtfgkpokjhihaaaaMNx3
import Derived.Test.YtfgkpokjhihaaaaMNx4
import Derived.Test.YtfgkpokjhihaaaaMNx6
import Derived.Test.YtfgkpokjhihaaaaPReached
import Derived.Test.YtfgkpokjhihaaaaPAsked
namespace Go.Proofs.Ytfgkpokjhihaaaa.Pure
open Go.RowKit Go.Proofs.Ytfgkpokjhihaaaa.MN Go.Proofs.YtfgkpokjhihaaaaW.PrintWords Go.Proofs.YtfgkpokjhihaaaaW.PrintLast Go.Proofs.YtfgkpokjhihaaaaW.PrintMore
set_option linter.unusedVariables false
set_option linter.unusedSimpArgs false
theorem reach_has {l : List S66} (ws : List Int) (hl : okLegs l = true) {a b : Int} (ha : 0 ≤ a ∧ a ≤ 7) (hb : 0 ≤ b ∧ b ≤ 7) (width : Int) : (reachOf l ws a width).getD b.toNat false = decide (b ∈ stationsOf l ws a width) := by
  rw [reachOf_arr ws hl (by omega), arrL_get (by omega)]
theorem specGreatest_ev {l : List S66} {ws : List Int} (hl : okLegs l = true) (hw : l.length ≤ ws.length) (hm : ws.length ≤ 1048576) {a b : Int} (ha : 0 ≤ a ∧ a ≤ 7) (hb : 0 ≤ b ∧ b ≤ 7) : Ev (fun k => spec_l15Greatest.f k l ws a b) (greatestDown l ws a b 201) := by
  have key : ∀ n : Nat, n ≤ 201 → Ev (fun k => spec_l15Greatest.l0 k l ws a b ((n : Int) - 1)) (greatestDown l ws a b n) := by
    intro n
    induction n with
    | zero =>
      intro _
      refine Ev.step (f := fun _ => some (-1)) (fun k => ?_) (Ev.now _)
      simp only [spec_l15Greatest.l0]
      rw [if_neg (by omega)]
    | succ n ih =>
      intro hn
      have hx : (((n + 1 : Nat) : Int) - 1) = (n : Int) := by omega
      have hwr : wrap64 ((n : Int) - 1) = (n : Int) - 1 := wrap_id (by omega) (by omega)
      rw [hx]
      have hg := (stationsOf_good ws hl (from_ := a) (by omega) (n : Int)).len
      refine Ev.step (f := fun k => (spec_l15Reach.f k l ws a (n : Int)).bind fun t => (spec_l1Has.f k t b).bind fun t2 => if t2 = true then some (n : Int) else spec_l15Greatest.l0 k l ws a b ((n : Int) - 1)) (fun k => ?_) (Ev.bind (specReach_ev hl hw hm (by omega) (n : Int)) (Ev.bind (l1Has_ev (by omega)) ?_))
      · simp only [spec_l15Greatest.l0, hwr]
        rw [if_pos (by omega)]
      · simp only [greatestDown, reach_has ws hl ha hb]
        by_cases h : decide (b ∈ stationsOf l ws a (n : Int)) = true
        · rw [if_pos h]
          exact Ev.ite_pos h (Ev.now _)
        · rw [if_neg h]
          exact Ev.ite_neg h (ih (by omega))
  simp only [spec_l15Greatest.f]
  exact key 201 (by omega)
theorem implGreatest_eq {l : List S66} {ws : List Int} (hl : okLegs l = true) (hw : l.length ≤ ws.length) {a b : Int} (ha : 0 ≤ a ∧ a ≤ 7) (hb : 0 ≤ b ∧ b ≤ 7) : impl_greatest.f l ws a b = some (greatestDown l ws a b 201) := by
  unfold impl_greatest.f
  rw [if_pos ⟨reachOk_of hl hw (by omega), hb.1, hb.2⟩]
theorem greatestDown_ge (l : List S66) (ws : List Int) (a b : Int) : ∀ n, -1 ≤ greatestDown l ws a b n
  | 0 => by simp [greatestDown]
  | n + 1 => by
    simp only [greatestDown]
    split
    · omega
    · exact greatestDown_ge l ws a b n
theorem okLegs_less {l : List S66} (h : okLegs l = true) (i : Nat) : okLegs (l.eraseIdx i) = true := by
  simp only [okLegs, Bool.and_eq_true, List.all_eq_true, decide_eq_true_eq] at h ⊢
  exact ⟨fun x hx => h.1 x (List.mem_of_mem_eraseIdx hx), Nat.le_trans (List.length_eraseIdx_le l i) h.2⟩
def narrowAt (l : List S66) (ws : List Int) (a b m : Int) (i : Nat) : Bool := decide (ws.getD i 0 = m) && decide (greatestDown (l.eraseIdx i) (ws.eraseIdx i) a b 201 < m)
def narrowFrom (l : List S66) (ws : List Int) (a b m : Int) : Nat → Nat → List Int
  | 0, _ => []
  | d + 1, i => if narrowAt l ws a b m i = true then (i : Int) :: narrowFrom l ws a b m d (i + 1) else narrowFrom l ws a b m d (i + 1)
theorem narrowFrom_len (l : List S66) (ws : List Int) (a b m : Int) : ∀ d i, (narrowFrom l ws a b m d i).length ≤ d
  | 0, _ => by simp [narrowFrom]
  | d + 1, i => by
    have := narrowFrom_len l ws a b m d (i + 1)
    simp only [narrowFrom]
    split
    · simp only [List.length_cons]
      omega
    · omega
def narrowAns (l : List S66) (ws : List Int) (a b : Int) : List Int × Bool := if okAsked l ws a b = true ∧ greatestDown l ws a b 201 ≠ -1 then (narrowFrom l ws a b (greatestDown l ws a b 201) l.length 0, true) else ([], false)
theorem narrowAns_len (l : List S66) (ws : List Int) (a b : Int) : (narrowAns l ws a b).1.length ≤ 12 := by
  unfold narrowAns
  split
  · rename_i h
    have := okLegs_len (okWidths_legs (okAsked_says h.1).1)
    have := narrowFrom_len l ws a b (greatestDown l ws a b 201) l.length 0
    simp only
    omega
  · simp
theorem l10Less_eq {l : List S66} (h12 : l.length ≤ 12) {i : Nat} (hi : i < l.length) : spec_l10Less.f l (i : Int) = some (l.eraseIdx i) := by
  have hwi : wrap64 ((i : Int) + 1) = ((i + 1 : Nat) : Int) := by unfold wrap64; omega
  simp only [spec_l10Less.f, Option.bind_some, hwi, Int.toNat_natCast, List.nil_append, List.length_nil]
  have h1 : (l.take i).length ≤ 12 := by rw [List.length_take]; omega
  have h2 : (l.drop (i + 1)).length ≤ 12 := by rw [List.length_drop]; omega
  rw [if_pos (by omega), if_pos (by omega), if_pos (by omega), if_pos (by omega), if_pos (by omega), if_pos (by omega), List.eraseIdx_eq_take_drop_succ]
theorem rd_at' (e : List Int) (i : Nat) : rd e (i : Int) = e.getD i 0 := by simp [rd]
theorem specNarrow_loop {l : List S66} {ws : List Int} (hl : okLegs l = true) (hw : ws.length = l.length) {a b : Int} (ha : 0 ≤ a ∧ a ≤ 7) (hb : 0 ≤ b ∧ b ≤ 7) (m : Int) : ∀ d i (out : List Int), i + d = l.length → out.length ≤ i →
    Ev (fun k => spec_NarrowPlaces.l0 k l ws a b out m (i : Int)) (out ++ narrowFrom l ws a b m d i, true) := by
  have h12 := okLegs_len hl
  intro d
  induction d with
  | zero =>
    intro i out hi _
    simp only [narrowFrom, List.append_nil]
    refine Ev.step (f := fun _ => some (out, true)) (fun k => ?_) (Ev.now _)
    simp only [spec_NarrowPlaces.l0]
    rw [if_neg (by omega)]
  | succ d ih =>
    intro i out hi ho
    have hwi : wrap64 ((i : Int) + 1) = ((i + 1 : Nat) : Int) := by unfold wrap64; omega
    have hil : i < l.length := by omega
    have h1 : (ws.take i).length ≤ 12 := by rw [List.length_take]; omega
    have h2 : (ws.drop (i + 1)).length ≤ 12 := by rw [List.length_drop]; omega
    have hcons : ws.take i ++ ws.drop (i + 1) = ws.eraseIdx i := by rw [List.eraseIdx_eq_take_drop_succ]
    have hG := specGreatest_ev (okLegs_less hl i) (ws := ws.eraseIdx i) (by rw [List.length_eraseIdx_of_lt hil, List.length_eraseIdx_of_lt (by omega)]; omega) (by have := List.length_eraseIdx_le ws i; omega) ha hb
    by_cases c1 : ws.getD i 0 = m
    · by_cases c2 : greatestDown (l.eraseIdx i) (ws.eraseIdx i) a b 201 < m
      · have hn := ih (i + 1) (out ++ [(i : Int)]) (by omega) (by simp; omega)
        rw [List.append_assoc] at hn
        simp only [narrowFrom, narrowAt, c1, c2, decide_true, Bool.and_self, if_true]
        refine Ev.step (f := fun k => (spec_l15Greatest.f k (l.eraseIdx i) (ws.eraseIdx i) a b).bind fun t => if t < m then spec_NarrowPlaces.l0 k l ws a b (out ++ [(i : Int)]) m ((i + 1 : Nat) : Int) else spec_NarrowPlaces.l0 k l ws a b out m ((i + 1 : Nat) : Int)) (fun k => ?_) (Ev.bind hG (Ev.ite_pos c2 hn))
        simp only [spec_NarrowPlaces.l0, Option.bind_some, hwi, Int.toNat_natCast, List.nil_append, List.length_nil, rd_at', l10Less_eq h12 hil, hcons]
        rw [if_pos (by omega), if_pos (by omega), if_pos (by omega), if_pos (by omega), if_pos (by omega), if_pos (by omega), if_pos (by omega), if_pos (by omega), if_pos c1]
        refine congrArg _ (funext fun t => ?_)
        split
        · rw [if_pos (by omega)]
        · rfl
      · have hn := ih (i + 1) out (by omega) (by omega)
        simp only [narrowFrom, narrowAt, c1, c2, decide_true, decide_false, Bool.true_and, Bool.false_eq_true, if_false]
        refine Ev.step (f := fun k => (spec_l15Greatest.f k (l.eraseIdx i) (ws.eraseIdx i) a b).bind fun t => if t < m then spec_NarrowPlaces.l0 k l ws a b (out ++ [(i : Int)]) m ((i + 1 : Nat) : Int) else spec_NarrowPlaces.l0 k l ws a b out m ((i + 1 : Nat) : Int)) (fun k => ?_) (Ev.bind hG (Ev.ite_neg c2 hn))
        simp only [spec_NarrowPlaces.l0, Option.bind_some, hwi, Int.toNat_natCast, List.nil_append, List.length_nil, rd_at', l10Less_eq h12 hil, hcons]
        rw [if_pos (by omega), if_pos (by omega), if_pos (by omega), if_pos (by omega), if_pos (by omega), if_pos (by omega), if_pos (by omega), if_pos (by omega), if_pos c1]
        refine congrArg _ (funext fun t => ?_)
        split
        · rw [if_pos (by omega)]
        · rfl
    · have hn := ih (i + 1) out (by omega) (by omega)
      simp only [narrowFrom, narrowAt, c1, decide_false, Bool.false_and, Bool.false_eq_true, if_false]
      refine Ev.step (fun k => ?_) hn
      simp only [spec_NarrowPlaces.l0, Option.bind_some, hwi, Int.toNat_natCast, List.nil_append, List.length_nil, rd_at', l10Less_eq h12 hil, hcons]
      rw [if_pos (by omega), if_pos (by omega), if_pos (by omega), if_pos (by omega), if_pos (by omega), if_pos (by omega), if_pos (by omega), if_pos (by omega), if_neg c1]
theorem implNarrow_loop {l : List S66} {ws : List Int} (hl : okLegs l = true) (hw : ws.length = l.length) {a b : Int} (ha : 0 ≤ a ∧ a ≤ 7) (hb : 0 ≤ b ∧ b ≤ 7) (m : Int) : ∀ d i (out : List Int), i + d = l.length → out.length ≤ i →
    Ev (fun k => impl_NarrowPlaces.l0 k l ws a b m out (l.length : Int) (i : Int)) (out ++ narrowFrom l ws a b m d i, true) := by
  have h12 := okLegs_len hl
  intro d
  induction d with
  | zero =>
    intro i out hi _
    simp only [narrowFrom, List.append_nil]
    refine Ev.step (f := fun _ => some (out, true)) (fun k => ?_) (Ev.now _)
    simp only [impl_NarrowPlaces.l0]
    rw [if_neg (by omega)]
  | succ d ih =>
    intro i out hi ho
    have hwi : wrap64 ((i : Int) + 1) = ((i + 1 : Nat) : Int) := by unfold wrap64; omega
    have hil : i < l.length := by omega
    have hG := implGreatest_eq (okLegs_less hl i) (ws := ws.eraseIdx i) (by rw [List.length_eraseIdx_of_lt hil, List.length_eraseIdx_of_lt (by omega)]; omega) ha hb
    have hC : slices_Clone_int_int.f ws = some ws := by unfold slices_Clone_int_int.f; rw [if_pos (by omega)]
    have hD : slices_Delete_int_int.f ws (i : Int) ((i + 1 : Nat) : Int) = some (ws.eraseIdx i) := by
      unfold slices_Delete_int_int.f
      rw [if_pos ⟨by omega, by omega, by omega⟩, Int.toNat_natCast]
    have hL : impl_leaving.f l (i : Int) = some (l.eraseIdx i) := by
      unfold impl_leaving.f impl_Leg_91.f impl_Leg_90.f
      rw [if_pos (by omega)]
      simp only [Option.bind_some, hwi]
      rw [if_pos ⟨by omega, by omega, by omega⟩, Int.toNat_natCast]
      rfl
    by_cases c1 : ws.getD i 0 = m
    · by_cases c2 : greatestDown (l.eraseIdx i) (ws.eraseIdx i) a b 201 < m
      · have hn := ih (i + 1) (out ++ [(i : Int)]) (by omega) (by simp; omega)
        rw [List.append_assoc] at hn
        simp only [narrowFrom, narrowAt, c1, c2, decide_true, Bool.and_self, if_true]
        refine Ev.step (fun k => ?_) hn
        simp only [impl_NarrowPlaces.l0, Option.bind_some, hwi, rd_at', hC, hD, hL, hG]
        rw [if_pos (by omega), if_pos (by omega), if_pos (by omega), if_pos c1, if_pos c2, if_pos (by omega)]
      · have hn := ih (i + 1) out (by omega) (by omega)
        simp only [narrowFrom, narrowAt, c1, c2, decide_true, decide_false, Bool.true_and, Bool.false_eq_true, if_false]
        refine Ev.step (fun k => ?_) hn
        simp only [impl_NarrowPlaces.l0, Option.bind_some, hwi, rd_at', hC, hD, hL, hG]
        rw [if_pos (by omega), if_pos (by omega), if_pos (by omega), if_pos c1, if_neg c2]
    · have hn := ih (i + 1) out (by omega) (by omega)
      simp only [narrowFrom, narrowAt, c1, decide_false, Bool.false_and, Bool.false_eq_true, if_false]
      refine Ev.step (fun k => ?_) hn
      simp only [impl_NarrowPlaces.l0, Option.bind_some, hwi, rd_at', hC, hD, hL, hG]
      rw [if_pos (by omega), if_pos (by omega), if_pos (by omega), if_neg c1]
theorem specNarrow_ev (l : List S66) (ws : List Int) (a b : Int) (hm : l.length ≤ 9223372036854775807) (hw : ws.length ≤ 9223372036854775807) : Ev (fun k => spec_NarrowPlaces.f k l ws a b) (narrowAns l ws a b) := by
  have hno : Ev (fun k => spec_NarrowPlaces.j0 k l ws a b [] true) ([], false) := Ev.step (f := fun _ => some ([], false)) (fun k => by rw [spec_NarrowPlaces.j0, if_pos rfl]) (Ev.now _)
  simp only [spec_NarrowPlaces.f, Option.bind_some]
  refine Ev.bind (l15Asked_ev l ws a b hm hw) ?_
  by_cases h : okAsked l ws a b = true
  · have hs := okAsked_says h
    have hn := okWidths_len hs.1
    have hl := okWidths_legs hs.1
    have h12 := okLegs_len hl
    have hG := specGreatest_ev hl (ws := ws) (by omega) (by omega) hs.2.1 hs.2.2
    have hge := greatestDown_ge l ws a b 201
    refine Ev.ite_pos h (Ev.bind hG ?_)
    by_cases h2 : greatestDown l ws a b 201 = -1
    · rw [show narrowAns l ws a b = ([], false) from if_neg (fun hh => hh.2 h2), show decide (greatestDown l ws a b 201 < 0) = true from decide_eq_true (by omega)]
      exact hno
    · rw [show narrowAns l ws a b = _ from if_pos ⟨h, h2⟩, show decide (greatestDown l ws a b 201 < 0) = false from decide_eq_false (by omega)]
      have := specNarrow_loop hl hn hs.2.1 hs.2.2 (greatestDown l ws a b 201) l.length 0 [] (by omega) (by simp)
      rw [List.nil_append] at this
      exact Ev.step (f := fun k => (spec_l15Greatest.f k l ws a b).bind fun t => spec_NarrowPlaces.l0 k l ws a b [] t 0) (fun k => by rw [spec_NarrowPlaces.j0, if_neg (by decide)]) (Ev.bind hG this)
  · rw [show narrowAns l ws a b = ([], false) from if_neg (fun hh => h hh.1)]
    exact Ev.ite_neg h hno
theorem implNarrow_ev (l : List S66) (ws : List Int) (a b : Int) (hm : l.length ≤ 9223372036854775807) : Ev (fun k => impl_NarrowPlaces.f k l ws a b) (narrowAns l ws a b) := by
  simp only [impl_NarrowPlaces.f]
  refine Ev.bind (areEnds_ev l ws a b hm) ?_
  by_cases h : okAsked l ws a b = true
  · have hs := okAsked_says h
    have hn := okWidths_len hs.1
    have hl := okWidths_legs hs.1
    have h12 := okLegs_len hl
    refine Ev.ite_pos h (Ev.bindc (implGreatest_eq hl (ws := ws) (by omega) hs.2.1 hs.2.2) ?_)
    by_cases h2 : greatestDown l ws a b 201 = -1
    · rw [show narrowAns l ws a b = ([], false) from if_neg (fun hh => hh.2 h2)]
      exact Ev.ite_pos h2 (Ev.now _)
    · rw [show narrowAns l ws a b = _ from if_pos ⟨h, h2⟩]
      have := implNarrow_loop hl hn hs.2.1 hs.2.2 (greatestDown l ws a b 201) l.length 0 [] (by omega) (by simp)
      rw [List.nil_append] at this
      exact Ev.ite_neg h2 this
  · rw [show narrowAns l ws a b = ([], false) from if_neg (fun hh => h hh.1)]
    exact Ev.ite_neg h (Ev.now _)
end Go.Proofs.Ytfgkpokjhihaaaa.Pure
