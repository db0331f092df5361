/- Marks: what the program's and the reference's checks say. -/
import Derived.Test.YtckidmhkhlbkeaaMAx2
import Derived.Test.YtckidmhkhlbkeaaMAx4
import Derived.Test.YtckidmhkhlbkeaaPBase
import Derived.Laws.Strings
namespace Go.Proofs.Ytckidmhkhlbkeaa.Pure
open Go.RowKit Go.Proofs.Ytckidmhkhlbkeaa.MA Go.Proofs.YtckidmhkhlbkeaaW.PrintWords Go.Proofs.YtckidmhkhlbkeaaW.PrintLast Go.Proofs.YtckidmhkhlbkeaaW.PrintMore
set_option linter.unusedVariables false
set_option linter.unusedSimpArgs false
theorem rdM (l : List S44) (i : Nat) : rd_T44 l (i : Int) = l.getD i z44 := by simp [rd_T44]
def okLetter (s : ByteArray) : Bool := decide (s.size = 1) && decide (65 ≤ bt s 0 ∧ bt s 0 ≤ 90)
theorem l13Letter_eq (s : ByteArray) : spec_l13Letter.f s = some (okLetter s) := by
  simp only [spec_l13Letter.f, okLetter]
  by_cases h : s.size = 1
  · rw [if_pos (by omega), if_pos (by omega)]
    by_cases h1 : bt s 0 ≥ 65
    · rw [if_pos h1]
      simp [h, show 65 ≤ bt s 0 from h1]
    · rw [if_neg h1]
      simp [h, show ¬ 65 ≤ bt s 0 from h1]
  · rw [if_neg (by omega)]
    simp [h]
theorem one_letter {s : ByteArray} (h : s.size = 1) : ∃ b : UInt8, s.toList = [b] ∧ bt s 0 = (b.toNat : Int) := by
  have hd : s.data.toList.length = 1 := by rw [Array.length_toList]; exact h
  obtain ⟨b, hb⟩ := List.length_eq_one_iff.1 hd
  refine ⟨b, by rw [ByteArray.toList_eq]; exact hb, ?_⟩
  have h0 : (0 : Int).toNat < s.size := by simp; omega
  rw [← bt_at s 0 h0]
  congr 2
  have : s[(0 : Int).toNat] = s.data.toList[0]'(by omega) := by rfl
  rw [this]
  simp [hb]
/-- The program's test of a letter. -/
theorem letter_less {s : ByteArray} (h : s.size = 1) : (Op.bytesLess s.toList [65] = true ↔ bt s 0 < 65) ∧ (Op.bytesLess [90] s.toList = true ↔ 90 < bt s 0) := by
  obtain ⟨b, hb, e⟩ := one_letter h
  rw [hb, e]
  constructor
  · simp [Op.bytesLess, UInt8.lt_iff_toNat_lt]
    omega
  · simp [Op.bytesLess, UInt8.lt_iff_toNat_lt]
    omega
def okMark (x : S44) : Bool := okLetter x.f0 && (decide (-1000 ≤ x.f1 ∧ x.f1 ≤ 1000) && decide (-1000 ≤ x.f2 ∧ x.f2 ≤ 1000))
def markStep (l : List S44) (i : Nat) : Bool := okMark (l.getD i z44) && (decide (i = 0) || Op.bytesLess (l.getD (i - 1) z44).f0.toList (l.getD i z44).f0.toList)
def okMarks (l : List S44) : Bool := foldN (fun i (_ : Unit) => if markStep l i = true then Sum.inl () else Sum.inr false) (fun _ => decide (l.length ≤ 12)) l.length 0 ()
theorem wrap_down {i n : Nat} (h : i < n) (hn : n ≤ 9223372036854775807) (h0 : i ≠ 0) : wrap64 ((i : Int) - 1) = ((i - 1 : Nat) : Int) := by
  unfold wrap64
  omega
theorem l13Good_ev (l : List S44) (hm : l.length ≤ 9223372036854775807) : Ev (fun k => spec_l13Good.f k l) (okMarks l) := by
  refine loopT_ev (fun k i (_ : Unit) => spec_l13Good.l0 k l i) l.length 0 _ _ () ?_ ?_
  · rintro k i - - hi
    have hb : spec_l13Good.l0 (k + 1) l (i : Int) = if markStep l i = true then spec_l13Good.l0 k l ((i + 1 : Nat) : Int) else some false := by
      simp only [spec_l13Good.l0, rdM, l13Letter_eq, l1In_eq, Option.bind_some]
      rw [if_pos (by omega), if_pos (by omega), wrap_up hi hm]
      rw [show markStep l i = ((okLetter (l.getD i z44).f0 && (decide (-1000 ≤ (l.getD i z44).f1 ∧ (l.getD i z44).f1 ≤ 1000) && decide (-1000 ≤ (l.getD i z44).f2 ∧ (l.getD i z44).f2 ≤ 1000))) && (decide (i = 0) || Op.bytesLess (l.getD (i - 1) z44).f0.toList (l.getD i z44).f0.toList)) from rfl]
      cases okLetter (l.getD i z44).f0 with
      | false => simp
      | true =>
        cases decide (-1000 ≤ (l.getD i z44).f1 ∧ (l.getD i z44).f1 ≤ 1000) with
        | false => simp
        | true =>
          cases decide (-1000 ≤ (l.getD i z44).f2 ∧ (l.getD i z44).f2 ≤ 1000) with
          | false => simp
          | true =>
            by_cases h0 : i = 0
            · subst h0
              simp
            · rw [wrap_down hi hm h0, rdM]
              simp only [if_true, h0, decide_false, Bool.false_or, Bool.true_and]
              rw [if_pos (by omega), if_pos (by omega), if_pos (by omega)]
    rw [hb]
    cases hq : markStep l i with
    | true => exact .inl ⟨(), by simp only [if_true], by simp only [if_true]⟩
    | false => exact .inr ⟨false, by simp only [Bool.false_eq_true, if_false], by simp only [Bool.false_eq_true, if_false]⟩
  · rintro k - -
    simp only [spec_l13Good.l0]
    rw [if_neg (by omega)]
    simp only [Option.some.injEq, decide_eq_decide]
    omega
theorem areMarks_pre (l : List S44) {i : Nat} (hi : i < l.length) (k : Nat) : impl_AreMarks.l0 (k + 1) l l (l.length : Int) (i : Int) = impl_AreMarks.j1 k l (i : Int) l (l.length : Int) (i : Int) (!okMark (l.getD i z44)) (l.getD i z44).f0 (l.getD i z44).f1 (l.getD i z44).f2 := by
  simp only [impl_AreMarks.l0, rdM, within_eq, Option.bind_some]
  rw [if_pos (by omega), if_pos (by omega), if_pos (by omega)]
  unfold okMark okLetter
  by_cases h : (l.getD i z44).f0.size = 1
  · obtain ⟨hl, hg⟩ := letter_less h
    rw [if_pos (by omega), decide_eq_true h, Bool.true_and]
    by_cases h1 : bt (l.getD i z44).f0 0 < 65
    · rw [if_pos (hl.2 h1), decide_eq_false (show ¬ (65 ≤ bt (l.getD i z44).f0 0 ∧ bt (l.getD i z44).f0 0 ≤ 90) by omega)]
      rfl
    · rw [if_neg (fun hh => h1 (hl.1 hh))]
      by_cases h2 : 90 < bt (l.getD i z44).f0 0
      · rw [if_pos (hg.2 h2), decide_eq_false (show ¬ (65 ≤ bt (l.getD i z44).f0 0 ∧ bt (l.getD i z44).f0 0 ≤ 90) by omega)]
        rfl
      · rw [if_neg (fun hh => h2 (hg.1 hh)), decide_eq_true (show 65 ≤ bt (l.getD i z44).f0 0 ∧ bt (l.getD i z44).f0 0 ≤ 90 by omega), Bool.true_and]
        by_cases h3 : -1000 ≤ (l.getD i z44).f1 ∧ (l.getD i z44).f1 ≤ 1000
        · rw [if_pos (decide_eq_true h3), decide_eq_true h3, Bool.true_and]
        · rw [if_neg (by simpa using h3), decide_eq_false h3]
          rfl
  · rw [if_neg (by omega), decide_eq_false h]
    rfl
theorem areMarks_loop (l : List S44) (hm : l.length ≤ 9223372036854775807) : ∀ d i, i + d = l.length → Ev (fun k => impl_AreMarks.l0 k l l (l.length : Int) (i : Int)) (foldN (fun i (_ : Unit) => if markStep l i = true then Sum.inl () else Sum.inr false) (fun _ => decide (l.length ≤ 12)) d i ()) := by
  intro d
  induction d with
  | zero =>
    intro i hi
    refine Ev.step (f := fun _ => some (decide (l.length ≤ 12))) (fun k => ?_) (Ev.now _)
    simp only [impl_AreMarks.l0]
    rw [if_neg (by omega)]
    simp only [Option.some.injEq, decide_eq_decide]
    omega
  | succ d ih =>
    intro i hi
    have hil : i < l.length := by omega
    have hnext := ih (i + 1) (by omega)
    refine Ev.step (areMarks_pre l hil) ?_
    simp only [foldN]
    rw [show markStep l i = (okMark (l.getD i z44) && (decide (i = 0) || Op.bytesLess (l.getD (i - 1) z44).f0.toList (l.getD i z44).f0.toList)) from rfl]
    cases hk : okMark (l.getD i z44) with
    | false =>
      simp only [Bool.false_and, Bool.false_eq_true, if_false, Bool.not_false]
      exact Ev.step (f := fun _ => some false) (fun k => by simp only [impl_AreMarks.j1, if_true]) (Ev.now _)
    | true =>
      simp only [Bool.true_and, Bool.not_true]
      by_cases h0 : i = 0
      · subst h0
        simp only [decide_true, Bool.true_or, if_true]
        refine Ev.step (fun k => ?_) hnext
        simp only [impl_AreMarks.j1, Bool.false_eq_true, if_false]
        rw [if_neg (by omega), wrap_up hil hm]
      · rw [decide_eq_false h0, Bool.false_or]
        cases hb : Op.bytesLess (l.getD (i - 1) z44).f0.toList (l.getD i z44).f0.toList with
        | true =>
          simp only [if_true]
          refine Ev.step (fun k => ?_) hnext
          simp only [impl_AreMarks.j1, Bool.false_eq_true, if_false, wrap_down hil hm h0, rdM, hb, if_true]
          rw [if_pos (by omega), if_pos (by omega), if_pos (by omega), wrap_up hil hm]
        | false =>
          simp only [Bool.false_eq_true, if_false]
          refine Ev.step (f := fun _ => some false) (fun k => ?_) (Ev.now _)
          simp only [impl_AreMarks.j1, Bool.false_eq_true, if_false, wrap_down hil hm h0, rdM, hb]
          rw [if_pos (by omega), if_pos (by omega), if_pos (by omega)]
theorem areMarks_ev (l : List S44) (hm : l.length ≤ 9223372036854775807) : Ev (fun k => impl_AreMarks.f k l) (okMarks l) := areMarks_loop l hm l.length 0 (by omega)
theorem okMarks_says (l : List S44) : ∀ d i, i + d = l.length → foldN (fun i (_ : Unit) => if markStep l i = true then Sum.inl () else Sum.inr false) (fun _ => decide (l.length ≤ 12)) d i () = true → l.length ≤ 12 ∧ ∀ j, i ≤ j → j < l.length → okMark (l.getD j z44) = true := by
  intro d
  induction d with
  | zero =>
    intro i hi h
    simp only [foldN, decide_eq_true_eq] at h
    exact ⟨h, fun j h1 h2 => by omega⟩
  | succ d ih =>
    intro i hi h
    simp only [foldN] at h
    cases hk : markStep l i with
    | false => rw [hk] at h; simp at h
    | true =>
      rw [hk] at h
      obtain ⟨h1, h2⟩ := ih (i + 1) (by omega) (by simpa using h)
      refine ⟨h1, fun j h3 h4 => ?_⟩
      by_cases hj : j = i
      · subst hj
        unfold markStep at hk
        rw [Bool.and_eq_true] at hk
        exact hk.1
      · exact h2 j (by omega) h4
theorem okMarks_len {l : List S44} (h : okMarks l = true) : l.length ≤ 12 := (okMarks_says l l.length 0 (by omega) h).1
theorem okMarks_at {l : List S44} (h : okMarks l = true) {i : Nat} (hi : i < l.length) : -1000 ≤ (l.getD i z44).f1 ∧ (l.getD i z44).f1 ≤ 1000 ∧ -1000 ≤ (l.getD i z44).f2 ∧ (l.getD i z44).f2 ≤ 1000 := by
  have := (okMarks_says l l.length 0 (by omega) h).2 i (by omega) hi
  simp only [okMark, Bool.and_eq_true, decide_eq_true_eq] at this
  exact ⟨this.2.1.1, this.2.1.2, this.2.2.1, this.2.2.2⟩
end Go.Proofs.Ytckidmhkhlbkeaa.Pure
