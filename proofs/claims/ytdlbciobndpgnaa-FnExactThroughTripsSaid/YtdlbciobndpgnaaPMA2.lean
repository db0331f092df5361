/- The laws' own helpers over slices of pairs: compared, marked, and held against the marks. -/
import Derived.Test.YtdlbciobndpgnaaMTx7
import Derived.Test.YtdlbciobndpgnaaMTx6
import Derived.Test.YtdlbciobndpgnaaMTx5
import Derived.Test.YtdlbciobndpgnaaPBase
namespace Go.Proofs.Ytdlbciobndpgnaa.Pure
open Go.RowKit Go.Proofs.Ytdlbciobndpgnaa.MT Go.Proofs.YtdlbciobndpgnaaW.PrintWords Go.Proofs.YtdlbciobndpgnaaW.PrintLast Go.Proofs.YtdlbciobndpgnaaW.PrintMore
set_option linter.unusedVariables false
set_option linter.unusedSimpArgs false
def marksA2 : Nat → Int → List S55
  | 0, _ => []
  | d + 1, c => ⟨c, c + 1⟩ :: marksA2 d (c + 2)
theorem marksA2_length : ∀ (d : Nat) (c : Int), (marksA2 d c).length = d
  | 0, _ => rfl
  | d + 1, c => by simp [marksA2, marksA2_length d]
theorem markA2_go : ∀ (d i : Nat) (l : List S55) (c : Int), i + d = l.length → 0 ≤ c → c + 2 * (d : Int) ≤ 1099511627776 → laws_markIntA2S.go d i l c = (c + 2 * (d : Int), l.take i ++ marksA2 d c) := by
  intro d
  induction d with
  | zero =>
    intro i l c hi h0 h1
    simp only [laws_markIntA2S.go, marksA2, List.append_nil]
    rw [List.take_of_length_le (by omega)]
    simp
  | succ d ih =>
    intro i l c hi h0 h1
    have e1 : wrap64 (c + 1) = c + 1 := by unfold wrap64; omega
    have e2 : wrap64 (c + 1 + 1) = c + 2 := by unfold wrap64; omega
    simp only [laws_markIntA2S.go, e1, e2]
    rw [ih (i + 1) (l.set i ⟨c, c + 1⟩) (c + 2) (by simp; omega) (by omega) (by omega), set_take _ _ _ (by omega)]
    simp only [marksA2, List.append_assoc, List.singleton_append, Prod.mk.injEq, and_true]
    omega
theorem heldA2_go : ∀ (d i : Nat) (l : List S55) (c : Int), i + d = l.length → l.drop i = marksA2 d c → 0 ≤ c → c + 2 * (d : Int) ≤ 1099511627776 → laws_heldIntA2S.go d i l c = c + 2 * (d : Int) := by
  intro d
  induction d with
  | zero =>
    intro i l c hi hd h0 h1
    simp [laws_heldIntA2S.go]
  | succ d ih =>
    intro i l c hi hd h0 h1
    have e1 : wrap64 (c + 1) = c + 1 := by unfold wrap64; omega
    have e2 : wrap64 (c + 1 + 1) = c + 2 := by unfold wrap64; omega
    have hil : i < l.length := by omega
    rw [List.drop_eq_getElem_cons hil] at hd
    simp only [marksA2, List.cons.injEq] at hd
    have hg : l.getD i z55 = ⟨c, c + 1⟩ := by rw [List.getD_eq_getElem?_getD, List.getElem?_eq_getElem hil, Option.getD_some, hd.1]
    simp only [laws_heldIntA2S.go, hg, e1, e2, and_self, if_true]
    rw [ih (i + 1) l (c + 2) (by omega) hd.2 (by omega) (by omega)]
    omega
theorem markIntA2S_held (a : List S55) (h : a.length ≤ 1000000) : ∃ (m : Int) (a' : List S55), Ev (fun k => laws_markIntA2S.f a 1) (m, a') ∧ Ev (fun k => laws_heldIntA2S.f a' 1) m ∧ 0 ≤ m := by
  refine ⟨1 + 2 * (a.length : Int), marksA2 a.length 1, ?_, ?_, by omega⟩
  · have h1 := markA2_go a.length 0 a 1 (by omega) (by omega) (by omega)
    rw [List.take_zero, List.nil_append] at h1
    rw [show laws_markIntA2S.f a 1 = some (1 + 2 * (a.length : Int), marksA2 a.length 1) from by unfold laws_markIntA2S.f; rw [if_pos (by omega), h1]]
    exact Ev.now _
  · have h1 := heldA2_go a.length 0 (marksA2 a.length 1) 1 (by rw [marksA2_length]; omega) (by rw [List.drop_zero]) (by omega) (by omega)
    rw [show laws_heldIntA2S.f (marksA2 a.length 1) 1 = some (1 + 2 * (a.length : Int)) from by unfold laws_heldIntA2S.f; rw [marksA2_length, if_pos (by omega), h1]]
    exact Ev.now _
theorem eqIntA2S_refl (a : List S55) (h : a.length ≤ 1000000) : Ev (fun k => laws_eqIntA2S.f k a a) true := by
  have key : ∀ d i, i + d = a.length → Ev (fun k => laws_eqIntA2S.l0 k a a (i : Int)) true := by
    intro d
    induction d with
    | zero =>
      intro i hi
      refine Ev.step (f := fun _ => some true) (fun k => ?_) (Ev.now _)
      simp only [laws_eqIntA2S.l0]
      rw [if_neg (by omega)]
    | succ d ih =>
      intro i hi
      have hwr : wrap64 ((i : Int) + 1) = ((i + 1 : Nat) : Int) := by unfold wrap64; omega
      refine Ev.step (f := fun k => laws_eqIntA2S.l0 k a a ((i + 1 : Nat) : Int)) (fun k => ?_) (ih (i + 1) (by omega))
      simp only [laws_eqIntA2S.l0, hwr, laws_eqIntA2.f, and_self, decide_true, Option.bind_some, if_true]
      rw [if_pos (by omega), if_pos (by omega), if_pos (by omega)]
  simp only [laws_eqIntA2S.f]
  exact Ev.ite_pos trivial (key a.length 0 (by omega))
end Go.Proofs.Ytdlbciobndpgnaa.Pure
