/- The laws' own helpers over rows of rows: compared, marked, and held against the marks. -/
import Derived.Test.YtppekffbjfjhfaaMQx4
import Derived.Test.YtppekffbjfjhfaaPMInts
import Derived.Test.YtppekffbjfjhfaaPEqInts
namespace Go.Proofs.Ytppekffbjfjhfaa.Pure
open Go.RowKit Go.Proofs.Ytppekffbjfjhfaa.MQ Go.Proofs.YtppekffbjfjhfaaW.PrintWords Go.Proofs.YtppekffbjfjhfaaW.PrintLast Go.Proofs.YtppekffbjfjhfaaW.PrintMore
set_option linter.unusedVariables false
set_option linter.unusedSimpArgs false
theorem rdSS (l : List (List Int)) (i : Nat) (h : i < l.length) : rd_L3 l (i : Int) = l[i] := by simp [rd_L3, List.getD_eq_getElem?_getD, List.getElem?_eq_getElem h]
def sizeSS : List (List Int) → Nat
  | [] => 0
  | r :: rs => r.length + sizeSS rs
def markSS : List (List Int) → Int → List (List Int)
  | [], _ => []
  | r :: rs, c => marked r.length c :: markSS rs (c + (r.length : Int))
theorem markSS_length : ∀ (l : List (List Int)) (c : Int), (markSS l c).length = l.length
  | [], _ => rfl
  | r :: rs, c => by simp [markSS, markSS_length rs]
theorem sizeSS_row : ∀ {l : List (List Int)} {r : List Int}, r ∈ l → r.length ≤ sizeSS l
  | [], _, h => by simp at h
  | x :: l, r, h => by
    simp only [sizeSS]
    rcases List.mem_cons.1 h with rfl | h
    · omega
    · have := sizeSS_row h
      omega
theorem markSS_loop : ∀ d i (x : List (List Int)) (c : Int), i + d = x.length → x.length ≤ 1000000 → 0 ≤ c → c + (sizeSS (x.drop i) : Int) ≤ 1000001 →
    Ev (fun k => laws_markIntSS.l0 k x c (i : Int)) (c + (sizeSS (x.drop i) : Int), x.take i ++ markSS (x.drop i) c) := by
  intro d
  induction d with
  | zero =>
    intro i x c hi _ _ _
    refine Ev.step (f := fun _ => some (c, x)) (fun k => ?_) ?_
    · simp only [laws_markIntSS.l0]
      rw [if_neg (by omega)]
    · rw [List.drop_eq_nil_of_le (by omega), List.take_of_length_le (by omega)]
      simpa [sizeSS, markSS] using Ev.now (c, x)
  | succ d ih =>
    intro i x c hi hm h0 hs
    have hil : i < x.length := by omega
    have hd := List.drop_eq_getElem_cons hil
    have hwr : wrap64 ((i : Int) + 1) = ((i + 1 : Nat) : Int) := by unfold wrap64; omega
    rw [hd] at hs ⊢
    simp only [sizeSS] at hs
    have hrow : (x[i].length : Int) ≤ 1000001 := by omega
    have hn := ih (i + 1) (x.set i (marked x[i].length c)) (c + (x[i].length : Int)) (by simp; omega) (by simpa using hm) (by omega) (by rw [List.drop_set_of_lt (by omega)]; omega)
    rw [List.drop_set_of_lt (by omega), set_take _ _ _ hil] at hn
    refine Ev.step (f := fun k => (laws_markIntS.f k x[i] c).bind fun t => laws_markIntSS.l0 k (x.set i t.2) t.1 ((i + 1 : Nat) : Int)) (fun k => ?_) (Ev.bind (markIntS_ev x[i] c h0 (by omega) (by omega)) ?_)
    · simp only [laws_markIntSS.l0, rdSS x i hil, hwr, Int.toNat_natCast]
      rw [if_pos (by omega), if_pos (by omega)]
    · simp only [sizeSS, markSS]
      rw [show c + ((x[i].length + sizeSS (x.drop (i + 1)) : Nat) : Int) = c + (x[i].length : Int) + (sizeSS (x.drop (i + 1)) : Int) by omega, List.append_cons]
      exact hn
theorem heldSS_loop : ∀ (rs : List (List Int)) (y : List (List Int)) i (c : Int), y.drop i = markSS rs c → i + rs.length = y.length → y.length ≤ 1000000 → 0 ≤ c → c + (sizeSS rs : Int) ≤ 1000001 →
    Ev (fun k => laws_heldIntSS.l0 k y c (i : Int)) (c + (sizeSS rs : Int)) := by
  intro rs
  induction rs with
  | nil =>
    intro y i c _ hi _ _ _
    refine Ev.step (f := fun _ => some c) (fun k => ?_) (by simpa [sizeSS] using Ev.now c)
    simp only [laws_heldIntSS.l0]
    rw [if_neg (by simp at hi; omega)]
  | cons r rs ih =>
    intro y i c hd hi hm h0 hs
    simp only [List.length_cons] at hi
    have hil : i < y.length := by omega
    have hwr : wrap64 ((i : Int) + 1) = ((i + 1 : Nat) : Int) := by unfold wrap64; omega
    rw [List.drop_eq_getElem_cons hil] at hd
    simp only [markSS, List.cons.injEq] at hd
    simp only [sizeSS] at hs
    have hn := ih y (i + 1) (c + (r.length : Int)) hd.2 (by omega) hm (by omega) (by omega)
    refine Ev.step (f := fun k => (laws_heldIntS.f k (marked r.length c) c).bind fun t => if t < 0 then some (-1) else laws_heldIntSS.l0 k y t ((i + 1 : Nat) : Int)) (fun k => ?_) (Ev.bind (heldIntS_ev r.length c h0 (by omega) (by omega)) (Ev.ite_neg (by omega) ?_))
    · simp only [laws_heldIntSS.l0, rdSS y i hil, hwr, hd.1]
      rw [if_pos (by omega), if_pos (by omega)]
    · simp only [sizeSS]
      rw [show c + ((r.length + sizeSS rs : Nat) : Int) = c + (r.length : Int) + (sizeSS rs : Int) by omega]
      exact hn
theorem markIntSS_held (a : List (List Int)) (h : sizeSS a ≤ 1000000 ∧ a.length ≤ 1000000) : ∃ (m : Int) (a' : List (List Int)), Ev (fun k => laws_markIntSS.f k a 1) (m, a') ∧ Ev (fun k => laws_heldIntSS.f k a' 1) m ∧ 0 ≤ m := by
  refine ⟨1 + (sizeSS a : Int), markSS a 1, ?_, ?_, by omega⟩
  · have := markSS_loop a.length 0 a 1 (by omega) h.2 (by omega) (by rw [List.drop_zero]; omega)
    rw [List.drop_zero, List.take_zero, List.nil_append] at this
    simp only [laws_markIntSS.f]
    exact this
  · have := heldSS_loop a (markSS a 1) 0 1 (by rw [List.drop_zero]) (by rw [markSS_length]; omega) (by rw [markSS_length]; exact h.2) (by omega) (by omega)
    simp only [laws_heldIntSS.f]
    exact this
theorem eqIntSS_refl (a : List (List Int)) (h : sizeSS a ≤ 1000000 ∧ a.length ≤ 1000000) : Ev (fun k => laws_eqIntSS.f k a a) true := by
  have key : ∀ d i, i + d = a.length → Ev (fun k => laws_eqIntSS.l0 k a a (i : Int)) true := by
    intro d
    induction d with
    | zero =>
      intro i hi
      refine Ev.step (f := fun _ => some true) (fun k => ?_) (Ev.now _)
      simp only [laws_eqIntSS.l0]
      rw [if_neg (by omega)]
    | succ d ih =>
      intro i hi
      have hil : i < a.length := by omega
      have hwr : wrap64 ((i : Int) + 1) = ((i + 1 : Nat) : Int) := by unfold wrap64; omega
      have hrow := sizeSS_row (List.getElem_mem hil)
      refine Ev.step (f := fun k => (laws_eqIntS.f k a[i] a[i]).bind fun t => if t = true then laws_eqIntSS.l0 k a a ((i + 1 : Nat) : Int) else some false) (fun k => ?_) (Ev.bind (eqIntS_same a[i] (by omega)) (Ev.ite_pos rfl (ih (i + 1) (by omega))))
      simp only [laws_eqIntSS.l0, rdSS a i hil, hwr]
      rw [if_pos (by omega), if_pos (by omega), if_pos (by omega)]
  simp only [laws_eqIntSS.f]
  exact Ev.ite_pos trivial (key a.length 0 (by omega))
end Go.Proofs.Ytppekffbjfjhfaa.Pure
