/- The smallest numbers of legs from an entrance: what they are. -/
import Derived.Test.YtdfmjmmiepmplaaPLegs
import Derived.Test.YtdfmjmmiepmplaaPEnts
namespace Go.Proofs.Ytdfmjmmiepmplaa.Pure
open Go.RowKit Go.Proofs.Ytdfmjmmiepmplaa.MT Go.Proofs.YtdfmjmmiepmplaaW.PrintWords Go.Proofs.YtdfmjmmiepmplaaW.PrintLast Go.Proofs.YtdfmjmmiepmplaaW.PrintMore
set_option linter.unusedVariables false
set_option linter.unusedSimpArgs false
/-- v can be reached from an entrance by n legs or fewer. -/
def Dd (l : List S69) (ents : List Int) : Nat → Int → Prop
  | 0, v => v ∈ ents
  | n + 1, v => Dd l ents n v ∨ ∃ i, i < l.length ∧ ((fromOf l i = v ∧ Dd l ents n (toOf l i)) ∨ (toOf l i = v ∧ Dd l ents n (fromOf l i)))
theorem Dd.mono {l : List S69} {ents : List Int} {n m : Nat} {v : Int} (h : Dd l ents n v) (hn : n ≤ m) : Dd l ents m v := by
  induction m with
  | zero =>
    obtain rfl : n = 0 := by omega
    exact h
  | succ m ih =>
    by_cases he : n = m + 1
    · subst he; exact h
    · exact .inl (ih (by omega))
/-- Station v's number is n. -/
def DistAt (l : List S69) (ents : List Int) (n : Nat) (v : Int) : Prop := Dd l ents n v ∧ ∀ m, m < n → ¬ Dd l ents m v
structure IsDist (l : List S69) (ents : List Int) (r : List Int) : Prop where
  len : r.length = 8
  at_ : ∀ v, 0 ≤ v → v < 8 → (rd r v = -1 ∧ ∀ n, ¬ Dd l ents n v) ∨ ∃ n : Nat, n ≤ 7 ∧ rd r v = (n : Int) ∧ DistAt l ents n v
theorem IsDist.uniq {l : List S69} {ents r s : List Int} (hr : IsDist l ents r) (hs : IsDist l ents s) : r = s := by
  apply List.ext_getElem (by rw [hr.len, hs.len])
  intro i h1 h2
  have h8 : i < 8 := by rw [← hr.len]; exact h1
  have e1 : rd r (i : Int) = r[i] := by rw [rd_nat, getD_lt _ _ _ h1]
  have e2 : rd s (i : Int) = s[i] := by rw [rd_nat, getD_lt _ _ _ h2]
  rw [← e1, ← e2]
  rcases hr.at_ (i : Int) (by omega) (by omega) with ⟨a1, a2⟩ | ⟨n, _, a1, a2⟩
  · rcases hs.at_ (i : Int) (by omega) (by omega) with ⟨b1, _⟩ | ⟨m, _, _, b2⟩
    · rw [a1, b1]
    · exact absurd b2.1 (a2 m)
  · rcases hs.at_ (i : Int) (by omega) (by omega) with ⟨_, b2⟩ | ⟨m, _, b1, b2⟩
    · exact absurd a2.1 (b2 n)
    · rw [a1, b1]
      have h1 : ¬ n < m := fun h => b2.2 n h a2.1
      have h2 : ¬ m < n := fun h => a2.2 m h b2.1
      omega
theorem rd_set {r : List Int} {v w x : Int} (hv : 0 ≤ v ∧ v < r.length) (hw : 0 ≤ w ∧ w < r.length) : rd (r.set v.toNat x) w = if w = v then x else rd r w := by
  unfold rd
  rw [getD_lt _ _ _ (by rw [List.length_set]; omega : w.toNat < (r.set v.toNat x).length), getD_lt _ _ _ (by omega : w.toNat < r.length), List.getElem_set]
  by_cases h : w = v
  · subst h
    rw [if_pos rfl, if_pos rfl]
  · rw [if_neg (by omega), if_neg h]
end Go.Proofs.Ytdfmjmmiepmplaa.Pure
