/- The laws' own helper over slices of marks: marked. -/
import Derived.Test.YtckidmhkhlbkeaaMAx8
import Derived.Test.YtckidmhkhlbkeaaPMkText
import Derived.Test.YtckidmhkhlbkeaaPSzPlanMark
namespace Go.Proofs.Ytckidmhkhlbkeaa.Pure
open Go.RowKit Go.Proofs.Ytckidmhkhlbkeaa.MA Go.Proofs.YtckidmhkhlbkeaaW.PrintWords Go.Proofs.YtckidmhkhlbkeaaW.PrintLast Go.Proofs.YtckidmhkhlbkeaaW.PrintMore
set_option linter.unusedVariables false
set_option linter.unusedSimpArgs false
def mkPlanMarks (x : Int) : S44 := ⟨mt x, x + 1, x + 1 + 1⟩
def markedPlanMarks (n : Nat) (c : Int) : List S44 := (List.range n).map (fun i : Nat => mkPlanMarks (c + 3 * (i : Int)))
theorem markedPlanMarks_length (n : Nat) (c : Int) : (markedPlanMarks n c).length = n := by simp [markedPlanMarks]
theorem markedPlanMarks_succ (n : Nat) (c : Int) : markedPlanMarks (n + 1) c = markedPlanMarks n c ++ [mkPlanMarks (c + 3 * (n : Int))] := by simp [markedPlanMarks, List.range_succ]
theorem markedPlanMarks_at {n i : Nat} (c : Int) (h : i < n) : rd_T44 (markedPlanMarks n c) (i : Int) = mkPlanMarks (c + 3 * (i : Int)) := by
  simp only [rd_T44, Int.toNat_natCast]
  rw [getD_lt _ _ _ (by rw [markedPlanMarks_length]; exact h)]
  simp [markedPlanMarks]
theorem rdSetPlanMarks {l : List S44} {i : Nat} (h : i < l.length) (v : S44) : rd_T44 (l.set i v) (i : Int) = v := by
  simp only [rd_T44, Int.toNat_natCast]
  rw [getD_lt _ _ _ (by rw [List.length_set]; exact h)]
  simp
theorem markPlanMarkS_ev (l : List S44) (c : Int) (h0 : 0 ≤ c) (h1 : c ≤ 1099511627776) (hm : l.length ≤ 1099511627776) : Ev (fun k => laws_markPlanMarkS.f k l c) (c + 3 * (l.length : Int), markedPlanMarks l.length c) := by
  simp only [laws_markPlanMarkS.f]
  refine loopV_ev (fun k i (s : List S44 × Int) => laws_markPlanMarkS.l0 k s.1 s.2 i) l.length 21 (fun i s => s.1.length = l.length ∧ s.2 = c + 3 * (i : Int) ∧ s.1.take i = markedPlanMarks i c) _ (l, c) (by simp [markedPlanMarks]) ?_ ?_
  · rintro k i ⟨a, x⟩ hk hi ⟨hl, hx, ht⟩
    simp only at hl hx ht
    have hx2 : x + 1 + 1 + 1 = c + 3 * ((i + 1 : Nat) : Int) := by omega
    have e1 : wrap64 (x + 1) = x + 1 := wrap_id (by omega) (by omega)
    have e2 : wrap64 (x + 1 + 1) = x + 1 + 1 := wrap_id (by omega) (by omega)
    have e3 : wrap64 (x + 1 + 1 + 1) = x + 1 + 1 + 1 := wrap_id (by omega) (by omega)
    refine .inl ⟨(a.set i (mkPlanMarks x), x + 1 + 1 + 1), ⟨by simpa using hl, hx2, ?_⟩, ?_⟩
    · rw [set_take _ _ _ (by omega), ht, markedPlanMarks_succ, hx]
    · simp only [laws_markPlanMarkS.l0, Int.toNat_natCast]
      rw [if_pos (by omega), mt_at x (by omega) k (by omega)]
      simp only [Option.bind_some]
      rw [if_pos (by omega), wrap_up hi (by omega)]
      simp only [rdSetPlanMarks (show i < a.length by omega), List.set_set, e1, e2, e3]
      rfl
  · rintro k ⟨a, x⟩ - ⟨hl, hx, ht⟩
    simp only at hl hx ht
    subst hx
    simp only [laws_markPlanMarkS.l0]
    rw [if_neg (by omega)]
    rw [List.take_of_length_le (by omega)] at ht
    rw [ht]
end Go.Proofs.Ytckidmhkhlbkeaa.Pure
