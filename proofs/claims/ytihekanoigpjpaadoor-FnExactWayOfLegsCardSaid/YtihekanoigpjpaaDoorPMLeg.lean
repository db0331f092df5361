/- The laws' own helpers over slices of Leg: marked, and held against the marks. -/
import Derived.Test.YtihekanoigpjpaaDoorMVx8
import Derived.Test.YtihekanoigpjpaaDoorPBase
namespace Go.Proofs.YtihekanoigpjpaaDoor.Pure
open Go.RowKit Go.Proofs.YtihekanoigpjpaaDoor.MV Go.Proofs.YtihekanoigpjpaaDoorW.PrintWords Go.Proofs.YtihekanoigpjpaaDoorW.PrintLast Go.Proofs.YtihekanoigpjpaaDoorW.PrintMore
set_option linter.unusedVariables false
set_option linter.unusedSimpArgs false
def mkLeg (x : Int) : S52 := ⟨x, x + 1, x + 1 + 1, x + 1 + 1 + 1, x + 1 + 1 + 1 + 1⟩
def markedLeg (n : Nat) (c : Int) : List S52 := (List.range n).map (fun i : Nat => mkLeg (c + 5 * (i : Int)))
theorem markedLeg_length (n : Nat) (c : Int) : (markedLeg n c).length = n := by simp [markedLeg]
theorem markedLeg_succ (n : Nat) (c : Int) : markedLeg (n + 1) c = markedLeg n c ++ [mkLeg (c + 5 * (n : Int))] := by simp [markedLeg, List.range_succ]
theorem markedLeg_at {n i : Nat} (c : Int) (h : i < n) : rd_T52 (markedLeg n c) (i : Int) = mkLeg (c + 5 * (i : Int)) := by
  simp only [rd_T52, Int.toNat_natCast]
  rw [getD_lt _ _ _ (by rw [markedLeg_length]; exact h)]
  simp [markedLeg]
theorem rdSetLeg {l : List S52} {i : Nat} (h : i < l.length) (v : S52) : rd_T52 (l.set i v) (i : Int) = v := by
  simp only [rd_T52, Int.toNat_natCast]
  rw [getD_lt _ _ _ (by rw [List.length_set]; exact h)]
  simp
theorem markLegS_ev (l : List S52) (c : Int) (h0 : 0 ≤ c) (h1 : c ≤ 1099511627776) (hm : l.length ≤ 1099511627776) : Ev (fun k => laws_markLegS.f k l c) (c + 5 * (l.length : Int), markedLeg l.length c) := by
  simp only [laws_markLegS.f]
  refine loopV_ev (fun k i (s : List S52 × Int) => laws_markLegS.l0 k s.1 s.2 i) l.length 0 (fun i s => s.1.length = l.length ∧ s.2 = c + 5 * (i : Int) ∧ s.1.take i = markedLeg i c) _ (l, c) (by simp [markedLeg]) ?_ ?_
  · rintro k i ⟨a, x⟩ - hi ⟨hl, hx, ht⟩
    simp only at hl hx ht
    have hx2 : x + 1 + 1 + 1 + 1 + 1 = c + 5 * ((i + 1 : Nat) : Int) := by omega
    have e1 : wrap64 (x + 1) = x + 1 := by unfold wrap64; omega
    have e2 : wrap64 (x + 1 + 1) = x + 1 + 1 := by unfold wrap64; omega
    have e3 : wrap64 (x + 1 + 1 + 1) = x + 1 + 1 + 1 := by unfold wrap64; omega
    have e4 : wrap64 (x + 1 + 1 + 1 + 1) = x + 1 + 1 + 1 + 1 := by unfold wrap64; omega
    have e5 : wrap64 (x + 1 + 1 + 1 + 1 + 1) = x + 1 + 1 + 1 + 1 + 1 := by unfold wrap64; omega
    refine .inl ⟨(a.set i (mkLeg x), x + 1 + 1 + 1 + 1 + 1), ⟨by simpa using hl, hx2, ?_⟩, ?_⟩
    · rw [set_take _ _ _ (by omega), ht, markedLeg_succ, hx]
    · simp only [laws_markLegS.l0, Int.toNat_natCast, Option.bind_some]
      rw [if_pos (by omega), if_pos (by omega), wrap_up hi (by omega)]
      simp only [rdSetLeg (show i < a.length by omega), List.set_set, e1, e2, e3, e4, e5]
      rfl
  · rintro k ⟨a, x⟩ - ⟨hl, hx, ht⟩
    simp only at hl hx ht
    subst hx
    simp only [laws_markLegS.l0]
    rw [if_neg (by omega)]
    rw [List.take_of_length_le (by omega)] at ht
    rw [ht]
end Go.Proofs.YtihekanoigpjpaaDoor.Pure
