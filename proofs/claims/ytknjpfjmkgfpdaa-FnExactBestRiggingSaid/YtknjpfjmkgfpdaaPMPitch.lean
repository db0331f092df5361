/- The laws' own helpers over slices of Pitch: marked, and held against the marks. -/
import Derived.Test.YtknjpfjmkgfpdaaMRx5
import Derived.Test.YtknjpfjmkgfpdaaPBase
namespace Go.Proofs.Ytknjpfjmkgfpdaa.Pure
open Go.RowKit Go.Proofs.Ytknjpfjmkgfpdaa.MR Go.Proofs.YtknjpfjmkgfpdaaW.PrintWords Go.Proofs.YtknjpfjmkgfpdaaW.PrintLast Go.Proofs.YtknjpfjmkgfpdaaW.PrintMore
set_option linter.unusedVariables false
set_option linter.unusedSimpArgs false
def mkPitch (x : Int) : S26 := ⟨x, x + 1⟩
def markedPitch (n : Nat) (c : Int) : List S26 := (List.range n).map (fun i : Nat => mkPitch (c + 2 * (i : Int)))
theorem markedPitch_length (n : Nat) (c : Int) : (markedPitch n c).length = n := by simp [markedPitch]
theorem markedPitch_succ (n : Nat) (c : Int) : markedPitch (n + 1) c = markedPitch n c ++ [mkPitch (c + 2 * (n : Int))] := by simp [markedPitch, List.range_succ]
theorem markedPitch_at {n i : Nat} (c : Int) (h : i < n) : rd_T26 (markedPitch n c) (i : Int) = mkPitch (c + 2 * (i : Int)) := by
  simp only [rd_T26, Int.toNat_natCast]
  rw [getD_lt _ _ _ (by rw [markedPitch_length]; exact h)]
  simp [markedPitch]
theorem rdSetPitch {l : List S26} {i : Nat} (h : i < l.length) (v : S26) : rd_T26 (l.set i v) (i : Int) = v := by
  simp only [rd_T26, Int.toNat_natCast]
  rw [getD_lt _ _ _ (by rw [List.length_set]; exact h)]
  simp
theorem markPitchS_ev (l : List S26) (c : Int) (h0 : 0 ≤ c) (h1 : c ≤ 1099511627776) (hm : l.length ≤ 1099511627776) : Ev (fun k => laws_markPitchS.f k l c) (c + 2 * (l.length : Int), markedPitch l.length c) := by
  simp only [laws_markPitchS.f]
  refine loopV_ev (fun k i (s : List S26 × Int) => laws_markPitchS.l0 k s.1 s.2 i) l.length 0 (fun i s => s.1.length = l.length ∧ s.2 = c + 2 * (i : Int) ∧ s.1.take i = markedPitch i c) _ (l, c) (by simp [markedPitch]) ?_ ?_
  · rintro k i ⟨a, x⟩ - hi ⟨hl, hx, ht⟩
    simp only at hl hx ht
    have hx2 : x + 1 + 1 = c + 2 * ((i + 1 : Nat) : Int) := by omega
    have e1 : wrap64 (x + 1) = x + 1 := by unfold wrap64; omega
    have e2 : wrap64 (x + 1 + 1) = x + 1 + 1 := by unfold wrap64; omega
    refine .inl ⟨(a.set i (mkPitch x), x + 1 + 1), ⟨by simpa using hl, hx2, ?_⟩, ?_⟩
    · rw [set_take _ _ _ (by omega), ht, markedPitch_succ, hx]
    · simp only [laws_markPitchS.l0, Int.toNat_natCast, Option.bind_some]
      rw [if_pos (by omega), if_pos (by omega), wrap_up hi (by omega)]
      simp only [rdSetPitch (show i < a.length by omega), List.set_set, e1, e2]
      rfl
  · rintro k ⟨a, x⟩ - ⟨hl, hx, ht⟩
    simp only at hl hx ht
    subst hx
    simp only [laws_markPitchS.l0]
    rw [if_neg (by omega)]
    rw [List.take_of_length_le (by omega)] at ht
    rw [ht]
end Go.Proofs.Ytknjpfjmkgfpdaa.Pure
