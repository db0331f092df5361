/- The laws' own helpers over slices of Passage: marked, and held against the marks. -/
import Derived.Test.YtaafbnnddlgafaaMGx1
import Derived.Test.YtaafbnnddlgafaaMGx8
import Derived.Test.YtaafbnnddlgafaaPBase
namespace Go.Proofs.Ytaafbnnddlgafaa.Pure
open Go.RowKit Go.Proofs.Ytaafbnnddlgafaa.MG Go.Proofs.YtaafbnnddlgafaaW.PrintWords Go.Proofs.YtaafbnnddlgafaaW.PrintLast Go.Proofs.YtaafbnnddlgafaaW.PrintMore
def mkPassage (x : Int) : S63 := ⟨x, x + 1, x + 1 + 1, x + 1 + 1 + 1, x + 1 + 1 + 1 + 1⟩
def markedPassage (n : Nat) (c : Int) : List S63 := (List.range n).map (fun i : Nat => mkPassage (c + 5 * (i : Int)))
theorem markedPassage_length (n : Nat) (c : Int) : (markedPassage n c).length = n := by simp [markedPassage]
theorem markedPassage_succ (n : Nat) (c : Int) : markedPassage (n + 1) c = markedPassage n c ++ [mkPassage (c + 5 * (n : Int))] := by simp [markedPassage, List.range_succ]
theorem markedPassage_at {n i : Nat} (c : Int) (h : i < n) : rd_T63 (markedPassage n c) (i : Int) = mkPassage (c + 5 * (i : Int)) := by
  simp only [rd_T63, Int.toNat_natCast]
  rw [getD_lt _ _ _ (by rw [markedPassage_length]; exact h)]
  simp [markedPassage]
theorem rdSetPassage {l : List S63} {i : Nat} (h : i < l.length) (v : S63) : rd_T63 (l.set i v) (i : Int) = v := by
  simp only [rd_T63, Int.toNat_natCast]
  rw [getD_lt _ _ _ (by rw [List.length_set]; exact h)]
  simp
theorem markPassageS_ev (l : List S63) (c : Int) (h0 : 0 ≤ c) (h1 : c ≤ 1099511627776) (hm : l.length ≤ 1099511627776) : Ev (fun k => laws_markPassageS.f k l c) (c + 5 * (l.length : Int), markedPassage l.length c) := by
  simp only [laws_markPassageS.f]
  refine loopV_ev (fun k i (s : List S63 × Int) => laws_markPassageS.l0 k s.1 s.2 i) l.length 0 (fun i s => s.1.length = l.length ∧ s.2 = c + 5 * (i : Int) ∧ s.1.take i = markedPassage i c) _ (l, c) (by simp [markedPassage]) ?_ ?_
  · rintro k i ⟨a, x⟩ - hi ⟨hl, hx, ht⟩
    simp only at hl hx ht
    have hx2 : x + 1 + 1 + 1 + 1 + 1 = c + 5 * ((i + 1 : Nat) : Int) := by omega
    have e1 : wrap64 (x + 1) = x + 1 := by unfold wrap64; omega
    have e2 : wrap64 (x + 1 + 1) = x + 1 + 1 := by unfold wrap64; omega
    have e3 : wrap64 (x + 1 + 1 + 1) = x + 1 + 1 + 1 := by unfold wrap64; omega
    have e4 : wrap64 (x + 1 + 1 + 1 + 1) = x + 1 + 1 + 1 + 1 := by unfold wrap64; omega
    have e5 : wrap64 (x + 1 + 1 + 1 + 1 + 1) = x + 1 + 1 + 1 + 1 + 1 := by unfold wrap64; omega
    refine .inl ⟨(a.set i (mkPassage x), x + 1 + 1 + 1 + 1 + 1), ⟨by simpa using hl, hx2, ?_⟩, ?_⟩
    · rw [set_take _ _ _ (by omega), ht, markedPassage_succ, hx]
    · simp only [laws_markPassageS.l0, Int.toNat_natCast, Option.bind_some]
      rw [if_pos (by omega), if_pos (by omega), wrap_up hi (by omega)]
      simp only [rdSetPassage (show i < a.length by omega), List.set_set, e1, e2, e3, e4, e5]
      rfl
  · rintro k ⟨a, x⟩ - ⟨hl, hx, ht⟩
    simp only at hl hx ht
    subst hx
    simp only [laws_markPassageS.l0]
    rw [if_neg (by omega)]
    rw [List.take_of_length_le (by omega)] at ht
    rw [ht]
theorem heldPassageS_ev (n : Nat) (c : Int) (h0 : 0 ≤ c) (h1 : c ≤ 1099511627776) (hm : n ≤ 1099511627776) : Ev (fun k => laws_heldPassageS.f k (markedPassage n c) c) (c + 5 * (n : Int)) := by
  simp only [laws_heldPassageS.f]
  refine loopV_ev (fun k i (x : Int) => laws_heldPassageS.l0 k (markedPassage n c) x i) n 0 (fun i x => x = c + 5 * (i : Int)) _ c (by simp) ?_ ?_
  · rintro k i x - hi hx
    have e1 : wrap64 (x + 1) = x + 1 := by unfold wrap64; omega
    have e2 : wrap64 (x + 1 + 1) = x + 1 + 1 := by unfold wrap64; omega
    have e3 : wrap64 (x + 1 + 1 + 1) = x + 1 + 1 + 1 := by unfold wrap64; omega
    have e4 : wrap64 (x + 1 + 1 + 1 + 1) = x + 1 + 1 + 1 + 1 := by unfold wrap64; omega
    have e5 : wrap64 (x + 1 + 1 + 1 + 1 + 1) = x + 1 + 1 + 1 + 1 + 1 := by unfold wrap64; omega
    refine .inl ⟨x + 1 + 1 + 1 + 1 + 1, by omega, ?_⟩
    simp only [laws_heldPassageS.l0, markedPassage_length, markedPassage_at c hi, mkPassage, ← hx, e1, e2, e3, e4, e5, if_true]
    rw [if_pos (by omega), if_pos (by omega), wrap_up hi (by omega)]
  · rintro k _ - rfl
    simp only [laws_heldPassageS.l0, markedPassage_length]
    rw [if_neg (by omega)]
end Go.Proofs.Ytaafbnnddlgafaa.Pure
