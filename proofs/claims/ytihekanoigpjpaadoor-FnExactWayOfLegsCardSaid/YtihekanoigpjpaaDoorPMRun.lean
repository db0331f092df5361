/- The laws' own helpers over slices of Run: marked, and held against the marks. -/
import Derived.Test.YtihekanoigpjpaaDoorMVx8
import Derived.Test.YtihekanoigpjpaaDoorPBase
namespace Go.Proofs.YtihekanoigpjpaaDoor.Pure
open Go.RowKit Go.Proofs.YtihekanoigpjpaaDoor.MV Go.Proofs.YtihekanoigpjpaaDoorW.PrintWords Go.Proofs.YtihekanoigpjpaaDoorW.PrintLast Go.Proofs.YtihekanoigpjpaaDoorW.PrintMore
set_option linter.unusedVariables false
set_option linter.unusedSimpArgs false
def mkRun (x : Int) : S59 := ⟨x, x + 1⟩
def markedRun (n : Nat) (c : Int) : List S59 := (List.range n).map (fun i : Nat => mkRun (c + 2 * (i : Int)))
theorem markedRun_length (n : Nat) (c : Int) : (markedRun n c).length = n := by simp [markedRun]
theorem markedRun_succ (n : Nat) (c : Int) : markedRun (n + 1) c = markedRun n c ++ [mkRun (c + 2 * (n : Int))] := by simp [markedRun, List.range_succ]
theorem markedRun_at {n i : Nat} (c : Int) (h : i < n) : rd_T59 (markedRun n c) (i : Int) = mkRun (c + 2 * (i : Int)) := by
  simp only [rd_T59, Int.toNat_natCast]
  rw [getD_lt _ _ _ (by rw [markedRun_length]; exact h)]
  simp [markedRun]
theorem rdSetRun {l : List S59} {i : Nat} (h : i < l.length) (v : S59) : rd_T59 (l.set i v) (i : Int) = v := by
  simp only [rd_T59, Int.toNat_natCast]
  rw [getD_lt _ _ _ (by rw [List.length_set]; exact h)]
  simp
theorem markRunS_ev (l : List S59) (c : Int) (h0 : 0 ≤ c) (h1 : c ≤ 1099511627776) (hm : l.length ≤ 1099511627776) : Ev (fun k => laws_markRunS.f k l c) (c + 2 * (l.length : Int), markedRun l.length c) := by
  simp only [laws_markRunS.f]
  refine loopV_ev (fun k i (s : List S59 × Int) => laws_markRunS.l0 k s.1 s.2 i) l.length 0 (fun i s => s.1.length = l.length ∧ s.2 = c + 2 * (i : Int) ∧ s.1.take i = markedRun i c) _ (l, c) (by simp [markedRun]) ?_ ?_
  · rintro k i ⟨a, x⟩ - hi ⟨hl, hx, ht⟩
    simp only at hl hx ht
    have hx2 : x + 1 + 1 = c + 2 * ((i + 1 : Nat) : Int) := by omega
    have e1 : wrap64 (x + 1) = x + 1 := by unfold wrap64; omega
    have e2 : wrap64 (x + 1 + 1) = x + 1 + 1 := by unfold wrap64; omega
    refine .inl ⟨(a.set i (mkRun x), x + 1 + 1), ⟨by simpa using hl, hx2, ?_⟩, ?_⟩
    · rw [set_take _ _ _ (by omega), ht, markedRun_succ, hx]
    · simp only [laws_markRunS.l0, Int.toNat_natCast, Option.bind_some]
      rw [if_pos (by omega), if_pos (by omega), wrap_up hi (by omega)]
      simp only [rdSetRun (show i < a.length by omega), List.set_set, e1, e2]
      rfl
  · rintro k ⟨a, x⟩ - ⟨hl, hx, ht⟩
    simp only at hl hx ht
    subst hx
    simp only [laws_markRunS.l0]
    rw [if_neg (by omega)]
    rw [List.take_of_length_le (by omega)] at ht
    rw [ht]
theorem heldRunS_ev (n : Nat) (c : Int) (h0 : 0 ≤ c) (h1 : c ≤ 1099511627776) (hm : n ≤ 1099511627776) : Ev (fun k => laws_heldRunS.f k (markedRun n c) c) (c + 2 * (n : Int)) := by
  simp only [laws_heldRunS.f]
  refine loopV_ev (fun k i (x : Int) => laws_heldRunS.l0 k (markedRun n c) x i) n 0 (fun i x => x = c + 2 * (i : Int)) _ c (by simp) ?_ ?_
  · rintro k i x - hi hx
    have e1 : wrap64 (x + 1) = x + 1 := by unfold wrap64; omega
    have e2 : wrap64 (x + 1 + 1) = x + 1 + 1 := by unfold wrap64; omega
    refine .inl ⟨x + 1 + 1, by omega, ?_⟩
    simp only [laws_heldRunS.l0, markedRun_length, markedRun_at c hi, mkRun, ← hx, e1, e2, if_true]
    rw [if_pos (by omega), if_pos (by omega), wrap_up hi (by omega)]
  · rintro k _ - rfl
    simp only [laws_heldRunS.l0, markedRun_length]
    rw [if_neg (by omega)]
end Go.Proofs.YtihekanoigpjpaaDoor.Pure
