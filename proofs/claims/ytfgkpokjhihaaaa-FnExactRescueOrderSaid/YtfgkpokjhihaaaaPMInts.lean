/- The laws' own helpers over slices of numbers: marked, and held against the marks. -/
import Derived.Test.YtfgkpokjhihaaaaMRx2
import Derived.Test.YtfgkpokjhihaaaaPBase
namespace Go.Proofs.Ytfgkpokjhihaaaa.Pure
open Go.RowKit Go.Proofs.Ytfgkpokjhihaaaa.MR Go.Proofs.YtfgkpokjhihaaaaW.PrintWords Go.Proofs.YtfgkpokjhihaaaaW.PrintLast Go.Proofs.YtfgkpokjhihaaaaW.PrintMore
set_option linter.unusedVariables false
set_option linter.unusedSimpArgs false
def marked (n : Nat) (c : Int) : List Int := (List.range n).map (fun i : Nat => c + (i : Int))
theorem marked_length (n : Nat) (c : Int) : (marked n c).length = n := by simp [marked]
theorem marked_succ (n : Nat) (c : Int) : marked (n + 1) c = marked n c ++ [c + (n : Int)] := by simp [marked, List.range_succ]
theorem marked_at {n i : Nat} (c : Int) (h : i < n) : rd (marked n c) (i : Int) = c + (i : Int) := by
 rw [rd_nat, getD_lt _ _ _ (by rw [marked_length]; exact h)]
 simp [marked]
theorem markIntS_ev (l : List Int) (c : Int) (h0 : 0 ≤ c) (h1 : c ≤ 1099511627776) (hm : l.length ≤ 1099511627776) : Ev (fun k => laws_markIntS.f k l c) (c + (l.length : Int), marked l.length c) := by
 simp only [laws_markIntS.f]
 refine loopV_ev (fun k i (s : List Int × Int) => laws_markIntS.l0 k s.1 s.2 i) l.length 0 (fun i s => s.1.length = l.length ∧ s.2 = c + (i : Int) ∧ s.1.take i = marked i c) _ (l, c) (by simp [marked]) ?_ ?_
 ·rintro k i ⟨a, x⟩ - hi ⟨hl, hx, ht⟩
  simp only at hl hx ht
  subst hx
  refine .inl ⟨(a.set i (c + (i : Int)), c + ((i + 1 : Nat) : Int)), ⟨by simpa using hl, rfl, ?_⟩, ?_⟩
  ·rw [set_take _ _ _ (by omega), ht, marked_succ]
  ·simp only [laws_markIntS.l0, Int.toNat_natCast]
   rw [if_pos (by omega), if_pos (by omega), wrap_up hi (by omega), show wrap64 (c + (i : Int) + 1) = c + ((i + 1 : Nat) : Int) by unfold wrap64; omega]
 ·rintro k ⟨a, x⟩ - ⟨hl, hx, ht⟩
  simp only at hl hx ht
  subst hx
  simp only [laws_markIntS.l0]
  rw [if_neg (by omega)]
  rw [List.take_of_length_le (by omega)] at ht
  rw [ht]
theorem heldIntS_ev (n : Nat) (c : Int) (h0 : 0 ≤ c) (h1 : c ≤ 1099511627776) (hm : n ≤ 1099511627776) : Ev (fun k => laws_heldIntS.f k (marked n c) c) (c + (n : Int)) := by
 simp only [laws_heldIntS.f]
 refine loopV_ev (fun k i (x : Int) => laws_heldIntS.l0 k (marked n c) x i) n 0 (fun i x => x = c + (i : Int)) _ c (by simp) ?_ ?_
 ·rintro k i _ - hi rfl
  refine .inl ⟨c + ((i + 1 : Nat) : Int), rfl, ?_⟩
  simp only [laws_heldIntS.l0, marked_length]
  rw [if_pos (by omega), if_pos (by omega), if_pos (marked_at c hi), wrap_up hi (by omega), show wrap64 (c + (i : Int) + 1) = c + ((i + 1 : Nat) : Int) by unfold wrap64; omega]
 ·rintro k _ - rfl
  simp only [laws_heldIntS.l0, marked_length]
  rw [if_neg (by omega)]
end Go.Proofs.Ytfgkpokjhihaaaa.Pure
