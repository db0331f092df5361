/- The laws' own helpers over slices of texts: marked, held, compared. -/
import Derived.Test.YtckidmhkhlbkeaaMAx8
import Derived.Test.YtckidmhkhlbkeaaMAx9
import Derived.Test.YtckidmhkhlbkeaaPMkText
namespace Go.Proofs.Ytckidmhkhlbkeaa.Pure
open Go.RowKit Go.Proofs.Ytckidmhkhlbkeaa.MA Go.Proofs.YtckidmhkhlbkeaaW.PrintWords Go.Proofs.YtckidmhkhlbkeaaW.PrintLast Go.Proofs.YtckidmhkhlbkeaaW.PrintMore
set_option linter.unusedVariables false
set_option linter.unusedSimpArgs false
def markedTexts (n : Nat) (c : Int) : List ByteArray := (List.range n).map (fun i : Nat => mt (c + (i : Int)))
theorem markedTexts_length (n : Nat) (c : Int) : (markedTexts n c).length = n := by simp [markedTexts]
theorem markedTexts_succ (n : Nat) (c : Int) : markedTexts (n + 1) c = markedTexts n c ++ [mt (c + (n : Int))] := by simp [markedTexts, List.range_succ]
theorem markedTexts_at {n i : Nat} (c : Int) (h : i < n) : rdOf ByteArray.empty (markedTexts n c) (i : Int) = mt (c + (i : Int)) := by
  simp only [rdOf, Int.toNat_natCast]
  rw [getD_lt _ _ _ (by rw [markedTexts_length]; exact h)]
  simp [markedTexts]
theorem markStringS_ev (l : List ByteArray) (c : Int) (h0 : 0 ≤ c) (h1 : c ≤ 1099511627776) (hm : l.length ≤ 1099511627776) : Ev (fun k => laws_markStringS.f k l c) (c + (l.length : Int), markedTexts l.length c) := by
  simp only [laws_markStringS.f]
  refine loopV_ev (fun k i (s : List ByteArray × Int) => laws_markStringS.l0 k s.1 s.2 i) l.length 21 (fun i s => s.1.length = l.length ∧ s.2 = c + (i : Int) ∧ s.1.take i = markedTexts i c) _ (l, c) (by simp [markedTexts]) ?_ ?_
  · rintro k i ⟨a, x⟩ hk hi ⟨hl, hx, ht⟩
    simp only at hl hx ht
    subst hx
    refine .inl ⟨(a.set i (mt (c + (i : Int))), c + ((i + 1 : Nat) : Int)), ⟨by simpa using hl, rfl, ?_⟩, ?_⟩
    · rw [set_take _ _ _ (by omega), ht, markedTexts_succ]
    · simp only [laws_markStringS.l0, Int.toNat_natCast]
      rw [if_pos (by omega), mt_at (c + (i : Int)) (by omega) k (by omega)]
      simp only [Option.bind_some]
      rw [if_pos (by omega), wrap_up hi (by omega), show wrap64 (c + (i : Int) + 1) = c + ((i + 1 : Nat) : Int) by unfold wrap64; omega]
  · rintro k ⟨a, x⟩ - ⟨hl, hx, ht⟩
    simp only at hl hx ht
    subst hx
    simp only [laws_markStringS.l0]
    rw [if_neg (by omega)]
    rw [List.take_of_length_le (by omega)] at ht
    rw [ht]
theorem heldStringS_ev (n : Nat) (c : Int) (h0 : 0 ≤ c) (h1 : c ≤ 1099511627776) (hm : n ≤ 1099511627776) : Ev (fun k => laws_heldStringS.f k (markedTexts n c) c) (c + (n : Int)) := by
  simp only [laws_heldStringS.f]
  refine loopV_ev (fun k i (x : Int) => laws_heldStringS.l0 k (markedTexts n c) x i) n 21 (fun i x => x = c + (i : Int)) _ c (by simp) ?_ ?_
  · rintro k i _ hk hi rfl
    refine .inl ⟨c + ((i + 1 : Nat) : Int), rfl, ?_⟩
    simp only [laws_heldStringS.l0, markedTexts_length, mt_at (c + (i : Int)) (by omega) k (by omega), markedTexts_at c hi, Option.bind_some, if_true]
    rw [if_pos (by omega), if_pos (by omega), wrap_up hi (by omega), show wrap64 (c + (i : Int) + 1) = c + ((i + 1 : Nat) : Int) by unfold wrap64; omega]
  · rintro k _ - rfl
    simp only [laws_heldStringS.l0, markedTexts_length]
    rw [if_neg (by omega)]
theorem markStringS_held (a : List ByteArray) (h : a.length ≤ 1000000) : ∃ (m : Int) (a' : List ByteArray), Ev (fun k => laws_markStringS.f k a 1) (m, a') ∧ Ev (fun k => laws_heldStringS.f k a' 1) m ∧ 0 ≤ m :=
  ⟨_, _, markStringS_ev a 1 (by omega) (by omega) (by omega), heldStringS_ev a.length 1 (by omega) (by omega) (by omega), by omega⟩
theorem eqStringS_refl (l : List ByteArray) (hm : l.length ≤ 1000000) : Ev (fun k => laws_eqStringS.f k l l) true := by
  simp only [laws_eqStringS.f]
  refine Ev.ite_pos trivial ?_
  refine loopV_ev (fun k i (_ : Unit) => laws_eqStringS.l0 k l l i) l.length 0 (fun _ _ => True) true () trivial ?_ ?_
  · rintro k i - - hi -
    refine .inl ⟨(), trivial, ?_⟩
    simp only [laws_eqStringS.l0]
    rw [if_pos (by omega), if_pos (by omega), if_pos (by omega), if_pos trivial, wrap_up hi (by omega)]
  · rintro k - - -
    simp only [laws_eqStringS.l0]
    rw [if_neg (by omega)]
end Go.Proofs.Ytckidmhkhlbkeaa.Pure
