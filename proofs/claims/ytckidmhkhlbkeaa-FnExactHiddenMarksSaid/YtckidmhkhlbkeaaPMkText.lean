/- The texts that the laws' own helpers lay as marks. -/
import Derived.Test.YtckidmhkhlbkeaaMAx8
import Derived.Test.YtckidmhkhlbkeaaPBase
namespace Go.Proofs.Ytckidmhkhlbkeaa.Pure
open Go.RowKit Go.Proofs.Ytckidmhkhlbkeaa.MA Go.Proofs.YtckidmhkhlbkeaaW.PrintWords Go.Proofs.YtckidmhkhlbkeaaW.PrintLast Go.Proofs.YtckidmhkhlbkeaaW.PrintMore
set_option linter.unusedVariables false
set_option linter.unusedSimpArgs false
def mtF : Nat → Int → ByteArray → ByteArray
  | 0, _, s => (⟨#[109]⟩ : ByteArray) ++ s
  | d + 1, c, s => if c > 0 then mtF d (wrap64 (Int.tdiv c 10)) (strOfNums [(wrap64 (48 + (Int.tmod c 10))) % 256] ++ s) else (⟨#[109]⟩ : ByteArray) ++ s
theorem mt_loop : ∀ (d : Nat) (c : Int) (s : ByteArray) (k : Nat), c < 10 ^ d → c ≤ 4611686018427387904 → s.size + d ≤ 1000 → d < k → laws_markText.l0 k c s = some (mtF d c s)
  | 0, c, s, k, h, _, hs, hk => by
    obtain ⟨k, rfl⟩ : ∃ m, k = m + 1 := ⟨k - 1, by omega⟩
    have h1 : (10 : Int) ^ 0 = 1 := rfl
    simp only [laws_markText.l0, mtF]
    rw [if_neg (by omega), if_pos (by omega)]
  | d + 1, c, s, k, h, h2, hs, hk => by
    obtain ⟨k, rfl⟩ : ∃ m, k = m + 1 := ⟨k - 1, by omega⟩
    rw [Int.pow_succ] at h
    generalize hp : (10 : Int) ^ d = p at h
    simp only [laws_markText.l0, mtF, Option.bind_some]
    by_cases h0 : c > 0
    · have hd : Int.tdiv c 10 = c / 10 := Int.tdiv_eq_ediv_of_nonneg (by omega)
      have hw : wrap64 (Int.tdiv c 10) = c / 10 := by rw [hd]; exact wrap_id (by omega) (by omega)
      have hsz : (strOfNums [(wrap64 (48 + (Int.tmod c 10))) % 256]).size = 1 := by rw [strOfNums_size]; rfl
      rw [if_pos h0, if_pos h0, if_pos (by omega)]
      exact mt_loop d _ _ k (by rw [hw, hp]; omega) (by rw [hw]; omega) (by rw [ByteArray.size_append, hsz]; omega) (by omega)
    · rw [if_neg h0, if_neg h0, if_pos (by omega)]
def mt (c : Int) : ByteArray := if c ≤ 0 then (⟨#[109, 48]⟩ : ByteArray) else mtF 20 c (⟨#[]⟩ : ByteArray)
theorem mt_at (c : Int) (h : c ≤ 4611686018427387904) (k : Nat) (hk : 20 < k) : laws_markText.f k c = some (mt c) := by
  unfold laws_markText.f mt
  by_cases h0 : c ≤ 0
  · rw [if_pos h0, if_pos h0]
  · rw [if_neg h0, if_neg h0]
    exact mt_loop 20 c _ k (by have : (10 : Int) ^ 20 = 100000000000000000000 := by decide
                               omega) h (by decide) hk
end Go.Proofs.Ytckidmhkhlbkeaa.Pure
