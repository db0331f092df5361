/- The laws' own helpers over slices of marks: sized, marked, held against the marks. -/
import Derived.Test.YtcajkofblleanaaMSx1
import Derived.Test.YtcajkofblleanaaMSx5
import Derived.Test.YtcajkofblleanaaMSx4
import Derived.Test.YtcajkofblleanaaPSzPlanMark
namespace Go.Proofs.Ytcajkofblleanaa.Pure
open Go.RowKit Go.Proofs.Ytcajkofblleanaa.MS Go.Proofs.YtcajkofblleanaaW.PrintWords Go.Proofs.YtcajkofblleanaaW.PrintLast Go.Proofs.YtcajkofblleanaaW.PrintMore
def mtF : Nat → Int → ByteArray → ByteArray
  | 0, _, s => (⟨#[109]⟩ : ByteArray) ++ s
  | d + 1, c, s => if c > 0 then mtF d (wrap64 (Int.tdiv c 10)) (strOfNums [(wrap64 (48 + (Int.tmod c 10))) % 256] ++ s) else (⟨#[109]⟩ : ByteArray) ++ s
theorem mt_loop : ∀ (d : Nat) (c : Int) (s : ByteArray) (k : Nat), c < 10 ^ d → c ≤ 4611686018427387904 → s.size + d ≤ 1000 → d < k → laws_markText.l0 k c s = some (mtF d c s)
  | 0, c, s, k, h, _, hs, hk => by
    obtain ⟨k, rfl⟩ : ∃ m, k = m + 1 := ⟨k - 1, by omega⟩
    have h1 : (10 : Int) ^ 0 = 1 := rfl
    simp only [laws_markText.l0, mtF]
    rw [if_neg (by omega), if_pos (by omega)]
  | d + 1, c, s, k, h, h2, hs, hk => by
    obtain ⟨k, rfl⟩ : ∃ m, k = m + 1 := ⟨k - 1, by omega⟩
    rw [Int.pow_succ] at h
    generalize hp : (10 : Int) ^ d = p at h
    simp only [laws_markText.l0, mtF, Option.bind_some]
    by_cases h0 : c > 0
    · have hd : Int.tdiv c 10 = c / 10 := Int.tdiv_eq_ediv_of_nonneg (by omega)
      have hw : wrap64 (Int.tdiv c 10) = c / 10 := by rw [hd]; exact wrap_id (by omega) (by omega)
      have hsz : (strOfNums [(wrap64 (48 + (Int.tmod c 10))) % 256]).size = 1 := by rw [strOfNums_size]; rfl
      rw [if_pos h0, if_pos h0, if_pos (by omega)]
      exact mt_loop d _ _ k (by rw [hw, hp]; omega) (by rw [hw]; omega) (by rw [ByteArray.size_append, hsz]; omega) (by omega)
    · rw [if_neg h0, if_neg h0, if_pos (by omega)]
def mt (c : Int) : ByteArray := if c ≤ 0 then (⟨#[109, 48]⟩ : ByteArray) else mtF 20 c (⟨#[]⟩ : ByteArray)
theorem mt_at (c : Int) (h : c ≤ 4611686018427387904) (k : Nat) (hk : 20 < k) : laws_markText.f k c = some (mt c) := by
  unfold laws_markText.f mt
  by_cases h0 : c ≤ 0
  · rw [if_pos h0, if_pos h0]
  · rw [if_neg h0, if_neg h0]
    exact mt_loop 20 c _ k (by have : (10 : Int) ^ 20 = 100000000000000000000 := by decide
                               omega) h (by decide) hk
def mkPlanMarks (x : Int) : S53 := ⟨mt x, x + 1, x + 1 + 1⟩
def markedPlanMarks (n : Nat) (c : Int) : List S53 := (List.range n).map (fun i : Nat => mkPlanMarks (c + 3 * (i : Int)))
theorem markedPlanMarks_length (n : Nat) (c : Int) : (markedPlanMarks n c).length = n := by simp [markedPlanMarks]
theorem markedPlanMarks_succ (n : Nat) (c : Int) : markedPlanMarks (n + 1) c = markedPlanMarks n c ++ [mkPlanMarks (c + 3 * (n : Int))] := by simp [markedPlanMarks, List.range_succ]
theorem markedPlanMarks_at {n i : Nat} (c : Int) (h : i < n) : rd_T53 (markedPlanMarks n c) (i : Int) = mkPlanMarks (c + 3 * (i : Int)) := by
  simp only [rd_T53, Int.toNat_natCast]
  rw [getD_lt _ _ _ (by rw [markedPlanMarks_length]; exact h)]
  simp [markedPlanMarks]
theorem rdSetPlanMarks {l : List S53} {i : Nat} (h : i < l.length) (v : S53) : rd_T53 (l.set i v) (i : Int) = v := by
  simp only [rd_T53, Int.toNat_natCast]
  rw [getD_lt _ _ _ (by rw [List.length_set]; exact h)]
  simp
theorem markPlanMarkS_ev (l : List S53) (c : Int) (h0 : 0 ≤ c) (h1 : c ≤ 1099511627776) (hm : l.length ≤ 1099511627776) : Ev (fun k => laws_markPlanMarkS.f k l c) (c + 3 * (l.length : Int), markedPlanMarks l.length c) := by
  simp only [laws_markPlanMarkS.f]
  refine loopV_ev (fun k i (s : List S53 × Int) => laws_markPlanMarkS.l0 k s.1 s.2 i) l.length 21 (fun i s => s.1.length = l.length ∧ s.2 = c + 3 * (i : Int) ∧ s.1.take i = markedPlanMarks i c) _ (l, c) (by simp [markedPlanMarks]) ?_ ?_
  · rintro k i ⟨a, x⟩ hk hi ⟨hl, hx, ht⟩
    simp only at hl hx ht
    have hx2 : x + 1 + 1 + 1 = c + 3 * ((i + 1 : Nat) : Int) := by omega
    have e1 : wrap64 (x + 1) = x + 1 := wrap_id (by omega) (by omega)
    have e2 : wrap64 (x + 1 + 1) = x + 1 + 1 := wrap_id (by omega) (by omega)
    have e3 : wrap64 (x + 1 + 1 + 1) = x + 1 + 1 + 1 := wrap_id (by omega) (by omega)
    refine .inl ⟨(a.set i (mkPlanMarks x), x + 1 + 1 + 1), ⟨by simpa using hl, hx2, ?_⟩, ?_⟩
    · rw [set_take _ _ _ (by omega), ht, markedPlanMarks_succ, hx]
    · simp only [laws_markPlanMarkS.l0, Int.toNat_natCast]
      rw [if_pos (by omega), mt_at x (by omega) k (by omega)]
      simp only [Option.bind_some]
      rw [if_pos (by omega), wrap_up hi (by omega)]
      simp only [rdSetPlanMarks (show i < a.length by omega), List.set_set, e1, e2, e3]
      rfl
  · rintro k ⟨a, x⟩ - ⟨hl, hx, ht⟩
    simp only at hl hx ht
    subst hx
    simp only [laws_markPlanMarkS.l0]
    rw [if_neg (by omega)]
    rw [List.take_of_length_le (by omega)] at ht
    rw [ht]
theorem heldPlanMarkS_ev (n : Nat) (c : Int) (h0 : 0 ≤ c) (h1 : c ≤ 1099511627776) (hm : n ≤ 1099511627776) : Ev (fun k => laws_heldPlanMarkS.f k (markedPlanMarks n c) c) (c + 3 * (n : Int)) := by
  simp only [laws_heldPlanMarkS.f]
  refine loopV_ev (fun k i (x : Int) => laws_heldPlanMarkS.l0 k (markedPlanMarks n c) x i) n 21 (fun i x => x = c + 3 * (i : Int)) _ c (by simp) ?_ ?_
  · rintro k i x hk hi hx
    have e1 : wrap64 (x + 1) = x + 1 := wrap_id (by omega) (by omega)
    have e2 : wrap64 (x + 1 + 1) = x + 1 + 1 := wrap_id (by omega) (by omega)
    have e3 : wrap64 (x + 1 + 1 + 1) = x + 1 + 1 + 1 := wrap_id (by omega) (by omega)
    refine .inl ⟨x + 1 + 1 + 1, by omega, ?_⟩
    simp only [laws_heldPlanMarkS.l0, markedPlanMarks_length, mt_at x (by omega) k (by omega), markedPlanMarks_at c hi, mkPlanMarks, ← hx, Option.bind_some, e1, e2, e3, if_true]
    rw [if_pos (by omega), if_pos (by omega), wrap_up hi (by omega)]
  · rintro k _ - rfl
    simp only [laws_heldPlanMarkS.l0, markedPlanMarks_length]
    rw [if_neg (by omega)]
end Go.Proofs.Ytcajkofblleanaa.Pure
