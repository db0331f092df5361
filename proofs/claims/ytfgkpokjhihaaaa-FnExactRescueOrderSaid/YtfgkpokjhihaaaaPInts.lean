/- The laws' own helpers over slices of numbers: copied, compared. -/
import Derived.Test.YtfgkpokjhihaaaaMRx1
import Derived.Test.YtfgkpokjhihaaaaPBase
namespace Go.Proofs.Ytfgkpokjhihaaaa.Pure
open Go.RowKit Go.Proofs.Ytfgkpokjhihaaaa.MR Go.Proofs.YtfgkpokjhihaaaaW.PrintWords Go.Proofs.YtfgkpokjhihaaaaW.PrintLast Go.Proofs.YtfgkpokjhihaaaaW.PrintMore
set_option linter.unusedVariables false
set_option linter.unusedSimpArgs false
theorem toIntS_ev (l : List Int) (hm : l.length ≤ 1048576) : Ev (fun k => laws_toIntS.f k l) l := by
 have key : Ev (fun k => laws_toIntS.l0 k l (List.replicate l.length 0) 0) l := by
  refine loopV_ev (fun k i (s : List Int) => laws_toIntS.l0 k l s i) l.length 0 (fun i s => s.length = l.length ∧ s.take i = l.take i) l (List.replicate l.length 0) (by simp) ?_ ?_
  ·rintro k i s - hi ⟨hl, ht⟩
   refine .inl ⟨s.set i (l.getD i 0), ⟨by simpa using hl, ?_⟩, ?_⟩
   ·rw [set_take _ _ _ (by omega), ht, List.take_succ_eq_append_getElem hi, getD_lt _ _ _ hi]
   ·simp only [laws_toIntS.l0]
    rw [if_pos (by omega), if_pos (by omega), if_pos (by omega), wrap_up hi (by omega), rd_nat, Int.toNat_natCast]
  ·rintro k s - ⟨hl, ht⟩
   simp only [laws_toIntS.l0]
   rw [if_neg (by omega)]
   rw [List.take_of_length_le (by omega), List.take_of_length_le (by omega)] at ht
   rw [ht]
 simp only [laws_toIntS.f]
 refine Ev.ite_pos (by omega) (Ev.ite_pos (by omega) ?_)
 simpa using key
theorem eqIntS_refl (l : List Int) (hm : l.length ≤ 9223372036854775807) : Ev (fun k => laws_eqIntS.f k l l) true := by
 simp only [laws_eqIntS.f]
 refine Ev.ite_pos trivial ?_
 refine loopV_ev (fun k i (_ : Unit) => laws_eqIntS.l0 k l l i) l.length 0 (fun _ _ => True) true () trivial ?_ ?_
 ·rintro k i - - hi -
  refine .inl ⟨(), trivial, ?_⟩
  simp only [laws_eqIntS.l0]
  rw [if_pos (by omega), if_pos (by omega), if_pos (by omega), if_pos trivial, wrap_up hi hm]
 ·rintro k - - -
  simp only [laws_eqIntS.l0]
  rw [if_neg (by omega)]
end Go.Proofs.Ytfgkpokjhihaaaa.Pure
