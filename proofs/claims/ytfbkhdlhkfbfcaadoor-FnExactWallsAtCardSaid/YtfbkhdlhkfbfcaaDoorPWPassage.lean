/- The laws' own helpers over slices of Passage: copied, compared, marked. -/
import Derived.Test.YtfbkhdlhkfbfcaaDoorMAx1
import Derived.Test.YtfbkhdlhkfbfcaaDoorMAx10
import Derived.Test.YtfbkhdlhkfbfcaaDoorMAx6
import Derived.Test.YtfbkhdlhkfbfcaaDoorPBase
namespace Go.Proofs.YtfbkhdlhkfbfcaaDoor.Pure
open Go.RowKit Go.Proofs.YtfbkhdlhkfbfcaaDoor.MA Go.Proofs.YtfbkhdlhkfbfcaaDoorW.PrintWords Go.Proofs.YtfbkhdlhkfbfcaaDoorW.PrintLast Go.Proofs.YtfbkhdlhkfbfcaaDoorW.PrintMore
set_option linter.unusedVariables false
set_option linter.unusedSimpArgs false
theorem rdT64 (l : List S64) (i : Nat) : rd_T64 l (i : Int) = l.getD i z64 := by simp [rd_T64]
def convPassage (x : S64) : S43 := ⟨x.f0, x.f1, x.f2, x.f3, x.f4⟩
theorem toPassageS_ev (l : List S64) (hm : l.length ≤ 1048576) : Ev (fun k => laws_toPassageS.f k l) (l.map convPassage) := by
 have key : Ev (fun k => laws_toPassageS.l0 k l (List.replicate l.length z43) 0) (l.map convPassage) := by
  refine loopV_ev (fun k i (s : List S43) => laws_toPassageS.l0 k l s i) l.length 0 (fun i s => s.length = l.length ∧ s.take i = (l.take i).map convPassage) (l.map convPassage) (List.replicate l.length z43) (by simp) ?_ ?_
  ·rintro k i s - hi ⟨hl, ht⟩
   refine .inl ⟨s.set i (convPassage (l.getD i z64)), ⟨by simpa using hl, ?_⟩, ?_⟩
   ·rw [set_take _ _ _ (by omega), ht, List.take_succ_eq_append_getElem hi, getD_lt _ _ _ hi, List.map_append]
    rfl
   ·simp only [laws_toPassageS.l0, laws_toPassage.f, Option.bind_some]
    rw [if_pos (by omega), if_pos (by omega), if_pos (by omega), wrap_up hi (by omega), Int.toNat_natCast]
    simp only [rdT64]
    rfl
  ·rintro k s - ⟨hl, ht⟩
   simp only [laws_toPassageS.l0]
   rw [if_neg (by omega)]
   rw [List.take_of_length_le (by omega), List.take_of_length_le (by omega)] at ht
   rw [ht]
 simp only [laws_toPassageS.f]
 refine Ev.ite_pos (by omega) (Ev.ite_pos (by omega) ?_)
 simpa using key
theorem eqPassage_refl (a0 : Int) (a1 : Int) (a2 : Int) (a3 : Int) (a4 : Int) : laws_eqPassage.f a0 a1 a2 a3 a4 a0 a1 a2 a3 a4 = some true := by simp [laws_eqPassage.f]
theorem eqPassageS_refl (l : List S43) (hm : l.length ≤ 9223372036854775807) : Ev (fun k => laws_eqPassageS.f k l l) true := by
 simp only [laws_eqPassageS.f]
 refine Ev.ite_pos trivial ?_
 refine loopV_ev (fun k i (_ : Unit) => laws_eqPassageS.l0 k l l i) l.length 0 (fun _ _ => True) true () trivial ?_ ?_
 ·rintro k i - - hi -
  refine .inl ⟨(), trivial, ?_⟩
  simp only [laws_eqPassageS.l0, eqPassage_refl, Option.bind_some]
  rw [if_pos (by omega), if_pos (by omega), if_pos (by omega), if_pos trivial, wrap_up hi hm]
 ·rintro k - - -
  simp only [laws_eqPassageS.l0]
  rw [if_neg (by omega)]
theorem szPassageS_big (l : List S64) (hm : l.length ≤ 9223372036854775807) (hb : ¬ l.length ≤ 1048576) : laws_szPassageS.f l 1048576 = some (-1) := by
 unfold laws_szPassageS.f
 rw [if_pos (by unfold wrap64; omega)]
theorem szPassageS_small (l : List S64) (hb : l.length ≤ 1048576) : laws_szPassageS.f l 1048576 = some (1048576 - (l.length : Int)) := by
 unfold laws_szPassageS.f
 rw [if_neg (by unfold wrap64; omega), wrap_id (by omega) (by omega)]
theorem szPassageS_neg (l : List S64) (left : Int) (hm : l.length ≤ 9223372036854775807) (h0 : 0 ≤ left) (h1 : left ≤ 1048576) (hb : ¬ (l.length : Int) ≤ left) : laws_szPassageS.f l left = some (-1) := by
 unfold laws_szPassageS.f
 rw [if_pos (by unfold wrap64; omega)]
theorem szPassageS_pos (l : List S64) (left : Int) (h0 : 0 ≤ left) (h1 : left ≤ 1048576) (hb : (l.length : Int) ≤ left) : laws_szPassageS.f l left = some (left - (l.length : Int)) := by
 unfold laws_szPassageS.f
 rw [if_neg (by unfold wrap64; omega), wrap_id (by omega) (by omega)]
end Go.Proofs.YtfbkhdlhkfbfcaaDoor.Pure
