/- The laws' own helpers over slices of Leg: copied, compared, marked. -/
import Derived.Test.YtihekanoigpjpaaDoorMVx2
import Derived.Test.YtihekanoigpjpaaDoorMVx5
import Derived.Test.YtihekanoigpjpaaDoorMVx7
import Derived.Test.YtihekanoigpjpaaDoorMVx8
import Derived.Test.YtihekanoigpjpaaDoorPBase
namespace Go.Proofs.YtihekanoigpjpaaDoor.Pure
open Go.RowKit Go.Proofs.YtihekanoigpjpaaDoor.MV Go.Proofs.YtihekanoigpjpaaDoorW.PrintWords Go.Proofs.YtihekanoigpjpaaDoorW.PrintLast Go.Proofs.YtihekanoigpjpaaDoorW.PrintMore
set_option linter.unusedVariables false
set_option linter.unusedSimpArgs false
theorem rdT61 (l : List S61) (i : Nat) : rd_T61 l (i : Int) = l.getD i z61 := by simp [rd_T61]
def convLeg (x : S61) : S52 := ⟨x.f0, x.f1, x.f2, x.f3, x.f4⟩
theorem toLegS_ev (l : List S61) (hm : l.length ≤ 1048576) : Ev (fun k => laws_toLegS.f k l) (l.map convLeg) := by
  have key : Ev (fun k => laws_toLegS.l0 k l (List.replicate l.length z52) 0) (l.map convLeg) := by
    refine loopV_ev (fun k i (s : List S52) => laws_toLegS.l0 k l s i) l.length 0 (fun i s => s.length = l.length ∧ s.take i = (l.take i).map convLeg) (l.map convLeg) (List.replicate l.length z52) (by simp) ?_ ?_
    · rintro k i s - hi ⟨hl, ht⟩
      refine .inl ⟨s.set i (convLeg (l.getD i z61)), ⟨by simpa using hl, ?_⟩, ?_⟩
      · rw [set_take _ _ _ (by omega), ht, List.take_succ_eq_append_getElem hi, getD_lt _ _ _ hi, List.map_append]
        rfl
      · simp only [laws_toLegS.l0, laws_toLeg.f, Option.bind_some]
        rw [if_pos (by omega), if_pos (by omega), if_pos (by omega), wrap_up hi (by omega), Int.toNat_natCast]
        simp only [rdT61]
        rfl
    · rintro k s - ⟨hl, ht⟩
      simp only [laws_toLegS.l0]
      rw [if_neg (by omega)]
      rw [List.take_of_length_le (by omega), List.take_of_length_le (by omega)] at ht
      rw [ht]
  simp only [laws_toLegS.f]
  refine Ev.ite_pos (by omega) (Ev.ite_pos (by omega) ?_)
  simpa using key
theorem eqLeg_refl (a0 : Int) (a1 : Int) (a2 : Int) (a3 : Int) (a4 : Int) : laws_eqLeg.f a0 a1 a2 a3 a4 a0 a1 a2 a3 a4 = some true := by simp [laws_eqLeg.f]
theorem eqLegS_refl (l : List S52) (hm : l.length ≤ 9223372036854775807) : Ev (fun k => laws_eqLegS.f k l l) true := by
  simp only [laws_eqLegS.f]
  refine Ev.ite_pos trivial ?_
  refine loopV_ev (fun k i (_ : Unit) => laws_eqLegS.l0 k l l i) l.length 0 (fun _ _ => True) true () trivial ?_ ?_
  · rintro k i - - hi -
    refine .inl ⟨(), trivial, ?_⟩
    simp only [laws_eqLegS.l0, eqLeg_refl, Option.bind_some]
    rw [if_pos (by omega), if_pos (by omega), if_pos (by omega), if_pos trivial, wrap_up hi hm]
  · rintro k - - -
    simp only [laws_eqLegS.l0]
    rw [if_neg (by omega)]
theorem szLegS_big (l : List S61) (hm : l.length ≤ 9223372036854775807) (hb : ¬ l.length ≤ 1048576) : laws_szLegS.f l 1048576 = some (-1) := by
  unfold laws_szLegS.f
  rw [if_pos (by unfold wrap64; omega)]
theorem szLegS_small (l : List S61) (hb : l.length ≤ 1048576) : laws_szLegS.f l 1048576 = some (1048576 - (l.length : Int)) := by
  unfold laws_szLegS.f
  rw [if_neg (by unfold wrap64; omega), wrap_id (by omega) (by omega)]
theorem szLegS_neg (l : List S61) (left : Int) (hm : l.length ≤ 9223372036854775807) (h0 : 0 ≤ left) (h1 : left ≤ 1048576) (hb : ¬ (l.length : Int) ≤ left) : laws_szLegS.f l left = some (-1) := by
  unfold laws_szLegS.f
  rw [if_pos (by unfold wrap64; omega)]
theorem szLegS_pos (l : List S61) (left : Int) (h0 : 0 ≤ left) (h1 : left ≤ 1048576) (hb : (l.length : Int) ≤ left) : laws_szLegS.f l left = some (left - (l.length : Int)) := by
  unfold laws_szLegS.f
  rw [if_neg (by unfold wrap64; omega), wrap_id (by omega) (by omega)]
end Go.Proofs.YtihekanoigpjpaaDoor.Pure
