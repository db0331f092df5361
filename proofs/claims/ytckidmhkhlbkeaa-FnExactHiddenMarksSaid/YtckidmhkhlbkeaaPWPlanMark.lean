/- The laws' own helpers over slices of PlanMark: copied, compared, marked. -/
import Derived.Test.YtckidmhkhlbkeaaMAx1
import Derived.Test.YtckidmhkhlbkeaaMAx3
import Derived.Test.YtckidmhkhlbkeaaMAx7
import Derived.Test.YtckidmhkhlbkeaaPBase
namespace Go.Proofs.Ytckidmhkhlbkeaa.Pure
open Go.RowKit Go.Proofs.Ytckidmhkhlbkeaa.MA Go.Proofs.YtckidmhkhlbkeaaW.PrintWords Go.Proofs.YtckidmhkhlbkeaaW.PrintLast Go.Proofs.YtckidmhkhlbkeaaW.PrintMore
set_option linter.unusedVariables false
set_option linter.unusedSimpArgs false
theorem rdT61 (l : List S61) (i : Nat) : rd_T61 l (i : Int) = l.getD i z61 := by simp [rd_T61]
def convPlanMark (x : S61) : S44 := ⟨x.f0, x.f1, x.f2⟩
theorem toPlanMarkS_ev (l : List S61) (hm : l.length ≤ 1048576) : Ev (fun k => laws_toPlanMarkS.f k l) (l.map convPlanMark) := by
  have key : Ev (fun k => laws_toPlanMarkS.l0 k l (List.replicate l.length z44) 0) (l.map convPlanMark) := by
    refine loopV_ev (fun k i (s : List S44) => laws_toPlanMarkS.l0 k l s i) l.length 0 (fun i s => s.length = l.length ∧ s.take i = (l.take i).map convPlanMark) (l.map convPlanMark) (List.replicate l.length z44) (by simp) ?_ ?_
    · rintro k i s - hi ⟨hl, ht⟩
      refine .inl ⟨s.set i (convPlanMark (l.getD i z61)), ⟨by simpa using hl, ?_⟩, ?_⟩
      · rw [set_take _ _ _ (by omega), ht, List.take_succ_eq_append_getElem hi, getD_lt _ _ _ hi, List.map_append]
        rfl
      · simp only [laws_toPlanMarkS.l0, laws_toPlanMark.f, Option.bind_some]
        rw [if_pos (by omega), if_pos (by omega), if_pos (by omega), wrap_up hi (by omega), Int.toNat_natCast]
        simp only [rdT61]
        rfl
    · rintro k s - ⟨hl, ht⟩
      simp only [laws_toPlanMarkS.l0]
      rw [if_neg (by omega)]
      rw [List.take_of_length_le (by omega), List.take_of_length_le (by omega)] at ht
      rw [ht]
  simp only [laws_toPlanMarkS.f]
  refine Ev.ite_pos (by omega) (Ev.ite_pos (by omega) ?_)
  simpa using key
theorem eqPlanMark_refl (a0 : ByteArray) (a1 : Int) (a2 : Int) : laws_eqPlanMark.f a0 a1 a2 a0 a1 a2 = some true := by simp [laws_eqPlanMark.f]
theorem eqPlanMarkS_refl (l : List S44) (hm : l.length ≤ 9223372036854775807) : Ev (fun k => laws_eqPlanMarkS.f k l l) true := by
  simp only [laws_eqPlanMarkS.f]
  refine Ev.ite_pos trivial ?_
  refine loopV_ev (fun k i (_ : Unit) => laws_eqPlanMarkS.l0 k l l i) l.length 0 (fun _ _ => True) true () trivial ?_ ?_
  · rintro k i - - hi -
    refine .inl ⟨(), trivial, ?_⟩
    simp only [laws_eqPlanMarkS.l0, eqPlanMark_refl, Option.bind_some]
    rw [if_pos (by omega), if_pos (by omega), if_pos (by omega), if_pos trivial, wrap_up hi hm]
  · rintro k - - -
    simp only [laws_eqPlanMarkS.l0]
    rw [if_neg (by omega)]
end Go.Proofs.Ytckidmhkhlbkeaa.Pure
