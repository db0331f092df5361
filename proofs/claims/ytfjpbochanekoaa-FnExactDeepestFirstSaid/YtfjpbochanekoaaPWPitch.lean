/- The laws' own helpers over slices of Pitch: copied, compared, marked. -/
import Derived.Test.YtfjpbochanekoaaMFx1
import Derived.Test.YtfjpbochanekoaaMFx3
import Derived.Test.YtfjpbochanekoaaMFx5
import Derived.Test.YtfjpbochanekoaaPBase
namespace Go.Proofs.Ytfjpbochanekoaa.Pure
open Go.RowKit Go.Proofs.Ytfjpbochanekoaa.MF Go.Proofs.YtfjpbochanekoaaW.PrintWords Go.Proofs.YtfjpbochanekoaaW.PrintLast Go.Proofs.YtfjpbochanekoaaW.PrintMore
set_option linter.unusedVariables false
set_option linter.unusedSimpArgs false
theorem rdT58 (l : List S58) (i : Nat) : rd_T58 l (i : Int) = l.getD i z58 := by simp [rd_T58]
def convPitch (x : S58) : S36 := ⟨x.f0, x.f1⟩
theorem toPitchS_ev (l : List S58) (hm : l.length ≤ 1048576) : Ev (fun k => laws_toPitchS.f k l) (l.map convPitch) := by
  have key : Ev (fun k => laws_toPitchS.l0 k l (List.replicate l.length z36) 0) (l.map convPitch) := by
    refine loopV_ev (fun k i (s : List S36) => laws_toPitchS.l0 k l s i) l.length 0 (fun i s => s.length = l.length ∧ s.take i = (l.take i).map convPitch) (l.map convPitch) (List.replicate l.length z36) (by simp) ?_ ?_
    · rintro k i s - hi ⟨hl, ht⟩
      refine .inl ⟨s.set i (convPitch (l.getD i z58)), ⟨by simpa using hl, ?_⟩, ?_⟩
      · rw [set_take _ _ _ (by omega), ht, List.take_succ_eq_append_getElem hi, getD_lt _ _ _ hi, List.map_append]
        rfl
      · simp only [laws_toPitchS.l0, laws_toPitch.f, Option.bind_some]
        rw [if_pos (by omega), if_pos (by omega), if_pos (by omega), wrap_up hi (by omega), Int.toNat_natCast]
        simp only [rdT58]
        rfl
    · rintro k s - ⟨hl, ht⟩
      simp only [laws_toPitchS.l0]
      rw [if_neg (by omega)]
      rw [List.take_of_length_le (by omega), List.take_of_length_le (by omega)] at ht
      rw [ht]
  simp only [laws_toPitchS.f]
  refine Ev.ite_pos (by omega) (Ev.ite_pos (by omega) ?_)
  simpa using key
theorem eqPitch_refl (a0 : Int) (a1 : Int) : laws_eqPitch.f a0 a1 a0 a1 = some true := by simp [laws_eqPitch.f]
theorem eqPitchS_refl (l : List S36) (hm : l.length ≤ 9223372036854775807) : Ev (fun k => laws_eqPitchS.f k l l) true := by
  simp only [laws_eqPitchS.f]
  refine Ev.ite_pos trivial ?_
  refine loopV_ev (fun k i (_ : Unit) => laws_eqPitchS.l0 k l l i) l.length 0 (fun _ _ => True) true () trivial ?_ ?_
  · rintro k i - - hi -
    refine .inl ⟨(), trivial, ?_⟩
    simp only [laws_eqPitchS.l0, eqPitch_refl, Option.bind_some]
    rw [if_pos (by omega), if_pos (by omega), if_pos (by omega), if_pos trivial, wrap_up hi hm]
  · rintro k - - -
    simp only [laws_eqPitchS.l0]
    rw [if_neg (by omega)]
theorem szPitchS_big (l : List S58) (hm : l.length ≤ 9223372036854775807) (hb : ¬ l.length ≤ 1048576) : laws_szPitchS.f l 1048576 = some (-1) := by
  unfold laws_szPitchS.f
  rw [if_pos (by unfold wrap64; omega)]
theorem szPitchS_small (l : List S58) (hb : l.length ≤ 1048576) : laws_szPitchS.f l 1048576 = some (1048576 - (l.length : Int)) := by
  unfold laws_szPitchS.f
  rw [if_neg (by unfold wrap64; omega), wrap_id (by omega) (by omega)]
theorem szPitchS_neg (l : List S58) (left : Int) (hm : l.length ≤ 9223372036854775807) (h0 : 0 ≤ left) (h1 : left ≤ 1048576) (hb : ¬ (l.length : Int) ≤ left) : laws_szPitchS.f l left = some (-1) := by
  unfold laws_szPitchS.f
  rw [if_pos (by unfold wrap64; omega)]
theorem szPitchS_pos (l : List S58) (left : Int) (h0 : 0 ≤ left) (h1 : left ≤ 1048576) (hb : (l.length : Int) ≤ left) : laws_szPitchS.f l left = some (left - (l.length : Int)) := by
  unfold laws_szPitchS.f
  rw [if_neg (by unfold wrap64; omega), wrap_id (by omega) (by omega)]
end Go.Proofs.Ytfjpbochanekoaa.Pure
