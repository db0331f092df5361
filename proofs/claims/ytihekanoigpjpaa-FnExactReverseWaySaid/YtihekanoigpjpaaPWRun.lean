/- The laws' own helpers over slices of Run: copied, compared, marked. -/
import Derived.Test.YtihekanoigpjpaaMVx2
import Derived.Test.YtihekanoigpjpaaMVx3
import Derived.Test.YtihekanoigpjpaaPBase
namespace Go.Proofs.Ytihekanoigpjpaa.Pure
open Go.RowKit Go.Proofs.Ytihekanoigpjpaa.MV Go.Proofs.YtihekanoigpjpaaW.PrintWords Go.Proofs.YtihekanoigpjpaaW.PrintLast Go.Proofs.YtihekanoigpjpaaW.PrintMore
set_option linter.unusedVariables false
set_option linter.unusedSimpArgs false
theorem rdT47 (l : List S47) (i : Nat) : rd_T47 l (i : Int) = l.getD i z47 := by simp [rd_T47]
def convRun (x : S47) : S43 := ⟨x.f0, x.f1⟩
theorem toRunS_ev (l : List S47) (hm : l.length ≤ 1048576) : Ev (fun k => laws_toRunS.f k l) (l.map convRun) := by
  have key : Ev (fun k => laws_toRunS.l0 k l (List.replicate l.length z43) 0) (l.map convRun) := by
    refine loopV_ev (fun k i (s : List S43) => laws_toRunS.l0 k l s i) l.length 0 (fun i s => s.length = l.length ∧ s.take i = (l.take i).map convRun) (l.map convRun) (List.replicate l.length z43) (by simp) ?_ ?_
    · rintro k i s - hi ⟨hl, ht⟩
      refine .inl ⟨s.set i (convRun (l.getD i z47)), ⟨by simpa using hl, ?_⟩, ?_⟩
      · rw [set_take _ _ _ (by omega), ht, List.take_succ_eq_append_getElem hi, getD_lt _ _ _ hi, List.map_append]
        rfl
      · simp only [laws_toRunS.l0, laws_toRun.f, Option.bind_some]
        rw [if_pos (by omega), if_pos (by omega), if_pos (by omega), wrap_up hi (by omega), Int.toNat_natCast]
        simp only [rdT47]
        rfl
    · rintro k s - ⟨hl, ht⟩
      simp only [laws_toRunS.l0]
      rw [if_neg (by omega)]
      rw [List.take_of_length_le (by omega), List.take_of_length_le (by omega)] at ht
      rw [ht]
  simp only [laws_toRunS.f]
  refine Ev.ite_pos (by omega) (Ev.ite_pos (by omega) ?_)
  simpa using key
theorem eqRun_refl (a0 : Int) (a1 : Int) : laws_eqRun.f a0 a1 a0 a1 = some true := by simp [laws_eqRun.f]
theorem eqRunS_refl (l : List S43) (hm : l.length ≤ 9223372036854775807) : Ev (fun k => laws_eqRunS.f k l l) true := by
  simp only [laws_eqRunS.f]
  refine Ev.ite_pos trivial ?_
  refine loopV_ev (fun k i (_ : Unit) => laws_eqRunS.l0 k l l i) l.length 0 (fun _ _ => True) true () trivial ?_ ?_
  · rintro k i - - hi -
    refine .inl ⟨(), trivial, ?_⟩
    simp only [laws_eqRunS.l0, eqRun_refl, Option.bind_some]
    rw [if_pos (by omega), if_pos (by omega), if_pos (by omega), if_pos trivial, wrap_up hi hm]
  · rintro k - - -
    simp only [laws_eqRunS.l0]
    rw [if_neg (by omega)]
theorem szRunS_big (l : List S47) (hm : l.length ≤ 9223372036854775807) (hb : ¬ l.length ≤ 1048576) : laws_szRunS.f l 1048576 = some (-1) := by
  unfold laws_szRunS.f
  rw [if_pos (by unfold wrap64; omega)]
theorem szRunS_small (l : List S47) (hb : l.length ≤ 1048576) : laws_szRunS.f l 1048576 = some (1048576 - (l.length : Int)) := by
  unfold laws_szRunS.f
  rw [if_neg (by unfold wrap64; omega), wrap_id (by omega) (by omega)]
theorem szRunS_neg (l : List S47) (left : Int) (hm : l.length ≤ 9223372036854775807) (h0 : 0 ≤ left) (h1 : left ≤ 1048576) (hb : ¬ (l.length : Int) ≤ left) : laws_szRunS.f l left = some (-1) := by
  unfold laws_szRunS.f
  rw [if_pos (by unfold wrap64; omega)]
theorem szRunS_pos (l : List S47) (left : Int) (h0 : 0 ≤ left) (h1 : left ≤ 1048576) (hb : (l.length : Int) ≤ left) : laws_szRunS.f l left = some (left - (l.length : Int)) := by
  unfold laws_szRunS.f
  rw [if_neg (by unfold wrap64; omega), wrap_id (by omega) (by omega)]
end Go.Proofs.Ytihekanoigpjpaa.Pure
