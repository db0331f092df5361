/- The passage of a station, as the program and the reference find it. -/
import Derived.Test.YtfbkhdlhkfbfcaaDoorMAx3
import Derived.Test.YtfbkhdlhkfbfcaaDoorMAx8
import Derived.Test.YtfbkhdlhkfbfcaaDoorPPass
namespace Go.Proofs.YtfbkhdlhkfbfcaaDoor.Pure
open Go.RowKit Go.Proofs.YtfbkhdlhkfbfcaaDoor.MA Go.Proofs.YtfbkhdlhkfbfcaaDoorW.PrintWords Go.Proofs.YtfbkhdlhkfbfcaaDoorW.PrintLast Go.Proofs.YtfbkhdlhkfbfcaaDoorW.PrintMore
set_option linter.unusedVariables false
set_option linter.unusedSimpArgs false
theorem specFind_at (l : List S43) (a : Int) (hm : l.length ≤ 9223372036854775807) : ∀ k, l.length < k → spec_l12Find.f k l a = some (impl_passageAt.at l a) := by
 have key : ∀ d i k, i + d = l.length → d < k → spec_l12Find.l0 k l a (i : Int) = some (idxF (fun x : S43 => x.f0 == a) (l.drop i) (i : Int)) := by
  intro d
  induction d with
  | zero =>
   intro i k hi hk
   obtain ⟨k, rfl⟩ : ∃ m, k = m + 1 := ⟨k - 1, by omega⟩
   have := idxF_end (fun x : S43 => x.f0 == a) l (i : Int) (by omega)
   rw [Int.toNat_natCast] at this
   rw [this]
   simp only [spec_l12Find.l0]
   rw [if_neg (by omega)]
  | succ d ih =>
   intro i k hi hk
   obtain ⟨k, rfl⟩ : ∃ m, k = m + 1 := ⟨k - 1, by omega⟩
   have hil : i < l.length := by omega
   have hs := idxF_step (fun x : S43 => x.f0 == a) l z43 (i : Int) (by omega) (by omega) hm
   rw [Int.toNat_natCast, wrap_up hil hm, Int.toNat_natCast] at hs
   rw [hs]
   simp only [spec_l12Find.l0, rdA]
   rw [if_pos (by omega), if_pos (by omega), wrap_up hil hm]
   by_cases h : (l.getD i z43).f0 = a
   ·rw [if_pos h, if_pos (beq_iff_eq.2 h)]
   ·rw [if_neg h, if_neg (fun hh => h (beq_iff_eq.1 hh))]
    exact ih (i + 1) k (by omega) (by omega)
 intro k hk
 exact key l.length 0 k (by omega) hk
theorem specFind_ev (l : List S43) (a : Int) (hm : l.length ≤ 9223372036854775807) : Ev (fun k => spec_l12Find.f k l a) (impl_passageAt.at l a) := Ev.past l.length fun k hk => specFind_at l a hm k hk
theorem at_range (l : List S43) (a : Int) : impl_passageAt.at l a = -1 ∨ (0 ≤ impl_passageAt.at l a ∧ impl_passageAt.at l a < (l.length : Int)) := by
 have := idxF_range (fun x : S43 => x.f0 == a) l 0
 unfold impl_passageAt.at
 omega
end Go.Proofs.YtfbkhdlhkfbfcaaDoor.Pure
