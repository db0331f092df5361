/- Volumes along legs: the program's and the reference's sum and fraction. -/
import Derived.Test.YtaafbnnddlgafaaMVx4
import Derived.Test.YtaafbnnddlgafaaMVx7
import Derived.Test.YtaafbnnddlgafaaPFindA
import Derived.Test.YtaafbnnddlgafaaPGcd
import Derived.Test.YtaafbnnddlgafaaPLegs
namespace Go.Proofs.Ytaafbnnddlgafaa.Pure
open Go.RowKit Go.Proofs.Ytaafbnnddlgafaa.MV Go.Proofs.YtaafbnnddlgafaaW.PrintWords Go.Proofs.YtaafbnnddlgafaaW.PrintLast Go.Proofs.YtaafbnnddlgafaaW.PrintMore
/-- The sum along the first legs. -/
def volSum (l : List S63) (g : List S77) : Nat → Int
  | 0 => 0
  | i + 1 => volSum l g i + (areaAtOf l (g.getD i z77).f0 + areaAtOf l (g.getD i z77).f1) * (g.getD i z77).f2
theorem vol_part {l : List S63} (h : okPasses l = true) {x : S77} (hx : okLeg x = true) : 0 ≤ (areaAtOf l x.f0 + areaAtOf l x.f1) * x.f2 ∧ (areaAtOf l x.f0 + areaAtOf l x.f1) * x.f2 ≤ 160000000 := by
  have h1 := areaAt_small h x.f0
  have h2 := areaAt_small h x.f1
  have h3 := okLeg_says hx
  have m1 : 0 ≤ (areaAtOf l x.f0 + areaAtOf l x.f1) * x.f2 := Int.mul_nonneg (by omega) (by omega)
  have m2 : (areaAtOf l x.f0 + areaAtOf l x.f1) * x.f2 ≤ 320000 * 500 := Int.mul_le_mul (by omega) (by omega) (by omega) (by omega)
  omega
theorem volSum_small {l : List S63} {g : List S77} (h : okPasses l = true) (hg : okLegs g = true) : ∀ i, i ≤ g.length → 0 ≤ volSum l g i ∧ volSum l g i ≤ 160000000 * (i : Int) := by
  intro i
  induction i with
  | zero => intro _; simp [volSum]
  | succ i ih =>
    intro hi
    have h1 := ih (by omega)
    have h2 := vol_part h (okLegs_at hg (show i < g.length by omega))
    simp only [volSum]
    omega
theorem vol_step {l : List S63} {g : List S77} (h : okPasses l = true) (hg : okLegs g = true) {i : Nat} (hi : i < g.length) : wrap64 (volSum l g i + wrap64 (wrap64 (areaAtOf l (g.getD i z77).f0 + areaAtOf l (g.getD i z77).f1) * (g.getD i z77).f2)) = volSum l g (i + 1) := by
  have h12 := okLegs_len hg
  have h1 := areaAt_small h (g.getD i z77).f0
  have h2 := areaAt_small h (g.getD i z77).f1
  have h3 := vol_part h (okLegs_at hg hi)
  have h4 := volSum_small h hg i (by omega)
  rw [wrap_id (x := areaAtOf l (g.getD i z77).f0 + areaAtOf l (g.getD i z77).f1) (by omega) (by omega), wrap_id (x := (areaAtOf l (g.getD i z77).f0 + areaAtOf l (g.getD i z77).f1) * (g.getD i z77).f2) (by omega) (by omega), wrap_id (by omega) (by omega)]
  rfl
def volAns (l : List S63) (g : List S77) : Int × Int × Bool := if okPasses l = true ∧ okLegs g = true then ((lowest (volSum l g g.length).toNat 2).1, (lowest (volSum l g g.length).toNat 2).2, true) else (0, 0, false)
theorem specVol_ev (l : List S63) (g : List S77) (hm : l.length ≤ 9223372036854775807) (hm2 : g.length ≤ 9223372036854775807) : Ev (fun k => spec_VolumeOf.f k l g) (volAns l g) := by
  have hno : Ev (fun k => spec_VolumeOf.j0 k l g true) (0, 0, false) := Ev.step (f := fun _ => some (0, 0, false)) (fun k => by rw [spec_VolumeOf.j0, if_pos rfl]) (Ev.now _)
  simp only [spec_VolumeOf.f]
  refine Ev.bind (l12Good_ev l hm) ?_
  by_cases h : okPasses l = true
  · refine Ev.ite_pos h (Ev.bind (l4Legs_ev g hm2) ?_)
    by_cases hg : okLegs g = true
    · rw [show volAns l g = _ from if_pos ⟨h, hg⟩, hg]
      have h12 := okLegs_len hg
      have h8 := okPasses_len h
      have hs := volSum_small h hg g.length (by omega)
      obtain ⟨K, hK⟩ := reduce_ev (s := (volSum l g g.length).toNat) (n := 2) (by omega) (by decide)
      refine Ev.step (f := fun k => spec_VolumeOf.l0 k l g 0 0) (fun k => by rw [spec_VolumeOf.j0, if_neg (by decide)]) ?_
      refine loopV_ev (fun k i (s : Int) => spec_VolumeOf.l0 k l g s i) g.length (K + l.length + 1) (fun i s => s = volSum l g i) _ 0 rfl ?_ ?_
      · rintro k i _ hk hi rfl
        refine .inl ⟨volSum l g (i + 1), rfl, ?_⟩
        simp only [spec_VolumeOf.l0, rdL, specAt_at l _ hm k (by omega), Option.bind_some]
        rw [if_pos (by omega), if_pos (by omega), wrap_up hi hm2, vol_step h hg hi]
      · rintro k _ hk rfl
        have hK2 : spec_l9Reduce.f k (volSum l g g.length) 2 = some (lowest (volSum l g g.length).toNat 2) := by
          have := hK k (by omega)
          rw [Int.toNat_of_nonneg hs.1] at this
          exact this
        simp only [spec_VolumeOf.l0, hK2, Option.bind_some]
        rw [if_neg (by omega)]
    · rw [show volAns l g = _ from if_neg (fun hh => hg hh.2), show okLegs g = false by simpa using hg]
      exact hno
  · rw [show volAns l g = _ from if_neg (fun hh => h hh.1)]
    exact Ev.ite_neg h hno
theorem implVol_ev (l : List S63) (g : List S77) (hm : l.length ≤ 9223372036854775807) (hm2 : g.length ≤ 9223372036854775807) : Ev (fun k => impl_VolumeOf.f k l g) (volAns l g) := by
  have hno : Ev (fun k => impl_VolumeOf.j0 k l g true) (0, 0, false) := Ev.step (f := fun _ => some (0, 0, false)) (fun k => by rw [impl_VolumeOf.j0, if_pos rfl]) (Ev.now _)
  simp only [impl_VolumeOf.f]
  refine Ev.bind (arePasses_ev l hm) ?_
  by_cases h : okPasses l = true
  · refine Ev.ite_pos h (Ev.bind (areLegs_ev g hm2) ?_)
    by_cases hg : okLegs g = true
    · rw [show volAns l g = _ from if_pos ⟨h, hg⟩, hg]
      have h12 := okLegs_len hg
      have hs := volSum_small h hg g.length (by omega)
      obtain ⟨K, hK⟩ := reduced_ev (s := (volSum l g g.length).toNat) (n := 2) (by omega) (by decide) (by decide)
      refine Ev.step (f := fun k => impl_VolumeOf.l0 k l 0 g (g.length : Int) 0) (fun k => by rw [impl_VolumeOf.j0, if_neg (by decide)]) ?_
      refine loopV_ev (fun k i (s : Int) => impl_VolumeOf.l0 k l s g (g.length : Int) i) g.length K (fun i s => s = volSum l g i) _ 0 rfl ?_ ?_
      · rintro k i _ hk hi rfl
        refine .inl ⟨volSum l g (i + 1), rfl, ?_⟩
        simp only [impl_VolumeOf.l0, rdL, implAt_eq, Option.bind_some]
        rw [if_pos (by omega), if_pos (by omega), if_pos (by omega), wrap_up hi hm2, vol_step h hg hi]
      · rintro k _ hk rfl
        have hK2 : impl_reduced.f k (volSum l g g.length) 2 = some (lowest (volSum l g g.length).toNat 2) := by
          have := hK k (by omega)
          rw [Int.toNat_of_nonneg hs.1] at this
          exact this
        simp only [impl_VolumeOf.l0, hK2, Option.bind_some]
        rw [if_neg (by omega)]
    · rw [show volAns l g = _ from if_neg (fun hh => hg hh.2), show okLegs g = false by simpa using hg]
      exact hno
  · rw [show volAns l g = _ from if_neg (fun hh => h hh.1)]
    exact Ev.ite_neg h hno
end Go.Proofs.Ytaafbnnddlgafaa.Pure
