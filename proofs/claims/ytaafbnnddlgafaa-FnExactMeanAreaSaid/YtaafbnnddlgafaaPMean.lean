/- The mean area: the program's and the reference's sum and fraction. -/
import Derived.Test.YtaafbnnddlgafaaMAx9
import Derived.Test.YtaafbnnddlgafaaMAx10
import Derived.Test.YtaafbnnddlgafaaMAx4
import Derived.Test.YtaafbnnddlgafaaMAx7
import Derived.Test.YtaafbnnddlgafaaPPass
import Derived.Test.YtaafbnnddlgafaaPMinMax
namespace Go.Proofs.Ytaafbnnddlgafaa.Pure
open Go.RowKit Go.Proofs.Ytaafbnnddlgafaa.MA Go.Proofs.YtaafbnnddlgafaaW.PrintWords Go.Proofs.YtaafbnnddlgafaaW.PrintLast Go.Proofs.YtaafbnnddlgafaaW.PrintMore
theorem gcd_step (x y : Nat) : Nat.gcd x y = Nat.gcd y (x % y) := by
  rw [Nat.gcd_comm x y, Nat.gcd_rec y x, Nat.gcd_comm]
theorem specGcd_ev (a b : Int) (y : Nat) : ∀ x : Nat, Nat.gcd x y ≠ 0 → Ev (fun k => spec_l9Reduce.l0 k a b (x : Int) (y : Int)) (wrap64 (Int.tdiv a (Nat.gcd x y : Nat)), wrap64 (Int.tdiv b (Nat.gcd x y : Nat))) := by
  induction y using Nat.strongRecOn with
  | ind y ih =>
    intro x hg
    rcases Nat.eq_zero_or_pos y with rfl | h0
    · rw [Nat.gcd_zero_right] at hg ⊢
      refine Ev.step (f := fun _ => some (wrap64 (Int.tdiv a (x : Nat)), wrap64 (Int.tdiv b (x : Nat)))) (fun k => ?_) (Ev.now _)
      rw [spec_l9Reduce.l0, if_pos (by omega), if_neg (by omega)]
    · rw [gcd_step] at hg ⊢
      refine Ev.step (f := fun k => spec_l9Reduce.l0 k a b (y : Int) ((x % y : Nat) : Int)) (fun k => ?_) (ih (x % y) (Nat.mod_lt _ h0) y hg)
      rw [spec_l9Reduce.l0, if_neg (by omega), Int.ofNat_tmod]
theorem implGcd_ev (y : Nat) : ∀ x : Nat, x ≤ 9223372036854775807 → y ≤ 9223372036854775807 → Ev (fun k => impl_gcd.l0 k (x : Int) (y : Int)) ((Nat.gcd x y : Nat) : Int) := by
  induction y using Nat.strongRecOn with
  | ind y ih =>
    intro x hx hy
    rcases Nat.eq_zero_or_pos y with rfl | h0
    · rw [Nat.gcd_zero_right]
      refine Ev.step (f := fun _ => some (x : Int)) (fun k => ?_) (Ev.now _)
      rw [impl_gcd.l0, if_pos (by omega)]
      simp only [impl_absolute.f, mx_eq, Option.bind_some, Option.some.injEq]
      unfold wrap64
      omega
    · rw [gcd_step]
      have hlt := Nat.mod_lt x h0
      refine Ev.step (f := fun k => impl_gcd.l0 k (y : Int) ((x % y : Nat) : Int)) (fun k => ?_) (ih (x % y) hlt y hy (by omega))
      rw [impl_gcd.l0, if_neg (by omega), Int.ofNat_tmod]
/-- A fraction in its lowest terms. -/
def lowest (s n : Nat) : Int × Int := (wrap64 (Int.tdiv (s : Int) (Nat.gcd s n : Nat)), wrap64 (Int.tdiv (n : Int) (Nat.gcd s n : Nat)))
theorem gcd_ne (s : Nat) {n : Nat} (h : n ≠ 0) : Nat.gcd s n ≠ 0 := fun hg => h (Nat.gcd_eq_zero_iff.1 hg).2
theorem reduce_ev {s n : Nat} (hs : s ≤ 9223372036854775807) (h : n ≠ 0) : Ev (fun k => spec_l9Reduce.f k (s : Int) (n : Int)) (lowest s n) := by
  simp only [spec_l9Reduce.f, l1Most_eq, Option.bind_some]
  rw [show max (s : Int) (wrap64 (-(s : Int))) = (s : Int) by unfold wrap64; omega]
  exact specGcd_ev _ _ n s (gcd_ne s h)
theorem reduced_ev {s n : Nat} (hs : s ≤ 9223372036854775807) (hn : n ≤ 9223372036854775807) (h : n ≠ 0) : Ev (fun k => impl_reduced.f k (s : Int) (n : Int)) (lowest s n) := by
  simp only [impl_reduced.f, impl_gcd.f]
  refine Ev.bind (implGcd_ev n s hs hn) (Ev.ite_neg ?_ (Ev.now _))
  have := gcd_ne s h
  omega
def areaOf (x : S63) : Int := wrap64 (wrap64 (x.f1 + x.f2) * wrap64 (x.f3 + x.f4))
theorem l12Area_eq (x : S63) : spec_l12Area.f x.f0 x.f1 x.f2 x.f3 x.f4 = some (areaOf x) := rfl
theorem area_eq (x : S63) : impl_Passage_area.f x.f0 x.f1 x.f2 x.f3 x.f4 = some (areaOf x) := rfl
theorem area_small {x : S63} (h : okPass x = true) : 0 ≤ areaOf x ∧ areaOf x ≤ 160000 := by
  simp only [okPass, Bool.and_eq_true, decide_eq_true_eq] at h
  obtain ⟨⟨⟨⟨h0, h1⟩, h2⟩, h3⟩, h4⟩ := h
  have e1 : wrap64 (x.f1 + x.f2) = x.f1 + x.f2 := by unfold wrap64; omega
  have e2 : wrap64 (x.f3 + x.f4) = x.f3 + x.f4 := by unfold wrap64; omega
  have m1 : 0 ≤ (x.f1 + x.f2) * (x.f3 + x.f4) := Int.mul_nonneg (by omega) (by omega)
  have m2 : (x.f1 + x.f2) * (x.f3 + x.f4) ≤ 400 * 400 := Int.mul_le_mul (by omega) (by omega) (by omega) (by omega)
  have e3 : areaOf x = (x.f1 + x.f2) * (x.f3 + x.f4) := by
    unfold areaOf
    rw [e1, e2]
    unfold wrap64
    omega
  omega
/-- The sum of the first areas. -/
def areaSum (l : List S63) : Nat → Int
  | 0 => 0
  | i + 1 => areaSum l i + areaOf (l.getD i z63)
theorem areaSum_small {l : List S63} (h : okPasses l = true) : ∀ i, i ≤ l.length → 0 ≤ areaSum l i ∧ areaSum l i ≤ 160000 * (i : Int) := by
  intro i
  induction i with
  | zero => intro _; simp [areaSum]
  | succ i ih =>
    intro hi
    have h1 := ih (by omega)
    have h2 := area_small (okPasses_one h (show i < l.length by omega))
    simp only [areaSum]
    omega
def meanAnswer (l : List S63) : Int × Int × Bool := if okPasses l = true ∧ l.length ≠ 0 then ((lowest (areaSum l l.length).toNat l.length).1, (lowest (areaSum l l.length).toNat l.length).2, true) else (0, 0, false)
theorem specMean_ev (l : List S63) (hm : l.length ≤ 9223372036854775807) : Ev (fun k => spec_MeanArea.f k l) (meanAnswer l) := by
  simp only [spec_MeanArea.f]
  refine Ev.bind (l12Good_ev l hm) ?_
  unfold meanAnswer
  by_cases h : okPasses l = true
  · refine Ev.ite_pos h ?_
    by_cases h2 : l.length = 0
    · rw [if_neg (fun hh => hh.2 h2)]
      refine Ev.step (f := fun _ => some (0, 0, false)) (fun k => ?_) (Ev.now _)
      rw [spec_MeanArea.j0, if_pos (by simp [h2])]
    · rw [if_pos ⟨h, h2⟩]
      have h8 := okPasses_len h
      obtain ⟨K, hK⟩ := reduce_ev (s := (areaSum l l.length).toNat) (n := l.length) (by have := areaSum_small h l.length (by omega); omega) h2
      refine Ev.step (f := fun k => spec_MeanArea.l0 k l 0 0) (fun k => by rw [spec_MeanArea.j0, if_neg (fun hh => h2 (by have := beq_iff_eq.1 hh; omega))]) ?_
      refine loopV_ev (fun k i (s : Int) => spec_MeanArea.l0 k l s i) l.length K (fun i s => s = areaSum l i) _ 0 rfl ?_ ?_
      · rintro k i _ - hi rfl
        have hs := areaSum_small h i (by omega)
        have ha := area_small (okPasses_one h hi)
        refine .inl ⟨areaSum l (i + 1), rfl, ?_⟩
        simp only [spec_MeanArea.l0, rdA, l12Area_eq, Option.bind_some]
        rw [if_pos (by omega), if_pos (by omega), wrap_up hi hm, show wrap64 (areaSum l i + areaOf (l.getD i z63)) = areaSum l (i + 1) by simp only [areaSum]; unfold wrap64; omega]
      · rintro k _ hk rfl
        have hs := areaSum_small h l.length (by omega)
        have hK2 := hK k hk
        rw [Int.toNat_of_nonneg hs.1] at hK2
        simp only [spec_MeanArea.l0, hK2, Option.bind_some]
        rw [if_neg (by omega)]
  · rw [if_neg (fun hh => h hh.1)]
    refine Ev.ite_neg h (Ev.step (f := fun _ => some (0, 0, false)) (fun k => ?_) (Ev.now _))
    rw [spec_MeanArea.j0, if_pos rfl]
theorem implMean_ev (l : List S63) (hm : l.length ≤ 9223372036854775807) : Ev (fun k => impl_MeanArea.f k l) (meanAnswer l) := by
  simp only [impl_MeanArea.f]
  refine Ev.bind (arePasses_ev l hm) ?_
  unfold meanAnswer
  by_cases h : okPasses l = true
  · refine Ev.ite_pos h ?_
    by_cases h2 : l.length = 0
    · rw [if_neg (fun hh => hh.2 h2)]
      refine Ev.step (f := fun _ => some (0, 0, false)) (fun k => ?_) (Ev.now _)
      rw [impl_MeanArea.j0, if_pos (by simp [h2])]
    · rw [if_pos ⟨h, h2⟩]
      have h8 := okPasses_len h
      obtain ⟨K, hK⟩ := reduced_ev (s := (areaSum l l.length).toNat) (n := l.length) (by have := areaSum_small h l.length (by omega); omega) hm h2
      refine Ev.step (f := fun k => impl_MeanArea.l0 k l 0 l (l.length : Int) 0) (fun k => by rw [impl_MeanArea.j0, if_neg (fun hh => h2 (by have := beq_iff_eq.1 hh; omega))]) ?_
      refine loopV_ev (fun k i (s : Int) => impl_MeanArea.l0 k l s l (l.length : Int) i) l.length K (fun i s => s = areaSum l i) _ 0 rfl ?_ ?_
      · rintro k i _ - hi rfl
        have hs := areaSum_small h i (by omega)
        have ha := area_small (okPasses_one h hi)
        refine .inl ⟨areaSum l (i + 1), rfl, ?_⟩
        simp only [impl_MeanArea.l0, rdA, area_eq, Option.bind_some]
        rw [if_pos (by omega), if_pos (by omega), if_pos (by omega), wrap_up hi hm, show wrap64 (areaSum l i + areaOf (l.getD i z63)) = areaSum l (i + 1) by simp only [areaSum]; unfold wrap64; omega]
      · rintro k _ hk rfl
        have hs := areaSum_small h l.length (by omega)
        have hK2 := hK k hk
        rw [Int.toNat_of_nonneg hs.1] at hK2
        simp only [impl_MeanArea.l0, hK2, Option.bind_some]
        rw [if_neg (by omega)]
  · rw [if_neg (fun hh => h hh.1)]
    refine Ev.ite_neg h (Ev.step (f := fun _ => some (0, 0, false)) (fun k => ?_) (Ev.now _))
    rw [impl_MeanArea.j0, if_pos rfl]
end Go.Proofs.Ytaafbnnddlgafaa.Pure
