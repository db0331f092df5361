/- A fraction in its lowest terms, as both make it. -/
import Derived.Test.YtaafbnnddlgafaaMVx3
import Derived.Test.YtaafbnnddlgafaaMVx6
import Derived.Test.YtaafbnnddlgafaaPMinMax
namespace Go.Proofs.Ytaafbnnddlgafaa.Pure
open Go.RowKit Go.Proofs.Ytaafbnnddlgafaa.MV Go.Proofs.YtaafbnnddlgafaaW.PrintWords Go.Proofs.YtaafbnnddlgafaaW.PrintLast Go.Proofs.YtaafbnnddlgafaaW.PrintMore
theorem gcd_step (x y : Nat) : Nat.gcd x y = Nat.gcd y (x % y) := by
  rw [Nat.gcd_comm x y, Nat.gcd_rec y x, Nat.gcd_comm]
theorem specGcd_ev (a b : Int) (y : Nat) : ∀ x : Nat, Nat.gcd x y ≠ 0 → Ev (fun k => spec_l9Reduce.l0 k a b (x : Int) (y : Int)) (wrap64 (Int.tdiv a (Nat.gcd x y : Nat)), wrap64 (Int.tdiv b (Nat.gcd x y : Nat))) := by
  induction y using Nat.strongRecOn with
  | ind y ih =>
    intro x hg
    rcases Nat.eq_zero_or_pos y with rfl | h0
    · rw [Nat.gcd_zero_right] at hg ⊢
      refine Ev.step (f := fun _ => some (wrap64 (Int.tdiv a (x : Nat)), wrap64 (Int.tdiv b (x : Nat)))) (fun k => ?_) (Ev.now _)
      rw [spec_l9Reduce.l0, if_pos (by omega), if_neg (by omega)]
    · rw [gcd_step] at hg ⊢
      refine Ev.step (f := fun k => spec_l9Reduce.l0 k a b (y : Int) ((x % y : Nat) : Int)) (fun k => ?_) (ih (x % y) (Nat.mod_lt _ h0) y hg)
      rw [spec_l9Reduce.l0, if_neg (by omega), Int.ofNat_tmod]
theorem implGcd_ev (y : Nat) : ∀ x : Nat, x ≤ 9223372036854775807 → y ≤ 9223372036854775807 → Ev (fun k => impl_gcd.l0 k (x : Int) (y : Int)) ((Nat.gcd x y : Nat) : Int) := by
  induction y using Nat.strongRecOn with
  | ind y ih =>
    intro x hx hy
    rcases Nat.eq_zero_or_pos y with rfl | h0
    · rw [Nat.gcd_zero_right]
      refine Ev.step (f := fun _ => some (x : Int)) (fun k => ?_) (Ev.now _)
      rw [impl_gcd.l0, if_pos (by omega)]
      simp only [impl_absolute.f, mx_eq, Option.bind_some, Option.some.injEq]
      unfold wrap64
      omega
    · rw [gcd_step]
      have hlt := Nat.mod_lt x h0
      refine Ev.step (f := fun k => impl_gcd.l0 k (y : Int) ((x % y : Nat) : Int)) (fun k => ?_) (ih (x % y) hlt y hy (by omega))
      rw [impl_gcd.l0, if_neg (by omega), Int.ofNat_tmod]
/-- A fraction in its lowest terms. -/
def lowest (s n : Nat) : Int × Int := (wrap64 (Int.tdiv (s : Int) (Nat.gcd s n : Nat)), wrap64 (Int.tdiv (n : Int) (Nat.gcd s n : Nat)))
theorem gcd_ne (s : Nat) {n : Nat} (h : n ≠ 0) : Nat.gcd s n ≠ 0 := fun hg => h (Nat.gcd_eq_zero_iff.1 hg).2
theorem reduce_ev {s n : Nat} (hs : s ≤ 9223372036854775807) (h : n ≠ 0) : Ev (fun k => spec_l9Reduce.f k (s : Int) (n : Int)) (lowest s n) := by
  simp only [spec_l9Reduce.f, l1Most_eq, Option.bind_some]
  rw [show max (s : Int) (wrap64 (-(s : Int))) = (s : Int) by unfold wrap64; omega]
  exact specGcd_ev _ _ n s (gcd_ne s h)
theorem reduced_ev {s n : Nat} (hs : s ≤ 9223372036854775807) (hn : n ≤ 9223372036854775807) (h : n ≠ 0) : Ev (fun k => impl_reduced.f k (s : Int) (n : Int)) (lowest s n) := by
  simp only [impl_reduced.f, impl_gcd.f]
  refine Ev.bind (implGcd_ev n s hs hn) (Ev.ite_neg ?_ (Ev.now _))
  have := gcd_ne s h
  omega
end Go.Proofs.Ytaafbnnddlgafaa.Pure
