/- The sines and the roundings: the program's and the reference's are the same. -/
import Derived.Test.YtmbpdegkkdcjnaaDoorMWx9
import Derived.Test.YtmbpdegkkdcjnaaDoorMWx11
import Derived.Test.YtmbpdegkkdcjnaaDoorPBase
namespace Go.Proofs.YtmbpdegkkdcjnaaDoor.Pure
open Go.RowKit Go.Proofs.YtmbpdegkkdcjnaaDoor.MW Go.Proofs.YtmbpdegkkdcjnaaDoorW.PrintWords Go.Proofs.YtmbpdegkkdcjnaaDoorW.PrintLast Go.Proofs.YtmbpdegkkdcjnaaDoorW.PrintMore
set_option linter.unusedVariables false
set_option linter.unusedSimpArgs false
theorem l2Sine_eq (a : Int) : spec_l2Sine.f a = some (sinAt a) := by
 have hin := md_in a
 have e : Int.tmod (wrap64 ((Int.tmod a 360) + 360)) 360 = md a := rfl
 have hT : spec_l2Table.f = some sinTab := rfl
 have hl : (sinTab.length : Int) = 91 := rfl
 simp only [spec_l2Sine.f, hT, Option.bind_some, e, hl]
 unfold sinAt sinOf
 generalize md a = d at hin ⊢
 have w1 : wrap64 (180 - d) = 180 - d := by unfold wrap64; omega
 have w2 : wrap64 (d - 180) = d - 180 := by unfold wrap64; omega
 have w3 : wrap64 (360 - d) = 360 - d := by unfold wrap64; omega
 rw [w1, w2, w3]
 by_cases h1 : d ≤ 90
 ·rw [if_pos h1, if_pos (by omega), if_pos (by omega), if_pos (by omega), if_pos h1]
  rfl
 ·rw [if_neg h1]
  by_cases h2 : d ≤ 180
  ·rw [if_pos h2, if_pos (by omega), if_pos (by omega), if_pos h2, if_neg h1]
   rfl
  ·rw [if_neg h2, if_neg h2]
   by_cases h3 : d ≤ 270
   ·rw [if_pos h3, if_pos (by omega), if_pos (by omega), if_pos (by omega)]
    rfl
   ·rw [if_neg h3, if_pos (by omega), if_pos (by omega), if_neg (by omega), show 180 - (d - 180) = 360 - d by omega]
    rfl
theorem tab_in (i : Nat) : 0 ≤ sinTab.getD i 0 ∧ sinTab.getD i 0 ≤ 1000 := by
 by_cases h : i < 91
 ·have key : ∀ j : Nat, j < 91 → 0 ≤ sinTab.getD j 0 ∧ sinTab.getD j 0 ≤ 1000 := by decide
  exact key i h
 ·rw [List.getD_eq_getElem?_getD, List.getElem?_eq_none (show sinTab.length ≤ i from by have : sinTab.length = 91 := rfl; omega)]
  exact ⟨by decide, by decide⟩
theorem sin_in (a : Int) : -1000 ≤ sinAt a ∧ sinAt a ≤ 1000 := by
 have key : ∀ d, 0 ≤ sinOf d ∧ sinOf d ≤ 1000 := fun d => by
  unfold sinOf
  split
  ·exact tab_in _
  ·exact tab_in _
 unfold sinAt
 split
 ·have := key (md a); omega
 ·have := key (md a - 180)
  unfold wrap64
  omega
theorem mul_in {t s : Int} (ht : -500 ≤ t ∧ t ≤ 500) (hs : -1000 ≤ s ∧ s ≤ 1000) : -500000 ≤ t * s ∧ t * s ≤ 500000 := by
 have h : (t * s).natAbs ≤ 500 * 1000 := by
  rw [Int.natAbs_mul]
  exact Nat.mul_le_mul (by omega) (by omega)
 omega
theorem w2000 : wrap64 (2 * 1000) = 2000 := by unfold wrap64; omega
theorem nz2000 : ¬ wrap64 (2 * 1000) = 0 := by rw [w2000]; decide
def qo (y : Int) : Int := wrap64 (Int.tdiv (wrap64 ((wrap64 (2 * y)) + 1000)) (wrap64 (2 * 1000)))
theorem qo_in {y : Int} (h0 : 0 ≤ y) (h1 : y ≤ 500000) : 0 ≤ qo y ∧ qo y ≤ 500 := by
 have e1 : wrap64 (2 * y) = 2 * y := by unfold wrap64; omega
 have e2 : wrap64 (2 * y + 1000) = 2 * y + 1000 := by unfold wrap64; omega
 have e3 := w2000
 unfold qo
 rw [e1, e2, e3, Int.tdiv_eq_ediv_of_nonneg (by omega)]
 unfold wrap64
 omega
def rnd (x : Int) : Int := if x < 0 then wrap64 (-(qo (wrap64 (-x)))) else qo x
theorem neg_in {x : Int} (h : -500000 ≤ x ∧ x ≤ 500000) : wrap64 (-x) = -x := by unfold wrap64; omega
theorem rnd_in {x : Int} (h : -500000 ≤ x ∧ x ≤ 500000) : -500 ≤ rnd x ∧ rnd x ≤ 500 := by
 unfold rnd
 split
 ·rw [neg_in h]
  have := qo_in (y := -x) (by omega) (by omega)
  unfold wrap64
  omega
 ·have := qo_in (y := x) (by omega) (by omega)
  omega
theorem rounded_pos {x : Int} (h : ¬ x < 0) : Ev (fun k => impl_rounded.f k x 1000) (qo x) := by
 refine Ev.step (f := fun _ => some (qo x)) (fun k => ?_) (Ev.now _)
 simp only [impl_rounded.f]
 rw [if_neg h, if_neg nz2000]
 rfl
theorem rounded_ev (x : Int) (h : -500000 ≤ x ∧ x ≤ 500000) : Ev (fun k => impl_rounded.f k x 1000) (rnd x) := by
 by_cases hx : x < 0
 ·rw [show rnd x = wrap64 (-(qo (wrap64 (-x)))) from if_pos hx]
  exact Ev.step (f := fun k => (impl_rounded.f k (wrap64 (-x)) 1000).bind fun t => some (wrap64 (-t))) (fun k => by simp only [impl_rounded.f]; rw [if_pos hx]) (Ev.bind (rounded_pos (by rw [neg_in h]; omega)) (Ev.now _))
 ·rw [show rnd x = qo x from if_neg hx]
  exact rounded_pos hx
theorem l2Div_eq (x : Int) (h : -500000 ≤ x ∧ x ≤ 500000) : spec_l2Div.f x 1000 = some (rnd x) := by
 unfold spec_l2Div.f rnd
 by_cases hx : x < 0
 ·rw [if_pos hx, if_pos hx, if_neg nz2000, neg_in h, show (-2) * x = 2 * -x by omega]
  rfl
 ·rw [if_neg hx, if_neg hx, if_neg nz2000]
  rfl
theorem wmul {t s : Int} (ht : -500 ≤ t ∧ t ≤ 500) (hs : -1000 ≤ s ∧ s ≤ 1000) : wrap64 (t * s) = t * s := by
 have := mul_in ht hs
 unfold wrap64
 omega
def levelOf (t d : Int) : Int := rnd (t * sinAt (wrap64 (d + 90)))
def upOf (t d : Int) : Int := rnd (t * sinAt d)
theorem levelOf_in {t : Int} (ht : -500 ≤ t ∧ t ≤ 500) (d : Int) : -500 ≤ levelOf t d ∧ levelOf t d ≤ 500 := rnd_in (mul_in ht (sin_in _))
theorem partOf_ev (t d : Int) (ht : -500 ≤ t ∧ t ≤ 500) : Ev (fun k => impl_partOf.f k t d) (levelOf t d, upOf t d) := by
 simp only [impl_partOf.f, impl_cosine.f, impl_sine.f, Option.bind_some, wmul ht (sin_in _)]
 exact Ev.bind (rounded_ev _ (mul_in ht (sin_in _))) (Ev.bind (rounded_ev _ (mul_in ht (sin_in _))) (Ev.now _))
theorem shift_ev (a b t c d : Int) (ht : -500 ≤ t ∧ t ≤ 500) : Ev (fun k => impl_Leg_shift.f k a b t c d) (upOf (levelOf t d) c, levelOf (levelOf t d) c, upOf t d) := by
 simp only [impl_Leg_shift.f]
 exact Ev.bind (partOf_ev t d ht) (Ev.bind (partOf_ev _ c (levelOf_in ht d)) (Ev.now _))
theorem l4Shift_eq (a b t c d : Int) (ht : -500 ≤ t ∧ t ≤ 500) : spec_l4Shift.f a b t c d = some (upOf (levelOf t d) c, levelOf (levelOf t d) c, upOf t d) := by
 have hl := levelOf_in ht d
 simp only [spec_l4Shift.f, spec_l2Cosine.f, l2Sine_eq, Option.bind_some, wmul ht (sin_in _), l2Div_eq _ (mul_in ht (sin_in _))]
 simp only [show rnd (t * sinAt (wrap64 (d + 90))) = levelOf t d from rfl, wmul hl (sin_in _), l2Div_eq _ (mul_in hl (sin_in _)), Option.bind_some]
 rfl
end Go.Proofs.YtmbpdegkkdcjnaaDoor.Pure
