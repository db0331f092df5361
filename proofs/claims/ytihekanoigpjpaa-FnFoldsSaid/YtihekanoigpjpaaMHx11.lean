-- Written by a program of this session (wip/drv.py) out of Lean's own print of the loaded program; hand-proved parts from wip/inj.
import Derived.Test.YtihekanoigpjpaaMHx0
import Derived.Test.YtihekanoigpjpaaMHx2
import Derived.Test.YtihekanoigpjpaaMHx3
import Derived.Test.YtihekanoigpjpaaMHx4
import Derived.Test.YtihekanoigpjpaaMHx5
import Derived.Test.YtihekanoigpjpaaMHx6
import Derived.Test.YtihekanoigpjpaaMHx7
import Derived.Test.YtihekanoigpjpaaMHx8
import Derived.Test.YtihekanoigpjpaaMHx9
import Derived.Test.YtihekanoigpjpaaMHx10
namespace Go.Proofs.Ytihekanoigpjpaa.MH
open Go.RowKit Go.Proofs.YtihekanoigpjpaaW.PrintWords Go.Proofs.YtihekanoigpjpaaW.PrintLast Go.Proofs.YtihekanoigpjpaaW.PrintMore
attribute [local go_sem] max2_int min2_int max_two min_two max_three min_three max_four min_four   -- for this text's walks alone
set_option linter.unusedVariables false
set_option linter.unusedSimpArgs false

/-! ### laws_FnFolds: function 4 -/
mutual
def laws_FnFolds.j0 : Nat → List Int → List (S43) → Int → Bool → Bool → Option (Bool)
  | 0, _, _, _, _, _ => none
  | k + 1, x0, x3, x5, x6, x56 => if x56 = true then (some false) else (if x6 = true then ((impl_BestFold.f k x3).bind fun bt326 => (if (x3.length : Int) ≤ 10 then ((impl_FoldedWidth.f k x3 bt326.1).bind fun bt331 => (if bt326.2.2 = true then (if bt331.2 = true then (if bt331.1 = bt326.2.1 then (if bt326.2.1 > x5 then (some false) else (laws_FnFolds.j1 k x0)) else (some false)) else (some false)) else (some false))) else (laws_FnFolds.j1 k x0))) else (laws_FnFolds.j1 k x0))
def laws_FnFolds.j1 : Nat → List Int → Option (Bool)
  | 0, _ => none
  | k + 1, x0 => (spec_DrawBestFold.f k x0).bind fun t333 => ((impl_BestFold.f k t333).bind fun bt336 => ((spec_BestFold.f k t333).bind fun bt341 => (if (bt336.2.2 != bt341.2.2) = true then (laws_FnFolds.j2 k x0 t333 bt336.2.1 bt336.2.2 true) else (if bt336.2.1 = bt341.2.1 then ((laws_rInts.f k bt336.1 bt341.1).bind fun t346 => (laws_FnFolds.j2 k x0 t333 bt336.2.1 bt336.2.2 (!t346))) else (laws_FnFolds.j2 k x0 t333 bt336.2.1 bt336.2.2 true)))))
def laws_FnFolds.j2 : Nat → List Int → List (S43) → Int → Bool → Bool → Option (Bool)
  | 0, _, _, _, _, _ => none
  | k + 1, x0, x14, x16, x17, x116 => if x116 = true then (some false) else (laws_FnFolds.l0 k x0 x14 x16 x17 0)
def laws_FnFolds.l0 : Nat → List Int → List (S43) → Int → Bool → Int → Option (Bool)
  | 0, _, _, _, _, _ => none
  | k + 1, x0, x14, x16, x17, x21 => if x21 < (x14.length : Int) then (laws_FnFolds.j4 k x0 x14 x16 x17 x21 x17) else (laws_FnFolds.j4 k x0 x14 x16 x17 x21 false)
def laws_FnFolds.j4 : Nat → List Int → List (S43) → Int → Bool → Int → Bool → Option (Bool)
  | 0, _, _, _, _, _, _ => none
  | k + 1, x0, x14, x16, x17, x21, x123 => if x123 = true then (if 0 ≤ x21 then (if x21 < (x14.length : Int) then (if ((rd_T43 x14 x21).f0) > x16 then (some false) else (laws_FnFolds.l0 k x0 x14 x16 x17 (wrap64 (x21 + 1)))) else (none)) else (none)) else ((spec_DrawSteepestRun.f k x0).bind fun t348 => ((impl_SteepestRun.f k t348).bind fun bt351 => ((spec_SteepestRun.f k t348).bind fun bt353 => (if bt351.1 = bt353.1 then (laws_FnFolds.j5 k t348 bt351.1 bt351.2 (bt351.2 != bt353.2)) else (laws_FnFolds.j5 k t348 bt351.1 bt351.2 true)))))
def laws_FnFolds.j5 : Nat → List (S43) → Int → Bool → Bool → Option (Bool)
  | 0, _, _, _, _ => none
  | k + 1, x22, x23, x24, x152 => if x152 = true then (some false) else (laws_FnFolds.l1 k x22 x23 x24 0)
def laws_FnFolds.l1 : Nat → List (S43) → Int → Bool → Int → Option (Bool)
  | 0, _, _, _, _ => none
  | k + 1, x22, x23, x24, x27 => if x27 < (x22.length : Int) then (laws_FnFolds.j7 k x22 x23 x24 x27 x24) else (laws_FnFolds.j7 k x22 x23 x24 x27 false)
def laws_FnFolds.j7 : Nat → List (S43) → Int → Bool → Int → Bool → Option (Bool)
  | 0, _, _, _, _, _ => none
  | k + 1, x22, x23, x24, x27, x159 => if x159 = true then (if 0 ≤ x27 then (if x27 < (x22.length : Int) then (if 0 ≤ x23 then (if x23 < (x22.length : Int) then (if ((rd_T43 x22 x27).f1) < 0 then (laws_FnFolds.j8 k x22 x23 x24 x27 ((rd_T43 x22 x27).f0) (wrap64 (-((rd_T43 x22 x27).f1))) ((rd_T43 x22 x23).f0) ((rd_T43 x22 x23).f1)) else (laws_FnFolds.j8 k x22 x23 x24 x27 ((rd_T43 x22 x27).f0) ((rd_T43 x22 x27).f1) ((rd_T43 x22 x23).f0) ((rd_T43 x22 x23).f1))) else (none)) else (none)) else (none)) else (none)) else (some true)
def laws_FnFolds.j8 : Nat → List (S43) → Int → Bool → Int → Int → Int → Int → Int → Option (Bool)
  | 0, _, _, _, _, _, _, _, _ => none
  | k + 1, x22, x23, x24, x27, x358000, x358001, x359000, x359001 => if x359001 < 0 then (if (wrap64 (x358001 * x359000)) > (wrap64 ((wrap64 (-x359001)) * x358000)) then (some false) else (if x27 < x23 then (if (wrap64 (x358001 * x359000)) = (wrap64 ((wrap64 (-x359001)) * x358000)) then (some false) else (laws_FnFolds.l1 k x22 x23 x24 (wrap64 (x27 + 1)))) else (laws_FnFolds.l1 k x22 x23 x24 (wrap64 (x27 + 1))))) else (if (wrap64 (x358001 * x359000)) > (wrap64 (x359001 * x358000)) then (some false) else (if x27 < x23 then (if (wrap64 (x358001 * x359000)) = (wrap64 (x359001 * x358000)) then (some false) else (laws_FnFolds.l1 k x22 x23 x24 (wrap64 (x27 + 1)))) else (laws_FnFolds.l1 k x22 x23 x24 (wrap64 (x27 + 1)))))
end
def laws_FnFolds.f (k : Nat) (l0 : List Int) : Option (Bool) := (laws_rBig.f l0).bind fun t315 => (if t315 = true then (some true) else ((spec_DrawFoldedWidth.f k l0).bind fun bt316 => ((impl_FoldedWidth.f k bt316.1 bt316.2).bind fun bt322 => ((spec_FoldedWidth.f k bt316.1 bt316.2).bind fun bt324 => (if bt322.1 = bt324.1 then (laws_FnFolds.j0 k l0 bt316.1 bt322.1 bt322.2 (bt322.2 != bt324.2)) else (laws_FnFolds.j0 k l0 bt316.1 bt322.1 bt322.2 true))))))
theorem laws_FnFolds.mono_l : ∀ k, (∀ y0 y1 y2 y3 y4, LeO (laws_FnFolds.j0 k y0 y1 y2 y3 y4) (laws_FnFolds.j0 (k + 1) y0 y1 y2 y3 y4)) ∧ (∀ y0, LeO (laws_FnFolds.j1 k y0) (laws_FnFolds.j1 (k + 1) y0)) ∧ (∀ y0 y1 y2 y3 y4, LeO (laws_FnFolds.j2 k y0 y1 y2 y3 y4) (laws_FnFolds.j2 (k + 1) y0 y1 y2 y3 y4)) ∧ (∀ y0 y1 y2 y3 y4, LeO (laws_FnFolds.l0 k y0 y1 y2 y3 y4) (laws_FnFolds.l0 (k + 1) y0 y1 y2 y3 y4)) ∧ (∀ y0 y1 y2 y3 y4 y5, LeO (laws_FnFolds.j4 k y0 y1 y2 y3 y4 y5) (laws_FnFolds.j4 (k + 1) y0 y1 y2 y3 y4 y5)) ∧ (∀ y0 y1 y2 y3, LeO (laws_FnFolds.j5 k y0 y1 y2 y3) (laws_FnFolds.j5 (k + 1) y0 y1 y2 y3)) ∧ (∀ y0 y1 y2 y3, LeO (laws_FnFolds.l1 k y0 y1 y2 y3) (laws_FnFolds.l1 (k + 1) y0 y1 y2 y3)) ∧ (∀ y0 y1 y2 y3 y4, LeO (laws_FnFolds.j7 k y0 y1 y2 y3 y4) (laws_FnFolds.j7 (k + 1) y0 y1 y2 y3 y4)) ∧ (∀ y0 y1 y2 y3 y4 y5 y6 y7, LeO (laws_FnFolds.j8 k y0 y1 y2 y3 y4 y5 y6 y7) (laws_FnFolds.j8 (k + 1) y0 y1 y2 y3 y4 y5 y6 y7))
  | 0 => ⟨fun _ _ _ _ _ r h => by simp [laws_FnFolds.j0] at h, fun _ r h => by simp [laws_FnFolds.j1] at h, fun _ _ _ _ _ r h => by simp [laws_FnFolds.j2] at h, fun _ _ _ _ _ r h => by simp [laws_FnFolds.l0] at h, fun _ _ _ _ _ _ r h => by simp [laws_FnFolds.j4] at h, fun _ _ _ _ r h => by simp [laws_FnFolds.j5] at h, fun _ _ _ _ r h => by simp [laws_FnFolds.l1] at h, fun _ _ _ _ _ r h => by simp [laws_FnFolds.j7] at h, fun _ _ _ _ _ _ _ _ r h => by simp [laws_FnFolds.j8] at h⟩
  | k + 1 => by
    obtain ⟨ih0, ih1, ih2, ih3, ih4, ih5, ih6, ih7, ih8⟩ := laws_FnFolds.mono_l k
    refine ⟨?_, ?_, ?_, ?_, ?_, ?_, ?_, ?_, ?_⟩
    · intro y0 y1 y2 y3 y4
      unfold laws_FnFolds.j0
      repeat' first
      | (with_reducible exact ih0 _ _ _ _ _)
      | (with_reducible exact ih1 _)
      | (with_reducible exact ih2 _ _ _ _ _)
      | (with_reducible exact ih3 _ _ _ _ _)
      | (with_reducible exact ih4 _ _ _ _ _ _)
      | (with_reducible exact ih5 _ _ _ _)
      | (with_reducible exact ih6 _ _ _ _)
      | (with_reducible exact ih7 _ _ _ _ _)
      | (with_reducible exact ih8 _ _ _ _ _ _ _ _)
      | (with_reducible exact impl_BestFold.mono _ _)
      | (with_reducible exact impl_FoldedWidth.mono _ _ _)
      | (with_reducible exact impl_SteepestRun.mono _ _)
      | (with_reducible exact laws_rInts.mono _ _ _)
      | (with_reducible exact spec_BestFold.mono _ _)
      | (with_reducible exact spec_DrawBestFold.mono _ _)
      | (with_reducible exact spec_DrawFoldedWidth.mono _ _)
      | (with_reducible exact spec_DrawSteepestRun.mono _ _)
      | (with_reducible exact spec_FoldedWidth.mono _ _ _)
      | (with_reducible exact spec_SteepestRun.mono _ _)
      | (with_reducible exact LeO.refl _)
      | (with_reducible exact LeO.none _)
      | (with_reducible refine LeO.ite ?_ ?_)
      | (with_reducible refine LeO.bind ?_ (fun _ => ?_))
      | exact ih0 _ _ _ _ _
      | exact ih1 _
      | exact ih2 _ _ _ _ _
      | exact ih3 _ _ _ _ _
      | exact ih4 _ _ _ _ _ _
      | exact ih5 _ _ _ _
      | exact ih6 _ _ _ _
      | exact ih7 _ _ _ _ _
      | exact ih8 _ _ _ _ _ _ _ _
      | exact impl_BestFold.mono _ _
      | exact impl_FoldedWidth.mono _ _ _
      | exact impl_SteepestRun.mono _ _
      | exact laws_rInts.mono _ _ _
      | exact spec_BestFold.mono _ _
      | exact spec_DrawBestFold.mono _ _
      | exact spec_DrawFoldedWidth.mono _ _
      | exact spec_DrawSteepestRun.mono _ _
      | exact spec_FoldedWidth.mono _ _ _
      | exact spec_SteepestRun.mono _ _
      | exact LeO.none _
      | refine LeO.ite ?_ ?_
      | refine LeO.bind ?_ (fun _ => ?_)
    · intro y0
      unfold laws_FnFolds.j1
      repeat' first
      | (with_reducible exact ih0 _ _ _ _ _)
      | (with_reducible exact ih1 _)
      | (with_reducible exact ih2 _ _ _ _ _)
      | (with_reducible exact ih3 _ _ _ _ _)
      | (with_reducible exact ih4 _ _ _ _ _ _)
      | (with_reducible exact ih5 _ _ _ _)
      | (with_reducible exact ih6 _ _ _ _)
      | (with_reducible exact ih7 _ _ _ _ _)
      | (with_reducible exact ih8 _ _ _ _ _ _ _ _)
      | (with_reducible exact impl_BestFold.mono _ _)
      | (with_reducible exact impl_FoldedWidth.mono _ _ _)
      | (with_reducible exact impl_SteepestRun.mono _ _)
      | (with_reducible exact laws_rInts.mono _ _ _)
      | (with_reducible exact spec_BestFold.mono _ _)
      | (with_reducible exact spec_DrawBestFold.mono _ _)
      | (with_reducible exact spec_DrawFoldedWidth.mono _ _)
      | (with_reducible exact spec_DrawSteepestRun.mono _ _)
      | (with_reducible exact spec_FoldedWidth.mono _ _ _)
      | (with_reducible exact spec_SteepestRun.mono _ _)
      | (with_reducible exact LeO.refl _)
      | (with_reducible exact LeO.none _)
      | (with_reducible refine LeO.ite ?_ ?_)
      | (with_reducible refine LeO.bind ?_ (fun _ => ?_))
      | exact ih0 _ _ _ _ _
      | exact ih1 _
      | exact ih2 _ _ _ _ _
      | exact ih3 _ _ _ _ _
      | exact ih4 _ _ _ _ _ _
      | exact ih5 _ _ _ _
      | exact ih6 _ _ _ _
      | exact ih7 _ _ _ _ _
      | exact ih8 _ _ _ _ _ _ _ _
      | exact impl_BestFold.mono _ _
      | exact impl_FoldedWidth.mono _ _ _
      | exact impl_SteepestRun.mono _ _
      | exact laws_rInts.mono _ _ _
      | exact spec_BestFold.mono _ _
      | exact spec_DrawBestFold.mono _ _
      | exact spec_DrawFoldedWidth.mono _ _
      | exact spec_DrawSteepestRun.mono _ _
      | exact spec_FoldedWidth.mono _ _ _
      | exact spec_SteepestRun.mono _ _
      | exact LeO.none _
      | refine LeO.ite ?_ ?_
      | refine LeO.bind ?_ (fun _ => ?_)
    · intro y0 y1 y2 y3 y4
      unfold laws_FnFolds.j2
      repeat' first
      | (with_reducible exact ih0 _ _ _ _ _)
      | (with_reducible exact ih1 _)
      | (with_reducible exact ih2 _ _ _ _ _)
      | (with_reducible exact ih3 _ _ _ _ _)
      | (with_reducible exact ih4 _ _ _ _ _ _)
      | (with_reducible exact ih5 _ _ _ _)
      | (with_reducible exact ih6 _ _ _ _)
      | (with_reducible exact ih7 _ _ _ _ _)
      | (with_reducible exact ih8 _ _ _ _ _ _ _ _)
      | (with_reducible exact impl_BestFold.mono _ _)
      | (with_reducible exact impl_FoldedWidth.mono _ _ _)
      | (with_reducible exact impl_SteepestRun.mono _ _)
      | (with_reducible exact laws_rInts.mono _ _ _)
      | (with_reducible exact spec_BestFold.mono _ _)
      | (with_reducible exact spec_DrawBestFold.mono _ _)
      | (with_reducible exact spec_DrawFoldedWidth.mono _ _)
      | (with_reducible exact spec_DrawSteepestRun.mono _ _)
      | (with_reducible exact spec_FoldedWidth.mono _ _ _)
      | (with_reducible exact spec_SteepestRun.mono _ _)
      | (with_reducible exact LeO.refl _)
      | (with_reducible exact LeO.none _)
      | (with_reducible refine LeO.ite ?_ ?_)
      | (with_reducible refine LeO.bind ?_ (fun _ => ?_))
      | exact ih0 _ _ _ _ _
      | exact ih1 _
      | exact ih2 _ _ _ _ _
      | exact ih3 _ _ _ _ _
      | exact ih4 _ _ _ _ _ _
      | exact ih5 _ _ _ _
      | exact ih6 _ _ _ _
      | exact ih7 _ _ _ _ _
      | exact ih8 _ _ _ _ _ _ _ _
      | exact impl_BestFold.mono _ _
      | exact impl_FoldedWidth.mono _ _ _
      | exact impl_SteepestRun.mono _ _
      | exact laws_rInts.mono _ _ _
      | exact spec_BestFold.mono _ _
      | exact spec_DrawBestFold.mono _ _
      | exact spec_DrawFoldedWidth.mono _ _
      | exact spec_DrawSteepestRun.mono _ _
      | exact spec_FoldedWidth.mono _ _ _
      | exact spec_SteepestRun.mono _ _
      | exact LeO.none _
      | refine LeO.ite ?_ ?_
      | refine LeO.bind ?_ (fun _ => ?_)
    · intro y0 y1 y2 y3 y4
      unfold laws_FnFolds.l0
      repeat' first
      | (with_reducible exact ih0 _ _ _ _ _)
      | (with_reducible exact ih1 _)
      | (with_reducible exact ih2 _ _ _ _ _)
      | (with_reducible exact ih3 _ _ _ _ _)
      | (with_reducible exact ih4 _ _ _ _ _ _)
      | (with_reducible exact ih5 _ _ _ _)
      | (with_reducible exact ih6 _ _ _ _)
      | (with_reducible exact ih7 _ _ _ _ _)
      | (with_reducible exact ih8 _ _ _ _ _ _ _ _)
      | (with_reducible exact impl_BestFold.mono _ _)
      | (with_reducible exact impl_FoldedWidth.mono _ _ _)
      | (with_reducible exact impl_SteepestRun.mono _ _)
      | (with_reducible exact laws_rInts.mono _ _ _)
      | (with_reducible exact spec_BestFold.mono _ _)
      | (with_reducible exact spec_DrawBestFold.mono _ _)
      | (with_reducible exact spec_DrawFoldedWidth.mono _ _)
      | (with_reducible exact spec_DrawSteepestRun.mono _ _)
      | (with_reducible exact spec_FoldedWidth.mono _ _ _)
      | (with_reducible exact spec_SteepestRun.mono _ _)
      | (with_reducible exact LeO.refl _)
      | (with_reducible exact LeO.none _)
      | (with_reducible refine LeO.ite ?_ ?_)
      | (with_reducible refine LeO.bind ?_ (fun _ => ?_))
      | exact ih0 _ _ _ _ _
      | exact ih1 _
      | exact ih2 _ _ _ _ _
      | exact ih3 _ _ _ _ _
      | exact ih4 _ _ _ _ _ _
      | exact ih5 _ _ _ _
      | exact ih6 _ _ _ _
      | exact ih7 _ _ _ _ _
      | exact ih8 _ _ _ _ _ _ _ _
      | exact impl_BestFold.mono _ _
      | exact impl_FoldedWidth.mono _ _ _
      | exact impl_SteepestRun.mono _ _
      | exact laws_rInts.mono _ _ _
      | exact spec_BestFold.mono _ _
      | exact spec_DrawBestFold.mono _ _
      | exact spec_DrawFoldedWidth.mono _ _
      | exact spec_DrawSteepestRun.mono _ _
      | exact spec_FoldedWidth.mono _ _ _
      | exact spec_SteepestRun.mono _ _
      | exact LeO.none _
      | refine LeO.ite ?_ ?_
      | refine LeO.bind ?_ (fun _ => ?_)
    · intro y0 y1 y2 y3 y4 y5
      unfold laws_FnFolds.j4
      repeat' first
      | (with_reducible exact ih0 _ _ _ _ _)
      | (with_reducible exact ih1 _)
      | (with_reducible exact ih2 _ _ _ _ _)
      | (with_reducible exact ih3 _ _ _ _ _)
      | (with_reducible exact ih4 _ _ _ _ _ _)
      | (with_reducible exact ih5 _ _ _ _)
      | (with_reducible exact ih6 _ _ _ _)
      | (with_reducible exact ih7 _ _ _ _ _)
      | (with_reducible exact ih8 _ _ _ _ _ _ _ _)
      | (with_reducible exact impl_BestFold.mono _ _)
      | (with_reducible exact impl_FoldedWidth.mono _ _ _)
      | (with_reducible exact impl_SteepestRun.mono _ _)
      | (with_reducible exact laws_rInts.mono _ _ _)
      | (with_reducible exact spec_BestFold.mono _ _)
      | (with_reducible exact spec_DrawBestFold.mono _ _)
      | (with_reducible exact spec_DrawFoldedWidth.mono _ _)
      | (with_reducible exact spec_DrawSteepestRun.mono _ _)
      | (with_reducible exact spec_FoldedWidth.mono _ _ _)
      | (with_reducible exact spec_SteepestRun.mono _ _)
      | (with_reducible exact LeO.refl _)
      | (with_reducible exact LeO.none _)
      | (with_reducible refine LeO.ite ?_ ?_)
      | (with_reducible refine LeO.bind ?_ (fun _ => ?_))
      | exact ih0 _ _ _ _ _
      | exact ih1 _
      | exact ih2 _ _ _ _ _
      | exact ih3 _ _ _ _ _
      | exact ih4 _ _ _ _ _ _
      | exact ih5 _ _ _ _
      | exact ih6 _ _ _ _
      | exact ih7 _ _ _ _ _
      | exact ih8 _ _ _ _ _ _ _ _
      | exact impl_BestFold.mono _ _
      | exact impl_FoldedWidth.mono _ _ _
      | exact impl_SteepestRun.mono _ _
      | exact laws_rInts.mono _ _ _
      | exact spec_BestFold.mono _ _
      | exact spec_DrawBestFold.mono _ _
      | exact spec_DrawFoldedWidth.mono _ _
      | exact spec_DrawSteepestRun.mono _ _
      | exact spec_FoldedWidth.mono _ _ _
      | exact spec_SteepestRun.mono _ _
      | exact LeO.none _
      | refine LeO.ite ?_ ?_
      | refine LeO.bind ?_ (fun _ => ?_)
    · intro y0 y1 y2 y3
      unfold laws_FnFolds.j5
      repeat' first
      | (with_reducible exact ih0 _ _ _ _ _)
      | (with_reducible exact ih1 _)
      | (with_reducible exact ih2 _ _ _ _ _)
      | (with_reducible exact ih3 _ _ _ _ _)
      | (with_reducible exact ih4 _ _ _ _ _ _)
      | (with_reducible exact ih5 _ _ _ _)
      | (with_reducible exact ih6 _ _ _ _)
      | (with_reducible exact ih7 _ _ _ _ _)
      | (with_reducible exact ih8 _ _ _ _ _ _ _ _)
      | (with_reducible exact impl_BestFold.mono _ _)
      | (with_reducible exact impl_FoldedWidth.mono _ _ _)
      | (with_reducible exact impl_SteepestRun.mono _ _)
      | (with_reducible exact laws_rInts.mono _ _ _)
      | (with_reducible exact spec_BestFold.mono _ _)
      | (with_reducible exact spec_DrawBestFold.mono _ _)
      | (with_reducible exact spec_DrawFoldedWidth.mono _ _)
      | (with_reducible exact spec_DrawSteepestRun.mono _ _)
      | (with_reducible exact spec_FoldedWidth.mono _ _ _)
      | (with_reducible exact spec_SteepestRun.mono _ _)
      | (with_reducible exact LeO.refl _)
      | (with_reducible exact LeO.none _)
      | (with_reducible refine LeO.ite ?_ ?_)
      | (with_reducible refine LeO.bind ?_ (fun _ => ?_))
      | exact ih0 _ _ _ _ _
      | exact ih1 _
      | exact ih2 _ _ _ _ _
      | exact ih3 _ _ _ _ _
      | exact ih4 _ _ _ _ _ _
      | exact ih5 _ _ _ _
      | exact ih6 _ _ _ _
      | exact ih7 _ _ _ _ _
      | exact ih8 _ _ _ _ _ _ _ _
      | exact impl_BestFold.mono _ _
      | exact impl_FoldedWidth.mono _ _ _
      | exact impl_SteepestRun.mono _ _
      | exact laws_rInts.mono _ _ _
      | exact spec_BestFold.mono _ _
      | exact spec_DrawBestFold.mono _ _
      | exact spec_DrawFoldedWidth.mono _ _
      | exact spec_DrawSteepestRun.mono _ _
      | exact spec_FoldedWidth.mono _ _ _
      | exact spec_SteepestRun.mono _ _
      | exact LeO.none _
      | refine LeO.ite ?_ ?_
      | refine LeO.bind ?_ (fun _ => ?_)
    · intro y0 y1 y2 y3
      unfold laws_FnFolds.l1
      repeat' first
      | (with_reducible exact ih0 _ _ _ _ _)
      | (with_reducible exact ih1 _)
      | (with_reducible exact ih2 _ _ _ _ _)
      | (with_reducible exact ih3 _ _ _ _ _)
      | (with_reducible exact ih4 _ _ _ _ _ _)
      | (with_reducible exact ih5 _ _ _ _)
      | (with_reducible exact ih6 _ _ _ _)
      | (with_reducible exact ih7 _ _ _ _ _)
      | (with_reducible exact ih8 _ _ _ _ _ _ _ _)
      | (with_reducible exact impl_BestFold.mono _ _)
      | (with_reducible exact impl_FoldedWidth.mono _ _ _)
      | (with_reducible exact impl_SteepestRun.mono _ _)
      | (with_reducible exact laws_rInts.mono _ _ _)
      | (with_reducible exact spec_BestFold.mono _ _)
      | (with_reducible exact spec_DrawBestFold.mono _ _)
      | (with_reducible exact spec_DrawFoldedWidth.mono _ _)
      | (with_reducible exact spec_DrawSteepestRun.mono _ _)
      | (with_reducible exact spec_FoldedWidth.mono _ _ _)
      | (with_reducible exact spec_SteepestRun.mono _ _)
      | (with_reducible exact LeO.refl _)
      | (with_reducible exact LeO.none _)
      | (with_reducible refine LeO.ite ?_ ?_)
      | (with_reducible refine LeO.bind ?_ (fun _ => ?_))
      | exact ih0 _ _ _ _ _
      | exact ih1 _
      | exact ih2 _ _ _ _ _
      | exact ih3 _ _ _ _ _
      | exact ih4 _ _ _ _ _ _
      | exact ih5 _ _ _ _
      | exact ih6 _ _ _ _
      | exact ih7 _ _ _ _ _
      | exact ih8 _ _ _ _ _ _ _ _
      | exact impl_BestFold.mono _ _
      | exact impl_FoldedWidth.mono _ _ _
      | exact impl_SteepestRun.mono _ _
      | exact laws_rInts.mono _ _ _
      | exact spec_BestFold.mono _ _
      | exact spec_DrawBestFold.mono _ _
      | exact spec_DrawFoldedWidth.mono _ _
      | exact spec_DrawSteepestRun.mono _ _
      | exact spec_FoldedWidth.mono _ _ _
      | exact spec_SteepestRun.mono _ _
      | exact LeO.none _
      | refine LeO.ite ?_ ?_
      | refine LeO.bind ?_ (fun _ => ?_)
    · intro y0 y1 y2 y3 y4
      unfold laws_FnFolds.j7
      repeat' first
      | (with_reducible exact ih0 _ _ _ _ _)
      | (with_reducible exact ih1 _)
      | (with_reducible exact ih2 _ _ _ _ _)
      | (with_reducible exact ih3 _ _ _ _ _)
      | (with_reducible exact ih4 _ _ _ _ _ _)
      | (with_reducible exact ih5 _ _ _ _)
      | (with_reducible exact ih6 _ _ _ _)
      | (with_reducible exact ih7 _ _ _ _ _)
      | (with_reducible exact ih8 _ _ _ _ _ _ _ _)
      | (with_reducible exact impl_BestFold.mono _ _)
      | (with_reducible exact impl_FoldedWidth.mono _ _ _)
      | (with_reducible exact impl_SteepestRun.mono _ _)
      | (with_reducible exact laws_rInts.mono _ _ _)
      | (with_reducible exact spec_BestFold.mono _ _)
      | (with_reducible exact spec_DrawBestFold.mono _ _)
      | (with_reducible exact spec_DrawFoldedWidth.mono _ _)
      | (with_reducible exact spec_DrawSteepestRun.mono _ _)
      | (with_reducible exact spec_FoldedWidth.mono _ _ _)
      | (with_reducible exact spec_SteepestRun.mono _ _)
      | (with_reducible exact LeO.refl _)
      | (with_reducible exact LeO.none _)
      | (with_reducible refine LeO.ite ?_ ?_)
      | (with_reducible refine LeO.bind ?_ (fun _ => ?_))
      | exact ih0 _ _ _ _ _
      | exact ih1 _
      | exact ih2 _ _ _ _ _
      | exact ih3 _ _ _ _ _
      | exact ih4 _ _ _ _ _ _
      | exact ih5 _ _ _ _
      | exact ih6 _ _ _ _
      | exact ih7 _ _ _ _ _
      | exact ih8 _ _ _ _ _ _ _ _
      | exact impl_BestFold.mono _ _
      | exact impl_FoldedWidth.mono _ _ _
      | exact impl_SteepestRun.mono _ _
      | exact laws_rInts.mono _ _ _
      | exact spec_BestFold.mono _ _
      | exact spec_DrawBestFold.mono _ _
      | exact spec_DrawFoldedWidth.mono _ _
      | exact spec_DrawSteepestRun.mono _ _
      | exact spec_FoldedWidth.mono _ _ _
      | exact spec_SteepestRun.mono _ _
      | exact LeO.none _
      | refine LeO.ite ?_ ?_
      | refine LeO.bind ?_ (fun _ => ?_)
    · intro y0 y1 y2 y3 y4 y5 y6 y7
      unfold laws_FnFolds.j8
      repeat' first
      | (with_reducible exact ih0 _ _ _ _ _)
      | (with_reducible exact ih1 _)
      | (with_reducible exact ih2 _ _ _ _ _)
      | (with_reducible exact ih3 _ _ _ _ _)
      | (with_reducible exact ih4 _ _ _ _ _ _)
      | (with_reducible exact ih5 _ _ _ _)
      | (with_reducible exact ih6 _ _ _ _)
      | (with_reducible exact ih7 _ _ _ _ _)
      | (with_reducible exact ih8 _ _ _ _ _ _ _ _)
      | (with_reducible exact impl_BestFold.mono _ _)
      | (with_reducible exact impl_FoldedWidth.mono _ _ _)
      | (with_reducible exact impl_SteepestRun.mono _ _)
      | (with_reducible exact laws_rInts.mono _ _ _)
      | (with_reducible exact spec_BestFold.mono _ _)
      | (with_reducible exact spec_DrawBestFold.mono _ _)
      | (with_reducible exact spec_DrawFoldedWidth.mono _ _)
      | (with_reducible exact spec_DrawSteepestRun.mono _ _)
      | (with_reducible exact spec_FoldedWidth.mono _ _ _)
      | (with_reducible exact spec_SteepestRun.mono _ _)
      | (with_reducible exact LeO.refl _)
      | (with_reducible exact LeO.none _)
      | (with_reducible refine LeO.ite ?_ ?_)
      | (with_reducible refine LeO.bind ?_ (fun _ => ?_))
      | exact ih0 _ _ _ _ _
      | exact ih1 _
      | exact ih2 _ _ _ _ _
      | exact ih3 _ _ _ _ _
      | exact ih4 _ _ _ _ _ _
      | exact ih5 _ _ _ _
      | exact ih6 _ _ _ _
      | exact ih7 _ _ _ _ _
      | exact ih8 _ _ _ _ _ _ _ _
      | exact impl_BestFold.mono _ _
      | exact impl_FoldedWidth.mono _ _ _
      | exact impl_SteepestRun.mono _ _
      | exact laws_rInts.mono _ _ _
      | exact spec_BestFold.mono _ _
      | exact spec_DrawBestFold.mono _ _
      | exact spec_DrawFoldedWidth.mono _ _
      | exact spec_DrawSteepestRun.mono _ _
      | exact spec_FoldedWidth.mono _ _ _
      | exact spec_SteepestRun.mono _ _
      | exact LeO.none _
      | refine LeO.ite ?_ ?_
      | refine LeO.bind ?_ (fun _ => ?_)
theorem laws_FnFolds.mono : ∀ a0 k, LeO (laws_FnFolds.f k a0) (laws_FnFolds.f (k + 1) a0) := by
  intro a0 k
  obtain ⟨ih0, ih1, ih2, ih3, ih4, ih5, ih6, ih7, ih8⟩ := laws_FnFolds.mono_l k
  unfold laws_FnFolds.f
  repeat' first
      | (with_reducible exact ih0 _ _ _ _ _)
      | (with_reducible exact ih1 _)
      | (with_reducible exact ih2 _ _ _ _ _)
      | (with_reducible exact ih3 _ _ _ _ _)
      | (with_reducible exact ih4 _ _ _ _ _ _)
      | (with_reducible exact ih5 _ _ _ _)
      | (with_reducible exact ih6 _ _ _ _)
      | (with_reducible exact ih7 _ _ _ _ _)
      | (with_reducible exact ih8 _ _ _ _ _ _ _ _)
      | (with_reducible exact impl_BestFold.mono _ _)
      | (with_reducible exact impl_FoldedWidth.mono _ _ _)
      | (with_reducible exact impl_SteepestRun.mono _ _)
      | (with_reducible exact laws_rInts.mono _ _ _)
      | (with_reducible exact spec_BestFold.mono _ _)
      | (with_reducible exact spec_DrawBestFold.mono _ _)
      | (with_reducible exact spec_DrawFoldedWidth.mono _ _)
      | (with_reducible exact spec_DrawSteepestRun.mono _ _)
      | (with_reducible exact spec_FoldedWidth.mono _ _ _)
      | (with_reducible exact spec_SteepestRun.mono _ _)
      | (with_reducible exact LeO.refl _)
      | (with_reducible exact LeO.none _)
      | (with_reducible refine LeO.ite ?_ ?_)
      | (with_reducible refine LeO.bind ?_ (fun _ => ?_))
      | exact ih0 _ _ _ _ _
      | exact ih1 _
      | exact ih2 _ _ _ _ _
      | exact ih3 _ _ _ _ _
      | exact ih4 _ _ _ _ _ _
      | exact ih5 _ _ _ _
      | exact ih6 _ _ _ _
      | exact ih7 _ _ _ _ _
      | exact ih8 _ _ _ _ _ _ _ _
      | exact impl_BestFold.mono _ _
      | exact impl_FoldedWidth.mono _ _ _
      | exact impl_SteepestRun.mono _ _
      | exact laws_rInts.mono _ _ _
      | exact spec_BestFold.mono _ _
      | exact spec_DrawBestFold.mono _ _
      | exact spec_DrawFoldedWidth.mono _ _
      | exact spec_DrawSteepestRun.mono _ _
      | exact spec_FoldedWidth.mono _ _ _
      | exact spec_SteepestRun.mono _ _
      | exact LeO.none _
      | refine LeO.ite ?_ ?_
      | refine LeO.bind ?_ (fun _ => ?_)
def laws_FnFolds.T32 : Bool × List (List Nat × List Nat) := (true, [([], []), ([], []), ([0, 1], [0, 1]), ([2], [2]), ([], []), ([], []), ([4, 5], [4, 5]), ([6], [6]), ([], []), ([], []), ([8, 3, 0, 1, 2, 3, 8, 9], [3, 8]), ([9, 7, 10, 0, 1, 2, 3, 4, 5, 6, 7, 8, 9, 10], [7, 9])])
def laws_FnFolds.B32 : List Nat := [0, 0, 3, 7, 0, 0, 48, 112, 0, 0, 783, 2047]
theorem laws_FnFolds.tab32 : rtab .any (opsOf Try.f4 32) = laws_FnFolds.T32 := by kernel_rfl
theorem laws_FnFolds.bits32 : waitsOk laws_FnFolds.T32.2 laws_FnFolds.B32 = true := by kernel_rfl
set_option maxHeartbeats 8000000 in
set_option maxRecDepth 100000 in
theorem laws_FnFolds.calls (k : Nat) (A0 : Option Addr) (c0 : Nat) (l0 : List Int) (r : Bool) (w : World) (hr0 : Kd.C (Kd.int .u8) w A0 l0.length l0) (hc0 : l0.length ≤ c0) (h : laws_FnFolds.f k l0 = some r) :
    Calls Try.prog 4 #[.slice A0 l0.length c0] w fun e w' => e = .returned (.bool r) ∧ Below w.heap.size w w' := by
  have hu43 := Try.underlying43
  have HR0 := Aside0.mk hr0
  have HC0 := Aside0.mk hc0
  clear hr0 hc0
  have HB := Aside0.mk (Below.refl w.heap.size w)
  have H : ((laws_rBig.f l0).bind fun t315 => (if t315 = true then (some true) else ((spec_DrawFoldedWidth.f k l0).bind fun bt316 => ((impl_FoldedWidth.f k bt316.1 bt316.2).bind fun bt322 => ((spec_FoldedWidth.f k bt316.1 bt316.2).bind fun bt324 => (if bt322.1 = bt324.1 then (laws_FnFolds.j0 k l0 bt316.1 bt322.1 bt322.2 (bt322.2 != bt324.2)) else (laws_FnFolds.j0 k l0 bt316.1 bt322.1 bt322.2 true))))))) = some r := h
  clear h
  replace H := Option.bind_eq_some_iff.mp H
  obtain ⟨t315, A20, H⟩ := H
  replace H : (if t315 = true then (some true) else ((spec_DrawFoldedWidth.f k l0).bind fun bt316 => ((impl_FoldedWidth.f k bt316.1 bt316.2).bind fun bt322 => ((spec_FoldedWidth.f k bt316.1 bt316.2).bind fun bt324 => (if bt322.1 = bt324.1 then (laws_FnFolds.j0 k l0 bt316.1 bt322.1 bt322.2 (bt322.2 != bt324.2)) else (laws_FnFolds.j0 k l0 bt316.1 bt322.1 bt322.2 true)))))) = some r := H
  have A2 := Aside0.mk A20
  clear A20
  by_cases c3 : t315 = true
  · as_aux_lemma =>
    subst c3
    have H1 : (some true) = some r := by rw [if_pos rfl] at H; exact H
    clear H
    have H := H1
    clear H1
    obtain rfl := Option.some.inj H
    go_enter Try.func4, Try.ntmps4
    go_wp2_with (first | ((with_reducible refine gate_callee (f := 12) rfl ?_); refine goesL_ (some 31) rfl rfl Try.func12 (by kernel_rfl) rfl #[.slice A0 l0.length c0] rfl (by (try simp only [List.map_toArray, List.map_cons, List.map_nil]); first | done | rfl | (simp only [List.length_drop, List.length_take]; rfl)) ?_; (with_reducible refine (laws_rBig.calls _ _ l0 true _ ?side1 ?side2 A2.out).mono ?_); (case side1 => repeat (first | exact HR0.out | (with_reducible refine Kd.C_alloc ?_ _) | (with_reducible refine Kd.C_drewN ?_ _) | (with_reducible refine Kd.C_drew ?_))); (case side2 => exact HC0.out); rintro e w' ⟨rfl, ⟨nd, rfl⟩⟩; refine ⟨_, rfl, ?_⟩))
    go_ret
    exact ⟨by first | rfl | (simp [errW_none, errW_some] <;> rfl) | (simp [*, errW_none, errW_some] <;> rfl), by repeat (first | (with_reducible first | exact HB.out | apply below_alloc | apply pw_below_drewN | apply below_drew1) | exact HB.out)⟩
  · as_aux_lemma =>
    replace c3 := Bool.eq_false_iff.mpr c3
    subst c3
    have H1 : ((spec_DrawFoldedWidth.f k l0).bind fun bt316 => ((impl_FoldedWidth.f k bt316.1 bt316.2).bind fun bt322 => ((spec_FoldedWidth.f k bt316.1 bt316.2).bind fun bt324 => (if bt322.1 = bt324.1 then (laws_FnFolds.j0 k l0 bt316.1 bt322.1 bt322.2 (bt322.2 != bt324.2)) else (laws_FnFolds.j0 k l0 bt316.1 bt322.1 bt322.2 true))))) = some r := by rw [if_neg (show ¬ (false = true) by decide)] at H; exact H
    clear H
    have H := H1
    clear H1
    replace H := Option.bind_eq_some_iff.mp H
    obtain ⟨⟨t316, t317⟩, A40, H⟩ := H
    replace H : ((impl_FoldedWidth.f k t316 t317).bind fun bt322 => ((spec_FoldedWidth.f k t316 t317).bind fun bt324 => (if bt322.1 = bt324.1 then (laws_FnFolds.j0 k l0 t316 bt322.1 bt322.2 (bt322.2 != bt324.2)) else (laws_FnFolds.j0 k l0 t316 bt322.1 bt322.2 true)))) = some r := H
    have A4 := Aside0.mk A40
    clear A40
    replace H := Option.bind_eq_some_iff.mp H
    obtain ⟨⟨t322, t323⟩, A50, H⟩ := H
    replace H : ((spec_FoldedWidth.f k t316 t317).bind fun bt324 => (if t322 = bt324.1 then (laws_FnFolds.j0 k l0 t316 t322 t323 (t323 != bt324.2)) else (laws_FnFolds.j0 k l0 t316 t322 t323 true))) = some r := H
    have A5 := Aside0.mk A50
    clear A50
    replace H := Option.bind_eq_some_iff.mp H
    obtain ⟨⟨t324, t325⟩, A60, H⟩ := H
    replace H : (if t322 = t324 then (laws_FnFolds.j0 k l0 t316 t322 t323 (t323 != t325)) else (laws_FnFolds.j0 k l0 t316 t322 t323 true)) = some r := H
    have A6 := Aside0.mk A60
    clear A60
    have HC7 := Aside0.mk H
    clear H
    go_enter Try.func4, Try.ntmps4
    go_upto_region 6 with (first | ((with_reducible refine gate_callee (f := 12) rfl ?_); refine goesL_ (some 31) rfl rfl Try.func12 (by kernel_rfl) rfl #[.slice A0 l0.length c0] rfl (by (try simp only [List.map_toArray, List.map_cons, List.map_nil]); first | done | rfl | (simp only [List.length_drop, List.length_take]; rfl)) ?_; (with_reducible refine (laws_rBig.calls _ _ l0 false _ ?side1 ?side2 A2.out).mono ?_); (case side1 => repeat (first | exact HR0.out | (with_reducible refine Kd.C_alloc ?_ _) | (with_reducible refine Kd.C_drewN ?_ _) | (with_reducible refine Kd.C_drew ?_))); (case side2 => exact HC0.out); rintro e w' ⟨rfl, ⟨nd, rfl⟩⟩; refine ⟨_, rfl, ?_⟩) | ((with_reducible refine gate_callee (f := 13) rfl ?_); refine goesL_ (some 34) rfl rfl Try.func13 (by kernel_rfl) rfl #[.slice A0 l0.length c0] rfl (by (try simp only [List.map_toArray, List.map_cons, List.map_nil]); first | done | rfl | (simp only [List.length_drop, List.length_take]; rfl)) ?_; (with_reducible refine (spec_DrawFoldedWidth.calls k _ _ l0 t316 t317 _ ?side1 ?side2 A4.out).mono ?_); (case side1 => repeat (first | exact HR0.out | (with_reducible refine Kd.C_alloc ?_ _) | (with_reducible refine Kd.C_drewN ?_ _) | (with_reducible refine Kd.C_drew ?_))); (case side2 => exact HC0.out); rintro e w8 ⟨v318, v320, rfl, ho0, ho1, hb⟩; refine ⟨_, rfl, ?_⟩; have n0_ := Aside0.mk (Kd.R_lower ho0 (below_size (by repeat (first | (with_reducible first | exact HB.out | apply below_alloc | apply pw_below_drewN | apply below_drew1) | exact HB.out)))); have n1_ := Aside0.mk (Kd.R_lower ho1 (below_size (by repeat (first | (with_reducible first | exact HB.out | apply below_alloc | apply pw_below_drewN | apply below_drew1) | exact HB.out)))); have n2_ := Aside0.mk (below_step (by repeat (first | (with_reducible first | exact HB.out | apply below_alloc | apply pw_below_drewN | apply below_drew1) | exact HB.out)) hb); clear HB; have HO319 := n0_; have HO321 := n1_; have HB := n2_; clear n0_ n1_ n2_; (try clear hb); (try clear hb2); (try clear hk); (try clear hi); (try clear ho0); (try clear ho1); obtain ⟨Ao9, co9, eo9⟩ := Kd.R_slice HO319.out; subst eo9; obtain ⟨Ao10, co10, eo10⟩ := Kd.R_slice HO321.out; subst eo10) | ((with_reducible refine gate_callee (f := 14) rfl ?_); refine goesL_ (some 40) rfl rfl Try.func14 (by kernel_rfl) rfl #[.slice Ao9 t316.length co9, .slice Ao10 t317.length co10] rfl (by (try simp only [List.map_toArray, List.map_cons, List.map_nil]); first | done | rfl | (simp only [List.length_drop, List.length_take]; rfl)) ?_; (with_reducible refine (impl_FoldedWidth.calls k _ _ t316 _ _ t317 t322 t323 _ ?side1 ?side2 ?side3 ?side4 A5.out).mono ?_); (case side1 => repeat (first | exact (Kd.R_reads' HO319.out).2.2 | (with_reducible refine Kd.C_alloc ?_ _) | (with_reducible refine Kd.C_drewN ?_ _) | (with_reducible refine Kd.C_drew ?_))); (case side2 => exact (Kd.R_reads' HO319.out).2.1); (case side3 => repeat (first | exact (Kd.R_reads' HO321.out).2.2 | (with_reducible refine Kd.C_alloc ?_ _) | (with_reducible refine Kd.C_drewN ?_ _) | (with_reducible refine Kd.C_drew ?_))); (case side4 => exact (Kd.R_reads' HO321.out).2.1); rintro e w11 ⟨rfl, hb⟩; refine ⟨_, rfl, ?_⟩; have n0_ := Aside0.mk (Kd.R_below (by (with_reducible repeat (first | apply Kd.R_alloc | apply Kd.R_drewN | apply Kd.R_drew)); exact HO319.out) hb); have n1_ := Aside0.mk (Kd.R_below (by (with_reducible repeat (first | apply Kd.R_alloc | apply Kd.R_drewN | apply Kd.R_drew)); exact HO321.out) hb); have n2_ := Aside0.mk (below_step (by repeat (first | (with_reducible first | exact HB.out | apply below_alloc | apply pw_below_drewN | apply below_drew1) | exact HB.out)) hb); clear HO319; clear HO321; clear HB; have HO319 := n0_; have HO321 := n1_; have HB := n2_; clear n0_ n1_ n2_; (try clear hb); (try clear hb2); (try clear hk); (try clear hi)) | ((with_reducible refine gate_callee (f := 15) rfl ?_); refine goesL_ (some 46) rfl rfl Try.func15 (by kernel_rfl) rfl #[.slice Ao9 t316.length co9, .slice Ao10 t317.length co10] rfl (by (try simp only [List.map_toArray, List.map_cons, List.map_nil]); first | done | rfl | (simp only [List.length_drop, List.length_take]; rfl)) ?_; (with_reducible refine (spec_FoldedWidth.calls k _ _ t316 _ _ t317 t324 t325 _ ?side1 ?side2 ?side3 ?side4 A6.out).mono ?_); (case side1 => repeat (first | exact (Kd.R_reads' HO319.out).2.2 | (with_reducible refine Kd.C_alloc ?_ _) | (with_reducible refine Kd.C_drewN ?_ _) | (with_reducible refine Kd.C_drew ?_))); (case side2 => exact (Kd.R_reads' HO319.out).2.1); (case side3 => repeat (first | exact (Kd.R_reads' HO321.out).2.2 | (with_reducible refine Kd.C_alloc ?_ _) | (with_reducible refine Kd.C_drewN ?_ _) | (with_reducible refine Kd.C_drew ?_))); (case side4 => exact (Kd.R_reads' HO321.out).2.1); rintro e w12 ⟨rfl, hb⟩; refine ⟨_, rfl, ?_⟩; have n0_ := Aside0.mk (Kd.R_below (by (with_reducible repeat (first | apply Kd.R_alloc | apply Kd.R_drewN | apply Kd.R_drew)); exact HO319.out) hb); have n1_ := Aside0.mk (Kd.R_below (by (with_reducible repeat (first | apply Kd.R_alloc | apply Kd.R_drewN | apply Kd.R_drew)); exact HO321.out) hb); have n2_ := Aside0.mk (below_step (by repeat (first | (with_reducible first | exact HB.out | apply below_alloc | apply pw_below_drewN | apply below_drew1) | exact HB.out)) hb); clear HO319; clear HO321; clear HB; have HO319 := n0_; have HO321 := n1_; have HB := n2_; clear n0_ n1_ n2_; (try clear hb); (try clear hb2); (try clear hk); (try clear hi)))
    (try simp only [Act.put, List.setIfInBounds_toArray, List.set_cons_zero, List.set_cons_succ])
    go_cut [56] (fun v56 wc => ∃ (kq : Nat) (x56_6 : Bool), v56 = .bool x56_6 ∧ Aside0 (laws_FnFolds.j0 kq l0 t316 t322 t323 x56_6 = some r) ∧ Aside0 (kq ≤ k) ∧ Aside0 (Kd.R k43 43 wc w.heap.size (fun _ => True) (.slice Ao9 t316.length co9) t316) ∧ Aside0 (Below w.heap.size w wc))
    case first =>
      have H := HC7.out
      clear HC7
      by_cases c13 : t322 = t324
      · as_aux_lemma =>
        rw [if_pos c13] at H
        have c13b0 : (t322 == t324) = true := beq_iff_eq.mpr c13
        have c13b1 : (t322 != t324) = false := bne_eq_false_iff_eq.mpr c13
        clear c13
        (first | rw [c13b0] | (simp only [i64_w, i32_w]; rw [c13b0]) | skip)
        have H' := Aside0.mk H
        clear H
        go_wp2
        go_meet
        case rel => exact ⟨_, ((t323 != t325)), (by first | rfl | (simp; done) | (simp [*]; done)), H', ⟨by first | omega | exact Nat.le_refl _⟩, ⟨by (with_reducible repeat (first | apply Kd.R_alloc | apply Kd.R_drewN | apply Kd.R_drew)); exact HO319.out⟩, ⟨by repeat (first | (with_reducible first | exact HB.out | apply below_alloc | apply pw_below_drewN | apply below_drew1) | exact HB.out)⟩⟩
      · as_aux_lemma =>
        rw [if_neg c13] at H
        have c13b0 : (t322 == t324) = false := beq_eq_false_iff_ne.mpr c13
        have c13b1 : (t322 != t324) = true := bne_iff_ne.mpr c13
        (first | rw [c13b0] | (simp only [i64_w, i32_w]; rw [c13b0]) | skip)
        have H' := Aside0.mk H
        clear H
        go_wp2
        go_meet
        case rel => exact ⟨_, (true), (by first | rfl | (simp; done) | (simp [*]; done)), H', ⟨by first | omega | exact Nat.le_refl _⟩, ⟨by (with_reducible repeat (first | apply Kd.R_alloc | apply Kd.R_drewN | apply Kd.R_drew)); exact HO319.out⟩, ⟨by repeat (first | (with_reducible first | exact HB.out | apply below_alloc | apply pw_below_drewN | apply below_drew1) | exact HB.out)⟩⟩
    case rest =>
      clear HC7
      try clear c1
      try clear p2
      try clear c3
      try clear c4
      try clear c12
      try clear c13
      try clear c13b0
      try clear c13b1
      obtain ⟨kq, x56_6, rfl, HA, HJ6, HO_3, HB⟩ := hcut
      cases kq with
      | zero => exact absurd HA.out (by simp [laws_FnFolds.j0])
      | succ kj6 =>
        have H := HA.out
        clear HA
        simp only [laws_FnFolds.j0] at H
        by_cases c14 : x56_6 = true
        · as_aux_lemma =>
          subst c14
          have H1 : (some false) = some r := by rw [if_pos rfl] at H; exact H
          clear H
          have H := H1
          clear H1
          obtain rfl := Option.some.inj H
          go_wp2
          go_ret
          exact ⟨by first | rfl | (simp [errW_none, errW_some] <;> rfl) | (simp [*, errW_none, errW_some] <;> rfl), by repeat (first | (with_reducible first | exact HB.out | apply below_alloc | apply pw_below_drewN | apply below_drew1) | exact HB.out)⟩
        · as_aux_lemma =>
          replace c14 := Bool.eq_false_iff.mpr c14
          subst c14
          have H1 : (if t323 = true then ((impl_BestFold.f kj6 t316).bind fun bt326 => (if (t316.length : Int) ≤ 10 then ((impl_FoldedWidth.f kj6 t316 bt326.1).bind fun bt331 => (if bt326.2.2 = true then (if bt331.2 = true then (if bt331.1 = bt326.2.1 then (if bt326.2.1 > t322 then (some false) else (laws_FnFolds.j1 kj6 l0)) else (some false)) else (some false)) else (some false))) else (laws_FnFolds.j1 kj6 l0))) else (laws_FnFolds.j1 kj6 l0)) = some r := by rw [if_neg (show ¬ (false = true) by decide)] at H; exact H
          clear H
          have H := H1
          clear H1
          have HC15 := Aside0.mk H
          clear H
          go_upto_if 57 with (fail)
          go_cut [] (fun wc => ∃ (kq : Nat), Aside0 (laws_FnFolds.j1 kq l0 = some r) ∧ Aside0 (kq ≤ kj6) ∧ Aside0 (Below w.heap.size w wc))
          case first =>
            have H := HC15.out
            clear HC15
            by_cases c16 : t323 = true
            · as_aux_lemma =>
              subst c16
              have H1 : ((impl_BestFold.f kj6 t316).bind fun bt326 => (if (t316.length : Int) ≤ 10 then ((impl_FoldedWidth.f kj6 t316 bt326.1).bind fun bt331 => (if bt326.2.2 = true then (if bt331.2 = true then (if bt331.1 = bt326.2.1 then (if bt326.2.1 > t322 then (some false) else (laws_FnFolds.j1 kj6 l0)) else (some false)) else (some false)) else (some false))) else (laws_FnFolds.j1 kj6 l0))) = some r := by rw [if_pos rfl] at H; exact H
              clear H
              have H := H1
              clear H1
              replace H := Option.bind_eq_some_iff.mp H
              obtain ⟨⟨t326, t327, t328⟩, A170, H⟩ := H
              replace H : (if (t316.length : Int) ≤ 10 then ((impl_FoldedWidth.f kj6 t316 t326).bind fun bt331 => (if t328 = true then (if bt331.2 = true then (if bt331.1 = t327 then (if t327 > t322 then (some false) else (laws_FnFolds.j1 kj6 l0)) else (some false)) else (some false)) else (some false))) else (laws_FnFolds.j1 kj6 l0)) = some r := H
              have A17 := Aside0.mk A170
              clear A170
              by_cases c18 : (t316.length : Int) ≤ 10
              · as_aux_lemma =>
                rw [if_pos c18] at H
                have c18b0 : decide ((t316.length : Int) ≤ 10) = true := decide_eq_true c18
                have c18b1 : decide (t316.length ≤ 10) = true := decide_eq_true (by omega)
                clear c18
                (first | rw [c18b0] | (simp only [i64_w, i32_w]; rw [c18b0]) | skip)
                replace H := Option.bind_eq_some_iff.mp H
                obtain ⟨⟨t331, t332⟩, A190, H⟩ := H
                replace H : (if t328 = true then (if t332 = true then (if t331 = t327 then (if t327 > t322 then (some false) else (laws_FnFolds.j1 kj6 l0)) else (some false)) else (some false)) else (some false)) = some r := H
                have A19 := Aside0.mk A190
                clear A190
                by_cases c20 : t328 = true
                · as_aux_lemma =>
                  subst c20
                  have H1 : (if t332 = true then (if t331 = t327 then (if t327 > t322 then (some false) else (laws_FnFolds.j1 kj6 l0)) else (some false)) else (some false)) = some r := by rw [if_pos rfl] at H; exact H
                  clear H
                  have H := H1
                  clear H1
                  by_cases c21 : t332 = true
                  · as_aux_lemma =>
                    subst c21
                    have H1 : (if t331 = t327 then (if t327 > t322 then (some false) else (laws_FnFolds.j1 kj6 l0)) else (some false)) = some r := by rw [if_pos rfl] at H; exact H
                    clear H
                    have H := H1
                    clear H1
                    by_cases c22 : t331 = t327
                    · as_aux_lemma =>
                      rw [if_pos c22] at H
                      have c22b0 : (t331 == t327) = true := beq_iff_eq.mpr c22
                      have c22b1 : (t331 != t327) = false := bne_eq_false_iff_eq.mpr c22
                      clear c22
                      by_cases c23 : t327 > t322
                      · as_aux_lemma =>
                        rw [if_pos c23] at H
                        have c23b0 : decide (t322 < t327) = true := decide_eq_true c23
                        clear c23
                        obtain rfl := Option.some.inj H
                        go_wp2_with (first | ((with_reducible refine gate_callee (f := 16) rfl ?_); refine goesL_ (some 60) rfl rfl Try.func16 (by kernel_rfl) rfl #[.slice Ao9 t316.length co9] rfl (by (try simp only [List.map_toArray, List.map_cons, List.map_nil]); first | done | rfl | (simp only [List.length_drop, List.length_take]; rfl)) ?_; (with_reducible refine (impl_BestFold.calls kj6 _ _ t316 t326 t327 true _ ?side1 ?side2 A17.out).mono ?_); (case side1 => repeat (first | exact (Kd.R_reads' HO_3.out).2.2 | (with_reducible refine Kd.C_alloc ?_ _) | (with_reducible refine Kd.C_drewN ?_ _) | (with_reducible refine Kd.C_drew ?_))); (case side2 => exact (Kd.R_reads' HO_3.out).2.1); rintro e w24 ⟨v329, rfl, ho0, hb⟩; refine ⟨_, rfl, ?_⟩; have n0_ := Aside0.mk (Kd.R_below (by (with_reducible repeat (first | apply Kd.R_alloc | apply Kd.R_drewN | apply Kd.R_drew)); exact HO_3.out) hb); have n1_ := Aside0.mk (Kd.R_lower ho0 (below_size (by repeat (first | (with_reducible first | exact HB.out | apply below_alloc | apply pw_below_drewN | apply below_drew1) | exact HB.out)))); have n2_ := Aside0.mk (below_step (by repeat (first | (with_reducible first | exact HB.out | apply below_alloc | apply pw_below_drewN | apply below_drew1) | exact HB.out)) hb); clear HO_3; clear HB; have HO_3 := n0_; have HO330 := n1_; have HB := n2_; clear n0_ n1_ n2_; (try clear hb); (try clear hb2); (try clear hk); (try clear hi); (try clear ho0); obtain ⟨Ao25, co25, eo25⟩ := Kd.R_slice HO330.out; subst eo25) | ((with_reducible refine gate_callee (f := 14) rfl ?_); refine goesL_ (some 70) rfl rfl Try.func14 (by kernel_rfl) rfl #[.slice Ao9 t316.length co9, .slice Ao25 t326.length co25] rfl (by (try simp only [List.map_toArray, List.map_cons, List.map_nil]); first | done | rfl | (simp only [List.length_drop, List.length_take]; rfl)) ?_; (with_reducible refine (impl_FoldedWidth.calls kj6 _ _ t316 _ _ t326 t331 true _ ?side1 ?side2 ?side3 ?side4 A19.out).mono ?_); (case side1 => repeat (first | exact (Kd.R_reads' HO_3.out).2.2 | (with_reducible refine Kd.C_alloc ?_ _) | (with_reducible refine Kd.C_drewN ?_ _) | (with_reducible refine Kd.C_drew ?_))); (case side2 => exact (Kd.R_reads' HO_3.out).2.1); (case side3 => repeat (first | exact (Kd.R_reads' HO330.out).2.2 | (with_reducible refine Kd.C_alloc ?_ _) | (with_reducible refine Kd.C_drewN ?_ _) | (with_reducible refine Kd.C_drew ?_))); (case side4 => exact (Kd.R_reads' HO330.out).2.1); rintro e w26 ⟨rfl, hb⟩; refine ⟨_, rfl, ?_⟩; have n0_ := Aside0.mk (Kd.R_below (by (with_reducible repeat (first | apply Kd.R_alloc | apply Kd.R_drewN | apply Kd.R_drew)); exact HO_3.out) hb); have n1_ := Aside0.mk (Kd.R_below (by (with_reducible repeat (first | apply Kd.R_alloc | apply Kd.R_drewN | apply Kd.R_drew)); exact HO330.out) hb); have n2_ := Aside0.mk (below_step (by repeat (first | (with_reducible first | exact HB.out | apply below_alloc | apply pw_below_drewN | apply below_drew1) | exact HB.out)) hb); clear HO_3; clear HO330; clear HB; have HO_3 := n0_; have HO330 := n1_; have HB := n2_; clear n0_ n1_ n2_; (try clear hb); (try clear hb2); (try clear hk); (try clear hi)))
                        go_ret
                        exact ⟨by first | rfl | (simp [errW_none, errW_some] <;> rfl) | (simp [*, errW_none, errW_some] <;> rfl), by repeat (first | (with_reducible first | exact HB.out | apply below_alloc | apply pw_below_drewN | apply below_drew1) | exact HB.out)⟩
                      · as_aux_lemma =>
                        rw [if_neg c23] at H
                        have c23b0 : decide (t322 < t327) = false := decide_eq_false c23
                        clear c23
                        have H' := Aside0.mk H
                        clear H
                        go_wp2_with (first | ((with_reducible refine gate_callee (f := 16) rfl ?_); refine goesL_ (some 60) rfl rfl Try.func16 (by kernel_rfl) rfl #[.slice Ao9 t316.length co9] rfl (by (try simp only [List.map_toArray, List.map_cons, List.map_nil]); first | done | rfl | (simp only [List.length_drop, List.length_take]; rfl)) ?_; (with_reducible refine (impl_BestFold.calls kj6 _ _ t316 t326 t327 true _ ?side1 ?side2 A17.out).mono ?_); (case side1 => repeat (first | exact (Kd.R_reads' HO_3.out).2.2 | (with_reducible refine Kd.C_alloc ?_ _) | (with_reducible refine Kd.C_drewN ?_ _) | (with_reducible refine Kd.C_drew ?_))); (case side2 => exact (Kd.R_reads' HO_3.out).2.1); rintro e w27 ⟨v329, rfl, ho0, hb⟩; refine ⟨_, rfl, ?_⟩; have n0_ := Aside0.mk (Kd.R_below (by (with_reducible repeat (first | apply Kd.R_alloc | apply Kd.R_drewN | apply Kd.R_drew)); exact HO_3.out) hb); have n1_ := Aside0.mk (Kd.R_lower ho0 (below_size (by repeat (first | (with_reducible first | exact HB.out | apply below_alloc | apply pw_below_drewN | apply below_drew1) | exact HB.out)))); have n2_ := Aside0.mk (below_step (by repeat (first | (with_reducible first | exact HB.out | apply below_alloc | apply pw_below_drewN | apply below_drew1) | exact HB.out)) hb); clear HO_3; clear HB; have HO_3 := n0_; have HO330 := n1_; have HB := n2_; clear n0_ n1_ n2_; (try clear hb); (try clear hb2); (try clear hk); (try clear hi); (try clear ho0); obtain ⟨Ao28, co28, eo28⟩ := Kd.R_slice HO330.out; subst eo28) | ((with_reducible refine gate_callee (f := 14) rfl ?_); refine goesL_ (some 70) rfl rfl Try.func14 (by kernel_rfl) rfl #[.slice Ao9 t316.length co9, .slice Ao28 t326.length co28] rfl (by (try simp only [List.map_toArray, List.map_cons, List.map_nil]); first | done | rfl | (simp only [List.length_drop, List.length_take]; rfl)) ?_; (with_reducible refine (impl_FoldedWidth.calls kj6 _ _ t316 _ _ t326 t331 true _ ?side1 ?side2 ?side3 ?side4 A19.out).mono ?_); (case side1 => repeat (first | exact (Kd.R_reads' HO_3.out).2.2 | (with_reducible refine Kd.C_alloc ?_ _) | (with_reducible refine Kd.C_drewN ?_ _) | (with_reducible refine Kd.C_drew ?_))); (case side2 => exact (Kd.R_reads' HO_3.out).2.1); (case side3 => repeat (first | exact (Kd.R_reads' HO330.out).2.2 | (with_reducible refine Kd.C_alloc ?_ _) | (with_reducible refine Kd.C_drewN ?_ _) | (with_reducible refine Kd.C_drew ?_))); (case side4 => exact (Kd.R_reads' HO330.out).2.1); rintro e w29 ⟨rfl, hb⟩; refine ⟨_, rfl, ?_⟩; have n0_ := Aside0.mk (Kd.R_below (by (with_reducible repeat (first | apply Kd.R_alloc | apply Kd.R_drewN | apply Kd.R_drew)); exact HO_3.out) hb); have n1_ := Aside0.mk (Kd.R_below (by (with_reducible repeat (first | apply Kd.R_alloc | apply Kd.R_drewN | apply Kd.R_drew)); exact HO330.out) hb); have n2_ := Aside0.mk (below_step (by repeat (first | (with_reducible first | exact HB.out | apply below_alloc | apply pw_below_drewN | apply below_drew1) | exact HB.out)) hb); clear HO_3; clear HO330; clear HB; have HO_3 := n0_; have HO330 := n1_; have HB := n2_; clear n0_ n1_ n2_; (try clear hb); (try clear hb2); (try clear hk); (try clear hi)))
                        go_meet
                        case rel => exact ⟨_, H', ⟨by have := HJ6.out; first | omega | exact Nat.le_refl _⟩, ⟨by repeat (first | (with_reducible first | exact HB.out | apply below_alloc | apply pw_below_drewN | apply below_drew1) | exact HB.out)⟩⟩
                    · as_aux_lemma =>
                      rw [if_neg c22] at H
                      have c22b0 : (t331 == t327) = false := beq_eq_false_iff_ne.mpr c22
                      have c22b1 : (t331 != t327) = true := bne_iff_ne.mpr c22
                      obtain rfl := Option.some.inj H
                      go_wp2_with (first | ((with_reducible refine gate_callee (f := 16) rfl ?_); refine goesL_ (some 60) rfl rfl Try.func16 (by kernel_rfl) rfl #[.slice Ao9 t316.length co9] rfl (by (try simp only [List.map_toArray, List.map_cons, List.map_nil]); first | done | rfl | (simp only [List.length_drop, List.length_take]; rfl)) ?_; (with_reducible refine (impl_BestFold.calls kj6 _ _ t316 t326 t327 true _ ?side1 ?side2 A17.out).mono ?_); (case side1 => repeat (first | exact (Kd.R_reads' HO_3.out).2.2 | (with_reducible refine Kd.C_alloc ?_ _) | (with_reducible refine Kd.C_drewN ?_ _) | (with_reducible refine Kd.C_drew ?_))); (case side2 => exact (Kd.R_reads' HO_3.out).2.1); rintro e w30 ⟨v329, rfl, ho0, hb⟩; refine ⟨_, rfl, ?_⟩; have n0_ := Aside0.mk (Kd.R_below (by (with_reducible repeat (first | apply Kd.R_alloc | apply Kd.R_drewN | apply Kd.R_drew)); exact HO_3.out) hb); have n1_ := Aside0.mk (Kd.R_lower ho0 (below_size (by repeat (first | (with_reducible first | exact HB.out | apply below_alloc | apply pw_below_drewN | apply below_drew1) | exact HB.out)))); have n2_ := Aside0.mk (below_step (by repeat (first | (with_reducible first | exact HB.out | apply below_alloc | apply pw_below_drewN | apply below_drew1) | exact HB.out)) hb); clear HO_3; clear HB; have HO_3 := n0_; have HO330 := n1_; have HB := n2_; clear n0_ n1_ n2_; (try clear hb); (try clear hb2); (try clear hk); (try clear hi); (try clear ho0); obtain ⟨Ao31, co31, eo31⟩ := Kd.R_slice HO330.out; subst eo31) | ((with_reducible refine gate_callee (f := 14) rfl ?_); refine goesL_ (some 70) rfl rfl Try.func14 (by kernel_rfl) rfl #[.slice Ao9 t316.length co9, .slice Ao31 t326.length co31] rfl (by (try simp only [List.map_toArray, List.map_cons, List.map_nil]); first | done | rfl | (simp only [List.length_drop, List.length_take]; rfl)) ?_; (with_reducible refine (impl_FoldedWidth.calls kj6 _ _ t316 _ _ t326 t331 true _ ?side1 ?side2 ?side3 ?side4 A19.out).mono ?_); (case side1 => repeat (first | exact (Kd.R_reads' HO_3.out).2.2 | (with_reducible refine Kd.C_alloc ?_ _) | (with_reducible refine Kd.C_drewN ?_ _) | (with_reducible refine Kd.C_drew ?_))); (case side2 => exact (Kd.R_reads' HO_3.out).2.1); (case side3 => repeat (first | exact (Kd.R_reads' HO330.out).2.2 | (with_reducible refine Kd.C_alloc ?_ _) | (with_reducible refine Kd.C_drewN ?_ _) | (with_reducible refine Kd.C_drew ?_))); (case side4 => exact (Kd.R_reads' HO330.out).2.1); rintro e w32 ⟨rfl, hb⟩; refine ⟨_, rfl, ?_⟩; have n0_ := Aside0.mk (Kd.R_below (by (with_reducible repeat (first | apply Kd.R_alloc | apply Kd.R_drewN | apply Kd.R_drew)); exact HO_3.out) hb); have n1_ := Aside0.mk (Kd.R_below (by (with_reducible repeat (first | apply Kd.R_alloc | apply Kd.R_drewN | apply Kd.R_drew)); exact HO330.out) hb); have n2_ := Aside0.mk (below_step (by repeat (first | (with_reducible first | exact HB.out | apply below_alloc | apply pw_below_drewN | apply below_drew1) | exact HB.out)) hb); clear HO_3; clear HO330; clear HB; have HO_3 := n0_; have HO330 := n1_; have HB := n2_; clear n0_ n1_ n2_; (try clear hb); (try clear hb2); (try clear hk); (try clear hi)))
                      go_ret
                      exact ⟨by first | rfl | (simp [errW_none, errW_some] <;> rfl) | (simp [*, errW_none, errW_some] <;> rfl), by repeat (first | (with_reducible first | exact HB.out | apply below_alloc | apply pw_below_drewN | apply below_drew1) | exact HB.out)⟩
                  · as_aux_lemma =>
                    replace c21 := Bool.eq_false_iff.mpr c21
                    subst c21
                    have H1 : (some false) = some r := by rw [if_neg (show ¬ (false = true) by decide)] at H; exact H
                    clear H
                    have H := H1
                    clear H1
                    obtain rfl := Option.some.inj H
                    go_wp2_with (first | ((with_reducible refine gate_callee (f := 16) rfl ?_); refine goesL_ (some 60) rfl rfl Try.func16 (by kernel_rfl) rfl #[.slice Ao9 t316.length co9] rfl (by (try simp only [List.map_toArray, List.map_cons, List.map_nil]); first | done | rfl | (simp only [List.length_drop, List.length_take]; rfl)) ?_; (with_reducible refine (impl_BestFold.calls kj6 _ _ t316 t326 t327 true _ ?side1 ?side2 A17.out).mono ?_); (case side1 => repeat (first | exact (Kd.R_reads' HO_3.out).2.2 | (with_reducible refine Kd.C_alloc ?_ _) | (with_reducible refine Kd.C_drewN ?_ _) | (with_reducible refine Kd.C_drew ?_))); (case side2 => exact (Kd.R_reads' HO_3.out).2.1); rintro e w33 ⟨v329, rfl, ho0, hb⟩; refine ⟨_, rfl, ?_⟩; have n0_ := Aside0.mk (Kd.R_below (by (with_reducible repeat (first | apply Kd.R_alloc | apply Kd.R_drewN | apply Kd.R_drew)); exact HO_3.out) hb); have n1_ := Aside0.mk (Kd.R_lower ho0 (below_size (by repeat (first | (with_reducible first | exact HB.out | apply below_alloc | apply pw_below_drewN | apply below_drew1) | exact HB.out)))); have n2_ := Aside0.mk (below_step (by repeat (first | (with_reducible first | exact HB.out | apply below_alloc | apply pw_below_drewN | apply below_drew1) | exact HB.out)) hb); clear HO_3; clear HB; have HO_3 := n0_; have HO330 := n1_; have HB := n2_; clear n0_ n1_ n2_; (try clear hb); (try clear hb2); (try clear hk); (try clear hi); (try clear ho0); obtain ⟨Ao34, co34, eo34⟩ := Kd.R_slice HO330.out; subst eo34) | ((with_reducible refine gate_callee (f := 14) rfl ?_); refine goesL_ (some 70) rfl rfl Try.func14 (by kernel_rfl) rfl #[.slice Ao9 t316.length co9, .slice Ao34 t326.length co34] rfl (by (try simp only [List.map_toArray, List.map_cons, List.map_nil]); first | done | rfl | (simp only [List.length_drop, List.length_take]; rfl)) ?_; (with_reducible refine (impl_FoldedWidth.calls kj6 _ _ t316 _ _ t326 t331 false _ ?side1 ?side2 ?side3 ?side4 A19.out).mono ?_); (case side1 => repeat (first | exact (Kd.R_reads' HO_3.out).2.2 | (with_reducible refine Kd.C_alloc ?_ _) | (with_reducible refine Kd.C_drewN ?_ _) | (with_reducible refine Kd.C_drew ?_))); (case side2 => exact (Kd.R_reads' HO_3.out).2.1); (case side3 => repeat (first | exact (Kd.R_reads' HO330.out).2.2 | (with_reducible refine Kd.C_alloc ?_ _) | (with_reducible refine Kd.C_drewN ?_ _) | (with_reducible refine Kd.C_drew ?_))); (case side4 => exact (Kd.R_reads' HO330.out).2.1); rintro e w35 ⟨rfl, hb⟩; refine ⟨_, rfl, ?_⟩; have n0_ := Aside0.mk (Kd.R_below (by (with_reducible repeat (first | apply Kd.R_alloc | apply Kd.R_drewN | apply Kd.R_drew)); exact HO_3.out) hb); have n1_ := Aside0.mk (Kd.R_below (by (with_reducible repeat (first | apply Kd.R_alloc | apply Kd.R_drewN | apply Kd.R_drew)); exact HO330.out) hb); have n2_ := Aside0.mk (below_step (by repeat (first | (with_reducible first | exact HB.out | apply below_alloc | apply pw_below_drewN | apply below_drew1) | exact HB.out)) hb); clear HO_3; clear HO330; clear HB; have HO_3 := n0_; have HO330 := n1_; have HB := n2_; clear n0_ n1_ n2_; (try clear hb); (try clear hb2); (try clear hk); (try clear hi)))
                    go_ret
                    exact ⟨by first | rfl | (simp [errW_none, errW_some] <;> rfl) | (simp [*, errW_none, errW_some] <;> rfl), by repeat (first | (with_reducible first | exact HB.out | apply below_alloc | apply pw_below_drewN | apply below_drew1) | exact HB.out)⟩
                · as_aux_lemma =>
                  replace c20 := Bool.eq_false_iff.mpr c20
                  subst c20
                  have H1 : (some false) = some r := by rw [if_neg (show ¬ (false = true) by decide)] at H; exact H
                  clear H
                  have H := H1
                  clear H1
                  obtain rfl := Option.some.inj H
                  go_wp2_with (first | ((with_reducible refine gate_callee (f := 16) rfl ?_); refine goesL_ (some 60) rfl rfl Try.func16 (by kernel_rfl) rfl #[.slice Ao9 t316.length co9] rfl (by (try simp only [List.map_toArray, List.map_cons, List.map_nil]); first | done | rfl | (simp only [List.length_drop, List.length_take]; rfl)) ?_; (with_reducible refine (impl_BestFold.calls kj6 _ _ t316 t326 t327 false _ ?side1 ?side2 A17.out).mono ?_); (case side1 => repeat (first | exact (Kd.R_reads' HO_3.out).2.2 | (with_reducible refine Kd.C_alloc ?_ _) | (with_reducible refine Kd.C_drewN ?_ _) | (with_reducible refine Kd.C_drew ?_))); (case side2 => exact (Kd.R_reads' HO_3.out).2.1); rintro e w36 ⟨v329, rfl, ho0, hb⟩; refine ⟨_, rfl, ?_⟩; have n0_ := Aside0.mk (Kd.R_below (by (with_reducible repeat (first | apply Kd.R_alloc | apply Kd.R_drewN | apply Kd.R_drew)); exact HO_3.out) hb); have n1_ := Aside0.mk (Kd.R_lower ho0 (below_size (by repeat (first | (with_reducible first | exact HB.out | apply below_alloc | apply pw_below_drewN | apply below_drew1) | exact HB.out)))); have n2_ := Aside0.mk (below_step (by repeat (first | (with_reducible first | exact HB.out | apply below_alloc | apply pw_below_drewN | apply below_drew1) | exact HB.out)) hb); clear HO_3; clear HB; have HO_3 := n0_; have HO330 := n1_; have HB := n2_; clear n0_ n1_ n2_; (try clear hb); (try clear hb2); (try clear hk); (try clear hi); (try clear ho0); obtain ⟨Ao37, co37, eo37⟩ := Kd.R_slice HO330.out; subst eo37) | ((with_reducible refine gate_callee (f := 14) rfl ?_); refine goesL_ (some 70) rfl rfl Try.func14 (by kernel_rfl) rfl #[.slice Ao9 t316.length co9, .slice Ao37 t326.length co37] rfl (by (try simp only [List.map_toArray, List.map_cons, List.map_nil]); first | done | rfl | (simp only [List.length_drop, List.length_take]; rfl)) ?_; (with_reducible refine (impl_FoldedWidth.calls kj6 _ _ t316 _ _ t326 t331 t332 _ ?side1 ?side2 ?side3 ?side4 A19.out).mono ?_); (case side1 => repeat (first | exact (Kd.R_reads' HO_3.out).2.2 | (with_reducible refine Kd.C_alloc ?_ _) | (with_reducible refine Kd.C_drewN ?_ _) | (with_reducible refine Kd.C_drew ?_))); (case side2 => exact (Kd.R_reads' HO_3.out).2.1); (case side3 => repeat (first | exact (Kd.R_reads' HO330.out).2.2 | (with_reducible refine Kd.C_alloc ?_ _) | (with_reducible refine Kd.C_drewN ?_ _) | (with_reducible refine Kd.C_drew ?_))); (case side4 => exact (Kd.R_reads' HO330.out).2.1); rintro e w38 ⟨rfl, hb⟩; refine ⟨_, rfl, ?_⟩; have n0_ := Aside0.mk (Kd.R_below (by (with_reducible repeat (first | apply Kd.R_alloc | apply Kd.R_drewN | apply Kd.R_drew)); exact HO_3.out) hb); have n1_ := Aside0.mk (Kd.R_below (by (with_reducible repeat (first | apply Kd.R_alloc | apply Kd.R_drewN | apply Kd.R_drew)); exact HO330.out) hb); have n2_ := Aside0.mk (below_step (by repeat (first | (with_reducible first | exact HB.out | apply below_alloc | apply pw_below_drewN | apply below_drew1) | exact HB.out)) hb); clear HO_3; clear HO330; clear HB; have HO_3 := n0_; have HO330 := n1_; have HB := n2_; clear n0_ n1_ n2_; (try clear hb); (try clear hb2); (try clear hk); (try clear hi)))
                  go_ret
                  exact ⟨by first | rfl | (simp [errW_none, errW_some] <;> rfl) | (simp [*, errW_none, errW_some] <;> rfl), by repeat (first | (with_reducible first | exact HB.out | apply below_alloc | apply pw_below_drewN | apply below_drew1) | exact HB.out)⟩
              · as_aux_lemma =>
                rw [if_neg c18] at H
                have c18b0 : decide ((t316.length : Int) ≤ 10) = false := decide_eq_false c18
                have c18b1 : decide (t316.length ≤ 10) = false := decide_eq_false (by omega)
                clear c18
                (first | rw [c18b0] | (simp only [i64_w, i32_w]; rw [c18b0]) | skip)
                have H' := Aside0.mk H
                clear H
                go_wp2_with (first | ((with_reducible refine gate_callee (f := 16) rfl ?_); refine goesL_ (some 60) rfl rfl Try.func16 (by kernel_rfl) rfl #[.slice Ao9 t316.length co9] rfl (by (try simp only [List.map_toArray, List.map_cons, List.map_nil]); first | done | rfl | (simp only [List.length_drop, List.length_take]; rfl)) ?_; (with_reducible refine (impl_BestFold.calls kj6 _ _ t316 t326 t327 t328 _ ?side1 ?side2 A17.out).mono ?_); (case side1 => repeat (first | exact (Kd.R_reads' HO_3.out).2.2 | (with_reducible refine Kd.C_alloc ?_ _) | (with_reducible refine Kd.C_drewN ?_ _) | (with_reducible refine Kd.C_drew ?_))); (case side2 => exact (Kd.R_reads' HO_3.out).2.1); rintro e w39 ⟨v329, rfl, ho0, hb⟩; refine ⟨_, rfl, ?_⟩; have n0_ := Aside0.mk (Kd.R_below (by (with_reducible repeat (first | apply Kd.R_alloc | apply Kd.R_drewN | apply Kd.R_drew)); exact HO_3.out) hb); have n1_ := Aside0.mk (Kd.R_lower ho0 (below_size (by repeat (first | (with_reducible first | exact HB.out | apply below_alloc | apply pw_below_drewN | apply below_drew1) | exact HB.out)))); have n2_ := Aside0.mk (below_step (by repeat (first | (with_reducible first | exact HB.out | apply below_alloc | apply pw_below_drewN | apply below_drew1) | exact HB.out)) hb); clear HO_3; clear HB; have HO_3 := n0_; have HO330 := n1_; have HB := n2_; clear n0_ n1_ n2_; (try clear hb); (try clear hb2); (try clear hk); (try clear hi); (try clear ho0)))
                go_meet
                case rel => exact ⟨_, H', ⟨by have := HJ6.out; first | omega | exact Nat.le_refl _⟩, ⟨by repeat (first | (with_reducible first | exact HB.out | apply below_alloc | apply pw_below_drewN | apply below_drew1) | exact HB.out)⟩⟩
            · as_aux_lemma =>
              replace c16 := Bool.eq_false_iff.mpr c16
              subst c16
              have H1 : (laws_FnFolds.j1 kj6 l0) = some r := by rw [if_neg (show ¬ (false = true) by decide)] at H; exact H
              clear H
              have H := H1
              clear H1
              have H' := Aside0.mk H
              clear H
              go_wp2
              go_meet
              case rel => exact ⟨_, H', ⟨by have := HJ6.out; first | omega | exact Nat.le_refl _⟩, ⟨by repeat (first | (with_reducible first | exact HB.out | apply below_alloc | apply pw_below_drewN | apply below_drew1) | exact HB.out)⟩⟩
          case rest =>
            clear HC15
            try clear c1
            try clear c2
            try clear p2
            try clear c3
            try clear c4
            try clear c12
            try clear c13
            try clear c13b0
            try clear c13b1
            try clear c14
            try clear c15
            try clear c16
            try clear c18
            try clear c18b0
            try clear c18b1
            try clear c20
            try clear c21
            try clear c22
            try clear c22b0
            try clear c22b1
            try clear c23
            try clear c23b0
            try clear p2
            obtain ⟨kq, HA, HJ14, HB⟩ := hcut
            cases kq with
            | zero => exact absurd HA.out (by simp [laws_FnFolds.j1])
            | succ kj14 =>
              have H := HA.out
              clear HA
              simp only [laws_FnFolds.j1] at H
              replace H := Option.bind_eq_some_iff.mp H
              obtain ⟨t333, A400, H⟩ := H
              replace H : ((impl_BestFold.f kj14 t333).bind fun bt336 => ((spec_BestFold.f kj14 t333).bind fun bt341 => (if (bt336.2.2 != bt341.2.2) = true then (laws_FnFolds.j2 kj14 l0 t333 bt336.2.1 bt336.2.2 true) else (if bt336.2.1 = bt341.2.1 then ((laws_rInts.f kj14 bt336.1 bt341.1).bind fun t346 => (laws_FnFolds.j2 kj14 l0 t333 bt336.2.1 bt336.2.2 (!t346))) else (laws_FnFolds.j2 kj14 l0 t333 bt336.2.1 bt336.2.2 true))))) = some r := H
              have A40 := Aside0.mk A400
              clear A400
              replace H := Option.bind_eq_some_iff.mp H
              obtain ⟨⟨t336, t337, t338⟩, A410, H⟩ := H
              replace H : ((spec_BestFold.f kj14 t333).bind fun bt341 => (if (t338 != bt341.2.2) = true then (laws_FnFolds.j2 kj14 l0 t333 t337 t338 true) else (if t337 = bt341.2.1 then ((laws_rInts.f kj14 t336 bt341.1).bind fun t346 => (laws_FnFolds.j2 kj14 l0 t333 t337 t338 (!t346))) else (laws_FnFolds.j2 kj14 l0 t333 t337 t338 true)))) = some r := H
              have A41 := Aside0.mk A410
              clear A410
              replace H := Option.bind_eq_some_iff.mp H
              obtain ⟨⟨t341, t342, t343⟩, A420, H⟩ := H
              replace H : (if (t338 != t343) = true then (laws_FnFolds.j2 kj14 l0 t333 t337 t338 true) else (if t337 = t342 then ((laws_rInts.f kj14 t336 t341).bind fun t346 => (laws_FnFolds.j2 kj14 l0 t333 t337 t338 (!t346))) else (laws_FnFolds.j2 kj14 l0 t333 t337 t338 true))) = some r := H
              have A42 := Aside0.mk A420
              clear A420
              have HC43 := Aside0.mk H
              clear H
              go_upto_region 17 with (first | ((with_reducible refine gate_callee (f := 17) rfl ?_); refine goesL_ (some 90) rfl rfl Try.func17 (by kernel_rfl) rfl #[.slice A0 l0.length c0] rfl (by (try simp only [List.map_toArray, List.map_cons, List.map_nil]); first | done | rfl | (simp only [List.length_drop, List.length_take]; rfl)) ?_; (with_reducible refine (spec_DrawBestFold.calls kj14 _ _ l0 t333 _ ?side1 ?side2 A40.out).mono ?_); (case side1 => repeat (first | exact (Kd.C_below HR0.out HB.out) | (with_reducible refine Kd.C_alloc ?_ _) | (with_reducible refine Kd.C_drewN ?_ _) | (with_reducible refine Kd.C_drew ?_))); (case side2 => exact HC0.out); rintro e w44 ⟨v334, rfl, ho0, hb⟩; refine ⟨_, rfl, ?_⟩; have n0_ := Aside0.mk (Kd.R_lower ho0 (below_size (by repeat (first | (with_reducible first | exact HB.out | apply below_alloc | apply pw_below_drewN | apply below_drew1) | exact HB.out)))); have n1_ := Aside0.mk (below_step (by repeat (first | (with_reducible first | exact HB.out | apply below_alloc | apply pw_below_drewN | apply below_drew1) | exact HB.out)) hb); clear HB; have HO335 := n0_; have HB := n1_; clear n0_ n1_; (try clear hb); (try clear hb2); (try clear hk); (try clear hi); (try clear ho0); obtain ⟨Ao45, co45, eo45⟩ := Kd.R_slice HO335.out; subst eo45) | ((with_reducible refine gate_callee (f := 16) rfl ?_); refine goesL_ (some 93) rfl rfl Try.func16 (by kernel_rfl) rfl #[.slice Ao45 t333.length co45] rfl (by (try simp only [List.map_toArray, List.map_cons, List.map_nil]); first | done | rfl | (simp only [List.length_drop, List.length_take]; rfl)) ?_; (with_reducible refine (impl_BestFold.calls kj14 _ _ t333 t336 t337 t338 _ ?side1 ?side2 A41.out).mono ?_); (case side1 => repeat (first | exact (Kd.R_reads' HO335.out).2.2 | (with_reducible refine Kd.C_alloc ?_ _) | (with_reducible refine Kd.C_drewN ?_ _) | (with_reducible refine Kd.C_drew ?_))); (case side2 => exact (Kd.R_reads' HO335.out).2.1); rintro e w46 ⟨v339, rfl, ho0, hb⟩; refine ⟨_, rfl, ?_⟩; have n0_ := Aside0.mk (Kd.R_below (by (with_reducible repeat (first | apply Kd.R_alloc | apply Kd.R_drewN | apply Kd.R_drew)); exact HO335.out) hb); have n1_ := Aside0.mk (Kd.R_lower ho0 (below_size (by repeat (first | (with_reducible first | exact HB.out | apply below_alloc | apply pw_below_drewN | apply below_drew1) | exact HB.out)))); have n2_ := Aside0.mk (below_step (by repeat (first | (with_reducible first | exact HB.out | apply below_alloc | apply pw_below_drewN | apply below_drew1) | exact HB.out)) hb); clear HO335; clear HB; have HO335 := n0_; have HO340 := n1_; have HB := n2_; clear n0_ n1_ n2_; (try clear hb); (try clear hb2); (try clear hk); (try clear hi); (try clear ho0)) | ((with_reducible refine gate_callee (f := 18) rfl ?_); refine goesL_ (some 99) rfl rfl Try.func18 (by kernel_rfl) rfl #[.slice Ao45 t333.length co45] rfl (by (try simp only [List.map_toArray, List.map_cons, List.map_nil]); first | done | rfl | (simp only [List.length_drop, List.length_take]; rfl)) ?_; (with_reducible refine (spec_BestFold.calls kj14 _ _ t333 t341 t342 t343 _ ?side1 ?side2 A42.out).mono ?_); (case side1 => repeat (first | exact (Kd.R_reads' HO335.out).2.2 | (with_reducible refine Kd.C_alloc ?_ _) | (with_reducible refine Kd.C_drewN ?_ _) | (with_reducible refine Kd.C_drew ?_))); (case side2 => exact (Kd.R_reads' HO335.out).2.1); rintro e w47 ⟨v344, rfl, ho0, hb⟩; refine ⟨_, rfl, ?_⟩; have n0_ := Aside0.mk (Kd.R_below (by (with_reducible repeat (first | apply Kd.R_alloc | apply Kd.R_drewN | apply Kd.R_drew)); exact HO335.out) hb); have n1_ := Aside0.mk (Kd.R_elder' (by (with_reducible repeat (first | apply Kd.R_alloc | apply Kd.R_drewN | apply Kd.R_drew)); exact HO340.out) (Kd.R_base ho0) hb); have n2_ := Aside0.mk (Kd.R_lower (Kd.R_new' ho0 (Kd.R_lt (by (with_reducible repeat (first | apply Kd.R_alloc | apply Kd.R_drewN | apply Kd.R_drew)); exact HO340.out))) (below_size (by repeat (first | (with_reducible first | exact HB.out | apply below_alloc | apply pw_below_drewN | apply below_drew1) | exact HB.out)))); have n3_ := Aside0.mk (below_step (by repeat (first | (with_reducible first | exact HB.out | apply below_alloc | apply pw_below_drewN | apply below_drew1) | exact HB.out)) hb); clear HO335; clear HO340; clear HB; have HO335 := n0_; have HO340 := n1_; have HO345 := n2_; have HB := n3_; clear n0_ n1_ n2_ n3_; (try clear hb); (try clear hb2); (try clear hk); (try clear hi); (try clear ho0)))
              (try simp only [Act.put, List.setIfInBounds_toArray, List.set_cons_zero, List.set_cons_succ])
              go_cut [116] (fun v116 wc => ∃ (kq : Nat) (x116_42 : Bool), v116 = .bool x116_42 ∧ Aside0 (laws_FnFolds.j2 kq l0 t333 t337 t338 x116_42 = some r) ∧ Aside0 (kq ≤ kj14) ∧ Aside0 (Kd.R k43 43 wc w.heap.size (fun _ => True) (.slice Ao45 t333.length co45) t333) ∧ Aside0 (Below w.heap.size w wc))
              case first =>
                have H := HC43.out
                clear HC43
                by_cases c48 : (t338 != t343) = true
                · as_aux_lemma =>
                  rw [if_pos c48] at H
                  have c48b0 : (t338 != t343) = true := c48
                  (try (have c48b1 : decide (t338 = t343) = false := by simpa using c48))
                  (try (have c48b2 : (t338 == t343) = false := by simpa using c48))
                  (try (have c48b3 : ¬ (t338 = t343) := by simpa using c48))
                  clear c48
                  (first | rw [c48b0] | (simp only [i64_w, i32_w]; rw [c48b0]) | skip)
                  have H' := Aside0.mk H
                  clear H
                  go_wp2
                  go_meet
                  case rel => exact ⟨_, (true), (by first | rfl | (simp; done) | (simp [*]; done)), H', ⟨by have := HJ6.out; have := HJ14.out; first | omega | exact Nat.le_refl _⟩, ⟨by (with_reducible repeat (first | apply Kd.R_alloc | apply Kd.R_drewN | apply Kd.R_drew)); exact HO335.out⟩, ⟨by repeat (first | (with_reducible first | exact HB.out | apply below_alloc | apply pw_below_drewN | apply below_drew1) | exact HB.out)⟩⟩
                · as_aux_lemma =>
                  rw [if_neg c48] at H
                  have c48b0 : (t338 != t343) = false := by simpa using c48
                  (try (have c48b1 : decide (t338 = t343) = true := by simpa using c48))
                  (try (have c48b2 : (t338 == t343) = true := by simpa using c48))
                  clear c48
                  (first | rw [c48b0] | (simp only [i64_w, i32_w]; rw [c48b0]) | skip)
                  by_cases c49 : t337 = t342
                  · as_aux_lemma =>
                    rw [if_pos c49] at H
                    have c49b0 : (t337 == t342) = true := beq_iff_eq.mpr c49
                    have c49b1 : (t337 != t342) = false := bne_eq_false_iff_eq.mpr c49
                    clear c49
                    replace H := Option.bind_eq_some_iff.mp H
                    obtain ⟨t346, A500, H⟩ := H
                    replace H : (laws_FnFolds.j2 kj14 l0 t333 t337 t338 (!t346)) = some r := H
                    have A50 := Aside0.mk A500
                    clear A500
                    have H' := Aside0.mk H
                    clear H
                    obtain ⟨Ao51, co51, eo51⟩ := Kd.R_slice HO340.out
                    subst eo51
                    obtain ⟨Ao52, co52, eo52⟩ := Kd.R_slice HO345.out
                    subst eo52
                    go_wp2_with (first | (go_at_call 19; (with_reducible refine (laws_rInts.calls kj14 _ _ t336 _ _ t341 t346 _ ?side1 ?side2 ?side3 ?side4 A50.out).mono ?_); (case side1 => repeat (first | exact (Kd.R_reads' HO340.out).2.2 | (with_reducible refine Kd.C_alloc ?_ _) | (with_reducible refine Kd.C_drewN ?_ _) | (with_reducible refine Kd.C_drew ?_))); (case side2 => exact (Kd.R_reads' HO340.out).2.1); (case side3 => repeat (first | exact (Kd.R_reads' HO345.out).2.2 | (with_reducible refine Kd.C_alloc ?_ _) | (with_reducible refine Kd.C_drewN ?_ _) | (with_reducible refine Kd.C_drew ?_))); (case side4 => exact (Kd.R_reads' HO345.out).2.1); rintro e w' ⟨rfl, ⟨nd, rfl⟩⟩))
                    go_meet
                    case rel => exact ⟨_, (!t346), (by first | rfl | (simp; done) | (simp [*]; done)), H', ⟨by have := HJ6.out; have := HJ14.out; first | omega | exact Nat.le_refl _⟩, ⟨by (with_reducible repeat (first | apply Kd.R_alloc | apply Kd.R_drewN | apply Kd.R_drew)); exact HO335.out⟩, ⟨by repeat (first | (with_reducible first | exact HB.out | apply below_alloc | apply pw_below_drewN | apply below_drew1) | exact HB.out)⟩⟩
                  · as_aux_lemma =>
                    rw [if_neg c49] at H
                    have c49b0 : (t337 == t342) = false := beq_eq_false_iff_ne.mpr c49
                    have c49b1 : (t337 != t342) = true := bne_iff_ne.mpr c49
                    have H' := Aside0.mk H
                    clear H
                    go_wp2
                    go_meet
                    case rel => exact ⟨_, (true), (by first | rfl | (simp; done) | (simp [*]; done)), H', ⟨by have := HJ6.out; have := HJ14.out; first | omega | exact Nat.le_refl _⟩, ⟨by (with_reducible repeat (first | apply Kd.R_alloc | apply Kd.R_drewN | apply Kd.R_drew)); exact HO335.out⟩, ⟨by repeat (first | (with_reducible first | exact HB.out | apply below_alloc | apply pw_below_drewN | apply below_drew1) | exact HB.out)⟩⟩
              case rest =>
                clear HC43
                try clear c1
                try clear c2
                try clear p2
                try clear c3
                try clear c4
                try clear c12
                try clear c13
                try clear c13b0
                try clear c13b1
                try clear c14
                try clear c15
                try clear c16
                try clear c17
                try clear c18
                try clear c18b0
                try clear c18b1
                try clear c20
                try clear c21
                try clear c22
                try clear c22b0
                try clear c22b1
                try clear c23
                try clear c23b0
                try clear c48
                try clear c48b0
                try clear c48b1
                try clear c48b2
                try clear c49
                try clear c49b0
                try clear c49b1
                try clear p2
                obtain ⟨kq, x116_42, rfl, HA, HJ42, HO_14, HB⟩ := hcut
                cases kq with
                | zero => exact absurd HA.out (by simp [laws_FnFolds.j2])
                | succ kj42 =>
                  have H := HA.out
                  clear HA
                  simp only [laws_FnFolds.j2] at H
                  by_cases c53 : x116_42 = true
                  · as_aux_lemma =>
                    subst c53
                    have H1 : (some false) = some r := by rw [if_pos rfl] at H; exact H
                    clear H
                    have H := H1
                    clear H1
                    obtain rfl := Option.some.inj H
                    go_wp2
                    go_ret
                    exact ⟨by first | rfl | (simp [errW_none, errW_some] <;> rfl) | (simp [*, errW_none, errW_some] <;> rfl), by repeat (first | (with_reducible first | exact HB.out | apply below_alloc | apply pw_below_drewN | apply below_drew1) | exact HB.out)⟩
                  · as_aux_lemma =>
                    replace c53 := Bool.eq_false_iff.mpr c53
                    subst c53
                    have H1 : (laws_FnFolds.l0 kj42 l0 t333 t337 t338 0) = some r := by rw [if_neg (show ¬ (false = true) by decide)] at H; exact H
                    clear H
                    have H := H1
                    clear H1
                    have H' := Aside0.mk H
                    clear H
                    go_wp2
                    go_loopg [21] kj42 (fun kq v21 w' => ∃ (x21_4 : Int), v21 = .int .i64 x21_4 ∧ Aside0 (laws_FnFolds.l0 kq l0 t333 t337 t338 x21_4 = some r) ∧ Aside0 (kq ≤ kj42) ∧ Aside0 (Kd.R k43 43 w' w.heap.size (fun _ => True) (.slice Ao45 t333.length co45) t333) ∧ Aside0 (Below w.heap.size w w'))
                    case atStart => exact ⟨(0), (by first | rfl | (simp; done) | (simp [*]; done)), H', ⟨Nat.le_refl _⟩, ⟨by (with_reducible repeat (first | apply Kd.R_alloc | apply Kd.R_drewN | apply Kd.R_drew)); exact HO_14.out⟩, ⟨by repeat (first | (with_reducible first | exact HB.out | apply below_alloc | apply pw_below_drewN | apply below_drew1) | exact HB.out)⟩⟩
                    case round =>
                      clear H'
                      try clear c1
                      try clear c2
                      try clear p2
                      try clear c3
                      try clear c4
                      try clear c5
                      try clear c12
                      try clear c13
                      try clear c13b0
                      try clear c13b1
                      try clear c14
                      try clear c15
                      try clear c16
                      try clear c17
                      try clear c18
                      try clear c18b0
                      try clear c18b1
                      try clear c20
                      try clear c21
                      try clear c22
                      try clear c22b0
                      try clear c22b1
                      try clear c23
                      try clear c23b0
                      try clear c48
                      try clear c48b0
                      try clear c48b1
                      try clear c48b2
                      try clear c49
                      try clear c49b0
                      try clear c49b1
                      try clear c53
                      try clear p2
                      obtain ⟨x21_4, rfl, HA, HK4, HO_14, HB⟩ := hrel
                      cases gk with
                      | zero => exact absurd HA.out (by simp [laws_FnFolds.l0])
                      | succ k4 =>
                        have H := HA.out
                        clear HA
                        simp only [laws_FnFolds.l0] at H
                        have HC54 := Aside0.mk H
                        clear H
                        go_upto_region 20 with (fail)
                        go_cut [123] (fun v123 wc => ∃ (kq : Nat) (x123_53 : Bool), v123 = .bool x123_53 ∧ Aside0 (laws_FnFolds.j4 kq l0 t333 t337 t338 x21_4 x123_53 = some r) ∧ Aside0 (kq ≤ k4) ∧ Aside0 (Kd.R k43 43 wc w.heap.size (fun _ => True) (.slice Ao45 t333.length co45) t333) ∧ Aside0 (Below w.heap.size w wc))
                        case first =>
                          have H := HC54.out
                          clear HC54
                          by_cases c55 : x21_4 < (t333.length : Int)
                          · as_aux_lemma =>
                            rw [if_pos c55] at H
                            have c55b0 : decide (x21_4 < (t333.length : Int)) = true := decide_eq_true c55
                            clear c55
                            (first | rw [c55b0] | (simp only [i64_w, i32_w]; rw [c55b0]) | skip)
                            have H' := Aside0.mk H
                            clear H
                            go_wp2
                            go_meet
                            case rel => exact ⟨_, (t338), (by first | rfl | (simp; done) | (simp [*]; done)), H', ⟨by have := HJ6.out; have := HJ14.out; have := HJ42.out; have := HK4.out; first | omega | exact Nat.le_refl _⟩, ⟨by (with_reducible repeat (first | apply Kd.R_alloc | apply Kd.R_drewN | apply Kd.R_drew)); exact HO_14.out⟩, ⟨by repeat (first | (with_reducible first | exact HB.out | apply below_alloc | apply pw_below_drewN | apply below_drew1) | exact HB.out)⟩⟩
                          · as_aux_lemma =>
                            rw [if_neg c55] at H
                            have c55b0 : decide (x21_4 < (t333.length : Int)) = false := decide_eq_false c55
                            clear c55
                            (first | rw [c55b0] | (simp only [i64_w, i32_w]; rw [c55b0]) | skip)
                            have H' := Aside0.mk H
                            clear H
                            go_wp2
                            go_meet
                            case rel => exact ⟨_, (false), (by first | rfl | (simp; done) | (simp [*]; done)), H', ⟨by have := HJ6.out; have := HJ14.out; have := HJ42.out; have := HK4.out; first | omega | exact Nat.le_refl _⟩, ⟨by (with_reducible repeat (first | apply Kd.R_alloc | apply Kd.R_drewN | apply Kd.R_drew)); exact HO_14.out⟩, ⟨by repeat (first | (with_reducible first | exact HB.out | apply below_alloc | apply pw_below_drewN | apply below_drew1) | exact HB.out)⟩⟩
                        case rest =>
                          clear HC54
                          try clear c1
                          try clear c2
                          try clear p2
                          try clear c3
                          try clear c4
                          try clear c5
                          try clear c12
                          try clear c13
                          try clear c13b0
                          try clear c13b1
                          try clear c14
                          try clear c15
                          try clear c16
                          try clear c17
                          try clear c18
                          try clear c18b0
                          try clear c18b1
                          try clear c20
                          try clear c21
                          try clear c22
                          try clear c22b0
                          try clear c22b1
                          try clear c23
                          try clear c23b0
                          try clear c48
                          try clear c48b0
                          try clear c48b1
                          try clear c48b2
                          try clear c49
                          try clear c49b0
                          try clear c49b1
                          try clear c53
                          try clear c55
                          try clear c55b0
                          try clear p2
                          obtain ⟨kq, x123_53, rfl, HA, HJ53, HO_14, HB⟩ := hcut
                          cases kq with
                          | zero => exact absurd HA.out (by simp [laws_FnFolds.j4])
                          | succ kj53 =>
                            have H := HA.out
                            clear HA
                            simp only [laws_FnFolds.j4] at H
                            by_cases c56 : x123_53 = true
                            · as_aux_lemma =>
                              subst c56
                              have H1 : (if 0 ≤ x21_4 then (if x21_4 < (t333.length : Int) then (if ((rd_T43 t333 x21_4).f0) > t337 then (some false) else (laws_FnFolds.l0 kj53 l0 t333 t337 t338 (wrap64 (x21_4 + 1)))) else (none)) else (none)) = some r := by rw [if_pos rfl] at H; exact H
                              clear H
                              have H := H1
                              clear H1
                              by_cases c57 : 0 ≤ x21_4
                              · as_aux_lemma =>
                                rw [if_pos c57] at H
                                have c57b0 : decide (0 ≤ x21_4) = true := decide_eq_true c57
                                clear c57
                                by_cases c58 : x21_4 < (t333.length : Int)
                                · as_aux_lemma =>
                                  rw [if_pos c58] at H
                                  have c58b0 : decide (x21_4 < (t333.length : Int)) = true := decide_eq_true c58
                                  clear c58
                                  by_cases c59 : ((rd_T43 t333 x21_4).f0) > t337
                                  · as_aux_lemma =>
                                    rw [if_pos c59] at H
                                    have c59b0 : decide (t337 < ((rd_T43 t333 x21_4).f0)) = true := decide_eq_true c59
                                    clear c59
                                    obtain rfl := Option.some.inj H
                                    have p347 : 0 ≤ (x21_4 : Int) := of_decide_eq_true (by first | (with_reducible assumption) | assumption)
                                    have q347 : x21_4 < (t333.length : Int) := of_decide_eq_true (by first | (with_reducible assumption) | assumption)
                                    obtain ⟨ad347, e347, hx347_0, hx347_1⟩ := at_T43 (Kd.R_reads' HO_14.out).2.2 x21_4 p347 q347
                                    cases e347
                                    replace p347 := eq_true p347
                                    replace q347 := eq_true q347
                                    go_wp2
                                    go_ret
                                    exact ⟨by first | rfl | (simp [errW_none, errW_some] <;> rfl) | (simp [*, errW_none, errW_some] <;> rfl), by repeat (first | (with_reducible first | exact HB.out | apply below_alloc | apply pw_below_drewN | apply below_drew1) | exact HB.out)⟩
                                  · as_aux_lemma =>
                                    rw [if_neg c59] at H
                                    have c59b0 : decide (t337 < ((rd_T43 t333 x21_4).f0)) = false := decide_eq_false c59
                                    clear c59
                                    have H' := Aside0.mk H
                                    clear H
                                    have p347 : 0 ≤ (x21_4 : Int) := of_decide_eq_true (by first | (with_reducible assumption) | assumption)
                                    have q347 : x21_4 < (t333.length : Int) := of_decide_eq_true (by first | (with_reducible assumption) | assumption)
                                    obtain ⟨ad347, e347, hx347_0, hx347_1⟩ := at_T43 (Kd.R_reads' HO_14.out).2.2 x21_4 p347 q347
                                    cases e347
                                    replace p347 := eq_true p347
                                    replace q347 := eq_true q347
                                    go_wp2
                                    go_roundg kj53
                                    case measure => have := HJ6.out; have := HJ14.out; have := HJ42.out; have := HK4.out; have := HJ53.out; omega
                                    case rel => exact ⟨(wrap64 (x21_4 + 1)), (by first | rfl | (simp; done) | (simp [*]; done)), H', ⟨by have := HJ6.out; have := HJ14.out; have := HJ42.out; have := HK4.out; have := HJ53.out; omega⟩, ⟨by (with_reducible repeat (first | apply Kd.R_alloc | apply Kd.R_drewN | apply Kd.R_drew)); exact HO_14.out⟩, ⟨by repeat (first | (with_reducible first | exact HB.out | apply below_alloc | apply pw_below_drewN | apply below_drew1) | exact HB.out)⟩⟩
                                · as_aux_lemma =>
                                  rw [if_neg c58] at H
                                  exact absurd H (by simp)
                              · as_aux_lemma =>
                                rw [if_neg c57] at H
                                exact absurd H (by simp)
                            · as_aux_lemma =>
                              replace c56 := Bool.eq_false_iff.mpr c56
                              subst c56
                              have H1 : ((spec_DrawSteepestRun.f kj53 l0).bind fun t348 => ((impl_SteepestRun.f kj53 t348).bind fun bt351 => ((spec_SteepestRun.f kj53 t348).bind fun bt353 => (if bt351.1 = bt353.1 then (laws_FnFolds.j5 kj53 t348 bt351.1 bt351.2 (bt351.2 != bt353.2)) else (laws_FnFolds.j5 kj53 t348 bt351.1 bt351.2 true))))) = some r := by rw [if_neg (show ¬ (false = true) by decide)] at H; exact H
                              clear H
                              have H := H1
                              clear H1
                              replace H := Option.bind_eq_some_iff.mp H
                              obtain ⟨t348, A600, H⟩ := H
                              replace H : ((impl_SteepestRun.f kj53 t348).bind fun bt351 => ((spec_SteepestRun.f kj53 t348).bind fun bt353 => (if bt351.1 = bt353.1 then (laws_FnFolds.j5 kj53 t348 bt351.1 bt351.2 (bt351.2 != bt353.2)) else (laws_FnFolds.j5 kj53 t348 bt351.1 bt351.2 true)))) = some r := H
                              have A60 := Aside0.mk A600
                              clear A600
                              replace H := Option.bind_eq_some_iff.mp H
                              obtain ⟨⟨t351, t352⟩, A610, H⟩ := H
                              replace H : ((spec_SteepestRun.f kj53 t348).bind fun bt353 => (if t351 = bt353.1 then (laws_FnFolds.j5 kj53 t348 t351 t352 (t352 != bt353.2)) else (laws_FnFolds.j5 kj53 t348 t351 t352 true))) = some r := H
                              have A61 := Aside0.mk A610
                              clear A610
                              replace H := Option.bind_eq_some_iff.mp H
                              obtain ⟨⟨t353, t354⟩, A620, H⟩ := H
                              replace H : (if t351 = t353 then (laws_FnFolds.j5 kj53 t348 t351 t352 (t352 != t354)) else (laws_FnFolds.j5 kj53 t348 t351 t352 true)) = some r := H
                              have A62 := Aside0.mk A620
                              clear A620
                              have HC63 := Aside0.mk H
                              clear H
                              go_upto_region 27 with (first | ((with_reducible refine gate_callee (f := 20) rfl ?_); refine goesL_ (some 134) rfl rfl Try.func20 (by kernel_rfl) rfl #[.slice A0 l0.length c0] rfl (by (try simp only [List.map_toArray, List.map_cons, List.map_nil]); first | done | rfl | (simp only [List.length_drop, List.length_take]; rfl)) ?_; (with_reducible refine (spec_DrawSteepestRun.calls kj53 _ _ l0 t348 _ ?side1 ?side2 A60.out).mono ?_); (case side1 => repeat (first | exact (Kd.C_below HR0.out HB.out) | (with_reducible refine Kd.C_alloc ?_ _) | (with_reducible refine Kd.C_drewN ?_ _) | (with_reducible refine Kd.C_drew ?_))); (case side2 => exact HC0.out); rintro e w64 ⟨v349, rfl, ho0, hb⟩; refine ⟨_, rfl, ?_⟩; have n0_ := Aside0.mk (Kd.R_elder' (by (with_reducible repeat (first | apply Kd.R_alloc | apply Kd.R_drewN | apply Kd.R_drew)); exact HO_14.out) (Kd.R_base ho0) hb); have n1_ := Aside0.mk (Kd.R_lower (Kd.R_new' ho0 (Kd.R_lt (by (with_reducible repeat (first | apply Kd.R_alloc | apply Kd.R_drewN | apply Kd.R_drew)); exact HO_14.out))) (below_size (by repeat (first | (with_reducible first | exact HB.out | apply below_alloc | apply pw_below_drewN | apply below_drew1) | exact HB.out)))); have n2_ := Aside0.mk (below_step (by repeat (first | (with_reducible first | exact HB.out | apply below_alloc | apply pw_below_drewN | apply below_drew1) | exact HB.out)) hb); clear HO_14; clear HB; have HO_14 := n0_; have HO350 := n1_; have HB := n2_; clear n0_ n1_ n2_; (try clear hb); (try clear hb2); (try clear hk); (try clear hi); (try clear ho0); obtain ⟨Ao65, co65, eo65⟩ := Kd.R_slice HO350.out; subst eo65) | ((with_reducible refine gate_callee (f := 21) rfl ?_); refine goesL_ (some 137) rfl rfl Try.func21 (by kernel_rfl) rfl #[.slice Ao65 t348.length co65] rfl (by (try simp only [List.map_toArray, List.map_cons, List.map_nil]); first | done | rfl | (simp only [List.length_drop, List.length_take]; rfl)) ?_; (with_reducible refine (impl_SteepestRun.calls kj53 _ _ t348 t351 t352 _ ?side1 ?side2 A61.out).mono ?_); (case side1 => repeat (first | exact (Kd.R_reads' HO350.out).2.2 | (with_reducible refine Kd.C_alloc ?_ _) | (with_reducible refine Kd.C_drewN ?_ _) | (with_reducible refine Kd.C_drew ?_))); (case side2 => exact (Kd.R_reads' HO350.out).2.1); rintro e w66 ⟨rfl, hb⟩; refine ⟨_, rfl, ?_⟩; have n0_ := Aside0.mk (Kd.R_below (by (with_reducible repeat (first | apply Kd.R_alloc | apply Kd.R_drewN | apply Kd.R_drew)); exact HO_14.out) hb); have n1_ := Aside0.mk (Kd.R_below (by (with_reducible repeat (first | apply Kd.R_alloc | apply Kd.R_drewN | apply Kd.R_drew)); exact HO350.out) hb); have n2_ := Aside0.mk (below_step (by repeat (first | (with_reducible first | exact HB.out | apply below_alloc | apply pw_below_drewN | apply below_drew1) | exact HB.out)) hb); clear HO_14; clear HO350; clear HB; have HO_14 := n0_; have HO350 := n1_; have HB := n2_; clear n0_ n1_ n2_; (try clear hb); (try clear hb2); (try clear hk); (try clear hi)) | ((with_reducible refine gate_callee (f := 22) rfl ?_); refine goesL_ (some 142) rfl rfl Try.func22 (by kernel_rfl) rfl #[.slice Ao65 t348.length co65] rfl (by (try simp only [List.map_toArray, List.map_cons, List.map_nil]); first | done | rfl | (simp only [List.length_drop, List.length_take]; rfl)) ?_; (with_reducible refine (spec_SteepestRun.calls kj53 _ _ t348 t353 t354 _ ?side1 ?side2 A62.out).mono ?_); (case side1 => repeat (first | exact (Kd.R_reads' HO350.out).2.2 | (with_reducible refine Kd.C_alloc ?_ _) | (with_reducible refine Kd.C_drewN ?_ _) | (with_reducible refine Kd.C_drew ?_))); (case side2 => exact (Kd.R_reads' HO350.out).2.1); rintro e w67 ⟨rfl, hb⟩; refine ⟨_, rfl, ?_⟩; have n0_ := Aside0.mk (Kd.R_below (by (with_reducible repeat (first | apply Kd.R_alloc | apply Kd.R_drewN | apply Kd.R_drew)); exact HO_14.out) hb); have n1_ := Aside0.mk (Kd.R_below (by (with_reducible repeat (first | apply Kd.R_alloc | apply Kd.R_drewN | apply Kd.R_drew)); exact HO350.out) hb); have n2_ := Aside0.mk (below_step (by repeat (first | (with_reducible first | exact HB.out | apply below_alloc | apply pw_below_drewN | apply below_drew1) | exact HB.out)) hb); clear HO_14; clear HO350; clear HB; have HO_14 := n0_; have HO350 := n1_; have HB := n2_; clear n0_ n1_ n2_; (try clear hb); (try clear hb2); (try clear hk); (try clear hi)))
                              (try simp only [Act.put, List.setIfInBounds_toArray, List.set_cons_zero, List.set_cons_succ])
                              go_cut [152] (fun v152 wc => ∃ (kq : Nat) (x152_62 : Bool), v152 = .bool x152_62 ∧ Aside0 (laws_FnFolds.j5 kq t348 t351 t352 x152_62 = some r) ∧ Aside0 (kq ≤ kj53) ∧ Aside0 (Kd.R k43 43 wc w.heap.size (fun _ => True) (.slice Ao65 t348.length co65) t348) ∧ Aside0 (Below w.heap.size w wc))
                              case first =>
                                have H := HC63.out
                                clear HC63
                                by_cases c68 : t351 = t353
                                · as_aux_lemma =>
                                  rw [if_pos c68] at H
                                  have c68b0 : (t351 == t353) = true := beq_iff_eq.mpr c68
                                  have c68b1 : (t351 != t353) = false := bne_eq_false_iff_eq.mpr c68
                                  clear c68
                                  (first | rw [c68b0] | (simp only [i64_w, i32_w]; rw [c68b0]) | skip)
                                  have H' := Aside0.mk H
                                  clear H
                                  go_wp2
                                  go_meet
                                  case rel => exact ⟨_, ((t352 != t354)), (by first | rfl | (simp; done) | (simp [*]; done)), H', ⟨by have := HJ6.out; have := HJ14.out; have := HJ42.out; have := HK4.out; have := HJ53.out; first | omega | exact Nat.le_refl _⟩, ⟨by (with_reducible repeat (first | apply Kd.R_alloc | apply Kd.R_drewN | apply Kd.R_drew)); exact Kd.R_mono HO350.out (fun _ hk => trivial)⟩, ⟨by repeat (first | (with_reducible first | exact HB.out | apply below_alloc | apply pw_below_drewN | apply below_drew1) | exact HB.out)⟩⟩
                                · as_aux_lemma =>
                                  rw [if_neg c68] at H
                                  have c68b0 : (t351 == t353) = false := beq_eq_false_iff_ne.mpr c68
                                  have c68b1 : (t351 != t353) = true := bne_iff_ne.mpr c68
                                  (first | rw [c68b0] | (simp only [i64_w, i32_w]; rw [c68b0]) | skip)
                                  have H' := Aside0.mk H
                                  clear H
                                  go_wp2
                                  go_meet
                                  case rel => exact ⟨_, (true), (by first | rfl | (simp; done) | (simp [*]; done)), H', ⟨by have := HJ6.out; have := HJ14.out; have := HJ42.out; have := HK4.out; have := HJ53.out; first | omega | exact Nat.le_refl _⟩, ⟨by (with_reducible repeat (first | apply Kd.R_alloc | apply Kd.R_drewN | apply Kd.R_drew)); exact Kd.R_mono HO350.out (fun _ hk => trivial)⟩, ⟨by repeat (first | (with_reducible first | exact HB.out | apply below_alloc | apply pw_below_drewN | apply below_drew1) | exact HB.out)⟩⟩
                              case rest =>
                                clear HC63
                                try clear c1
                                try clear c2
                                try clear p2
                                try clear c3
                                try clear p3
                                try clear q3
                                try clear hx3
                                try clear c4
                                try clear c5
                                try clear c6
                                try clear p6
                                try clear c12
                                try clear c13
                                try clear c13b0
                                try clear c13b1
                                try clear c14
                                try clear c15
                                try clear c16
                                try clear c17
                                try clear c18
                                try clear c18b0
                                try clear c18b1
                                try clear c20
                                try clear c21
                                try clear c22
                                try clear c22b0
                                try clear c22b1
                                try clear c23
                                try clear c23b0
                                try clear p34
                                try clear q34
                                try clear hx34
                                try clear c48
                                try clear c48b0
                                try clear c48b1
                                try clear c48b2
                                try clear c49
                                try clear c49b0
                                try clear c49b1
                                try clear c53
                                try clear c55
                                try clear c55b0
                                try clear c56
                                try clear c57
                                try clear c57b0
                                try clear c58
                                try clear c58b0
                                try clear c59
                                try clear c59b0
                                try clear p64
                                try clear c68
                                try clear c68b0
                                try clear c68b1
                                try clear hx347_0
                                try clear hx347_1
                                try clear p2
                                try clear p347
                                try clear q347
                                obtain ⟨kq, x152_62, rfl, HA, HJ62, HO_22, HB⟩ := hcut
                                cases kq with
                                | zero => exact absurd HA.out (by simp [laws_FnFolds.j5])
                                | succ kj62 =>
                                  have H := HA.out
                                  clear HA
                                  simp only [laws_FnFolds.j5] at H
                                  by_cases c69 : x152_62 = true
                                  · as_aux_lemma =>
                                    subst c69
                                    have H1 : (some false) = some r := by rw [if_pos rfl] at H; exact H
                                    clear H
                                    have H := H1
                                    clear H1
                                    obtain rfl := Option.some.inj H
                                    go_wp2
                                    go_ret
                                    exact ⟨by first | rfl | (simp [errW_none, errW_some] <;> rfl) | (simp [*, errW_none, errW_some] <;> rfl), by repeat (first | (with_reducible first | exact HB.out | apply below_alloc | apply pw_below_drewN | apply below_drew1) | exact HB.out)⟩
                                  · as_aux_lemma =>
                                    replace c69 := Bool.eq_false_iff.mpr c69
                                    subst c69
                                    have H1 : (laws_FnFolds.l1 kj62 t348 t351 t352 0) = some r := by rw [if_neg (show ¬ (false = true) by decide)] at H; exact H
                                    clear H
                                    have H := H1
                                    clear H1
                                    have H' := Aside0.mk H
                                    clear H
                                    go_wp2
                                    go_loopg [27] kj62 (fun kq v27 w' => ∃ (x27_7 : Int), v27 = .int .i64 x27_7 ∧ Aside0 (laws_FnFolds.l1 kq t348 t351 t352 x27_7 = some r) ∧ Aside0 (kq ≤ kj62) ∧ Aside0 (Kd.R k43 43 w' w.heap.size (fun _ => True) (.slice Ao65 t348.length co65) t348) ∧ Aside0 (Below w.heap.size w w'))
                                    case atStart => exact ⟨(0), (by first | rfl | (simp; done) | (simp [*]; done)), H', ⟨Nat.le_refl _⟩, ⟨by (with_reducible repeat (first | apply Kd.R_alloc | apply Kd.R_drewN | apply Kd.R_drew)); exact HO_22.out⟩, ⟨by repeat (first | (with_reducible first | exact HB.out | apply below_alloc | apply pw_below_drewN | apply below_drew1) | exact HB.out)⟩⟩
                                    case round =>
                                      clear H'
                                      try clear c1
                                      try clear c2
                                      try clear p2
                                      try clear c3
                                      try clear p3
                                      try clear q3
                                      try clear hx3
                                      try clear c4
                                      try clear c5
                                      try clear c6
                                      try clear p6
                                      try clear c12
                                      try clear c13
                                      try clear c13b0
                                      try clear c13b1
                                      try clear c14
                                      try clear c15
                                      try clear c16
                                      try clear c17
                                      try clear c18
                                      try clear c18b0
                                      try clear c18b1
                                      try clear c20
                                      try clear c21
                                      try clear c22
                                      try clear c22b0
                                      try clear c22b1
                                      try clear c23
                                      try clear c23b0
                                      try clear p34
                                      try clear q34
                                      try clear hx34
                                      try clear c48
                                      try clear c48b0
                                      try clear c48b1
                                      try clear c48b2
                                      try clear c49
                                      try clear c49b0
                                      try clear c49b1
                                      try clear c53
                                      try clear c55
                                      try clear c55b0
                                      try clear c56
                                      try clear c57
                                      try clear c57b0
                                      try clear c58
                                      try clear c58b0
                                      try clear c59
                                      try clear c59b0
                                      try clear p64
                                      try clear c68
                                      try clear c68b0
                                      try clear c68b1
                                      try clear c69
                                      try clear hx347_0
                                      try clear hx347_1
                                      try clear p2
                                      try clear p3
                                      try clear p34
                                      try clear p347
                                      try clear p6
                                      try clear p64
                                      try clear q3
                                      try clear q34
                                      try clear q347
                                      obtain ⟨x27_7, rfl, HA, HK7, HO_22, HB⟩ := hrel
                                      cases gk with
                                      | zero => exact absurd HA.out (by simp [laws_FnFolds.l1])
                                      | succ k7 =>
                                        have H := HA.out
                                        clear HA
                                        simp only [laws_FnFolds.l1] at H
                                        have HC70 := Aside0.mk H
                                        clear H
                                        go_upto_region 30 with (fail)
                                        go_cut [159] (fun v159 wc => ∃ (kq : Nat) (x159_69 : Bool), v159 = .bool x159_69 ∧ Aside0 (laws_FnFolds.j7 kq t348 t351 t352 x27_7 x159_69 = some r) ∧ Aside0 (kq ≤ k7) ∧ Aside0 (Kd.R k43 43 wc w.heap.size (fun _ => True) (.slice Ao65 t348.length co65) t348) ∧ Aside0 (Below w.heap.size w wc))
                                        case first =>
                                          have H := HC70.out
                                          clear HC70
                                          by_cases c71 : x27_7 < (t348.length : Int)
                                          · as_aux_lemma =>
                                            rw [if_pos c71] at H
                                            have c71b0 : decide (x27_7 < (t348.length : Int)) = true := decide_eq_true c71
                                            clear c71
                                            (first | rw [c71b0] | (simp only [i64_w, i32_w]; rw [c71b0]) | skip)
                                            have H' := Aside0.mk H
                                            clear H
                                            go_wp2
                                            go_meet
                                            case rel => exact ⟨_, (t352), (by first | rfl | (simp; done) | (simp [*]; done)), H', ⟨by have := HJ6.out; have := HJ14.out; have := HJ42.out; have := HK4.out; have := HJ53.out; have := HJ62.out; have := HK7.out; first | omega | exact Nat.le_refl _⟩, ⟨by (with_reducible repeat (first | apply Kd.R_alloc | apply Kd.R_drewN | apply Kd.R_drew)); exact HO_22.out⟩, ⟨by repeat (first | (with_reducible first | exact HB.out | apply below_alloc | apply pw_below_drewN | apply below_drew1) | exact HB.out)⟩⟩
                                          · as_aux_lemma =>
                                            rw [if_neg c71] at H
                                            have c71b0 : decide (x27_7 < (t348.length : Int)) = false := decide_eq_false c71
                                            clear c71
                                            (first | rw [c71b0] | (simp only [i64_w, i32_w]; rw [c71b0]) | skip)
                                            have H' := Aside0.mk H
                                            clear H
                                            go_wp2
                                            go_meet
                                            case rel => exact ⟨_, (false), (by first | rfl | (simp; done) | (simp [*]; done)), H', ⟨by have := HJ6.out; have := HJ14.out; have := HJ42.out; have := HK4.out; have := HJ53.out; have := HJ62.out; have := HK7.out; first | omega | exact Nat.le_refl _⟩, ⟨by (with_reducible repeat (first | apply Kd.R_alloc | apply Kd.R_drewN | apply Kd.R_drew)); exact HO_22.out⟩, ⟨by repeat (first | (with_reducible first | exact HB.out | apply below_alloc | apply pw_below_drewN | apply below_drew1) | exact HB.out)⟩⟩
                                        case rest =>
                                          clear HC70
                                          try clear c1
                                          try clear c2
                                          try clear p2
                                          try clear c3
                                          try clear p3
                                          try clear q3
                                          try clear hx3
                                          try clear c4
                                          try clear c5
                                          try clear c6
                                          try clear p6
                                          try clear c7
                                          try clear c12
                                          try clear c13
                                          try clear c13b0
                                          try clear c13b1
                                          try clear c14
                                          try clear c15
                                          try clear c16
                                          try clear c17
                                          try clear c18
                                          try clear c18b0
                                          try clear c18b1
                                          try clear c20
                                          try clear c21
                                          try clear c22
                                          try clear c22b0
                                          try clear c22b1
                                          try clear c23
                                          try clear c23b0
                                          try clear p34
                                          try clear q34
                                          try clear hx34
                                          try clear c48
                                          try clear c48b0
                                          try clear c48b1
                                          try clear c48b2
                                          try clear c49
                                          try clear c49b0
                                          try clear c49b1
                                          try clear c53
                                          try clear c55
                                          try clear c55b0
                                          try clear c56
                                          try clear c57
                                          try clear c57b0
                                          try clear c58
                                          try clear c58b0
                                          try clear c59
                                          try clear c59b0
                                          try clear p64
                                          try clear c68
                                          try clear c68b0
                                          try clear c68b1
                                          try clear c69
                                          try clear c71
                                          try clear c71b0
                                          try clear hx347_0
                                          try clear hx347_1
                                          try clear p2
                                          try clear p3
                                          try clear p34
                                          try clear p347
                                          try clear p6
                                          try clear p64
                                          try clear q3
                                          try clear q34
                                          try clear q347
                                          obtain ⟨kq, x159_69, rfl, HA, HJ69, HO_22, HB⟩ := hcut
                                          cases kq with
                                          | zero => exact absurd HA.out (by simp [laws_FnFolds.j7])
                                          | succ kj69 =>
                                            have H := HA.out
                                            clear HA
                                            simp only [laws_FnFolds.j7] at H
                                            by_cases c72 : x159_69 = true
                                            · as_aux_lemma =>
                                              subst c72
                                              have H1 : (if 0 ≤ x27_7 then (if x27_7 < (t348.length : Int) then (if 0 ≤ t351 then (if t351 < (t348.length : Int) then (if ((rd_T43 t348 x27_7).f1) < 0 then (laws_FnFolds.j8 kj69 t348 t351 t352 x27_7 ((rd_T43 t348 x27_7).f0) (wrap64 (-((rd_T43 t348 x27_7).f1))) ((rd_T43 t348 t351).f0) ((rd_T43 t348 t351).f1)) else (laws_FnFolds.j8 kj69 t348 t351 t352 x27_7 ((rd_T43 t348 x27_7).f0) ((rd_T43 t348 x27_7).f1) ((rd_T43 t348 t351).f0) ((rd_T43 t348 t351).f1))) else (none)) else (none)) else (none)) else (none)) = some r := by rw [if_pos rfl] at H; exact H
                                              clear H
                                              have H := H1
                                              clear H1
                                              by_cases c73 : 0 ≤ x27_7
                                              · as_aux_lemma =>
                                                rw [if_pos c73] at H
                                                have c73b0 : decide (0 ≤ x27_7) = true := decide_eq_true c73
                                                clear c73
                                                by_cases c74 : x27_7 < (t348.length : Int)
                                                · as_aux_lemma =>
                                                  rw [if_pos c74] at H
                                                  have c74b0 : decide (x27_7 < (t348.length : Int)) = true := decide_eq_true c74
                                                  clear c74
                                                  by_cases c75 : 0 ≤ t351
                                                  · as_aux_lemma =>
                                                    rw [if_pos c75] at H
                                                    have c75b0 : decide (0 ≤ t351) = true := decide_eq_true c75
                                                    clear c75
                                                    by_cases c76 : t351 < (t348.length : Int)
                                                    · as_aux_lemma =>
                                                      rw [if_pos c76] at H
                                                      have c76b0 : decide (t351 < (t348.length : Int)) = true := decide_eq_true c76
                                                      clear c76
                                                      have HC77 := Aside0.mk H
                                                      clear H
                                                      try go_wp2
                                                      have n0_ := Aside0.mk (Kd.R_drew HO_22.out)
                                                      have n1_ := Aside0.mk (below_drew1 HB.out)
                                                      clear HO_22
                                                      clear HB
                                                      have HO_22 := n0_
                                                      have HB := n1_
                                                      clear n0_ n1_
                                                      have p355 : 0 ≤ (x27_7 : Int) := of_decide_eq_true (by first | (with_reducible assumption) | assumption)
                                                      have q355 : x27_7 < (t348.length : Int) := of_decide_eq_true (by first | (with_reducible assumption) | assumption)
                                                      obtain ⟨ad355, e355, hx355_0, hx355_1⟩ := at_T43 (Kd.R_reads' HO_22.out).2.2 x27_7 p355 q355
                                                      cases e355
                                                      replace p355 := eq_true p355
                                                      replace q355 := eq_true q355
                                                      have p356 : 0 ≤ (t351 : Int) := of_decide_eq_true (by first | (with_reducible assumption) | assumption)
                                                      have q356 : t351 < (t348.length : Int) := of_decide_eq_true (by first | (with_reducible assumption) | assumption)
                                                      obtain ⟨ad356, e356, hx356_0, hx356_1⟩ := at_T43 (Kd.R_reads' HO_22.out).2.2 t351 p356 q356
                                                      obtain rfl : ad355 = ad356 := (by injection e356)
                                                      replace p356 := eq_true p356
                                                      replace q356 := eq_true q356
                                                      refine start_ (n := 12) (S := fun w' => w'.cell? (ad355.add ((x27_7).toNat * 2)) = some (.int .i64 ((rd_T43 t348 x27_7).f0)) ∧ w'.cell? ⟨(ad355.add ((x27_7).toNat * 2)).block, (ad355.add ((x27_7).toNat * 2)).off + 1, none⟩ = some (.int .i64 ((rd_T43 t348 x27_7).f1)) ∧ w'.cell? (ad355.add ((t351).toNat * 2)) = some (.int .i64 ((rd_T43 t348 t351).f0)) ∧ w'.cell? ⟨(ad355.add ((t351).toNat * 2)).block, (ad355.add ((t351).toNat * 2)).off + 1, none⟩ = some (.int .i64 ((rd_T43 t348 t351).f1))) (ds := []) #[false, false, false, false, false, false, false, false, false, false, false, false] (by kernel_rfl) rfl rfl ⟨hx355_0, hx355_1, hx356_0, hx356_1⟩ (fun hHeld => ?_); refine with_tabW laws_FnFolds.tab32 laws_FnFolds.bits32 (fun HT_ HW_ => ?_)
                                                      generalize wc.drew = w78 at HO_22 HB hx355_0 hx355_1 hx356_0 hx356_1 hHeld ⊢
                                                      refine pure_ (i := 0) (N := some 162) (v := ?_) (a' := ?_) #[true, false, false, false, false, false, false, false, false, false, false, false] rfl rfl (any_of HT_.out (by kernel_rfl)) (fun _ _ _ h => h) (Or.inl ⟨by rfl, ?_⟩) ?_ ?_
                                                      rotate_left
                                                      · as_aux_lemma =>
                                                        intro w'
                                                        go_simp
                                                        with_reducible rfl
                                                      rotate_left
                                                      · as_aux_lemma =>
                                                        simp only [Act.put, List.setIfInBounds_toArray, List.set_cons_zero, List.set_cons_succ, i64_w, i32_w]
                                                        rfl
                                                      refine pure_ (i := 1) (N := some 163) (v := ?_) (a' := ?_) #[true, true, false, false, false, false, false, false, false, false, false, false] rfl rfl (any_of HT_.out (by kernel_rfl)) (fun _ _ _ h => h) (Or.inl ⟨by rfl, ?_⟩) ?_ ?_
                                                      rotate_left
                                                      · as_aux_lemma =>
                                                        intro w'
                                                        go_simp
                                                        with_reducible rfl
                                                      rotate_left
                                                      · as_aux_lemma =>
                                                        simp only [Act.put, List.setIfInBounds_toArray, List.set_cons_zero, List.set_cons_succ, i64_w, i32_w]
                                                        rfl
                                                      refine pure_ (i := 2) (N := some 164) (v := ?_) (a' := ?_) #[true, true, true, false, false, false, false, false, false, false, false, false] rfl rfl (any_of HT_.out (by kernel_rfl)) (fun _ _ _ h => h) (Or.inl ⟨by rfl, ?_⟩) ?_ ?_
                                                      rotate_left
                                                      · as_aux_lemma =>
                                                        intro w'
                                                        go_simp
                                                        with_reducible rfl
                                                      rotate_left
                                                      · as_aux_lemma =>
                                                        simp only [Act.put, List.setIfInBounds_toArray, List.set_cons_zero, List.set_cons_succ, i64_w, i32_w]
                                                        rfl
                                                      refine pure_ (i := 4) (N := some 166) (v := ?_) (a' := ?_) #[true, true, true, false, true, false, false, false, false, false, false, false] rfl rfl (any_of HT_.out (by kernel_rfl)) (fun _ _ _ h => h) (Or.inl ⟨by rfl, ?_⟩) ?_ ?_
                                                      rotate_left
                                                      · as_aux_lemma =>
                                                        intro w'
                                                        go_simp
                                                        with_reducible rfl
                                                      rotate_left
                                                      · as_aux_lemma =>
                                                        simp only [Act.put, List.setIfInBounds_toArray, List.set_cons_zero, List.set_cons_succ, i64_w, i32_w]
                                                        rfl
                                                      refine pure_ (i := 5) (N := some 167) (v := ?_) (a' := ?_) #[true, true, true, false, true, true, false, false, false, false, false, false] rfl rfl (any_of HT_.out (by kernel_rfl)) (fun _ _ _ h => h) (Or.inl ⟨by rfl, ?_⟩) ?_ ?_
                                                      rotate_left
                                                      · as_aux_lemma =>
                                                        intro w'
                                                        go_simp
                                                        with_reducible rfl
                                                      rotate_left
                                                      · as_aux_lemma =>
                                                        simp only [Act.put, List.setIfInBounds_toArray, List.set_cons_zero, List.set_cons_succ, i64_w, i32_w]
                                                        rfl
                                                      refine pure_ (i := 6) (N := some 168) (v := ?_) (a' := ?_) #[true, true, true, false, true, true, true, false, false, false, false, false] rfl rfl (any_of HT_.out (by kernel_rfl)) (fun _ _ _ h => h) (Or.inl ⟨by rfl, ?_⟩) ?_ ?_
                                                      rotate_left
                                                      · as_aux_lemma =>
                                                        intro w'
                                                        go_simp
                                                        with_reducible rfl
                                                      rotate_left
                                                      · as_aux_lemma =>
                                                        simp only [Act.put, List.setIfInBounds_toArray, List.set_cons_zero, List.set_cons_succ, i64_w, i32_w]
                                                        rfl
                                                      refine take_ (i := 3) (N := some 165) (v := ?_) (a' := ?_) #[true, true, true, true, true, true, true, false, false, false, false, false] rfl rfl (take_ofW HT_.out HW_.out (by kernel_rfl)) (fun _ _ _ h => h) (Or.inl ⟨by rfl, ?_⟩) hHeld ?_ ?_
                                                      rotate_left
                                                      · as_aux_lemma =>
                                                        rintro w' ⟨s0, s1, s2, s3⟩
                                                        go_simp
                                                        with_reducible rfl
                                                      rotate_left
                                                      · as_aux_lemma =>
                                                        simp only [Act.put, List.setIfInBounds_toArray, List.set_cons_zero, List.set_cons_succ, i64_w, i32_w]
                                                        rfl
                                                      refine take_ (i := 7) (N := some 169) (v := ?_) (a' := ?_) #[true, true, true, true, true, true, true, true, false, false, false, false] rfl rfl (take_ofW HT_.out HW_.out (by kernel_rfl)) (fun _ _ _ h => h) (Or.inl ⟨by rfl, ?_⟩) hHeld ?_ ?_
                                                      rotate_left
                                                      · as_aux_lemma =>
                                                        rintro w' ⟨s0, s1, s2, s3⟩
                                                        go_simp
                                                        with_reducible rfl
                                                      rotate_left
                                                      · as_aux_lemma =>
                                                        simp only [Act.put, List.setIfInBounds_toArray, List.set_cons_zero, List.set_cons_succ, i64_w, i32_w]
                                                        rfl
                                                      refine join_ (σ := Nat × Nat) 2 #[true, true, true, true, true, true, true, true, true, true, false, false] (fun s_ => [(28, .pointer (some ⟨s_.1, 0, none⟩)), (29, .pointer (some ⟨s_.2, 0, none⟩))]) (fun s_ w' => (w'.cell? (ad355.add ((x27_7).toNat * 2)) = some (.int .i64 ((rd_T43 t348 x27_7).f0)) ∧ w'.cell? ⟨(ad355.add ((x27_7).toNat * 2)).block, (ad355.add ((x27_7).toNat * 2)).off + 1, none⟩ = some (.int .i64 ((rd_T43 t348 x27_7).f1)) ∧ w'.cell? (ad355.add ((t351).toNat * 2)) = some (.int .i64 ((rd_T43 t348 t351).f0)) ∧ w'.cell? ⟨(ad355.add ((t351).toNat * 2)).block, (ad355.add ((t351).toNat * 2)).off + 1, none⟩ = some (.int .i64 ((rd_T43 t348 t351).f1))) ∧ (Kd.R k43 43 w' w.heap.size (fun k_ => k_ ≠ s_.1 ∧ k_ ≠ s_.2) (.slice (some ad355) t348.length co65) t348) ∧ (w'.heap[s_.1]? = some (.cells #[.int .i64 0, .int .i64 0] 43 (0, 0))) ∧ (w'.heap[s_.2]? = some (.cells #[.int .i64 0, .int .i64 0] 43 (0, 0))) ∧ (w.heap.size ≤ s_.1) ∧ (w.heap.size ≤ s_.1) ∧ (s_.2 ≠ s_.1) ∧ (s_.1 ≠ s_.2) ∧ (w.heap.size ≤ s_.2) ∧ (w.heap.size ≤ s_.2) ∧ (Below w.heap.size w w')) ?_ ?_
                                                      rotate_left
                                                      · as_aux_lemma =>
                                                        intro hCont
                                                        refine two_ (i := 8) (j := 9) (Ni := some 28) (Nj := some 29) #[true, true, true, true, true, true, true, true, true, false, false, false] #[true, true, true, true, true, true, true, true, false, true, false, false] rfl rfl rfl rfl (two_of HT_.out (by kernel_rfl)) (by decide) (by decide) (fun K hK => ?_) (fun K hK => ?_)
                                                        · as_aux_lemma =>
                                                          skip
                                                          refine box_step ?hg (N := 28) ?hd (cs := #[.int .i64 0, .int .i64 0]) (t := 43) ?hr ?_; (case hd => rfl); (case hg => rfl); (case hr => first | (go_simp; done) | (go_simp; rfl))
                                                          intro gb357 hg w79 hbox hb
                                                          have HS0_ := (hb.cell (World.block_lt_of_cell? _ _ (hHeld.1))).trans (hHeld.1)
                                                          have HS1_ := (hb.cell (World.block_lt_of_cell? _ _ (hHeld.2.1))).trans (hHeld.2.1)
                                                          have HS2_ := (hb.cell (World.block_lt_of_cell? _ _ (hHeld.2.2.1))).trans (hHeld.2.2.1)
                                                          have HS3_ := (hb.cell (World.block_lt_of_cell? _ _ (hHeld.2.2.2))).trans (hHeld.2.2.2)
                                                          have n0_ := Aside0.mk (Kd.R_below (Kd.R_elderB (by (with_reducible repeat (first | apply Kd.R_alloc | apply Kd.R_drewN | apply Kd.R_drew)); exact HO_22.out) gb357 (Nat.le_of_eq hg.symm)) hb)
                                                          have n1_ := Aside0.mk (below_step (by repeat (first | (with_reducible first | exact HB.out | apply below_alloc | apply pw_below_drewN | apply below_drew1) | exact HB.out)) hb)
                                                          have n2_ := Aside0.mk (hbox)
                                                          have n3_ := Aside0.mk ((by rw [hg]; exact (below_size (by repeat (first | (with_reducible first | exact HB.out | apply below_alloc | apply pw_below_drewN | apply below_drew1) | exact HB.out))) : w.heap.size ≤ gb357))
                                                          have n4_ := Aside0.mk ((by rw [hg]; exact (below_size (by repeat (first | (with_reducible first | exact HB.out | apply below_alloc | apply pw_below_drewN | apply below_drew1) | exact HB.out))) : w.heap.size ≤ gb357))
                                                          clear HO_22
                                                          clear HB
                                                          have HO_22 := n0_
                                                          have HB := n1_
                                                          have BK357 := n2_
                                                          have GW357 := n3_
                                                          have GE357 := n4_
                                                          clear n0_ n1_ n2_ n3_ n4_
                                                          clear hb hbox hg
                                                          refine hK.out _ _ ⟨HS0_, HS1_, HS2_, HS3_⟩ (fun hHeld => ?_)
                                                          clear hK K
                                                          refine norm_ (a' := ?_) ?_ ?_
                                                          rotate_left
                                                          · as_aux_lemma =>
                                                            show Act.put _ (some 28) _ = _
                                                            simp only [Act.put, List.setIfInBounds_toArray, List.set_cons_zero, List.set_cons_succ, i64_w, i32_w]
                                                            rfl
                                                          refine one_ (i := 9) (N := some 29) #[true, true, true, true, true, true, true, true, true, true, false, false] rfl rfl (one_of HT_.out (by kernel_rfl)) (by decide) (fun K hK => ?_)
                                                          refine box_step ?hg (N := 29) ?hd (cs := #[.int .i64 0, .int .i64 0]) (t := 43) ?hr ?_; (case hd => rfl); (case hg => rfl); (case hr => first | (go_simp; done) | (go_simp; rfl))
                                                          intro gb358 hg w80 hbox hb
                                                          have HS0_ := (hb.cell (World.block_lt_of_cell? _ _ (hHeld.1))).trans (hHeld.1)
                                                          have HS1_ := (hb.cell (World.block_lt_of_cell? _ _ (hHeld.2.1))).trans (hHeld.2.1)
                                                          have HS2_ := (hb.cell (World.block_lt_of_cell? _ _ (hHeld.2.2.1))).trans (hHeld.2.2.1)
                                                          have HS3_ := (hb.cell (World.block_lt_of_cell? _ _ (hHeld.2.2.2))).trans (hHeld.2.2.2)
                                                          have n0_ := Aside0.mk (Kd.R_below (Kd.R_elderB (by (with_reducible repeat (first | apply Kd.R_alloc | apply Kd.R_drewN | apply Kd.R_drew)); exact HO_22.out) gb358 (Nat.le_of_eq hg.symm)) hb)
                                                          have n1_ := Aside0.mk (blk_below (g := gb357) (o := .cells #[.int .i64 0, .int .i64 0] 43 (0, 0)) (by (with_reducible repeat (first | refine blk_drewN ?_ _ | refine blk_drew ?_ | refine blk_alloc ?_ _)); exact BK357.out) hb)
                                                          have n2_ := Aside0.mk (below_step (by repeat (first | (with_reducible first | exact HB.out | apply below_alloc | apply pw_below_drewN | apply below_drew1 | refine below_set ?_ GE357.out) | exact HB.out)) hb)
                                                          have n3_ := Aside0.mk (hbox)
                                                          have n4_ := Aside0.mk ((by rw [hg]; exact (below_size (by repeat (first | (with_reducible first | exact HB.out | apply below_alloc | apply pw_below_drewN | apply below_drew1 | refine below_set ?_ GE357.out) | exact HB.out))) : w.heap.size ≤ gb358))
                                                          have n5_ := Aside0.mk ((by rw [hg]; exact (below_size (by repeat (first | (with_reducible first | exact HB.out | apply below_alloc | apply pw_below_drewN | apply below_drew1 | refine below_set ?_ GE357.out) | exact HB.out))) : w.heap.size ≤ gb358))
                                                          have n6_ := Aside0.mk ((by rw [hg]; exact Nat.ne_of_lt (blk_lt (g := gb357) (o := .cells #[.int .i64 0, .int .i64 0] 43 (0, 0)) (by (with_reducible repeat (first | refine blk_drewN ?_ _ | refine blk_drew ?_ | refine blk_alloc ?_ _)); exact BK357.out)) : gb357 ≠ gb358))
                                                          have n7_ := Aside0.mk ((by rw [hg]; exact Nat.ne_of_gt (blk_lt (g := gb357) (o := .cells #[.int .i64 0, .int .i64 0] 43 (0, 0)) (by (with_reducible repeat (first | refine blk_drewN ?_ _ | refine blk_drew ?_ | refine blk_alloc ?_ _)); exact BK357.out)) : gb358 ≠ gb357))
                                                          clear HO_22
                                                          clear BK357
                                                          clear HB
                                                          have HO_22 := n0_
                                                          have BK357 := n1_
                                                          have HB := n2_
                                                          have BK358 := n3_
                                                          have GW358 := n4_
                                                          have GE358 := n5_
                                                          have NB357_358 := n6_
                                                          have NB358_357 := n7_
                                                          clear n0_ n1_ n2_ n3_ n4_ n5_ n6_ n7_
                                                          clear hb hbox hg
                                                          refine hK.out _ _ ⟨HS0_, HS1_, HS2_, HS3_⟩ (fun hHeld => ?_)
                                                          clear hK K
                                                          refine norm_ (a' := ?_) ?_ ?_
                                                          rotate_left
                                                          · as_aux_lemma =>
                                                            show Act.put _ (some 29) _ = _
                                                            simp only [Act.put, List.setIfInBounds_toArray, List.set_cons_zero, List.set_cons_succ, i64_w, i32_w]
                                                            rfl
                                                          exact norm_ (by simp only [putAll, Act.put, List.setIfInBounds_toArray, List.set_cons_zero, List.set_cons_succ]) (hCont (gb357, gb358) _ ⟨hHeld, (by (with_reducible repeat (first | apply Kd.R_alloc | apply Kd.R_drewN | apply Kd.R_drew)); exact Kd.R_mono HO_22.out (fun _ hk => ⟨hk.1.2, hk.2⟩)), (by (with_reducible repeat (first | refine blk_drewN ?_ _ | refine blk_drew ?_ | refine blk_alloc ?_ _)); exact BK357.out), (by (with_reducible repeat (first | refine blk_drewN ?_ _ | refine blk_drew ?_ | refine blk_alloc ?_ _)); exact BK358.out), GW357.out, GE357.out, NB358_357.out, NB357_358.out, GW358.out, GE358.out, (by repeat (first | (with_reducible first | exact HB.out | apply below_alloc | apply pw_below_drewN | apply below_drew1 | refine below_set ?_ GE357.out | refine below_set ?_ GE358.out) | exact HB.out))⟩)
                                                        · as_aux_lemma =>
                                                          skip
                                                          refine box_step ?hg (N := 29) ?hd (cs := #[.int .i64 0, .int .i64 0]) (t := 43) ?hr ?_; (case hd => rfl); (case hg => rfl); (case hr => first | (go_simp; done) | (go_simp; rfl))
                                                          intro gb358 hg w79 hbox hb
                                                          have HS0_ := (hb.cell (World.block_lt_of_cell? _ _ (hHeld.1))).trans (hHeld.1)
                                                          have HS1_ := (hb.cell (World.block_lt_of_cell? _ _ (hHeld.2.1))).trans (hHeld.2.1)
                                                          have HS2_ := (hb.cell (World.block_lt_of_cell? _ _ (hHeld.2.2.1))).trans (hHeld.2.2.1)
                                                          have HS3_ := (hb.cell (World.block_lt_of_cell? _ _ (hHeld.2.2.2))).trans (hHeld.2.2.2)
                                                          have n0_ := Aside0.mk (Kd.R_below (Kd.R_elderB (by (with_reducible repeat (first | apply Kd.R_alloc | apply Kd.R_drewN | apply Kd.R_drew)); exact HO_22.out) gb358 (Nat.le_of_eq hg.symm)) hb)
                                                          have n1_ := Aside0.mk (below_step (by repeat (first | (with_reducible first | exact HB.out | apply below_alloc | apply pw_below_drewN | apply below_drew1) | exact HB.out)) hb)
                                                          have n2_ := Aside0.mk (hbox)
                                                          have n3_ := Aside0.mk ((by rw [hg]; exact (below_size (by repeat (first | (with_reducible first | exact HB.out | apply below_alloc | apply pw_below_drewN | apply below_drew1) | exact HB.out))) : w.heap.size ≤ gb358))
                                                          have n4_ := Aside0.mk ((by rw [hg]; exact (below_size (by repeat (first | (with_reducible first | exact HB.out | apply below_alloc | apply pw_below_drewN | apply below_drew1) | exact HB.out))) : w.heap.size ≤ gb358))
                                                          clear HO_22
                                                          clear HB
                                                          have HO_22 := n0_
                                                          have HB := n1_
                                                          have BK358 := n2_
                                                          have GW358 := n3_
                                                          have GE358 := n4_
                                                          clear n0_ n1_ n2_ n3_ n4_
                                                          clear hb hbox hg
                                                          refine hK.out _ _ ⟨HS0_, HS1_, HS2_, HS3_⟩ (fun hHeld => ?_)
                                                          clear hK K
                                                          refine norm_ (a' := ?_) ?_ ?_
                                                          rotate_left
                                                          · as_aux_lemma =>
                                                            show Act.put _ (some 29) _ = _
                                                            simp only [Act.put, List.setIfInBounds_toArray, List.set_cons_zero, List.set_cons_succ, i64_w, i32_w]
                                                            rfl
                                                          refine one_ (i := 8) (N := some 28) #[true, true, true, true, true, true, true, true, true, true, false, false] rfl rfl (one_of HT_.out (by kernel_rfl)) (by decide) (fun K hK => ?_)
                                                          refine box_step ?hg (N := 28) ?hd (cs := #[.int .i64 0, .int .i64 0]) (t := 43) ?hr ?_; (case hd => rfl); (case hg => rfl); (case hr => first | (go_simp; done) | (go_simp; rfl))
                                                          intro gb357 hg w80 hbox hb
                                                          have HS0_ := (hb.cell (World.block_lt_of_cell? _ _ (hHeld.1))).trans (hHeld.1)
                                                          have HS1_ := (hb.cell (World.block_lt_of_cell? _ _ (hHeld.2.1))).trans (hHeld.2.1)
                                                          have HS2_ := (hb.cell (World.block_lt_of_cell? _ _ (hHeld.2.2.1))).trans (hHeld.2.2.1)
                                                          have HS3_ := (hb.cell (World.block_lt_of_cell? _ _ (hHeld.2.2.2))).trans (hHeld.2.2.2)
                                                          have n0_ := Aside0.mk (Kd.R_below (Kd.R_elderB (by (with_reducible repeat (first | apply Kd.R_alloc | apply Kd.R_drewN | apply Kd.R_drew)); exact HO_22.out) gb357 (Nat.le_of_eq hg.symm)) hb)
                                                          have n1_ := Aside0.mk (blk_below (g := gb358) (o := .cells #[.int .i64 0, .int .i64 0] 43 (0, 0)) (by (with_reducible repeat (first | refine blk_drewN ?_ _ | refine blk_drew ?_ | refine blk_alloc ?_ _)); exact BK358.out) hb)
                                                          have n2_ := Aside0.mk (below_step (by repeat (first | (with_reducible first | exact HB.out | apply below_alloc | apply pw_below_drewN | apply below_drew1 | refine below_set ?_ GE358.out) | exact HB.out)) hb)
                                                          have n3_ := Aside0.mk (hbox)
                                                          have n4_ := Aside0.mk ((by rw [hg]; exact (below_size (by repeat (first | (with_reducible first | exact HB.out | apply below_alloc | apply pw_below_drewN | apply below_drew1 | refine below_set ?_ GE358.out) | exact HB.out))) : w.heap.size ≤ gb357))
                                                          have n5_ := Aside0.mk ((by rw [hg]; exact (below_size (by repeat (first | (with_reducible first | exact HB.out | apply below_alloc | apply pw_below_drewN | apply below_drew1 | refine below_set ?_ GE358.out) | exact HB.out))) : w.heap.size ≤ gb357))
                                                          have n6_ := Aside0.mk ((by rw [hg]; exact Nat.ne_of_lt (blk_lt (g := gb358) (o := .cells #[.int .i64 0, .int .i64 0] 43 (0, 0)) (by (with_reducible repeat (first | refine blk_drewN ?_ _ | refine blk_drew ?_ | refine blk_alloc ?_ _)); exact BK358.out)) : gb358 ≠ gb357))
                                                          have n7_ := Aside0.mk ((by rw [hg]; exact Nat.ne_of_gt (blk_lt (g := gb358) (o := .cells #[.int .i64 0, .int .i64 0] 43 (0, 0)) (by (with_reducible repeat (first | refine blk_drewN ?_ _ | refine blk_drew ?_ | refine blk_alloc ?_ _)); exact BK358.out)) : gb357 ≠ gb358))
                                                          clear HO_22
                                                          clear BK358
                                                          clear HB
                                                          have HO_22 := n0_
                                                          have BK358 := n1_
                                                          have HB := n2_
                                                          have BK357 := n3_
                                                          have GW357 := n4_
                                                          have GE357 := n5_
                                                          have NB358_357 := n6_
                                                          have NB357_358 := n7_
                                                          clear n0_ n1_ n2_ n3_ n4_ n5_ n6_ n7_
                                                          clear hb hbox hg
                                                          refine hK.out _ _ ⟨HS0_, HS1_, HS2_, HS3_⟩ (fun hHeld => ?_)
                                                          clear hK K
                                                          refine norm_ (a' := ?_) ?_ ?_
                                                          rotate_left
                                                          · as_aux_lemma =>
                                                            show Act.put _ (some 28) _ = _
                                                            simp only [Act.put, List.setIfInBounds_toArray, List.set_cons_zero, List.set_cons_succ, i64_w, i32_w]
                                                            rfl
                                                          exact norm_ (by simp only [putAll, Act.put, List.setIfInBounds_toArray, List.set_cons_zero, List.set_cons_succ]) (hCont (gb357, gb358) _ ⟨hHeld, (by (with_reducible repeat (first | apply Kd.R_alloc | apply Kd.R_drewN | apply Kd.R_drew)); exact Kd.R_mono HO_22.out (fun _ hk => ⟨hk.2, hk.1.2⟩)), (by (with_reducible repeat (first | refine blk_drewN ?_ _ | refine blk_drew ?_ | refine blk_alloc ?_ _)); exact BK357.out), (by (with_reducible repeat (first | refine blk_drewN ?_ _ | refine blk_drew ?_ | refine blk_alloc ?_ _)); exact BK358.out), GW357.out, GE357.out, NB358_357.out, NB357_358.out, GW358.out, GE358.out, (by repeat (first | (with_reducible first | exact HB.out | apply below_alloc | apply pw_below_drewN | apply below_drew1 | refine below_set ?_ GE358.out | refine below_set ?_ GE357.out) | exact HB.out))⟩)
                                                      rintro ⟨gb357, gb358⟩ w81 ⟨hS_, h0_, h1_, h2_, h3_, h4_, h5_, h6_, h7_, h8_, h9_⟩
                                                      have n0_ : Aside0 (Kd.R k43 43 w81 w.heap.size (fun k_ => k_ ≠ gb357 ∧ k_ ≠ gb358) (.slice (some ad355) t348.length co65) t348) := ⟨h0_⟩
                                                      have n1_ : Aside0 (w81.heap[gb357]? = some (.cells #[.int .i64 0, .int .i64 0] 43 (0, 0))) := ⟨h1_⟩
                                                      have n2_ : Aside0 (w81.heap[gb358]? = some (.cells #[.int .i64 0, .int .i64 0] 43 (0, 0))) := ⟨h2_⟩
                                                      have n3_ : Aside0 (w.heap.size ≤ gb357) := ⟨h3_⟩
                                                      have n4_ : Aside0 (w.heap.size ≤ gb357) := ⟨h4_⟩
                                                      have n5_ : Aside0 (gb358 ≠ gb357) := ⟨h5_⟩
                                                      have n6_ : Aside0 (gb357 ≠ gb358) := ⟨h6_⟩
                                                      have n7_ : Aside0 (w.heap.size ≤ gb358) := ⟨h7_⟩
                                                      have n8_ : Aside0 (w.heap.size ≤ gb358) := ⟨h8_⟩
                                                      have n9_ : Aside0 (Below w.heap.size w w81) := ⟨h9_⟩
                                                      clear HO_22
                                                      clear HB
                                                      clear h0_ h1_ h2_ h3_ h4_ h5_ h6_ h7_ h8_ h9_
                                                      have HO_22 := n0_
                                                      have BK357 := n1_
                                                      have BK358 := n2_
                                                      have GW357 := n3_
                                                      have GE357 := n4_
                                                      have NB358_357 := n5_
                                                      have NB357_358 := n6_
                                                      have GW358 := n7_
                                                      have GE358 := n8_
                                                      have HB := n9_
                                                      clear n0_ n1_ n2_ n3_ n4_ n5_ n6_ n7_ n8_ n9_
                                                      have hHeld : w81.cell? (ad355.add ((x27_7).toNat * 2)) = some (.int .i64 ((rd_T43 t348 x27_7).f0)) ∧ w81.cell? ⟨(ad355.add ((x27_7).toNat * 2)).block, (ad355.add ((x27_7).toNat * 2)).off + 1, none⟩ = some (.int .i64 ((rd_T43 t348 x27_7).f1)) ∧ w81.cell? (ad355.add ((t351).toNat * 2)) = some (.int .i64 ((rd_T43 t348 t351).f0)) ∧ w81.cell? ⟨(ad355.add ((t351).toNat * 2)).block, (ad355.add ((t351).toNat * 2)).off + 1, none⟩ = some (.int .i64 ((rd_T43 t348 t351).f1)) := hS_
                                                      refine norm_ (a' := ?_) ?_ ?_
                                                      rotate_left
                                                      · as_aux_lemma =>
                                                        simp only [putAll, Act.put, List.setIfInBounds_toArray, List.set_cons_zero, List.set_cons_succ]
                                                        rfl
                                                      refine one_ (i := 10) (N := none) #[true, true, true, true, true, true, true, true, true, true, true, false] rfl rfl (one_of HT_.out (by kernel_rfl)) (by decide) (fun K hK => ?_)
                                                      have hs82 : w81.cell? ⟨gb357, 0, none⟩ = some (.int .i64 0) := (blk_cell BK357.out 0).trans rfl
                                                      have hfs82 := blk_frozen BK357.out 0
                                                      have hns82_1 := NB358_357.out
                                                      have hms82_1 := NB357_358.out
                                                      have hs83 : w81.cell? ⟨gb357, 1, none⟩ = some (.int .i64 0) := (blk_cell BK357.out 1).trans rfl
                                                      have hfs83 := blk_frozen BK357.out 1
                                                      have hns83_1 := NB358_357.out
                                                      have hms83_1 := NB357_358.out
                                                      refine skip_ (w1 := ?_) (by rfl) rfl ?_ ?_
                                                      rotate_left
                                                      · as_aux_lemma =>
                                                        go_simp
                                                        rfl
                                                      refine hK.out _ _ ⟨((cell_far (p := ⟨gb357, _, none⟩) (by first | exact Kd.own_blk (Kd.R_away HO_22.out (fun _ hk => hk.1)) | (rw [add_block]; exact Kd.own_blk (Kd.R_away HO_22.out (fun _ hk => hk.1))) | (show (Addr.add _ _).block ≠ _; rw [add_block]; exact Kd.own_blk (Kd.R_away HO_22.out (fun _ hk => hk.1))) | (dsimp only; exact Kd.own_blk (Kd.R_away HO_22.out (fun _ hk => hk.1)))) _).trans (((cell_far (p := ⟨gb357, _, none⟩) (by first | exact Kd.own_blk (Kd.R_away HO_22.out (fun _ hk => hk.1)) | (rw [add_block]; exact Kd.own_blk (Kd.R_away HO_22.out (fun _ hk => hk.1))) | (show (Addr.add _ _).block ≠ _; rw [add_block]; exact Kd.own_blk (Kd.R_away HO_22.out (fun _ hk => hk.1))) | (dsimp only; exact Kd.own_blk (Kd.R_away HO_22.out (fun _ hk => hk.1)))) _).trans (hHeld.1)))), ((cell_far (p := ⟨gb357, _, none⟩) (by first | exact Kd.own_blk (Kd.R_away HO_22.out (fun _ hk => hk.1)) | (rw [add_block]; exact Kd.own_blk (Kd.R_away HO_22.out (fun _ hk => hk.1))) | (show (Addr.add _ _).block ≠ _; rw [add_block]; exact Kd.own_blk (Kd.R_away HO_22.out (fun _ hk => hk.1))) | (dsimp only; exact Kd.own_blk (Kd.R_away HO_22.out (fun _ hk => hk.1)))) _).trans (((cell_far (p := ⟨gb357, _, none⟩) (by first | exact Kd.own_blk (Kd.R_away HO_22.out (fun _ hk => hk.1)) | (rw [add_block]; exact Kd.own_blk (Kd.R_away HO_22.out (fun _ hk => hk.1))) | (show (Addr.add _ _).block ≠ _; rw [add_block]; exact Kd.own_blk (Kd.R_away HO_22.out (fun _ hk => hk.1))) | (dsimp only; exact Kd.own_blk (Kd.R_away HO_22.out (fun _ hk => hk.1)))) _).trans (hHeld.2.1)))), ((cell_far (p := ⟨gb357, _, none⟩) (by first | exact Kd.own_blk (Kd.R_away HO_22.out (fun _ hk => hk.1)) | (rw [add_block]; exact Kd.own_blk (Kd.R_away HO_22.out (fun _ hk => hk.1))) | (show (Addr.add _ _).block ≠ _; rw [add_block]; exact Kd.own_blk (Kd.R_away HO_22.out (fun _ hk => hk.1))) | (dsimp only; exact Kd.own_blk (Kd.R_away HO_22.out (fun _ hk => hk.1)))) _).trans (((cell_far (p := ⟨gb357, _, none⟩) (by first | exact Kd.own_blk (Kd.R_away HO_22.out (fun _ hk => hk.1)) | (rw [add_block]; exact Kd.own_blk (Kd.R_away HO_22.out (fun _ hk => hk.1))) | (show (Addr.add _ _).block ≠ _; rw [add_block]; exact Kd.own_blk (Kd.R_away HO_22.out (fun _ hk => hk.1))) | (dsimp only; exact Kd.own_blk (Kd.R_away HO_22.out (fun _ hk => hk.1)))) _).trans (hHeld.2.2.1)))), ((cell_far (p := ⟨gb357, _, none⟩) (by first | exact Kd.own_blk (Kd.R_away HO_22.out (fun _ hk => hk.1)) | (rw [add_block]; exact Kd.own_blk (Kd.R_away HO_22.out (fun _ hk => hk.1))) | (show (Addr.add _ _).block ≠ _; rw [add_block]; exact Kd.own_blk (Kd.R_away HO_22.out (fun _ hk => hk.1))) | (dsimp only; exact Kd.own_blk (Kd.R_away HO_22.out (fun _ hk => hk.1)))) _).trans (((cell_far (p := ⟨gb357, _, none⟩) (by first | exact Kd.own_blk (Kd.R_away HO_22.out (fun _ hk => hk.1)) | (rw [add_block]; exact Kd.own_blk (Kd.R_away HO_22.out (fun _ hk => hk.1))) | (show (Addr.add _ _).block ≠ _; rw [add_block]; exact Kd.own_blk (Kd.R_away HO_22.out (fun _ hk => hk.1))) | (dsimp only; exact Kd.own_blk (Kd.R_away HO_22.out (fun _ hk => hk.1)))) _).trans (hHeld.2.2.2))))⟩ (fun hHeld => ?_)
                                                      clear hK K
                                                      refine one_ (i := 11) (N := none) #[true, true, true, true, true, true, true, true, true, true, true, true] rfl rfl (one_of HT_.out (by kernel_rfl)) (by decide) (fun K hK => ?_)
                                                      have hs84 : w81.cell? ⟨gb358, 0, none⟩ = some (.int .i64 0) := (blk_cell BK358.out 0).trans rfl
                                                      have hfs84 := blk_frozen BK358.out 0
                                                      have hns84_0 := NB357_358.out
                                                      have hms84_0 := NB358_357.out
                                                      have hs85 : w81.cell? ⟨gb358, 1, none⟩ = some (.int .i64 0) := (blk_cell BK358.out 1).trans rfl
                                                      have hfs85 := blk_frozen BK358.out 1
                                                      have hns85_0 := NB357_358.out
                                                      have hms85_0 := NB358_357.out
                                                      refine skip_ (w1 := ?_) (by rfl) rfl ?_ ?_
                                                      rotate_left
                                                      · as_aux_lemma =>
                                                        go_simp
                                                        rfl
                                                      refine hK.out _ _ ⟨((cell_far (p := ⟨gb358, _, none⟩) (by first | exact Kd.own_blk (Kd.R_away HO_22.out (fun _ hk => hk.2)) | (rw [add_block]; exact Kd.own_blk (Kd.R_away HO_22.out (fun _ hk => hk.2))) | (show (Addr.add _ _).block ≠ _; rw [add_block]; exact Kd.own_blk (Kd.R_away HO_22.out (fun _ hk => hk.2))) | (dsimp only; exact Kd.own_blk (Kd.R_away HO_22.out (fun _ hk => hk.2)))) _).trans (((cell_far (p := ⟨gb358, _, none⟩) (by first | exact Kd.own_blk (Kd.R_away HO_22.out (fun _ hk => hk.2)) | (rw [add_block]; exact Kd.own_blk (Kd.R_away HO_22.out (fun _ hk => hk.2))) | (show (Addr.add _ _).block ≠ _; rw [add_block]; exact Kd.own_blk (Kd.R_away HO_22.out (fun _ hk => hk.2))) | (dsimp only; exact Kd.own_blk (Kd.R_away HO_22.out (fun _ hk => hk.2)))) _).trans (hHeld.1)))), ((cell_far (p := ⟨gb358, _, none⟩) (by first | exact Kd.own_blk (Kd.R_away HO_22.out (fun _ hk => hk.2)) | (rw [add_block]; exact Kd.own_blk (Kd.R_away HO_22.out (fun _ hk => hk.2))) | (show (Addr.add _ _).block ≠ _; rw [add_block]; exact Kd.own_blk (Kd.R_away HO_22.out (fun _ hk => hk.2))) | (dsimp only; exact Kd.own_blk (Kd.R_away HO_22.out (fun _ hk => hk.2)))) _).trans (((cell_far (p := ⟨gb358, _, none⟩) (by first | exact Kd.own_blk (Kd.R_away HO_22.out (fun _ hk => hk.2)) | (rw [add_block]; exact Kd.own_blk (Kd.R_away HO_22.out (fun _ hk => hk.2))) | (show (Addr.add _ _).block ≠ _; rw [add_block]; exact Kd.own_blk (Kd.R_away HO_22.out (fun _ hk => hk.2))) | (dsimp only; exact Kd.own_blk (Kd.R_away HO_22.out (fun _ hk => hk.2)))) _).trans (hHeld.2.1)))), ((cell_far (p := ⟨gb358, _, none⟩) (by first | exact Kd.own_blk (Kd.R_away HO_22.out (fun _ hk => hk.2)) | (rw [add_block]; exact Kd.own_blk (Kd.R_away HO_22.out (fun _ hk => hk.2))) | (show (Addr.add _ _).block ≠ _; rw [add_block]; exact Kd.own_blk (Kd.R_away HO_22.out (fun _ hk => hk.2))) | (dsimp only; exact Kd.own_blk (Kd.R_away HO_22.out (fun _ hk => hk.2)))) _).trans (((cell_far (p := ⟨gb358, _, none⟩) (by first | exact Kd.own_blk (Kd.R_away HO_22.out (fun _ hk => hk.2)) | (rw [add_block]; exact Kd.own_blk (Kd.R_away HO_22.out (fun _ hk => hk.2))) | (show (Addr.add _ _).block ≠ _; rw [add_block]; exact Kd.own_blk (Kd.R_away HO_22.out (fun _ hk => hk.2))) | (dsimp only; exact Kd.own_blk (Kd.R_away HO_22.out (fun _ hk => hk.2)))) _).trans (hHeld.2.2.1)))), ((cell_far (p := ⟨gb358, _, none⟩) (by first | exact Kd.own_blk (Kd.R_away HO_22.out (fun _ hk => hk.2)) | (rw [add_block]; exact Kd.own_blk (Kd.R_away HO_22.out (fun _ hk => hk.2))) | (show (Addr.add _ _).block ≠ _; rw [add_block]; exact Kd.own_blk (Kd.R_away HO_22.out (fun _ hk => hk.2))) | (dsimp only; exact Kd.own_blk (Kd.R_away HO_22.out (fun _ hk => hk.2)))) _).trans (((cell_far (p := ⟨gb358, _, none⟩) (by first | exact Kd.own_blk (Kd.R_away HO_22.out (fun _ hk => hk.2)) | (rw [add_block]; exact Kd.own_blk (Kd.R_away HO_22.out (fun _ hk => hk.2))) | (show (Addr.add _ _).block ≠ _; rw [add_block]; exact Kd.own_blk (Kd.R_away HO_22.out (fun _ hk => hk.2))) | (dsimp only; exact Kd.own_blk (Kd.R_away HO_22.out (fun _ hk => hk.2)))) _).trans (hHeld.2.2.2))))⟩ (fun hHeld => ?_)
                                                      clear hK K
                                                      refine done_ (done_of HT_.out (by kernel_rfl)) ?_
                                                      have hnb86 := NB357_358.out
                                                      have hnc86 := NB358_357.out
                                                      have hcz87_0 : w81.cell? ⟨gb357, 0, none⟩ = some (.int .i64 0) := (blk_cell BK357.out 0).trans rfl
                                                      have hcz87_1 : w81.cell? ⟨gb357, 1, none⟩ = some (.int .i64 0) := (blk_cell BK357.out 1).trans rfl
                                                      have hfz87_0 := blk_frozen BK357.out 0
                                                      have hfz87_1 := blk_frozen BK357.out 1
                                                      go_upto_if 172 with (fail)
                                                      go_cut [] (fun wc => ∃ (kq : Nat) (x358001_76 : Int), Aside0 (laws_FnFolds.j8 kq t348 t351 t352 x27_7 ((rd_T43 t348 x27_7).f0) x358001_76 ((rd_T43 t348 t351).f0) ((rd_T43 t348 t351).f1) = some r) ∧ Aside0 (kq ≤ kj69) ∧ Aside0 (Kd.R k43 43 wc w.heap.size (fun k_ => k_ ≠ gb357 ∧ k_ ≠ gb358) (.slice (some ad355) t348.length co65) t348) ∧ Aside0 (wc.heap[gb357]? = some (.cells #[.int .i64 ((rd_T43 t348 x27_7).f0), .int .i64 x358001_76] 43 (0, 0))) ∧ Aside0 (wc.heap[gb358]? = some (.cells #[.int .i64 ((rd_T43 t348 t351).f0), .int .i64 ((rd_T43 t348 t351).f1)] 43 (0, 0))) ∧ Aside0 (Below w.heap.size w wc))
                                                      case first =>
                                                        have H := HC77.out
                                                        clear HC77
                                                        by_cases c88 : ((rd_T43 t348 x27_7).f1) < 0
                                                        · as_aux_lemma =>
                                                          rw [if_pos c88] at H
                                                          have c88b0 : decide (((rd_T43 t348 x27_7).f1) < 0) = true := decide_eq_true c88
                                                          clear c88
                                                          (first | rw [c88b0] | (simp only [i64_w, i32_w]; rw [c88b0]) | skip)
                                                          have H' := Aside0.mk H
                                                          clear H
                                                          have hnb89 := NB357_358.out
                                                          have hnc89 := NB358_357.out
                                                          have hcz90_0 : w81.cell? ⟨gb357, 0, none⟩ = some (.int .i64 0) := (blk_cell BK357.out 0).trans rfl
                                                          have hcz90_1 : w81.cell? ⟨gb357, 1, none⟩ = some (.int .i64 0) := (blk_cell BK357.out 1).trans rfl
                                                          have hfz90_0 := blk_frozen BK357.out 0
                                                          have hfz90_1 := blk_frozen BK357.out 1
                                                          go_wp2
                                                          go_meet
                                                          case rel => exact ⟨_, (wrap64 (-((rd_T43 t348 x27_7).f1))), H', ⟨by have := HJ6.out; have := HJ14.out; have := HJ42.out; have := HK4.out; have := HJ53.out; have := HJ62.out; have := HK7.out; have := HJ69.out; first | omega | exact Nat.le_refl _⟩, ⟨by (with_reducible repeat (first | apply Kd.R_alloc | apply Kd.R_drewN | apply Kd.R_drew)); exact Kd.R_mono (Kd.R_far (p := ⟨gb357, 1, none⟩) (Kd.R_far (p := ⟨gb358, 1, none⟩) (Kd.R_far (p := ⟨gb358, 0, none⟩) (Kd.R_far (p := ⟨gb357, 1, none⟩) (Kd.R_far (p := ⟨gb357, 0, none⟩) (Kd.R_mono (Kd.R_mono HO_22.out (fun k_ hk => (⟨hk, hk.1⟩ : _ ∧ k_ ≠ gb357))) (fun k_ hk => (⟨hk, hk.1.2⟩ : _ ∧ k_ ≠ gb358))) (fun _ hk => hk.1.2) (.int .i64 ((rd_T43 t348 x27_7).f0))) (fun _ hk => hk.1.2) (.int .i64 ((rd_T43 t348 x27_7).f1))) (fun _ hk => hk.2) (.int .i64 ((rd_T43 t348 t351).f0))) (fun _ hk => hk.2) (.int .i64 ((rd_T43 t348 t351).f1))) (fun _ hk => hk.1.2) (.int .i64 (wrap64 (-((rd_T43 t348 x27_7).f1))))) (fun _ hk => ⟨hk.1.1.1, hk.1.1.2⟩)⟩, ⟨by (with_reducible repeat (first | refine blk_drewN ?_ _ | refine blk_drew ?_ | refine blk_alloc ?_ _)); refine blk_put (cs := #[.int .i64 ((rd_T43 t348 x27_7).f0), .int .i64 ((rd_T43 t348 x27_7).f1)]) ?_ 1 _ rfl; (with_reducible repeat (first | refine blk_drewN ?_ _ | refine blk_drew ?_ | refine blk_alloc ?_ _)); refine blk_far ?_ NB357_358.out _; (with_reducible repeat (first | refine blk_drewN ?_ _ | refine blk_drew ?_ | refine blk_alloc ?_ _)); refine blk_far ?_ NB357_358.out _; (with_reducible repeat (first | refine blk_drewN ?_ _ | refine blk_drew ?_ | refine blk_alloc ?_ _)); refine blk_put (cs := #[.int .i64 ((rd_T43 t348 x27_7).f0), .int .i64 0]) ?_ 1 _ rfl; (with_reducible repeat (first | refine blk_drewN ?_ _ | refine blk_drew ?_ | refine blk_alloc ?_ _)); refine blk_put (cs := #[.int .i64 0, .int .i64 0]) ?_ 0 _ rfl; (with_reducible repeat (first | refine blk_drewN ?_ _ | refine blk_drew ?_ | refine blk_alloc ?_ _)); exact BK357.out⟩, ⟨by (with_reducible repeat (first | refine blk_drewN ?_ _ | refine blk_drew ?_ | refine blk_alloc ?_ _)); refine blk_far ?_ NB358_357.out _; (with_reducible repeat (first | refine blk_drewN ?_ _ | refine blk_drew ?_ | refine blk_alloc ?_ _)); refine blk_put (cs := #[.int .i64 ((rd_T43 t348 t351).f0), .int .i64 0]) ?_ 1 _ rfl; (with_reducible repeat (first | refine blk_drewN ?_ _ | refine blk_drew ?_ | refine blk_alloc ?_ _)); refine blk_put (cs := #[.int .i64 0, .int .i64 0]) ?_ 0 _ rfl; (with_reducible repeat (first | refine blk_drewN ?_ _ | refine blk_drew ?_ | refine blk_alloc ?_ _)); refine blk_far ?_ NB358_357.out _; (with_reducible repeat (first | refine blk_drewN ?_ _ | refine blk_drew ?_ | refine blk_alloc ?_ _)); refine blk_far ?_ NB358_357.out _; (with_reducible repeat (first | refine blk_drewN ?_ _ | refine blk_drew ?_ | refine blk_alloc ?_ _)); exact BK358.out⟩, ⟨by repeat (first | (with_reducible first | exact HB.out | apply below_alloc | apply pw_below_drewN | apply below_drew1 | refine below_set ?_ GE357.out | refine below_set ?_ GE358.out) | exact HB.out)⟩⟩
                                                        · as_aux_lemma =>
                                                          rw [if_neg c88] at H
                                                          have c88b0 : decide (((rd_T43 t348 x27_7).f1) < 0) = false := decide_eq_false c88
                                                          clear c88
                                                          (first | rw [c88b0] | (simp only [i64_w, i32_w]; rw [c88b0]) | skip)
                                                          have H' := Aside0.mk H
                                                          clear H
                                                          go_wp2
                                                          go_meet
                                                          case rel => exact ⟨_, ((rd_T43 t348 x27_7).f1), H', ⟨by have := HJ6.out; have := HJ14.out; have := HJ42.out; have := HK4.out; have := HJ53.out; have := HJ62.out; have := HK7.out; have := HJ69.out; first | omega | exact Nat.le_refl _⟩, ⟨by (with_reducible repeat (first | apply Kd.R_alloc | apply Kd.R_drewN | apply Kd.R_drew)); exact Kd.R_mono (Kd.R_far (p := ⟨gb358, 1, none⟩) (Kd.R_far (p := ⟨gb358, 0, none⟩) (Kd.R_far (p := ⟨gb357, 1, none⟩) (Kd.R_far (p := ⟨gb357, 0, none⟩) (Kd.R_mono (Kd.R_mono HO_22.out (fun k_ hk => (⟨hk, hk.1⟩ : _ ∧ k_ ≠ gb357))) (fun k_ hk => (⟨hk, hk.1.2⟩ : _ ∧ k_ ≠ gb358))) (fun _ hk => hk.1.2) (.int .i64 ((rd_T43 t348 x27_7).f0))) (fun _ hk => hk.1.2) (.int .i64 ((rd_T43 t348 x27_7).f1))) (fun _ hk => hk.2) (.int .i64 ((rd_T43 t348 t351).f0))) (fun _ hk => hk.2) (.int .i64 ((rd_T43 t348 t351).f1))) (fun _ hk => ⟨hk.1.1.1, hk.1.1.2⟩)⟩, ⟨by (with_reducible repeat (first | refine blk_drewN ?_ _ | refine blk_drew ?_ | refine blk_alloc ?_ _)); refine blk_far ?_ NB357_358.out _; (with_reducible repeat (first | refine blk_drewN ?_ _ | refine blk_drew ?_ | refine blk_alloc ?_ _)); refine blk_far ?_ NB357_358.out _; (with_reducible repeat (first | refine blk_drewN ?_ _ | refine blk_drew ?_ | refine blk_alloc ?_ _)); refine blk_put (cs := #[.int .i64 ((rd_T43 t348 x27_7).f0), .int .i64 0]) ?_ 1 _ rfl; (with_reducible repeat (first | refine blk_drewN ?_ _ | refine blk_drew ?_ | refine blk_alloc ?_ _)); refine blk_put (cs := #[.int .i64 0, .int .i64 0]) ?_ 0 _ rfl; (with_reducible repeat (first | refine blk_drewN ?_ _ | refine blk_drew ?_ | refine blk_alloc ?_ _)); exact BK357.out⟩, ⟨by (with_reducible repeat (first | refine blk_drewN ?_ _ | refine blk_drew ?_ | refine blk_alloc ?_ _)); refine blk_put (cs := #[.int .i64 ((rd_T43 t348 t351).f0), .int .i64 0]) ?_ 1 _ rfl; (with_reducible repeat (first | refine blk_drewN ?_ _ | refine blk_drew ?_ | refine blk_alloc ?_ _)); refine blk_put (cs := #[.int .i64 0, .int .i64 0]) ?_ 0 _ rfl; (with_reducible repeat (first | refine blk_drewN ?_ _ | refine blk_drew ?_ | refine blk_alloc ?_ _)); refine blk_far ?_ NB358_357.out _; (with_reducible repeat (first | refine blk_drewN ?_ _ | refine blk_drew ?_ | refine blk_alloc ?_ _)); refine blk_far ?_ NB358_357.out _; (with_reducible repeat (first | refine blk_drewN ?_ _ | refine blk_drew ?_ | refine blk_alloc ?_ _)); exact BK358.out⟩, ⟨by repeat (first | (with_reducible first | exact HB.out | apply below_alloc | apply pw_below_drewN | apply below_drew1 | refine below_set ?_ GE357.out | refine below_set ?_ GE358.out) | exact HB.out)⟩⟩
                                                      case rest =>
                                                        clear HC77
                                                        try clear c1
                                                        try clear c2
                                                        try clear p2
                                                        try clear c3
                                                        try clear p3
                                                        try clear q3
                                                        try clear hx3
                                                        try clear c4
                                                        try clear c5
                                                        try clear c6
                                                        try clear p6
                                                        try clear c7
                                                        try clear c8
                                                        try clear c12
                                                        try clear c13
                                                        try clear c13b0
                                                        try clear c13b1
                                                        try clear c14
                                                        try clear c15
                                                        try clear c16
                                                        try clear c17
                                                        try clear c18
                                                        try clear c18b0
                                                        try clear c18b1
                                                        try clear c20
                                                        try clear c21
                                                        try clear c22
                                                        try clear c22b0
                                                        try clear c22b1
                                                        try clear c23
                                                        try clear c23b0
                                                        try clear p34
                                                        try clear q34
                                                        try clear hx34
                                                        try clear p35
                                                        try clear q35
                                                        try clear hx35
                                                        try clear c48
                                                        try clear c48b0
                                                        try clear c48b1
                                                        try clear c48b2
                                                        try clear c49
                                                        try clear c49b0
                                                        try clear c49b1
                                                        try clear c53
                                                        try clear c55
                                                        try clear c55b0
                                                        try clear c56
                                                        try clear c57
                                                        try clear c57b0
                                                        try clear c58
                                                        try clear c58b0
                                                        try clear c59
                                                        try clear c59b0
                                                        try clear p64
                                                        try clear c68
                                                        try clear c68b0
                                                        try clear c68b1
                                                        try clear c69
                                                        try clear c71
                                                        try clear c71b0
                                                        try clear c72
                                                        try clear c73
                                                        try clear c73b0
                                                        try clear c74
                                                        try clear c74b0
                                                        try clear c75
                                                        try clear c75b0
                                                        try clear c76
                                                        try clear c76b0
                                                        try clear c86
                                                        try clear c88
                                                        try clear c88b0
                                                        try clear c89
                                                        try clear hcz87_0
                                                        try clear hcz87_1
                                                        try clear hcz90_0
                                                        try clear hcz90_1
                                                        try clear hfz87_0
                                                        try clear hfz87_1
                                                        try clear hfz90_0
                                                        try clear hfz90_1
                                                        try clear hx347_0
                                                        try clear hx347_1
                                                        try clear hx355_0
                                                        try clear hx355_1
                                                        try clear hx356_0
                                                        try clear hx356_1
                                                        try clear p2
                                                        try clear p3
                                                        try clear p34
                                                        try clear p347
                                                        try clear p355
                                                        try clear p356
                                                        try clear p6
                                                        try clear p64
                                                        try clear q3
                                                        try clear q34
                                                        try clear q347
                                                        try clear q355
                                                        try clear q356
                                                        obtain ⟨kq, x358001_76, HA, HJ76, HO_22, BK357, BK358, HB⟩ := hcut
                                                        cases kq with
                                                        | zero => exact absurd HA.out (by simp [laws_FnFolds.j8])
                                                        | succ kj76 =>
                                                          have H := HA.out
                                                          clear HA
                                                          simp only [laws_FnFolds.j8] at H
                                                          by_cases c91 : ((rd_T43 t348 t351).f1) < 0
                                                          · as_aux_lemma =>
                                                            rw [if_pos c91] at H
                                                            have c91b0 : decide (((rd_T43 t348 t351).f1) < 0) = true := decide_eq_true c91
                                                            clear c91
                                                            by_cases c92 : (wrap64 (x358001_76 * ((rd_T43 t348 t351).f0))) > (wrap64 ((wrap64 (-((rd_T43 t348 t351).f1))) * ((rd_T43 t348 x27_7).f0)))
                                                            · as_aux_lemma =>
                                                              rw [if_pos c92] at H
                                                              have c92b0 : decide ((wrap64 ((wrap64 (-((rd_T43 t348 t351).f1))) * ((rd_T43 t348 x27_7).f0))) < (wrap64 (x358001_76 * ((rd_T43 t348 t351).f0)))) = true := decide_eq_true c92
                                                              clear c92
                                                              obtain rfl := Option.some.inj H
                                                              have hnb93 := NB358_357.out
                                                              have hnc93 := NB357_358.out
                                                              have hcz94_0 : wc.cell? ⟨gb358, 0, none⟩ = some (.int .i64 ((rd_T43 t348 t351).f0)) := (blk_cell BK358.out 0).trans rfl
                                                              have hcz94_1 : wc.cell? ⟨gb358, 1, none⟩ = some (.int .i64 ((rd_T43 t348 t351).f1)) := (blk_cell BK358.out 1).trans rfl
                                                              have hfz94_0 := blk_frozen BK358.out 0
                                                              have hfz94_1 := blk_frozen BK358.out 1
                                                              have hcz95_0 : wc.cell? ⟨gb357, 0, none⟩ = some (.int .i64 ((rd_T43 t348 x27_7).f0)) := (blk_cell BK357.out 0).trans rfl
                                                              have hcz95_1 : wc.cell? ⟨gb357, 1, none⟩ = some (.int .i64 x358001_76) := (blk_cell BK357.out 1).trans rfl
                                                              have hfz95_0 := blk_frozen BK357.out 0
                                                              have hfz95_1 := blk_frozen BK357.out 1
                                                              go_wp2
                                                              go_ret
                                                              exact ⟨by first | rfl | (simp [errW_none, errW_some] <;> rfl) | (simp [*, errW_none, errW_some] <;> rfl), by repeat (first | (with_reducible first | exact HB.out | apply below_alloc | apply pw_below_drewN | apply below_drew1 | refine below_set ?_ GE357.out | refine below_set ?_ GE358.out) | exact HB.out)⟩
                                                            · as_aux_lemma =>
                                                              rw [if_neg c92] at H
                                                              have c92b0 : decide ((wrap64 ((wrap64 (-((rd_T43 t348 t351).f1))) * ((rd_T43 t348 x27_7).f0))) < (wrap64 (x358001_76 * ((rd_T43 t348 t351).f0)))) = false := decide_eq_false c92
                                                              clear c92
                                                              by_cases c96 : x27_7 < t351
                                                              · as_aux_lemma =>
                                                                rw [if_pos c96] at H
                                                                have c96b0 : decide (x27_7 < t351) = true := decide_eq_true c96
                                                                clear c96
                                                                by_cases c97 : (wrap64 (x358001_76 * ((rd_T43 t348 t351).f0))) = (wrap64 ((wrap64 (-((rd_T43 t348 t351).f1))) * ((rd_T43 t348 x27_7).f0)))
                                                                · as_aux_lemma =>
                                                                  rw [if_pos c97] at H
                                                                  have c97b0 : ((wrap64 (x358001_76 * ((rd_T43 t348 t351).f0))) == (wrap64 ((wrap64 (-((rd_T43 t348 t351).f1))) * ((rd_T43 t348 x27_7).f0)))) = true := beq_iff_eq.mpr c97
                                                                  have c97b1 : ((wrap64 (x358001_76 * ((rd_T43 t348 t351).f0))) != (wrap64 ((wrap64 (-((rd_T43 t348 t351).f1))) * ((rd_T43 t348 x27_7).f0)))) = false := bne_eq_false_iff_eq.mpr c97
                                                                  clear c97
                                                                  obtain rfl := Option.some.inj H
                                                                  have hnb98 := NB358_357.out
                                                                  have hnc98 := NB357_358.out
                                                                  have hcz99_0 : wc.cell? ⟨gb358, 0, none⟩ = some (.int .i64 ((rd_T43 t348 t351).f0)) := (blk_cell BK358.out 0).trans rfl
                                                                  have hcz99_1 : wc.cell? ⟨gb358, 1, none⟩ = some (.int .i64 ((rd_T43 t348 t351).f1)) := (blk_cell BK358.out 1).trans rfl
                                                                  have hfz99_0 := blk_frozen BK358.out 0
                                                                  have hfz99_1 := blk_frozen BK358.out 1
                                                                  have hcz100_0 : wc.cell? ⟨gb357, 0, none⟩ = some (.int .i64 ((rd_T43 t348 x27_7).f0)) := (blk_cell BK357.out 0).trans rfl
                                                                  have hcz100_1 : wc.cell? ⟨gb357, 1, none⟩ = some (.int .i64 x358001_76) := (blk_cell BK357.out 1).trans rfl
                                                                  have hfz100_0 := blk_frozen BK357.out 0
                                                                  have hfz100_1 := blk_frozen BK357.out 1
                                                                  go_wp2
                                                                  go_ret
                                                                  exact ⟨by first | rfl | (simp [errW_none, errW_some] <;> rfl) | (simp [*, errW_none, errW_some] <;> rfl), by repeat (first | (with_reducible first | exact HB.out | apply below_alloc | apply pw_below_drewN | apply below_drew1 | refine below_set ?_ GE357.out | refine below_set ?_ GE358.out) | exact HB.out)⟩
                                                                · as_aux_lemma =>
                                                                  rw [if_neg c97] at H
                                                                  have c97b0 : ((wrap64 (x358001_76 * ((rd_T43 t348 t351).f0))) == (wrap64 ((wrap64 (-((rd_T43 t348 t351).f1))) * ((rd_T43 t348 x27_7).f0)))) = false := beq_eq_false_iff_ne.mpr c97
                                                                  have c97b1 : ((wrap64 (x358001_76 * ((rd_T43 t348 t351).f0))) != (wrap64 ((wrap64 (-((rd_T43 t348 t351).f1))) * ((rd_T43 t348 x27_7).f0)))) = true := bne_iff_ne.mpr c97
                                                                  have H' := Aside0.mk H
                                                                  clear H
                                                                  have hnb101 := NB358_357.out
                                                                  have hnc101 := NB357_358.out
                                                                  have hcz102_0 : wc.cell? ⟨gb358, 0, none⟩ = some (.int .i64 ((rd_T43 t348 t351).f0)) := (blk_cell BK358.out 0).trans rfl
                                                                  have hcz102_1 : wc.cell? ⟨gb358, 1, none⟩ = some (.int .i64 ((rd_T43 t348 t351).f1)) := (blk_cell BK358.out 1).trans rfl
                                                                  have hfz102_0 := blk_frozen BK358.out 0
                                                                  have hfz102_1 := blk_frozen BK358.out 1
                                                                  have hcz103_0 : wc.cell? ⟨gb357, 0, none⟩ = some (.int .i64 ((rd_T43 t348 x27_7).f0)) := (blk_cell BK357.out 0).trans rfl
                                                                  have hcz103_1 : wc.cell? ⟨gb357, 1, none⟩ = some (.int .i64 x358001_76) := (blk_cell BK357.out 1).trans rfl
                                                                  have hfz103_0 := blk_frozen BK357.out 0
                                                                  have hfz103_1 := blk_frozen BK357.out 1
                                                                  go_wp2
                                                                  go_roundg kj76
                                                                  case measure => have := HJ6.out; have := HJ14.out; have := HJ42.out; have := HK4.out; have := HJ53.out; have := HJ62.out; have := HK7.out; have := HJ69.out; have := HJ76.out; omega
                                                                  case rel => exact ⟨(wrap64 (x27_7 + 1)), (by first | rfl | (simp; done) | (simp [*]; done)), H', ⟨by have := HJ6.out; have := HJ14.out; have := HJ42.out; have := HK4.out; have := HJ53.out; have := HJ62.out; have := HK7.out; have := HJ69.out; have := HJ76.out; omega⟩, ⟨by (with_reducible repeat (first | apply Kd.R_alloc | apply Kd.R_drewN | apply Kd.R_drew)); exact Kd.R_mono (Kd.R_far (p := ⟨gb358, 1, none⟩) (Kd.R_mono HO_22.out (fun k_ hk => (⟨hk, hk.2⟩ : _ ∧ k_ ≠ gb358))) (fun _ hk => hk.2) (.int .i64 (wrap64 (-((rd_T43 t348 t351).f1))))) (fun _ hk => trivial)⟩, ⟨by repeat (first | (with_reducible first | exact HB.out | apply below_alloc | apply pw_below_drewN | apply below_drew1 | refine below_set ?_ GE357.out | refine below_set ?_ GE358.out) | exact HB.out)⟩⟩
                                                              · as_aux_lemma =>
                                                                rw [if_neg c96] at H
                                                                have c96b0 : decide (x27_7 < t351) = false := decide_eq_false c96
                                                                clear c96
                                                                have H' := Aside0.mk H
                                                                clear H
                                                                have hnb104 := NB358_357.out
                                                                have hnc104 := NB357_358.out
                                                                have hcz105_0 : wc.cell? ⟨gb358, 0, none⟩ = some (.int .i64 ((rd_T43 t348 t351).f0)) := (blk_cell BK358.out 0).trans rfl
                                                                have hcz105_1 : wc.cell? ⟨gb358, 1, none⟩ = some (.int .i64 ((rd_T43 t348 t351).f1)) := (blk_cell BK358.out 1).trans rfl
                                                                have hfz105_0 := blk_frozen BK358.out 0
                                                                have hfz105_1 := blk_frozen BK358.out 1
                                                                have hcz106_0 : wc.cell? ⟨gb357, 0, none⟩ = some (.int .i64 ((rd_T43 t348 x27_7).f0)) := (blk_cell BK357.out 0).trans rfl
                                                                have hcz106_1 : wc.cell? ⟨gb357, 1, none⟩ = some (.int .i64 x358001_76) := (blk_cell BK357.out 1).trans rfl
                                                                have hfz106_0 := blk_frozen BK357.out 0
                                                                have hfz106_1 := blk_frozen BK357.out 1
                                                                go_wp2
                                                                go_roundg kj76
                                                                case measure => have := HJ6.out; have := HJ14.out; have := HJ42.out; have := HK4.out; have := HJ53.out; have := HJ62.out; have := HK7.out; have := HJ69.out; have := HJ76.out; omega
                                                                case rel => exact ⟨(wrap64 (x27_7 + 1)), (by first | rfl | (simp; done) | (simp [*]; done)), H', ⟨by have := HJ6.out; have := HJ14.out; have := HJ42.out; have := HK4.out; have := HJ53.out; have := HJ62.out; have := HK7.out; have := HJ69.out; have := HJ76.out; omega⟩, ⟨by (with_reducible repeat (first | apply Kd.R_alloc | apply Kd.R_drewN | apply Kd.R_drew)); exact Kd.R_mono (Kd.R_far (p := ⟨gb358, 1, none⟩) (Kd.R_mono HO_22.out (fun k_ hk => (⟨hk, hk.2⟩ : _ ∧ k_ ≠ gb358))) (fun _ hk => hk.2) (.int .i64 (wrap64 (-((rd_T43 t348 t351).f1))))) (fun _ hk => trivial)⟩, ⟨by repeat (first | (with_reducible first | exact HB.out | apply below_alloc | apply pw_below_drewN | apply below_drew1 | refine below_set ?_ GE357.out | refine below_set ?_ GE358.out) | exact HB.out)⟩⟩
                                                          · as_aux_lemma =>
                                                            rw [if_neg c91] at H
                                                            have c91b0 : decide (((rd_T43 t348 t351).f1) < 0) = false := decide_eq_false c91
                                                            clear c91
                                                            by_cases c107 : (wrap64 (x358001_76 * ((rd_T43 t348 t351).f0))) > (wrap64 (((rd_T43 t348 t351).f1) * ((rd_T43 t348 x27_7).f0)))
                                                            · as_aux_lemma =>
                                                              rw [if_pos c107] at H
                                                              have c107b0 : decide ((wrap64 (((rd_T43 t348 t351).f1) * ((rd_T43 t348 x27_7).f0))) < (wrap64 (x358001_76 * ((rd_T43 t348 t351).f0)))) = true := decide_eq_true c107
                                                              clear c107
                                                              obtain rfl := Option.some.inj H
                                                              have hnb108 := NB358_357.out
                                                              have hnc108 := NB357_358.out
                                                              have hcz109_0 : wc.cell? ⟨gb358, 0, none⟩ = some (.int .i64 ((rd_T43 t348 t351).f0)) := (blk_cell BK358.out 0).trans rfl
                                                              have hcz109_1 : wc.cell? ⟨gb358, 1, none⟩ = some (.int .i64 ((rd_T43 t348 t351).f1)) := (blk_cell BK358.out 1).trans rfl
                                                              have hfz109_0 := blk_frozen BK358.out 0
                                                              have hfz109_1 := blk_frozen BK358.out 1
                                                              have hcz110_0 : wc.cell? ⟨gb357, 0, none⟩ = some (.int .i64 ((rd_T43 t348 x27_7).f0)) := (blk_cell BK357.out 0).trans rfl
                                                              have hcz110_1 : wc.cell? ⟨gb357, 1, none⟩ = some (.int .i64 x358001_76) := (blk_cell BK357.out 1).trans rfl
                                                              have hfz110_0 := blk_frozen BK357.out 0
                                                              have hfz110_1 := blk_frozen BK357.out 1
                                                              go_wp2
                                                              go_ret
                                                              exact ⟨by first | rfl | (simp [errW_none, errW_some] <;> rfl) | (simp [*, errW_none, errW_some] <;> rfl), by repeat (first | (with_reducible first | exact HB.out | apply below_alloc | apply pw_below_drewN | apply below_drew1 | refine below_set ?_ GE357.out | refine below_set ?_ GE358.out) | exact HB.out)⟩
                                                            · as_aux_lemma =>
                                                              rw [if_neg c107] at H
                                                              have c107b0 : decide ((wrap64 (((rd_T43 t348 t351).f1) * ((rd_T43 t348 x27_7).f0))) < (wrap64 (x358001_76 * ((rd_T43 t348 t351).f0)))) = false := decide_eq_false c107
                                                              clear c107
                                                              by_cases c111 : x27_7 < t351
                                                              · as_aux_lemma =>
                                                                rw [if_pos c111] at H
                                                                have c111b0 : decide (x27_7 < t351) = true := decide_eq_true c111
                                                                clear c111
                                                                by_cases c112 : (wrap64 (x358001_76 * ((rd_T43 t348 t351).f0))) = (wrap64 (((rd_T43 t348 t351).f1) * ((rd_T43 t348 x27_7).f0)))
                                                                · as_aux_lemma =>
                                                                  rw [if_pos c112] at H
                                                                  have c112b0 : ((wrap64 (x358001_76 * ((rd_T43 t348 t351).f0))) == (wrap64 (((rd_T43 t348 t351).f1) * ((rd_T43 t348 x27_7).f0)))) = true := beq_iff_eq.mpr c112
                                                                  have c112b1 : ((wrap64 (x358001_76 * ((rd_T43 t348 t351).f0))) != (wrap64 (((rd_T43 t348 t351).f1) * ((rd_T43 t348 x27_7).f0)))) = false := bne_eq_false_iff_eq.mpr c112
                                                                  clear c112
                                                                  obtain rfl := Option.some.inj H
                                                                  have hnb113 := NB358_357.out
                                                                  have hnc113 := NB357_358.out
                                                                  have hcz114_0 : wc.cell? ⟨gb358, 0, none⟩ = some (.int .i64 ((rd_T43 t348 t351).f0)) := (blk_cell BK358.out 0).trans rfl
                                                                  have hcz114_1 : wc.cell? ⟨gb358, 1, none⟩ = some (.int .i64 ((rd_T43 t348 t351).f1)) := (blk_cell BK358.out 1).trans rfl
                                                                  have hfz114_0 := blk_frozen BK358.out 0
                                                                  have hfz114_1 := blk_frozen BK358.out 1
                                                                  have hcz115_0 : wc.cell? ⟨gb357, 0, none⟩ = some (.int .i64 ((rd_T43 t348 x27_7).f0)) := (blk_cell BK357.out 0).trans rfl
                                                                  have hcz115_1 : wc.cell? ⟨gb357, 1, none⟩ = some (.int .i64 x358001_76) := (blk_cell BK357.out 1).trans rfl
                                                                  have hfz115_0 := blk_frozen BK357.out 0
                                                                  have hfz115_1 := blk_frozen BK357.out 1
                                                                  go_wp2
                                                                  go_ret
                                                                  exact ⟨by first | rfl | (simp [errW_none, errW_some] <;> rfl) | (simp [*, errW_none, errW_some] <;> rfl), by repeat (first | (with_reducible first | exact HB.out | apply below_alloc | apply pw_below_drewN | apply below_drew1 | refine below_set ?_ GE357.out | refine below_set ?_ GE358.out) | exact HB.out)⟩
                                                                · as_aux_lemma =>
                                                                  rw [if_neg c112] at H
                                                                  have c112b0 : ((wrap64 (x358001_76 * ((rd_T43 t348 t351).f0))) == (wrap64 (((rd_T43 t348 t351).f1) * ((rd_T43 t348 x27_7).f0)))) = false := beq_eq_false_iff_ne.mpr c112
                                                                  have c112b1 : ((wrap64 (x358001_76 * ((rd_T43 t348 t351).f0))) != (wrap64 (((rd_T43 t348 t351).f1) * ((rd_T43 t348 x27_7).f0)))) = true := bne_iff_ne.mpr c112
                                                                  have H' := Aside0.mk H
                                                                  clear H
                                                                  have hnb116 := NB358_357.out
                                                                  have hnc116 := NB357_358.out
                                                                  have hcz117_0 : wc.cell? ⟨gb358, 0, none⟩ = some (.int .i64 ((rd_T43 t348 t351).f0)) := (blk_cell BK358.out 0).trans rfl
                                                                  have hcz117_1 : wc.cell? ⟨gb358, 1, none⟩ = some (.int .i64 ((rd_T43 t348 t351).f1)) := (blk_cell BK358.out 1).trans rfl
                                                                  have hfz117_0 := blk_frozen BK358.out 0
                                                                  have hfz117_1 := blk_frozen BK358.out 1
                                                                  have hcz118_0 : wc.cell? ⟨gb357, 0, none⟩ = some (.int .i64 ((rd_T43 t348 x27_7).f0)) := (blk_cell BK357.out 0).trans rfl
                                                                  have hcz118_1 : wc.cell? ⟨gb357, 1, none⟩ = some (.int .i64 x358001_76) := (blk_cell BK357.out 1).trans rfl
                                                                  have hfz118_0 := blk_frozen BK357.out 0
                                                                  have hfz118_1 := blk_frozen BK357.out 1
                                                                  go_wp2
                                                                  go_roundg kj76
                                                                  case measure => have := HJ6.out; have := HJ14.out; have := HJ42.out; have := HK4.out; have := HJ53.out; have := HJ62.out; have := HK7.out; have := HJ69.out; have := HJ76.out; omega
                                                                  case rel => exact ⟨(wrap64 (x27_7 + 1)), (by first | rfl | (simp; done) | (simp [*]; done)), H', ⟨by have := HJ6.out; have := HJ14.out; have := HJ42.out; have := HK4.out; have := HJ53.out; have := HJ62.out; have := HK7.out; have := HJ69.out; have := HJ76.out; omega⟩, ⟨by (with_reducible repeat (first | apply Kd.R_alloc | apply Kd.R_drewN | apply Kd.R_drew)); exact Kd.R_mono HO_22.out (fun _ hk => trivial)⟩, ⟨by repeat (first | (with_reducible first | exact HB.out | apply below_alloc | apply pw_below_drewN | apply below_drew1 | refine below_set ?_ GE357.out | refine below_set ?_ GE358.out) | exact HB.out)⟩⟩
                                                              · as_aux_lemma =>
                                                                rw [if_neg c111] at H
                                                                have c111b0 : decide (x27_7 < t351) = false := decide_eq_false c111
                                                                clear c111
                                                                have H' := Aside0.mk H
                                                                clear H
                                                                have hnb119 := NB358_357.out
                                                                have hnc119 := NB357_358.out
                                                                have hcz120_0 : wc.cell? ⟨gb358, 0, none⟩ = some (.int .i64 ((rd_T43 t348 t351).f0)) := (blk_cell BK358.out 0).trans rfl
                                                                have hcz120_1 : wc.cell? ⟨gb358, 1, none⟩ = some (.int .i64 ((rd_T43 t348 t351).f1)) := (blk_cell BK358.out 1).trans rfl
                                                                have hfz120_0 := blk_frozen BK358.out 0
                                                                have hfz120_1 := blk_frozen BK358.out 1
                                                                have hcz121_0 : wc.cell? ⟨gb357, 0, none⟩ = some (.int .i64 ((rd_T43 t348 x27_7).f0)) := (blk_cell BK357.out 0).trans rfl
                                                                have hcz121_1 : wc.cell? ⟨gb357, 1, none⟩ = some (.int .i64 x358001_76) := (blk_cell BK357.out 1).trans rfl
                                                                have hfz121_0 := blk_frozen BK357.out 0
                                                                have hfz121_1 := blk_frozen BK357.out 1
                                                                go_wp2
                                                                go_roundg kj76
                                                                case measure => have := HJ6.out; have := HJ14.out; have := HJ42.out; have := HK4.out; have := HJ53.out; have := HJ62.out; have := HK7.out; have := HJ69.out; have := HJ76.out; omega
                                                                case rel => exact ⟨(wrap64 (x27_7 + 1)), (by first | rfl | (simp; done) | (simp [*]; done)), H', ⟨by have := HJ6.out; have := HJ14.out; have := HJ42.out; have := HK4.out; have := HJ53.out; have := HJ62.out; have := HK7.out; have := HJ69.out; have := HJ76.out; omega⟩, ⟨by (with_reducible repeat (first | apply Kd.R_alloc | apply Kd.R_drewN | apply Kd.R_drew)); exact Kd.R_mono HO_22.out (fun _ hk => trivial)⟩, ⟨by repeat (first | (with_reducible first | exact HB.out | apply below_alloc | apply pw_below_drewN | apply below_drew1 | refine below_set ?_ GE357.out | refine below_set ?_ GE358.out) | exact HB.out)⟩⟩
                                                    · as_aux_lemma =>
                                                      rw [if_neg c76] at H
                                                      exact absurd H (by simp)
                                                  · as_aux_lemma =>
                                                    rw [if_neg c75] at H
                                                    exact absurd H (by simp)
                                                · as_aux_lemma =>
                                                  rw [if_neg c74] at H
                                                  exact absurd H (by simp)
                                              · as_aux_lemma =>
                                                rw [if_neg c73] at H
                                                exact absurd H (by simp)
                                            · as_aux_lemma =>
                                              replace c72 := Bool.eq_false_iff.mpr c72
                                              subst c72
                                              have H1 : (some true) = some r := by rw [if_neg (show ¬ (false = true) by decide)] at H; exact H
                                              clear H
                                              have H := H1
                                              clear H1
                                              obtain rfl := Option.some.inj H
                                              go_wp2
                                              go_ret
                                              exact ⟨by first | rfl | (simp [errW_none, errW_some] <;> rfl) | (simp [*, errW_none, errW_some] <;> rfl), by repeat (first | (with_reducible first | exact HB.out | apply below_alloc | apply pw_below_drewN | apply below_drew1) | exact HB.out)⟩

/-- THE ONE PURE STATEMENT of laws_FnFolds: yours. -/
def laws_FnFolds.Pure : Prop := ∀ (l0 : List Int), l0.length ≤ maxLen → l0.length * 1 ≤ 140737488351232 → (∀ x ∈ l0, (Lit.int .u8 x).wf = true) → ∃ k, laws_FnFolds.f k l0 = some true
theorem laws_FnFolds.walk (P : laws_FnFolds.Pure) (a0 : Option Addr) (len0 cap0 : Nat) (z0 : List Int) (w : World) (w0 : (a0 = none ∧ len0 = 0 ∧ cap0 = 0 ∧ z0 = []) ∨ ∃ x, a0 = some x ∧ len0 ≤ cap0 ∧ cap0 ≤ maxLen ∧ z0.length = cap0 ∧ (∀ i, i < z0.length → w.cell? (x.add i) = some (.int .u8 (z0.getD i 0))) ∧ ∀ n ∈ z0, (Lit.int .u8 n).wf = true) (y0 : len0 * 1 ≤ 140737488351232) :
    Calls Try.prog 4 #[.slice a0 len0 cap0] w fun e w' => e = .returned (.bool true) ∧ Below w.heap.size w w' := by
  obtain ⟨l0, rfl, hr0, hm0, hw0, hc0⟩ := ReadsInt.ofRowC w0
  obtain ⟨k, h⟩ := P l0 hm0 y0 hw0
  refine (laws_FnFolds.calls k _ _ l0 true w (Kd.C_of_reads (d := (0 : Int)) (h1 := fun _ => rfl) hr0) hc0 h).mono ?_
  rintro e w' ⟨rfl, hd⟩
  exact ⟨rfl, hd⟩

end Go.Proofs.Ytihekanoigpjpaa.MH
