/- The law FnExactNeedFor's pure statement: the program's NeedFor is the reference's. -/
import Derived.Test.YtknjpfjmkgfpdaaMAx1
import Derived.Test.YtknjpfjmkgfpdaaPPitch
import Derived.Test.YtknjpfjmkgfpdaaDecA
namespace Go.Proofs.Ytknjpfjmkgfpdaa.Pure
open Go.RowKit Go.Proofs.Ytknjpfjmkgfpdaa.MA Go.Proofs.YtknjpfjmkgfpdaaW.PrintWords Go.Proofs.YtknjpfjmkgfpdaaW.PrintLast Go.Proofs.YtknjpfjmkgfpdaaW.PrintMore
theorem FnExactNeedFor (x0 : S23) (_hw0 : OK23 x0) : laws_FnExactNeedFor.f x0.f0 x0.f1 = some true := by
  simp only [laws_FnExactNeedFor.f, laws_toPitch.f, spec_NeedFor.f, impl_NeedFor.f, l16One_eq, isPitch_eq, spec_l16Need.f, impl_Pitch_need.f, Option.bind_some]
  split <;> simp
end Go.Proofs.Ytknjpfjmkgfpdaa.Pure
