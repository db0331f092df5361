/- The smaller of two, as the reference says it. -/
import Derived.Test.YtkjjnfjmnifoiaaMRx4
import Derived.Test.YtkjjnfjmnifoiaaPBase
namespace Go.Proofs.Ytkjjnfjmnifoiaa.Pure
open Go.RowKit Go.Proofs.Ytkjjnfjmnifoiaa.MR Go.Proofs.YtkjjnfjmnifoiaaW.PrintWords Go.Proofs.YtkjjnfjmnifoiaaW.PrintLast Go.Proofs.YtkjjnfjmnifoiaaW.PrintMore
set_option linter.unusedVariables false
set_option linter.unusedSimpArgs false
theorem l1Least_eq (a b : Int) : spec_l1Least.f a b = some (min a b) := by
  unfold spec_l1Least.f
  split <;> (congr 1; omega)
end Go.Proofs.Ytkjjnfjmnifoiaa.Pure
