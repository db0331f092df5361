/- Go's min and max. -/
import Derived.Test.YtkjjnfjmnifoiaaPBase
namespace Go.Proofs.Ytkjjnfjmnifoiaa.Pure
open Go.RowKit Go.Proofs.Ytkjjnfjmnifoiaa.MR Go.Proofs.YtkjjnfjmnifoiaaW.PrintWords Go.Proofs.YtkjjnfjmnifoiaaW.PrintLast Go.Proofs.YtkjjnfjmnifoiaaW.PrintMore
theorem mx_eq (a b : Int) : mx a b = max a b := by unfold mx; split <;> omega
theorem mn_eq (a b : Int) : mn a b = min a b := by unfold mn; split <;> omega
end Go.Proofs.Ytkjjnfjmnifoiaa.Pure
