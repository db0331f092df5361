/- The smaller of two, as the reference says it. -/
import Derived.Test.YtppekffbjfjhfaaMAx10
import Derived.Test.YtppekffbjfjhfaaPBase
namespace Go.Proofs.Ytppekffbjfjhfaa.Pure
open Go.RowKit Go.Proofs.Ytppekffbjfjhfaa.MA Go.Proofs.YtppekffbjfjhfaaW.PrintWords Go.Proofs.YtppekffbjfjhfaaW.PrintLast Go.Proofs.YtppekffbjfjhfaaW.PrintMore
theorem l1Least_eq (a b : Int) : spec_l1Least.f a b = some (min a b) := by
  unfold spec_l1Least.f
  split <;> (congr 1; omega)
end Go.Proofs.Ytppekffbjfjhfaa.Pure
