/- The smaller of two, as the reference says it. -/
import Derived.Test.YtmbpdegkkdcjnaaDoorMWx4
import Derived.Test.YtmbpdegkkdcjnaaDoorPBase
namespace Go.Proofs.YtmbpdegkkdcjnaaDoor.Pure
open Go.RowKit Go.Proofs.YtmbpdegkkdcjnaaDoor.MW Go.Proofs.YtmbpdegkkdcjnaaDoorW.PrintWords Go.Proofs.YtmbpdegkkdcjnaaDoorW.PrintLast Go.Proofs.YtmbpdegkkdcjnaaDoorW.PrintMore
set_option linter.unusedVariables false
set_option linter.unusedSimpArgs false
theorem l1Least_eq (a b : Int) : spec_l1Least.f a b = some (min a b) := by
 unfold spec_l1Least.f
 split <;> (congr 1; omega)
end Go.Proofs.YtmbpdegkkdcjnaaDoor.Pure
