/- Smallest and greatest, as the program and the reference say them. -/
import Derived.Test.YtmbpdegkkdcjnaaDoorMWx4
import Derived.Test.YtmbpdegkkdcjnaaDoorPMnMx
namespace Go.Proofs.YtmbpdegkkdcjnaaDoor.Pure
open Go.RowKit Go.Proofs.YtmbpdegkkdcjnaaDoor.MW Go.Proofs.YtmbpdegkkdcjnaaDoorW.PrintWords Go.Proofs.YtmbpdegkkdcjnaaDoorW.PrintLast Go.Proofs.YtmbpdegkkdcjnaaDoorW.PrintMore
set_option linter.unusedVariables false
set_option linter.unusedSimpArgs false
theorem l1Most_eq (a b : Int) : spec_l1Most.f a b = some (max a b) := by
 unfold spec_l1Most.f
 split <;> (congr 1; omega)
end Go.Proofs.YtmbpdegkkdcjnaaDoor.Pure
