/- Go's min and max. -/
import Derived.Test.YtmbpdegkkdcjnaaDoorPBase
namespace Go.Proofs.YtmbpdegkkdcjnaaDoor.Pure
open Go.RowKit Go.Proofs.YtmbpdegkkdcjnaaDoor.MW Go.Proofs.YtmbpdegkkdcjnaaDoorW.PrintWords Go.Proofs.YtmbpdegkkdcjnaaDoorW.PrintLast Go.Proofs.YtmbpdegkkdcjnaaDoorW.PrintMore
set_option linter.unusedVariables false
set_option linter.unusedSimpArgs false
theorem mx_eq (a b : Int) : mx a b = max a b := by unfold mx; split <;> omega
theorem mn_eq (a b : Int) : mn a b = min a b := by unfold mn; split <;> omega
end Go.Proofs.YtmbpdegkkdcjnaaDoor.Pure
