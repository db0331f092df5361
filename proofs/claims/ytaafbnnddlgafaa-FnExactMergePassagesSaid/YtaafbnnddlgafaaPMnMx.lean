/- Go's min and max. -/
import Derived.Test.YtaafbnnddlgafaaPBase
namespace Go.Proofs.Ytaafbnnddlgafaa.Pure
open Go.RowKit Go.Proofs.Ytaafbnnddlgafaa.MG Go.Proofs.YtaafbnnddlgafaaW.PrintWords Go.Proofs.YtaafbnnddlgafaaW.PrintLast Go.Proofs.YtaafbnnddlgafaaW.PrintMore
theorem mx_eq (a b : Int) : mx a b = max a b := by unfold mx; split <;> omega
theorem mn_eq (a b : Int) : mn a b = min a b := by unfold mn; split <;> omega
end Go.Proofs.Ytaafbnnddlgafaa.Pure
