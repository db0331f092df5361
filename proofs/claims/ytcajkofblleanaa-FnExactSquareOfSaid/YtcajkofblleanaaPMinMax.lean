/- Smallest and greatest, as the program and the reference say them. -/
import Derived.Test.YtcajkofblleanaaMQx1
import Derived.Test.YtcajkofblleanaaPMnMx
namespace Go.Proofs.Ytcajkofblleanaa.Pure
open Go.RowKit Go.Proofs.Ytcajkofblleanaa.MQ Go.Proofs.YtcajkofblleanaaW.PrintWords Go.Proofs.YtcajkofblleanaaW.PrintLast Go.Proofs.YtcajkofblleanaaW.PrintMore
theorem l1Most_eq (a b : Int) : spec_l1Most.f a b = some (max a b) := by
  unfold spec_l1Most.f
  split <;> (congr 1; omega)
end Go.Proofs.Ytcajkofblleanaa.Pure
