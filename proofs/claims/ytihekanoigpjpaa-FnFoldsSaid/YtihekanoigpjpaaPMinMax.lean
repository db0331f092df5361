/- Smallest and greatest, as the program and the reference say them. -/
import Derived.Test.YtihekanoigpjpaaMHx4
import Derived.Test.YtihekanoigpjpaaPMnMx
namespace Go.Proofs.Ytihekanoigpjpaa.Pure
open Go.RowKit Go.Proofs.Ytihekanoigpjpaa.MH Go.Proofs.YtihekanoigpjpaaW.PrintWords Go.Proofs.YtihekanoigpjpaaW.PrintLast Go.Proofs.YtihekanoigpjpaaW.PrintMore
set_option linter.unusedVariables false
set_option linter.unusedSimpArgs false
theorem l1Most_eq (a b : Int) : spec_l1Most.f a b = some (max a b) := by
  unfold spec_l1Most.f
  split <;> (congr 1; omega)
end Go.Proofs.Ytihekanoigpjpaa.Pure
