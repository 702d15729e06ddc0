/-
  WALKS: the operations on fractions (sum, difference, product, power, mirror): the program's and the reference's. No condition.
-/
import Derived.Test.YtooegcodpganhaaWc
namespace Go.Proofs.Ytooegcodpganhaa
open Go.RowKit
open PL

end Go.Proofs.Ytooegcodpganhaa
