/-
  WALKS: the operations on fractions (sum, difference, product, power, mirror): the program's and the reference's. No condition.
-/
import Derived.Test.YtanodgboimjmoaaWc
namespace Go.Proofs.Ytanodgboimjmoaa
open Go.RowKit
open PL

end Go.Proofs.Ytanodgboimjmoaa
