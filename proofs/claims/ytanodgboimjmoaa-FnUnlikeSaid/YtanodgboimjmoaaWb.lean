/-
  WALKS: is a fraction valid? (the program's FracValid and the reference's). No condition.
-/
import Derived.Test.YtanodgboimjmoaaWa
namespace Go.Proofs.Ytanodgboimjmoaa
open Go.RowKit
open PL

end Go.Proofs.Ytanodgboimjmoaa
