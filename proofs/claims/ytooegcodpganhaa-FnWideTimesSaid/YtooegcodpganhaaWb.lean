/-
  WALKS: is a fraction valid? (the program's FracValid and the reference's). No condition.
-/
import Derived.Test.YtooegcodpganhaaWa
namespace Go.Proofs.Ytooegcodpganhaa
open Go.RowKit
open PL

end Go.Proofs.Ytooegcodpganhaa
