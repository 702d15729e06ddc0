/-
  WALKS: the reference's functions on vectors, the program's JonesCross, the laws' own toJones and eqJones. No condition.
-/
import Derived.Test.YtmhdklhdnmpabaaWg
import Derived.Test.YtmhdklhdnmpabaaWi
import Derived.Test.YtmhdklhdnmpabaaWe
namespace Go.Proofs.Ytmhdklhdnmpabaa
open Go.RowKit
open PL

end Go.Proofs.Ytmhdklhdnmpabaa
