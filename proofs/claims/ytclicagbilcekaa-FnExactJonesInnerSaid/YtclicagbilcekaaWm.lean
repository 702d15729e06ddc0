/-
  WALKS: the reference's functions on vectors, the program's JonesCross, the laws' own toJones and eqJones. No condition.
-/
import Derived.Test.YtclicagbilcekaaWg
import Derived.Test.YtclicagbilcekaaWi
import Derived.Test.YtclicagbilcekaaWe
namespace Go.Proofs.Ytclicagbilcekaa
open Go.RowKit
open PL

end Go.Proofs.Ytclicagbilcekaa
