/-
  WALKS: the reference's functions on vectors, the program's JonesCross, the laws' own toJones and eqJones. No condition.
-/
import Derived.Test.YtfiabpbfhldcnaaWg
import Derived.Test.YtfiabpbfhldcnaaWi
import Derived.Test.YtfiabpbfhldcnaaWe
namespace Go.Proofs.Ytfiabpbfhldcnaa
open Go.RowKit
open PL

end Go.Proofs.Ytfiabpbfhldcnaa
