/-
  WALKS: the reference's functions on vectors, the program's JonesCross, the laws' own toJones and eqJones. No condition.
-/
import Derived.Test.YtlhbpjdokkelpaaDoorWg
import Derived.Test.YtlhbpjdokkelpaaDoorWi
import Derived.Test.YtlhbpjdokkelpaaDoorWe
namespace Go.Proofs.YtlhbpjdokkelpaaDoor
open Go.RowKit
open PL

end Go.Proofs.YtlhbpjdokkelpaaDoor
