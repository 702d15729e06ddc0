/-
  WALKS of the laws' own small functions: toFrac, eqFrac. No condition.
-/
import Derived.Test.YtlhbpjdokkelpaaDoorWc
namespace Go.Proofs.YtlhbpjdokkelpaaDoor
open Go.RowKit
open PL

end Go.Proofs.YtlhbpjdokkelpaaDoor
