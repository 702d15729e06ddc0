/-
  WALKS of the laws' own small functions: toFrac, eqFrac. No condition.
-/
import Derived.Test.YtmhdklhdnmpabaaWc
namespace Go.Proofs.Ytmhdklhdnmpabaa
open Go.RowKit
open PL

end Go.Proofs.Ytmhdklhdnmpabaa
