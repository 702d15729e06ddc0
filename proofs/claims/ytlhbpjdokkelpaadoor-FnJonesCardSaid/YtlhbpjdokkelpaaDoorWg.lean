/-
  WALKS: FracMake, the reference's FracPower, realOk, FracCompare, l2Sign. No condition.
-/
import Derived.Test.YtlhbpjdokkelpaaDoorWd
namespace Go.Proofs.YtlhbpjdokkelpaaDoor
open Go.RowKit
open PL

theorem ret_cb {r s : Int × Bool} (h : r = s) : Ending.returned (.tuple #[.int .i64 r.1, .bool r.2]) = .returned (.tuple #[.int .i64 s.1, .bool s.2]) := by rw [h]

end Go.Proofs.YtlhbpjdokkelpaaDoor
