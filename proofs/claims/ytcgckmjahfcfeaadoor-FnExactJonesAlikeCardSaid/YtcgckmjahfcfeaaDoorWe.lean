/-
  WALKS of the laws' own small functions: toFrac, eqFrac. No condition.
-/
import Derived.Test.YtcgckmjahfcfeaaDoorWc
namespace Go.Proofs.YtcgckmjahfcfeaaDoor
open Go.RowKit
open PL

set_option maxHeartbeats 1000000 in
theorem toFrac_any (a1 a2 a3 : Int) (w : World) :
    Calls Tryd.prog 9 #[.agg #[.int .i64 a1, .int .i64 a2, .int .i64 a3]] w fun e w' =>
      e = .returned (.agg #[.int .i64 a1, .int .i64 a2, .int .i64 a3]) ∧ Below w.heap.size w w' ∧ w'.heap.size = w.heap.size + 3 := by
  go_enter Tryd.func9, Tryd.ntmps9
  go_wp2_with fail
  refine bodyPost_ret (by simp [results, Tryd.results9, go_sem]; rfl) rfl ?_
  exact ⟨rfl, by go_grown, by simp⟩

set_option maxHeartbeats 1000000 in
theorem eqFrac_yes (a1 a2 a3 : Int) (w : World) :
    Calls Tryd.prog 11 #[.agg #[.int .i64 a1, .int .i64 a2, .int .i64 a3], .agg #[.int .i64 a1, .int .i64 a2, .int .i64 a3]] w fun e w' =>
      e = .returned (.bool true) ∧ Below w.heap.size w w' := by
  go_enter Tryd.func11, Tryd.ntmps11
  go_wp2_with fail
  go_ret
  exact ⟨rfl, by go_grown⟩

end Go.Proofs.YtcgckmjahfcfeaaDoor
