/-
  THE WALK of FnExactFracValid: for all arguments it returns true and turns nothing old.
-/
import Derived.Test.YtlnbapakpfnbdaaWb
import Derived.Test.YtlnbapakpfnbdaaWe
import Derived.Test.YtlnbapakpfnbdaaWf
namespace Go.Proofs.Ytlnbapakpfnbdaa
open Go.RowKit
open PL

set_option maxHeartbeats 4000000 in
theorem FnExactFracValid_walk (a1 a2 a3 : Int) (w : World) :
    Calls Try.prog 3 #[.agg #[.int .i64 a1, .int .i64 a2, .int .i64 a3]] w fun e w' =>
      e = .returned (.bool true) ∧ Below w.heap.size w w' := by
  obtain ⟨b, H0⟩ : ∃ b, valid ⟨a1, a2, a3⟩ = b := ⟨_, rfl⟩
  have H := Lib.hid H0; clear H0
  go_enter Try.func3, Try.ntmps3
  go_wp2_with fail
  refine (toFrac_any _ _ _ _).mono ?_
  rintro e w1 ⟨rfl, hb1, -⟩
  have T1 := TL.below (TL.new (t := 23) (TL.refl w) rfl) hb1
  go_wp2_with fail
  refine (svalid_any _ _ _ b _ H.out).mono ?_
  rintro e w2 ⟨rfl, hb2⟩
  have T2 := TL.below T1 hb2
  have x0 := T2.2.1.2.1.1
  have x1 := T2.2.1.2.2.1.1
  have x2 := T2.2.1.2.2.2.1.1
  go_wp2_with fail
  refine (toFrac_any _ _ _ _).mono ?_
  rintro e w3 ⟨rfl, hb3, -⟩
  have T3 := TL.below T2 hb3
  go_wp2_with fail
  refine (valid_any _ _ _ b _ H.out).mono ?_
  rintro e w4 ⟨rfl, hb4⟩
  have T4 := TL.below T3 hb4
  cases b
  all_goals
    go_wp2_with fail
    go_ret
    exact ⟨rfl, T4.1.1⟩

end Go.Proofs.Ytlnbapakpfnbdaa
