/-
  THE WALK of FnExactFracMake: for all arguments it returns true and turns nothing old.
-/
import Derived.Test.YtlnbapakpfnbdaaWg
import Derived.Test.YtlnbapakpfnbdaaWe
import Derived.Test.YtlnbapakpfnbdaaWf
namespace Go.Proofs.Ytlnbapakpfnbdaa
open Go.RowKit
open PL

set_option maxHeartbeats 4000000 in
theorem FnExactFracMake_walk (a b c : Int) (w : World) :
    Calls Try.prog 4 #[.int .i64 a, .int .i64 b, .int .i64 c] w fun e w' =>
      e = .returned (.bool true) ∧ Below w.heap.size w w' := by
  obtain ⟨⟨p, q, d⟩, ok, H0⟩ : ∃ r o, make a b c = (r, o) := ⟨_, _, rfl⟩
  have H := Lib.hid H0; clear H0
  go_enter Try.func4, Try.ntmps4
  go_wp2_with fail
  refine (smake_any _ _ _ p q d ok _ H).mono ?_
  rintro e w2 ⟨rfl, hbw2⟩
  have Tw2 : TL w [] w2 := TL.below (TL.refl w) hbw2
  clear hbw2
  go_wp2_with fail
  refine (make_any _ _ _ p q d ok _ H).mono ?_
  rintro e w4 ⟨rfl, hbw4⟩
  have Tw4 : TL w [(w2.heap.size, [.int .i64 p, .int .i64 q, .int .i64 d])] w4 := TL.below (TL.new (t := 25) Tw2 rfl) hbw4
  clear hbw4
  have xw400 := Tw4.2.1.2.1.1
  have xw401 := Tw4.2.1.2.2.1.1
  have xw402 := Tw4.2.1.2.2.2.1.1
  have lw40 := Tw4.2.1.1
  go_wp2_with fail
  refine (eqFrac_yes _ _ _ _).mono ?_
  rintro e w5 ⟨rfl, hbw5⟩
  have Tw5 : TL w [(w4.heap.size, [.int .i64 p, .int .i64 q, .int .i64 d]), (w2.heap.size, [.int .i64 p, .int .i64 q, .int .i64 d])] w5 := TL.below (TL.new (t := 25) Tw4 rfl) hbw5
  clear hbw5
  have xw500 := Tw5.2.1.2.1.1
  have xw501 := Tw5.2.1.2.2.1.1
  have xw502 := Tw5.2.1.2.2.2.1.1
  have xw510 := Tw5.2.2.1.2.1.1
  have xw511 := Tw5.2.2.1.2.2.1.1
  have xw512 := Tw5.2.2.1.2.2.2.1.1
  have lw50 := Tw5.2.1.1
  have lw51 := Tw5.2.2.1.1
  cases ok
  all_goals
    go_wp2_with fail
    go_ret
    exact ⟨rfl, Tw5.1.1⟩

end Go.Proofs.Ytlnbapakpfnbdaa
