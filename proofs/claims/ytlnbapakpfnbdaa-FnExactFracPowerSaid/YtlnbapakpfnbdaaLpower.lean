/-
  THE WALK of FnExactFracPower: for all arguments it returns true and turns nothing old.
-/
import Derived.Test.YtlnbapakpfnbdaaWg
import Derived.Test.YtlnbapakpfnbdaaWe
import Derived.Test.YtlnbapakpfnbdaaWf
namespace Go.Proofs.Ytlnbapakpfnbdaa
open Go.RowKit
open PL

set_option maxHeartbeats 4000000 in
theorem FnExactFracPower_walk (a1 a2 a3 : Int) (w : World) :
    Calls Try.prog 9 #[.agg #[.int .i64 a1, .int .i64 a2, .int .i64 a3]] w fun e w' =>
      e = .returned (.bool true) ∧ Below w.heap.size w w' := by
  obtain ⟨⟨p, q, d⟩, b, H0⟩ : ∃ r b, power ⟨a1, a2, a3⟩ = (r, b) := ⟨_, _, rfl⟩
  have H := Lib.hid H0; clear H0
  go_enter Try.func9, Try.ntmps9
  go_wp2_with fail
  refine (toFrac_any _ _ _ _).mono ?_
  rintro e w1 ⟨rfl, hbw1, -⟩
  have Tw1 : TL w [(w.heap.size, [.int .i64 a1, .int .i64 a2, .int .i64 a3])] w1 := TL.below (TL.new (t := 23) (TL.refl w) rfl) hbw1
  clear hbw1
  have xw100 := Tw1.2.1.2.1.1
  have xw101 := Tw1.2.1.2.2.1.1
  have xw102 := Tw1.2.1.2.2.2.1.1
  have lw10 := Tw1.2.1.1
  go_wp2_with fail
  refine (spower_any _ _ _ p q d b _ H).mono ?_
  rintro e w2 ⟨rfl, hbw2⟩
  have Tw2 : TL w [(w.heap.size, [.int .i64 a1, .int .i64 a2, .int .i64 a3])] w2 := TL.below (Tw1) hbw2
  clear hbw2
  have xw200 := Tw2.2.1.2.1.1
  have xw201 := Tw2.2.1.2.2.1.1
  have xw202 := Tw2.2.1.2.2.2.1.1
  have lw20 := Tw2.2.1.1
  go_wp2_with fail
  refine (toFrac_any _ _ _ _).mono ?_
  rintro e w3 ⟨rfl, hbw3, -⟩
  have Tw3 : TL w [(w2.heap.size, [.int .i64 p, .int .i64 q, .int .i64 d]), (w.heap.size, [.int .i64 a1, .int .i64 a2, .int .i64 a3])] w3 := TL.below (TL.new (t := 25) Tw2 rfl) hbw3
  clear hbw3
  have xw300 := Tw3.2.1.2.1.1
  have xw301 := Tw3.2.1.2.2.1.1
  have xw302 := Tw3.2.1.2.2.2.1.1
  have xw310 := Tw3.2.2.1.2.1.1
  have xw311 := Tw3.2.2.1.2.2.1.1
  have xw312 := Tw3.2.2.1.2.2.2.1.1
  have lw30 := Tw3.2.1.1
  have lw31 := Tw3.2.2.1.1
  go_wp2_with fail
  refine (power_any _ _ _ p q d b _ H).mono ?_
  rintro e w4 ⟨rfl, hbw4⟩
  have Tw4 : TL w [(w2.heap.size, [.int .i64 p, .int .i64 q, .int .i64 d]), (w.heap.size, [.int .i64 a1, .int .i64 a2, .int .i64 a3])] w4 := TL.below (Tw3) hbw4
  clear hbw4
  have xw400 := Tw4.2.1.2.1.1
  have xw401 := Tw4.2.1.2.2.1.1
  have xw402 := Tw4.2.1.2.2.2.1.1
  have xw410 := Tw4.2.2.1.2.1.1
  have xw411 := Tw4.2.2.1.2.2.1.1
  have xw412 := Tw4.2.2.1.2.2.2.1.1
  have lw40 := Tw4.2.1.1
  have lw41 := Tw4.2.2.1.1
  go_wp2_with fail
  refine (eqFrac_yes _ _ _ _).mono ?_
  rintro e w5 ⟨rfl, hbw5⟩
  have Tw5 : TL w [(w4.heap.size, [.int .i64 p, .int .i64 q, .int .i64 d]), (w2.heap.size, [.int .i64 p, .int .i64 q, .int .i64 d]), (w.heap.size, [.int .i64 a1, .int .i64 a2, .int .i64 a3])] w5 := TL.below (TL.new (t := 25) Tw4 rfl) hbw5
  clear hbw5
  have xw500 := Tw5.2.1.2.1.1
  have xw501 := Tw5.2.1.2.2.1.1
  have xw502 := Tw5.2.1.2.2.2.1.1
  have xw510 := Tw5.2.2.1.2.1.1
  have xw511 := Tw5.2.2.1.2.2.1.1
  have xw512 := Tw5.2.2.1.2.2.2.1.1
  have xw520 := Tw5.2.2.2.1.2.1.1
  have xw521 := Tw5.2.2.2.1.2.2.1.1
  have xw522 := Tw5.2.2.2.1.2.2.2.1.1
  have lw50 := Tw5.2.1.1
  have lw51 := Tw5.2.2.1.1
  have lw52 := Tw5.2.2.2.1.1
  cases b
  all_goals
    go_wp2_with fail
    go_ret
    exact ⟨rfl, Tw5.1.1⟩

end Go.Proofs.Ytlnbapakpfnbdaa
