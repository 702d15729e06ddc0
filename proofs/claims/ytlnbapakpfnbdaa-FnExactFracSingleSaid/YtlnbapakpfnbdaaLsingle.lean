/-
  THE WALK of FnExactFracSingle: for all arguments it returns true and turns nothing old.
-/
import Derived.Test.YtlnbapakpfnbdaaWh
import Derived.Test.YtlnbapakpfnbdaaWe
import Derived.Test.YtlnbapakpfnbdaaWf
namespace Go.Proofs.Ytlnbapakpfnbdaa
open Go.RowKit
open PL

set_option maxHeartbeats 4000000 in
theorem FnExactFracSingle_walk (a1 a2 a3 : Int) (w : World) :
    Calls Try.prog 12 #[.agg #[.int .i64 a1, .int .i64 a2, .int .i64 a3]] w fun e w' =>
      e = .returned (.bool true) ∧ Below w.heap.size w w' := by
  obtain ⟨⟨x, y⟩, b, H0⟩ : ∃ r o, single ⟨a1, a2, a3⟩ = (r, o) := ⟨_, _, rfl⟩
  have H := Lib.hid H0
  have hn := single_num H0
  have hcv := fun w => run_convert_complex (P := Try.prog) w 41 37 .f32 .f64 x y (w64 x) (w64 y) (by rw [Try.underlying41]; rfl) Try.underlying37 (by unfold cConvBits; rw [(w64_some hn.1).1, (w64_some hn.2).1]; rfl)
  have HX := Lib.hid (w64_some hn.1).2
  have HY := Lib.hid (w64_some hn.2).2
  clear H0 hn
  go_enter Try.func12, Try.ntmps12
  go_wp2_with fail
  refine (toFrac_any _ _ _ _).mono ?_
  rintro e w1 ⟨rfl, hbw1, -⟩
  have Tw1 : TL w [(w.heap.size, [.int .i64 a1, .int .i64 a2, .int .i64 a3])] w1 := TL.below (TL.new (t := 23) (TL.refl w) rfl) hbw1
  clear hbw1
  have xw100 := Tw1.2.1.2.1.1
  have xw101 := Tw1.2.1.2.2.1.1
  have xw102 := Tw1.2.1.2.2.2.1.1
  have lw10 := Tw1.2.1.1
  go_wp2_with fail
  refine (ssingle_any _ _ _ x y b _ H).mono ?_
  rintro e w2 ⟨rfl, hbw2⟩
  have Tw2 : TL w [(w.heap.size, [.int .i64 a1, .int .i64 a2, .int .i64 a3])] w2 := TL.below (Tw1) hbw2
  clear hbw2
  have xw200 := Tw2.2.1.2.1.1
  have xw201 := Tw2.2.1.2.2.1.1
  have xw202 := Tw2.2.1.2.2.2.1.1
  have lw20 := Tw2.2.1.1
  go_wp2_with fail
  refine (toFrac_any _ _ _ _).mono ?_
  rintro e w3 ⟨rfl, hbw3, -⟩
  have Tw3 : TL w [(w.heap.size, [.int .i64 a1, .int .i64 a2, .int .i64 a3])] w3 := TL.below (Tw2) hbw3
  clear hbw3
  have xw300 := Tw3.2.1.2.1.1
  have xw301 := Tw3.2.1.2.2.1.1
  have xw302 := Tw3.2.1.2.2.2.1.1
  have lw30 := Tw3.2.1.1
  go_wp2_with fail
  refine (single_any _ _ _ x y b _ H).mono ?_
  rintro e w4 ⟨rfl, hbw4⟩
  have Tw4 : TL w [(w.heap.size, [.int .i64 a1, .int .i64 a2, .int .i64 a3])] w4 := TL.below (Tw3) hbw4
  clear hbw4
  have xw400 := Tw4.2.1.2.1.1
  have xw401 := Tw4.2.1.2.2.1.1
  have xw402 := Tw4.2.1.2.2.2.1.1
  have lw40 := Tw4.2.1.1
  go_wp2_with fail
  refine (sameComplex_self _ _ _ HX.out HY.out).mono ?_
  rintro e w5 ⟨rfl, rfl⟩
  cases b
  all_goals
    go_wp2_with fail
    go_ret
    exact ⟨rfl, Tw4.1.1⟩

end Go.Proofs.Ytlnbapakpfnbdaa
