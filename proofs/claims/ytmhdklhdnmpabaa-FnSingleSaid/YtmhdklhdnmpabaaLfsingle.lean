/-
  THE WALK of FnSingle: for all bytes it returns true and turns nothing old.
-/
import Derived.Test.YtmhdklhdnmpabaaWs
import Derived.Test.YtmhdklhdnmpabaaWv
import Derived.Test.YtmhdklhdnmpabaaWh
namespace Go.Proofs.Ytmhdklhdnmpabaa
open Go.RowKit
open PL

set_option maxHeartbeats 1000000 in
theorem singleAlike_self (x y : Nat) (w : World) (hx : FL.Num Ieee.single 60 x) (hy : FL.Num Ieee.single 60 y) :
    Calls Try.prog 18 #[.complex .f32 x y, .complex .f32 x y] w fun e w' => e = .returned (.bool true) ∧ w' = w := by
  have hcv := fun w => run_convert_complex (P := Try.prog) w 38 33 .f32 .f64 x y (w64 x) (w64 y) (by rw [Try.underlying38]; rfl) Try.underlying33 (by unfold cConvBits; rw [(w64_some hx).1, (w64_some hy).1]; rfl)
  clear hx hy
  go_enter Try.func18, Try.ntmps18
  go_wp2_with fail
  refine (wideAlike_N _ _ _ _ _ rfl rfl).mono ?_
  rintro e _ ⟨rfl, rfl⟩
  go_wp2_with fail
  go_ret
  exact ⟨rfl, rfl⟩

set_option maxHeartbeats 8000000 in
theorem FnSingle_walk (ad : Option Addr) (len cap : Nat) (w0 : World) (hB : BytesIn w0 ad len cap) :
    Calls Try.prog 5 #[.slice ad len cap] w0 fun e w' =>
      e = .returned (.bool true) ∧ Below w0.heap.size w0 w' := by
  go_enter Try.func5, Try.ntmps5
  by_cases hl : (len : Int) > 1048576
  · go_wp2_with fail
    go_ret
    exact ⟨rfl, Below.refl _ _⟩
  · go_wp2_with fail
    refine (DrawFracSingle_any ad len cap w0 hB).mono ?_
    rintro e w ⟨x1, x2, x3, rfl, hb0⟩
    obtain ⟨⟨u, v⟩, ok, hw⟩ : ∃ r o, wide ⟨x1, x2, x3⟩ = (r, o) := ⟨_, _, rfl⟩
    have hn := wide_num hw
    have hs : single ⟨x1, x2, x3⟩ = ((n32 u, n32 v), ok) := by unfold single; rw [hw]
    have H := Lib.hid hs
    have HW := Lib.hid hw
    have NX := Lib.hid (single_num hs).1
    have NY := Lib.hid (single_num hs).2
    have hcv := fun w => run_convert_complex (P := Try.prog) w 33 38 .f64 .f32 u v (n32 u) (n32 v) (by rw [Try.underlying33]; rfl) Try.underlying38 (by unfold cConvBits; rw [(n32_some (hn.1.mono (by decide))).1, (n32_some (hn.2.mono (by decide))).1]; rfl)
    clear hn hs hw
    go_wp2_with fail
    refine (single_any _ _ _ (n32 u) (n32 v) ok _ H).mono ?_
    rintro e w1 ⟨rfl, hbw1⟩
    have Tw1 : TL w [(w.heap.size, [.int .i64 x1, .int .i64 x2, .int .i64 x3])] w1 := TL.below (TL.new (t := 24) (TL.refl w) rfl) hbw1
    clear hbw1
    have xw100 : w1.cell? ⟨w.heap.size, 0, none⟩ = some (.int .i64 x1) := Tw1.2.1.2.1.1
    have xw101 : w1.cell? ⟨w.heap.size, 1, none⟩ = some (.int .i64 x2) := Tw1.2.1.2.2.1.1
    have xw102 : w1.cell? ⟨w.heap.size, 2, none⟩ = some (.int .i64 x3) := Tw1.2.1.2.2.2.1.1
    have lw10 := Tw1.2.1.1
    go_wp2_with fail
    refine (ssingle_any _ _ _ (n32 u) (n32 v) ok _ H).mono ?_
    rintro e w2 ⟨rfl, hbw2⟩
    have Tw2 : TL w [(w.heap.size, [.int .i64 x1, .int .i64 x2, .int .i64 x3])] w2 := TL.below (Tw1) hbw2
    clear hbw2
    have xw200 : w2.cell? ⟨w.heap.size, 0, none⟩ = some (.int .i64 x1) := Tw2.2.1.2.1.1
    have xw201 : w2.cell? ⟨w.heap.size, 1, none⟩ = some (.int .i64 x2) := Tw2.2.1.2.2.1.1
    have xw202 : w2.cell? ⟨w.heap.size, 2, none⟩ = some (.int .i64 x3) := Tw2.2.1.2.2.2.1.1
    have lw20 := Tw2.2.1.1
    go_wp2_with fail
    refine (singleAlike_self _ _ _ NX.out NY.out).mono ?_
    rintro e _ ⟨rfl, rfl⟩
    cases ok
    · go_wp2_with fail
      refine (singleAlike_self _ _ _ NX.out NY.out).mono ?_
      rintro e _ ⟨rfl, rfl⟩
      go_wp2_with fail
      go_ret
      exact ⟨rfl, into hb0 (Tw2).1.1 hb0.size⟩
    go_wp2_with fail
    refine (wide_any _ _ _ u v true _ HW).mono ?_
    rintro e w3 ⟨rfl, hbw3⟩
    have Tw3 : TL w [(w.heap.size, [.int .i64 x1, .int .i64 x2, .int .i64 x3])] w3 := TL.below (Tw2) hbw3
    clear hbw3
    have xw300 : w3.cell? ⟨w.heap.size, 0, none⟩ = some (.int .i64 x1) := Tw3.2.1.2.1.1
    have xw301 : w3.cell? ⟨w.heap.size, 1, none⟩ = some (.int .i64 x2) := Tw3.2.1.2.2.1.1
    have xw302 : w3.cell? ⟨w.heap.size, 2, none⟩ = some (.int .i64 x3) := Tw3.2.1.2.2.2.1.1
    have lw30 := Tw3.2.1.1
    go_wp2_with fail
    refine (singleAlike_self _ _ _ NX.out NY.out).mono ?_
    rintro e _ ⟨rfl, rfl⟩
    go_wp2_with fail
    go_ret
    exact ⟨rfl, into hb0 (Tw3).1.1 hb0.size⟩

end Go.Proofs.Ytmhdklhdnmpabaa
