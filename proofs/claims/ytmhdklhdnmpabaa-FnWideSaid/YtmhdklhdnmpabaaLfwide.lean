/-
  THE WALK of FnWide: for all bytes it returns true and turns nothing old.
-/
import Derived.Test.YtmhdklhdnmpabaaWz
import Derived.Test.YtmhdklhdnmpabaaWv
namespace Go.Proofs.Ytmhdklhdnmpabaa
open Go.RowKit
open PL

set_option maxHeartbeats 8000000 in
theorem FnWide_walk (ad : Option Addr) (len cap : Nat) (w0 : World) (hB : BytesIn w0 ad len cap) :
    Calls Try.prog 4 #[.slice ad len cap] w0 fun e w' =>
      e = .returned (.bool true) ∧ Below w0.heap.size w0 w' := by
  go_enter Try.func4, Try.ntmps4
  by_cases hl : (len : Int) > 1048576
  · go_wp2_with fail
    go_ret
    exact ⟨rfl, Below.refl _ _⟩
  · go_wp2_with fail
    refine (DrawFracWide_few ad len cap w0 hB).mono ?_
    rintro e w ⟨x1, x2, x3, rfl, FW, hb0⟩
    obtain ⟨⟨u, v⟩, ok, hw⟩ : ∃ r o, wide ⟨x1, x2, x3⟩ = (r, o) := ⟨_, _, rfl⟩
    have HW := Lib.hid hw
    go_wp2_with fail
    refine (wide_any _ _ _ u v ok _ HW).mono ?_
    rintro e w1 ⟨rfl, hbw1⟩
    have Tw1 : TL w [(w.heap.size, [.int .i64 x1, .int .i64 x2, .int .i64 x3])] w1 := TL.below (TL.new (t := 24) (TL.refl w) rfl) hbw1
    clear hbw1
    have xw100 : w1.cell? ⟨w.heap.size, 0, none⟩ = some (.int .i64 x1) := Tw1.2.1.2.1.1
    have xw101 : w1.cell? ⟨w.heap.size, 1, none⟩ = some (.int .i64 x2) := Tw1.2.1.2.2.1.1
    have xw102 : w1.cell? ⟨w.heap.size, 2, none⟩ = some (.int .i64 x3) := Tw1.2.1.2.2.2.1.1
    have lw10 := Tw1.2.1.1
    go_wp2_with fail
    refine (swide_any _ _ _ u v ok _ HW).mono ?_
    rintro e w2 ⟨rfl, hbw2⟩
    have Tw2 : TL w [(w.heap.size, [.int .i64 x1, .int .i64 x2, .int .i64 x3])] w2 := TL.below (Tw1) hbw2
    clear hbw2
    have xw200 : w2.cell? ⟨w.heap.size, 0, none⟩ = some (.int .i64 x1) := Tw2.2.1.2.1.1
    have xw201 : w2.cell? ⟨w.heap.size, 1, none⟩ = some (.int .i64 x2) := Tw2.2.1.2.2.1.1
    have xw202 : w2.cell? ⟨w.heap.size, 2, none⟩ = some (.int .i64 x3) := Tw2.2.1.2.2.2.1.1
    have lw20 := Tw2.2.1.1
    go_wp2_with fail
    refine (wideAlike_N _ _ _ _ _ rfl rfl).mono ?_
    rintro e _ ⟨rfl, rfl⟩
    cases ok
    · clear hw FW
      go_wp2_with fail
      refine (wideAlike_N _ _ _ _ _ rfl rfl).mono ?_
      rintro e _ ⟨rfl, rfl⟩
      go_wp2_with fail
      go_ret
      exact ⟨rfl, into hb0 (Tw2).1.1 hb0.size⟩
    have hv : valid ⟨x1, x2, x3⟩ = true := by
      cases hv : valid ⟨x1, x2, x3⟩
      · rw [wide_no hv] at hw; cases hw
      · rfl
    rw [wide_yes hv] at hw
    simp only [Prod.mk.injEq] at hw
    obtain ⟨⟨hu, hv2⟩, -⟩ := hw
    obtain ⟨m1, e1, a1, b1, c1, d1, f1⟩ := near (FW hv).1
    obtain ⟨m2, e2, a2, b2, c2, d2, f2⟩ := near (FW hv).2
    rw [hu] at a1 f1
    rw [hv2] at a2 f2
    have k1 := fun w => run_float_arith (P := Try.prog) w .mul 37 .f64 _ _ _ a1
    have k2 := fun w => run_float_arith (P := Try.prog) w .sub 37 .f64 _ _ _ b1
    have k3 := fun w => run_float_arith (P := Try.prog) w .mul 37 .f64 _ _ _ a2
    have k4 := fun w => run_float_arith (P := Try.prog) w .sub 37 .f64 _ _ _ b2
    clear hv hu hv2 FW a1 a2 b1 b2
    by_cases h1 : x3 = 1
    · have g1 := f1 h1
      have g2 := f2 h1
      have hn : (x3 != 1) = false := by simpa using h1
      clear f1 f2 h1
      go_wp2_with fail
      (first | go_quiet (fail) | skip)
      go_wp2_with fail
      go_ret
      exact ⟨rfl, by first | exact into hb0 (Tw2).1.1 hb0.size | exact into hb0 (TL.drewN (Tw2) _).1.1 hb0.size⟩
    · have hn : (x3 != 1) = true := by simpa using h1
      clear f1 f2 h1
      go_wp2_with fail
      (first | go_quiet (fail) | skip)
      go_wp2_with fail
      go_ret
      exact ⟨rfl, by first | exact into hb0 (Tw2).1.1 hb0.size | exact into hb0 (TL.drewN (Tw2) _).1.1 hb0.size⟩

end Go.Proofs.Ytmhdklhdnmpabaa
