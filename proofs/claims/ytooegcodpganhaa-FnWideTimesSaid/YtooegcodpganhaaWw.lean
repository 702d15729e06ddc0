/-
  THE DRAWS of wide numbers: some floats. Condition: the bytes that came in.
-/
import Derived.Test.YtooegcodpganhaaWs
import Derived.Test.YtooegcodpganhaaWv
namespace Go.Proofs.Ytooegcodpganhaa
open Go.RowKit
open PL

theorem RD.drewN {B g K : Nat} {w : World} (h : RD B g K w) (n : Nat) : RD B g K (w.drewN n) := RD.below h (below_drewN (Below.refl _ _) n)

set_option maxHeartbeats 4000000 in
theorem l91Float_any (B g K : Nat) (w : World) (HR : RD B g K w) (hK : K ≤ 9000) :
    Calls Try.prog 26 #[.pointer (some ⟨g, 0, none⟩)] w fun e w' =>
      ∃ x : Nat, e = .returned (.float .f64 x) ∧ Bex g w w' ∧ RD B g (K + 2) w' := by
  have hn := fun w => run_neg (P := Try.prog) 0 w
  go_enter Try.func26, Try.ntmps26
  go_wp2_with fail
  refine (pick_any B g K 20 _ HR (by omega) (by omega) (by omega)).mono ?_
  rintro e w1 ⟨v, rfl, v0, v1, X1, R1⟩
  by_cases n0 : v = 0
  · subst n0
    obtain ⟨r, n, er, -⟩ := FL.arith_run (P := Try.prog) .mul (by simp) 35 (FL.neg 0) 4607182418800017408 w1
    go_wp2_with fail
    go_ret
    exact ⟨_, rfl, X1.drewN _, (R1.drewN _).mono (by omega)⟩
  have e0 : (v == 0) = false := by simpa using n0
  by_cases n1 : v = 1
  · subst n1
    obtain ⟨r, n, er, -⟩ := FL.arith_run (P := Try.prog) .quo (by simp) 35 4607182418800017408 0 w1
    go_wp2_with fail
    go_ret
    exact ⟨_, rfl, X1.drewN _, (R1.drewN _).mono (by omega)⟩
  have e1 : (v == 1) = false := by simpa using n1
  by_cases n2 : v = 2
  · subst n2
    obtain ⟨r, n, er, -⟩ := FL.arith_run (P := Try.prog) .quo (by simp) 35 0 0 w1
    go_wp2_with fail
    go_ret
    exact ⟨_, rfl, X1.drewN _, (R1.drewN _).mono (by omega)⟩
  have e2 : (v == 2) = false := by simpa using n2
  by_cases n3 : v = 3
  · subst n3
    go_wp2_with fail
    go_ret
    exact ⟨_, rfl, X1, R1.mono (by omega)⟩
  have e3 : (v == 3) = false := by simpa using n3
  by_cases n4 : v = 4
  · subst n4
    go_wp2_with fail
    go_ret
    exact ⟨_, rfl, X1, R1.mono (by omega)⟩
  have e4 : (v == 4) = false := by simpa using n4
  by_cases n5 : v = 5
  · subst n5
    go_wp2_with fail
    go_ret
    exact ⟨_, rfl, X1, R1.mono (by omega)⟩
  have e5 : (v == 5) = false := by simpa using n5
  go_wp2_with fail
  refine (pick_any B g (K + 1) 33 _ R1 (by omega) (by omega) (by omega)).mono ?_
  rintro e w2 ⟨u, rfl, u0, u1, X2, R2⟩
  obtain ⟨r, n, er, -⟩ := FL.arith_run (P := Try.prog) .quo (by simp) 35 (floatOfInt .f64 (u - 16)) 4616189618054758400 w2
  go_wp2_with fail
  go_ret
  exact ⟨_, rfl, (X1.trans X2).drewN _, (R2.drewN _).mono (by omega)⟩

set_option maxHeartbeats 4000000 in
theorem l91Wide_any (B g K : Nat) (w : World) (HR : RD B g K w) (hK : K ≤ 8000) :
    Calls Try.prog 24 #[.pointer (some ⟨g, 0, none⟩)] w fun e w' =>
      ∃ x y : Nat, e = .returned (.complex .f64 x y) ∧ Bex g w w' ∧ RD B g (K + 4) w' := by
  go_enter Try.func24, Try.ntmps24
  go_wp2_with fail
  refine (l91Float_any B g K _ HR (by omega)).mono ?_
  rintro e w1 ⟨x, rfl, X1, R1⟩
  go_wp2_with fail
  refine (l91Float_any B g _ _ R1 (by omega)).mono ?_
  rintro e w2 ⟨y, rfl, X2, R2⟩
  go_wp2_with fail
  go_ret
  exact ⟨_, _, rfl, X1.trans X2, R2⟩

set_option maxHeartbeats 4000000 in
theorem l91Wides_any (a : Option Addr) (len cap : Nat) (w : World) (hB : BytesIn w a len cap) :
    Calls Try.prog 19 #[.slice a len cap] w fun e w' =>
      ∃ x1 y1 x2 y2 : Nat, e = .returned (.tuple #[.complex .f64 x1 y1, .complex .f64 x2 y2]) ∧ Below w.heap.size w w' := by
  go_enter Try.func19, Try.ntmps19
  go_wp2_with fail
  refine (l6Open_any a len cap w hB).mono ?_
  rintro e w1 ⟨g, rfl, hb1, R1⟩
  go_wp2_with fail
  refine (l91Wide_any _ g 0 _ R1 (by omega)).mono ?_
  rintro e w2 ⟨x1, y1, rfl, X2, R2⟩
  go_wp2_with fail
  refine (pick_any _ g _ 4 _ R2 (by omega) (by omega) (by omega)).mono ?_
  rintro e w3 ⟨v, rfl, v0, v1, X3, R3⟩
  by_cases n0 : v = 0
  · subst n0
    go_wp2_with fail
    go_ret2
    exact ⟨_, _, _, _, rfl, drawn hb1 R1 (X2.trans X3)⟩
  have e0 : (v == 0) = false := by simpa using n0
  go_wp2_with fail
  refine (l91Wide_any _ g _ _ R3 (by omega)).mono ?_
  rintro e w4 ⟨x2, y2, rfl, X4, R4⟩
  go_wp2_with fail
  go_ret2
  exact ⟨_, _, _, _, rfl, drawn hb1 R1 ((X2.trans X3).trans X4)⟩

set_option maxHeartbeats 4000000 in
theorem DrawWideTimes_any (a : Option Addr) (len cap : Nat) (w : World) (hB : BytesIn w a len cap) :
    Calls Try.prog 6 #[.slice a len cap] w fun e w' =>
      ∃ x1 y1 x2 y2 : Nat, e = .returned (.tuple #[.complex .f64 x1 y1, .complex .f64 x2 y2]) ∧ Below w.heap.size w w' := by
  go_enter Try.func6, Try.ntmps6
  go_wp2_with fail
  refine (l91Wides_any a len cap w hB).mono ?_
  rintro e w1 ⟨x1, y1, x2, y2, rfl, hb⟩
  go_wp2_with fail
  go_ret2
  exact ⟨_, _, _, _, rfl, hb⟩

end Go.Proofs.Ytooegcodpganhaa
