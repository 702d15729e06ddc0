/-
  THE DRAWS of wide and single numbers, with what is known of them; quotients. Condition: the bytes that came in.
-/
import Derived.Test.YtanodgboimjmoaaWs
import Derived.Test.YtanodgboimjmoaaWv
import Derived.Test.YtanodgboimjmoaaFq
namespace Go.Proofs.Ytanodgboimjmoaa
open Go.RowKit
open PL
open FL (Dr Dr32)

theorem RD.drewM {B g K : Nat} {w : World} (h : RD B g K w) (n : Nat) : RD B g K (w.drewN n) := RD.below h (below_drewN (Below.refl _ _) n)

set_option maxHeartbeats 4000000 in
theorem l91Float_dr (B g K : Nat) (w : World) (HR : RD B g K w) (hK : K ≤ 9000) :
    Calls Try.prog 35 #[.pointer (some ⟨g, 0, none⟩)] w fun e w' =>
      ∃ x : Nat, e = .returned (.float .f64 x) ∧ Bex g w w' ∧ RD B g (K + 2) w' ∧ Dr x := by
  have hn := fun w => run_neg (P := Try.prog) 0 w
  have k0 := fun w => run_float_arith (P := Try.prog) w .mul 32 .f64 (FL.neg 0) 4607182418800017408 9223372036854775808 (by decide +kernel)
  have k1 := fun w => run_float_arith (P := Try.prog) w .quo 32 .f64 4607182418800017408 0 9218868437227405312 (by decide +kernel)
  go_enter Try.func35, Try.ntmps35
  go_wp2_with fail
  refine (pick_any B g K 20 _ HR (by omega) (by omega) (by omega)).mono ?_
  rintro e w1 ⟨v, rfl, v0, v1, X1, R1⟩
  by_cases n0 : v = 0
  · subst n0
    go_wp2_with fail
    go_ret
    exact ⟨_, rfl, X1, R1.mono (by omega), .inl (by decide +kernel)⟩
  have e0 : (v == 0) = false := by simpa using n0
  by_cases n1 : v = 1
  · subst n1
    go_wp2_with fail
    go_ret
    exact ⟨_, rfl, X1, R1.mono (by omega), .inr (.inl rfl)⟩
  have e1 : (v == 1) = false := by simpa using n1
  by_cases n2 : v = 2
  · subst n2
    obtain ⟨r, n, er, hr⟩ := FL.arith_run (P := Try.prog) .quo (by simp) 32 0 0 w1
    have hr2 : FL.isNan r = true := FL.N_none (hr.trans (by decide +kernel))
    clear hr
    go_wp2_with fail
    go_ret
    exact ⟨_, rfl, X1.drewN _, (R1.drewM _).mono (by omega), .inr (.inr hr2)⟩
  have e2 : (v == 2) = false := by simpa using n2
  by_cases n3 : v = 3
  · subst n3
    go_wp2_with fail
    go_ret
    exact ⟨_, rfl, X1, R1.mono (by omega), .inl (by decide +kernel)⟩
  have e3 : (v == 3) = false := by simpa using n3
  by_cases n4 : v = 4
  · subst n4
    go_wp2_with fail
    go_ret
    exact ⟨_, rfl, X1, R1.mono (by omega), .inl (by decide +kernel)⟩
  have e4 : (v == 4) = false := by simpa using n4
  by_cases n5 : v = 5
  · subst n5
    go_wp2_with fail
    go_ret
    exact ⟨_, rfl, X1, R1.mono (by omega), .inl (by decide +kernel)⟩
  have e5 : (v == 5) = false := by simpa using n5
  go_wp2_with fail
  refine (pick_any B g (K + 1) 33 _ R1 (by omega) (by omega) (by omega)).mono ?_
  rintro e w2 ⟨u, rfl, u0, u1, X2, R2⟩
  obtain ⟨r, hr, hd⟩ := FL.quarter u u0 u1
  have kq := fun w => run_float_arith (P := Try.prog) w .quo 32 .f64 _ _ _ hr
  clear hr
  go_wp2_with fail
  go_ret
  exact ⟨_, rfl, X1.trans X2, R2.mono (by omega), hd⟩

set_option maxHeartbeats 4000000 in
theorem l91Wide_dr (B g K : Nat) (w : World) (HR : RD B g K w) (hK : K ≤ 8000) :
    Calls Try.prog 31 #[.pointer (some ⟨g, 0, none⟩)] w fun e w' =>
      ∃ x y : Nat, e = .returned (.complex .f64 x y) ∧ Bex g w w' ∧ RD B g (K + 4) w' ∧ Dr x ∧ Dr y := by
  go_enter Try.func31, Try.ntmps31
  go_wp2_with fail
  refine (l91Float_dr B g K _ HR (by omega)).mono ?_
  rintro e w1 ⟨x, rfl, X1, R1, d1⟩
  go_wp2_with fail
  refine (l91Float_dr B g _ _ R1 (by omega)).mono ?_
  rintro e w2 ⟨y, rfl, X2, R2, d2⟩
  go_wp2_with fail
  go_ret
  exact ⟨_, _, rfl, X1.trans X2, R2, d1, d2⟩

set_option maxHeartbeats 4000000 in
theorem l91Wides_dr (a : Option Addr) (len cap : Nat) (w : World) (hB : BytesIn w a len cap) :
    Calls Try.prog 30 #[.slice a len cap] w fun e w' =>
      ∃ x1 y1 x2 y2 : Nat, e = .returned (.tuple #[.complex .f64 x1 y1, .complex .f64 x2 y2]) ∧ (Dr x1 ∧ Dr y1 ∧ Dr x2 ∧ Dr y2) ∧ Below w.heap.size w w' := by
  go_enter Try.func30, Try.ntmps30
  go_wp2_with fail
  refine (l6Open_any a len cap w hB).mono ?_
  rintro e w1 ⟨g, rfl, hb1, R1⟩
  go_wp2_with fail
  refine (l91Wide_dr _ g 0 _ R1 (by omega)).mono ?_
  rintro e w2 ⟨x1, y1, rfl, X2, R2, d1, d2⟩
  go_wp2_with fail
  refine (pick_any _ g _ 4 _ R2 (by omega) (by omega) (by omega)).mono ?_
  rintro e w3 ⟨v, rfl, v0, v1, X3, R3⟩
  by_cases n0 : v = 0
  · subst n0
    go_wp2_with fail
    go_ret2
    exact ⟨_, _, _, _, rfl, ⟨d1, d2, d1, d2⟩, drawn hb1 R1 (X2.trans X3)⟩
  have e0 : (v == 0) = false := by simpa using n0
  go_wp2_with fail
  refine (l91Wide_dr _ g _ _ R3 (by omega)).mono ?_
  rintro e w4 ⟨x2, y2, rfl, X4, R4, d3, d4⟩
  go_wp2_with fail
  go_ret2
  exact ⟨_, _, _, _, rfl, ⟨d1, d2, d3, d4⟩, drawn hb1 R1 ((X2.trans X3).trans X4)⟩

set_option maxHeartbeats 4000000 in
theorem DrawWideOver_dr (a : Option Addr) (len cap : Nat) (w : World) (hB : BytesIn w a len cap) :
    Calls Try.prog 27 #[.slice a len cap] w fun e w' =>
      ∃ x1 y1 x2 y2 : Nat, e = .returned (.tuple #[.complex .f64 x1 y1, .complex .f64 x2 y2]) ∧ (Dr x1 ∧ Dr y1 ∧ Dr x2 ∧ Dr y2) ∧ Below w.heap.size w w' := by
  go_enter Try.func27, Try.ntmps27
  go_wp2_with fail
  refine (l91Wides_dr a len cap w hB).mono ?_
  rintro e w1 ⟨x1, y1, x2, y2, rfl, hd, hb⟩
  go_wp2_with fail
  go_ret2
  exact ⟨_, _, _, _, rfl, hd, hb⟩

set_option maxHeartbeats 4000000 in
theorem l91Singles_dr (a : Option Addr) (len cap : Nat) (w : World) (hB : BytesIn w a len cap) :
    Calls Try.prog 33 #[.slice a len cap] w fun e w' =>
      ∃ x1 y1 x2 y2 : Nat, e = .returned (.tuple #[.complex .f32 x1 y1, .complex .f32 x2 y2]) ∧ (Dr32 x1 ∧ Dr32 y1 ∧ Dr32 x2 ∧ Dr32 y2) ∧ Below w.heap.size w w' := by
  go_enter Try.func33, Try.ntmps33
  go_wp2_with fail
  refine (l91Wides_dr a len cap w hB).mono ?_
  rintro e w1 ⟨x1, y1, x2, y2, rfl, ⟨d1, d2, d3, d4⟩, hb⟩
  obtain ⟨u1, v1, n1, k1, q1, q2⟩ := FL.narrow_complex (P := Try.prog) 23 33 x1 y1 Try.underlying23 Try.underlying33 d1 d2 w1
  obtain ⟨u2, v2, n2, k2, q3, q4⟩ := FL.narrow_complex (P := Try.prog) 23 33 x2 y2 Try.underlying23 Try.underlying33 d3 d4 (w1.drewN n1)
  go_wp2_with fail
  go_ret2
  exact ⟨_, _, _, _, rfl, ⟨q1, q2, q3, q4⟩, below_drewN hb _⟩

set_option maxHeartbeats 4000000 in
theorem DrawSingleUnlike_dr (a : Option Addr) (len cap : Nat) (w : World) (hB : BytesIn w a len cap) :
    Calls Try.prog 20 #[.slice a len cap] w fun e w' =>
      ∃ x1 y1 x2 y2 : Nat, e = .returned (.tuple #[.complex .f32 x1 y1, .complex .f32 x2 y2]) ∧ (Dr32 x1 ∧ Dr32 y1 ∧ Dr32 x2 ∧ Dr32 y2) ∧ Below w.heap.size w w' := by
  go_enter Try.func20, Try.ntmps20
  go_wp2_with fail
  refine (l91Singles_dr a len cap w hB).mono ?_
  rintro e w1 ⟨x1, y1, x2, y2, rfl, hd, hb⟩
  go_wp2_with fail
  go_ret2
  exact ⟨_, _, _, _, rfl, hd, hb⟩

set_option maxHeartbeats 4000000 in
theorem wover_N (a b c d : Nat) (q : Option Nat × Option Nat) (hq : ∀ w, ∃ e f n, (binOp .quo 23 (.complex .f64 a b) (.complex .f64 c d)).run Try.prog w = .ok (.complex .f64 e f) (w.drewN n) ∧ FL.N e = q.1 ∧ FL.N f = q.2) (w : World) :
    Calls Try.prog 28 #[.complex .f64 a b, .complex .f64 c d] w fun r w' => ∃ e f n : Nat, r = .returned (.complex .f64 e f) ∧ w' = w.drewN n ∧ FL.N e = q.1 ∧ FL.N f = q.2 := by
  obtain ⟨e, f, n, k, h1, h2⟩ := hq w
  clear hq
  go_enter Try.func28, Try.ntmps28
  go_wp2_with fail
  go_ret
  exact ⟨e, f, n, rfl, rfl, h1, h2⟩

set_option maxHeartbeats 4000000 in
theorem swover_N (a b c d : Nat) (q : Option Nat × Option Nat) (hq : ∀ w, ∃ e f n, (binOp .quo 23 (.complex .f64 a b) (.complex .f64 c d)).run Try.prog w = .ok (.complex .f64 e f) (w.drewN n) ∧ FL.N e = q.1 ∧ FL.N f = q.2) (w : World) :
    Calls Try.prog 29 #[.complex .f64 a b, .complex .f64 c d] w fun r w' => ∃ e f n : Nat, r = .returned (.complex .f64 e f) ∧ w' = w.drewN n ∧ FL.N e = q.1 ∧ FL.N f = q.2 := by
  obtain ⟨e, f, n, k, h1, h2⟩ := hq w
  clear hq
  go_enter Try.func29, Try.ntmps29
  go_wp2_with fail
  go_ret
  exact ⟨e, f, n, rfl, rfl, h1, h2⟩

set_option maxHeartbeats 4000000 in
theorem wover_one (a b : Nat) (e f : Nat) (hq : ∀ w, (binOp .quo 23 (.complex .f64 a b) (.complex .f64 4607182418800017408 0)).run Try.prog w = .ok (.complex .f64 e f) w) (w : World) :
    Calls Try.prog 28 #[.complex .f64 a b, .complex .f64 4607182418800017408 0] w fun r w' => r = .returned (.complex .f64 e f) ∧ w' = w := by
  go_enter Try.func28, Try.ntmps28
  go_wp2_with fail
  go_ret
  exact ⟨rfl, rfl⟩

end Go.Proofs.Ytanodgboimjmoaa
