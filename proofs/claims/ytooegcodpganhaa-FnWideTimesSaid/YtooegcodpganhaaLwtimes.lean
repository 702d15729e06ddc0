/-
  THE WALK of FnWideTimes: for all bytes it returns true and turns nothing old.
-/
import Derived.Test.YtooegcodpganhaaWw
namespace Go.Proofs.Ytooegcodpganhaa
open Go.RowKit
open PL

set_option maxHeartbeats 8000000 in
theorem FnWideTimes_walk (ad : Option Addr) (len cap : Nat) (w0 : World) (hB : BytesIn w0 ad len cap) :
    Calls Try.prog 3 #[.slice ad len cap] w0 fun e w' =>
      e = .returned (.bool true) ∧ Below w0.heap.size w0 w' := by
  go_enter Try.func3, Try.ntmps3
  by_cases hl : (len : Int) > 1048576
  · go_wp2_with fail
    go_ret
    exact ⟨rfl, Below.refl _ _⟩
  · go_wp2_with fail
    refine (DrawWideTimes_any ad len cap w0 hB).mono ?_
    rintro e w ⟨x, y, u, v, rfl, hb0⟩
    go_wp2_with fail
    refine (wtimes_any x y u v _).mono ?_
    rintro e w1 ⟨r1, s1, n1, rfl, hw1, g1, h1⟩
    have B1 : Below w0.heap.size w0 w1 := hw1 ▸ below_drewN hb0 n1
    clear hw1
    have G1 := Lib.hid g1
    have H1 := Lib.hid h1
    clear g1 h1
    go_wp2_with fail
    refine (swtimes_any x y u v _).mono ?_
    rintro e w2 ⟨r2, s2, n2, rfl, hw2, g2, h2⟩
    have B2 : Below w0.heap.size w0 w2 := hw2 ▸ below_drewN B1 n2
    clear hw2
    have G2 := Lib.hid (G1.out.trans g2.symm)
    have H2 := Lib.hid (H1.out.trans h2.symm)
    clear g2 h2
    go_wp2_with fail
    refine (wideAlike_N _ _ _ _ _ G2.out H2.out).mono ?_
    rintro e _ ⟨rfl, rfl⟩
    go_wp2_with fail
    refine (wtimes_any u v x y _).mono ?_
    rintro e w3 ⟨r3, s3, n3, rfl, hw3, g3, h3⟩
    have B3 : Below w0.heap.size w0 w3 := hw3 ▸ below_drewN B2 n3
    clear hw3
    have G3 := Lib.hid (show FL.N r3 = FL.N r1 by rw [g3, G1.out, FL.P2_mul_comm (FL.N u), FL.P2_mul_comm (FL.N v)])
    have H3 := Lib.hid (show FL.N s3 = FL.N s1 by rw [h3, H1.out, FL.P2_add_comm, FL.P2_mul_comm (FL.N v), FL.P2_mul_comm (FL.N u)])
    clear g3 h3
    go_wp2_with fail
    refine (mirrorw_any x y _).mono ?_
    rintro e _ ⟨rfl, rfl⟩
    go_wp2_with fail
    refine (mirrorw_any u v _).mono ?_
    rintro e _ ⟨rfl, rfl⟩
    go_wp2_with fail
    refine (wtimes_any x (FL.neg y) u (FL.neg v) _).mono ?_
    rintro e w4 ⟨r4, s4, n4, rfl, hw4, g4, h4⟩
    have B4 : Below w0.heap.size w0 w4 := hw4 ▸ below_drewN B3 n4
    clear hw4
    have G4 := Lib.hid (show FL.Loose (FL.N r4) (FL.N r1) by rw [g4, FL.N_neg, FL.N_neg, FL.P2_mul_neg2, ← G1.out]; exact FL.Loose.refl)
    have H4 := Lib.hid (show FL.Loose (FL.N s4) (FL.N (FL.neg s1)) by
      rw [h4, FL.N_neg s1, H1.out, FL.N_neg, FL.N_neg, FL.P2_mul_comm (FL.N x) ((FL.N v).map FL.neg), FL.P2_mul_neg, FL.P2_mul_neg, FL.P2_mul_comm (FL.N v)]
      exact FL.P2_add_neg _ _ (fun a h => FL.P2_notnan h) (fun a h => FL.P2_notnan h))
    clear g4 h4
    go_wp2_with fail
    refine (wideAlike_N _ _ _ _ _ G3.out H3.out).mono ?_
    rintro e _ ⟨rfl, rfl⟩
    go_wp2_with fail
    refine (mirrorw_any r1 s1 _).mono ?_
    rintro e _ ⟨rfl, rfl⟩
    go_wp2_with fail
    refine (looseWide_N _ _ _ _ _ G4.out H4.out).mono ?_
    rintro e _ ⟨rfl, rfl⟩
    go_wp2_with fail
    go_ret
    exact ⟨rfl, B4⟩

end Go.Proofs.Ytooegcodpganhaa
