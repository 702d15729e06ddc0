/-
  THE WALK of FnMake: for all bytes it returns true and turns nothing old.
-/
import Derived.Test.YtfoafahmjlagcaaWs
import Derived.Test.YtfoafahmjlagcaaPf
namespace Go.Proofs.Ytfoafahmjlagcaa
open Go.RowKit
open PL

set_option maxHeartbeats 8000000 in
theorem FnMake_walk (ad : Option Addr) (len cap : Nat) (w0 : World) (hB : BytesIn w0 ad len cap) :
    Calls Try.prog 3 #[.slice ad len cap] w0 fun e w' =>
      e = .returned (.bool true) ∧ Below w0.heap.size w0 w' := by
  go_enter Try.func3, Try.ntmps3
  by_cases hl : (len : Int) > 1048576
  · go_wp2_with fail
    go_ret
    exact ⟨rfl, Below.refl _ _⟩
  · go_wp2_with fail
    refine (DrawFracMake_any ad len cap w0 hB).mono ?_
    rintro e w ⟨x, y, z, rfl, bx, bY, bz, hb0⟩
    obtain ⟨⟨p, q, d⟩, ok, H0⟩ : ∃ r o, make x y z = (r, o) := ⟨_, _, rfl⟩
    have H := Lib.hid H0
    go_wp2_with fail
    refine (make_any _ _ _ p q d ok _ H).mono ?_
    rintro e w1 ⟨rfl, hbw1⟩
    have Tw1 : TL w [] w1 := TL.below (TL.refl w) hbw1
    clear hbw1
    go_wp2_with fail
    refine (smake_any _ _ _ p q d ok _ H).mono ?_
    rintro e w2 ⟨rfl, hbw2⟩
    have Tw2 : TL w [(w1.heap.size, [.int .i64 p, .int .i64 q, .int .i64 d])] w2 := TL.below (TL.new (t := 26) (Tw1) rfl) hbw2
    clear hbw2
    have xw200 : w2.cell? ⟨w1.heap.size, 0, none⟩ = some (.int .i64 p) := Tw2.2.1.2.1.1
    have xw201 : w2.cell? ⟨w1.heap.size, 1, none⟩ = some (.int .i64 q) := Tw2.2.1.2.2.1.1
    have xw202 : w2.cell? ⟨w1.heap.size, 2, none⟩ = some (.int .i64 d) := Tw2.2.1.2.2.2.1.1
    have lw20 := Tw2.2.1.1
    cases ok
    · go_wp2_with fail
      go_ret
      exact ⟨rfl, into hb0 (TL.new (t := 26) (Tw2) rfl).1.1 hb0.size⟩
    obtain ⟨⟨p1, p2, p3⟩, o1, H3⟩ : ∃ r o, make (2 * x) (2 * y) (2 * z) = (r, o) := ⟨_, _, rfl⟩
    have H1 := Lib.hid H3
    have V := valid_iff.2 (make_got H0).2.1
    go_wp2_with fail
    refine (make_any _ _ _ p1 p2 p3 o1 _ H1).mono ?_
    rintro e w3 ⟨rfl, hbw3⟩
    have Tw3 : TL w [(w2.heap.size, [.int .i64 p, .int .i64 q, .int .i64 d]), (w1.heap.size, [.int .i64 p, .int .i64 q, .int .i64 d])] w3 := TL.below (TL.new (t := 26) (Tw2) rfl) hbw3
    clear hbw3
    have xw300 : w3.cell? ⟨w2.heap.size, 0, none⟩ = some (.int .i64 p) := Tw3.2.1.2.1.1
    have xw301 : w3.cell? ⟨w2.heap.size, 1, none⟩ = some (.int .i64 q) := Tw3.2.1.2.2.1.1
    have xw302 : w3.cell? ⟨w2.heap.size, 2, none⟩ = some (.int .i64 d) := Tw3.2.1.2.2.2.1.1
    have xw310 : w3.cell? ⟨w1.heap.size, 0, none⟩ = some (.int .i64 p) := Tw3.2.2.1.2.1.1
    have xw311 : w3.cell? ⟨w1.heap.size, 1, none⟩ = some (.int .i64 q) := Tw3.2.2.1.2.2.1.1
    have xw312 : w3.cell? ⟨w1.heap.size, 2, none⟩ = some (.int .i64 d) := Tw3.2.2.1.2.2.2.1.1
    have lw30 := Tw3.2.1.1
    have lw31 := Tw3.2.2.1.1
    go_wp2_with fail
    refine (valid_any _ _ _ true _ V).mono ?_
    rintro e w4 ⟨rfl, hbw4⟩
    have Tw4 : TL w [(w3.heap.size, [.int .i64 p1, .int .i64 p2, .int .i64 p3]), (w2.heap.size, [.int .i64 p, .int .i64 q, .int .i64 d]), (w1.heap.size, [.int .i64 p, .int .i64 q, .int .i64 d])] w4 := TL.below (TL.new (t := 26) (Tw3) rfl) hbw4
    clear hbw4
    have xw400 : w4.cell? ⟨w3.heap.size, 0, none⟩ = some (.int .i64 p1) := Tw4.2.1.2.1.1
    have xw401 : w4.cell? ⟨w3.heap.size, 1, none⟩ = some (.int .i64 p2) := Tw4.2.1.2.2.1.1
    have xw402 : w4.cell? ⟨w3.heap.size, 2, none⟩ = some (.int .i64 p3) := Tw4.2.1.2.2.2.1.1
    have xw410 : w4.cell? ⟨w2.heap.size, 0, none⟩ = some (.int .i64 p) := Tw4.2.2.1.2.1.1
    have xw411 : w4.cell? ⟨w2.heap.size, 1, none⟩ = some (.int .i64 q) := Tw4.2.2.1.2.2.1.1
    have xw412 : w4.cell? ⟨w2.heap.size, 2, none⟩ = some (.int .i64 d) := Tw4.2.2.1.2.2.2.1.1
    have xw420 : w4.cell? ⟨w1.heap.size, 0, none⟩ = some (.int .i64 p) := Tw4.2.2.2.1.2.1.1
    have xw421 : w4.cell? ⟨w1.heap.size, 1, none⟩ = some (.int .i64 q) := Tw4.2.2.2.1.2.2.1.1
    have xw422 : w4.cell? ⟨w1.heap.size, 2, none⟩ = some (.int .i64 d) := Tw4.2.2.2.1.2.2.2.1.1
    have lw40 := Tw4.2.1.1
    have lw41 := Tw4.2.2.1.1
    have lw42 := Tw4.2.2.2.1.1
    cases o1
    · go_wp2_with fail
      go_ret
      exact ⟨rfl, into hb0 (Tw4).1.1 hb0.size⟩
    · have e := make_twice H0 H3
      simp only [Fr.mk.injEq] at e
      obtain ⟨e1, e2, e3⟩ := e
      subst p1
      subst p2
      subst p3
      go_wp2_with fail
      go_ret
      exact ⟨rfl, into hb0 (Tw4).1.1 hb0.size⟩

end Go.Proofs.Ytfoafahmjlagcaa
