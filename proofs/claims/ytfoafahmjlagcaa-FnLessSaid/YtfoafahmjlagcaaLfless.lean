/-
  THE WALK of FnLess: for all bytes it returns true and turns nothing old.
-/
import Derived.Test.YtfoafahmjlagcaaWs
import Derived.Test.YtfoafahmjlagcaaPf
namespace Go.Proofs.Ytfoafahmjlagcaa
open Go.RowKit
open PL

set_option maxHeartbeats 8000000 in
theorem FnLess_walk (ad : Option Addr) (len cap : Nat) (w0 : World) (hB : BytesIn w0 ad len cap) :
    Calls Try.prog 7 #[.slice ad len cap] w0 fun e w' =>
      e = .returned (.bool true) ∧ Below w0.heap.size w0 w' := by
  go_enter Try.func7, Try.ntmps7
  by_cases hl : (len : Int) > 1048576
  · go_wp2_with fail
    go_ret
    exact ⟨rfl, Below.refl _ _⟩
  · go_wp2_with fail
    refine (DrawFracLess_any ad len cap w0 hB).mono ?_
    rintro e w ⟨x1, x2, x3, y1, y2, y3, rfl, hb0⟩
    obtain ⟨⟨p, q, d⟩, ok, H0⟩ : ∃ r o, less ⟨x1, x2, x3⟩ ⟨y1, y2, y3⟩ = (r, o) := ⟨_, _, rfl⟩
    have H := Lib.hid H0
    go_wp2_with fail
    refine (less_any _ _ _ _ _ _ p q d ok _ H).mono ?_
    rintro e w1 ⟨rfl, hbw1⟩
    have Tw1 : TL w [(w.heap.size + 1, [.int .i64 y1, .int .i64 y2, .int .i64 y3]), (w.heap.size, [.int .i64 x1, .int .i64 x2, .int .i64 x3])] w1 := TL.below (TL.new (t := 26) (TL.new (t := 26) (TL.refl w) rfl) (by simp)) hbw1
    clear hbw1
    have xw100 : w1.cell? ⟨w.heap.size + 1, 0, none⟩ = some (.int .i64 y1) := Tw1.2.1.2.1.1
    have xw101 : w1.cell? ⟨w.heap.size + 1, 1, none⟩ = some (.int .i64 y2) := Tw1.2.1.2.2.1.1
    have xw102 : w1.cell? ⟨w.heap.size + 1, 2, none⟩ = some (.int .i64 y3) := Tw1.2.1.2.2.2.1.1
    have xw110 : w1.cell? ⟨w.heap.size, 0, none⟩ = some (.int .i64 x1) := Tw1.2.2.1.2.1.1
    have xw111 : w1.cell? ⟨w.heap.size, 1, none⟩ = some (.int .i64 x2) := Tw1.2.2.1.2.2.1.1
    have xw112 : w1.cell? ⟨w.heap.size, 2, none⟩ = some (.int .i64 x3) := Tw1.2.2.1.2.2.2.1.1
    have lw10 := Tw1.2.1.1
    have lw11 := Tw1.2.2.1.1
    go_wp2_with fail
    refine (sless_any _ _ _ _ _ _ p q d ok _ H).mono ?_
    rintro e w2 ⟨rfl, hbw2⟩
    have Tw2 : TL w [(w1.heap.size, [.int .i64 p, .int .i64 q, .int .i64 d]), (w.heap.size + 1, [.int .i64 y1, .int .i64 y2, .int .i64 y3]), (w.heap.size, [.int .i64 x1, .int .i64 x2, .int .i64 x3])] w2 := TL.below (TL.new (t := 26) (Tw1) rfl) hbw2
    clear hbw2
    have xw200 : w2.cell? ⟨w1.heap.size, 0, none⟩ = some (.int .i64 p) := Tw2.2.1.2.1.1
    have xw201 : w2.cell? ⟨w1.heap.size, 1, none⟩ = some (.int .i64 q) := Tw2.2.1.2.2.1.1
    have xw202 : w2.cell? ⟨w1.heap.size, 2, none⟩ = some (.int .i64 d) := Tw2.2.1.2.2.2.1.1
    have xw210 : w2.cell? ⟨w.heap.size + 1, 0, none⟩ = some (.int .i64 y1) := Tw2.2.2.1.2.1.1
    have xw211 : w2.cell? ⟨w.heap.size + 1, 1, none⟩ = some (.int .i64 y2) := Tw2.2.2.1.2.2.1.1
    have xw212 : w2.cell? ⟨w.heap.size + 1, 2, none⟩ = some (.int .i64 y3) := Tw2.2.2.1.2.2.2.1.1
    have xw220 : w2.cell? ⟨w.heap.size, 0, none⟩ = some (.int .i64 x1) := Tw2.2.2.2.1.2.1.1
    have xw221 : w2.cell? ⟨w.heap.size, 1, none⟩ = some (.int .i64 x2) := Tw2.2.2.2.1.2.2.1.1
    have xw222 : w2.cell? ⟨w.heap.size, 2, none⟩ = some (.int .i64 x3) := Tw2.2.2.2.1.2.2.2.1.1
    have lw20 := Tw2.2.1.1
    have lw21 := Tw2.2.2.1.1
    have lw22 := Tw2.2.2.2.1.1
    cases ok
    · go_wp2_with fail
      go_ret
      exact ⟨rfl, into hb0 (TL.new (t := 26) (Tw2) rfl).1.1 hb0.size⟩
    have H1 := Lib.hid (add_of_less H0)
    have H2 := Lib.hid (less_of_less H0)
    have V := (less_got H0).2.2.1
    have V1 := V.1
    have V2 := V.2.1
    have V3 := V.2.2.1
    have V4 := V.2.2.2.1
    simp only at V1 V2 V3 V4
    clear H0 V
    go_wp2_with fail
    refine (add_any _ _ _ _ _ _ x1 x2 x3 true _ H1).mono ?_
    rintro e w3 ⟨rfl, hbw3⟩
    have Tw3 : TL w [(w2.heap.size, [.int .i64 p, .int .i64 q, .int .i64 d]), (w1.heap.size, [.int .i64 p, .int .i64 q, .int .i64 d]), (w.heap.size + 1, [.int .i64 y1, .int .i64 y2, .int .i64 y3]), (w.heap.size, [.int .i64 x1, .int .i64 x2, .int .i64 x3])] w3 := TL.below (TL.new (t := 26) (Tw2) rfl) hbw3
    clear hbw3
    have xw300 : w3.cell? ⟨w2.heap.size, 0, none⟩ = some (.int .i64 p) := Tw3.2.1.2.1.1
    have xw301 : w3.cell? ⟨w2.heap.size, 1, none⟩ = some (.int .i64 q) := Tw3.2.1.2.2.1.1
    have xw302 : w3.cell? ⟨w2.heap.size, 2, none⟩ = some (.int .i64 d) := Tw3.2.1.2.2.2.1.1
    have xw310 : w3.cell? ⟨w1.heap.size, 0, none⟩ = some (.int .i64 p) := Tw3.2.2.1.2.1.1
    have xw311 : w3.cell? ⟨w1.heap.size, 1, none⟩ = some (.int .i64 q) := Tw3.2.2.1.2.2.1.1
    have xw312 : w3.cell? ⟨w1.heap.size, 2, none⟩ = some (.int .i64 d) := Tw3.2.2.1.2.2.2.1.1
    have xw320 : w3.cell? ⟨w.heap.size + 1, 0, none⟩ = some (.int .i64 y1) := Tw3.2.2.2.1.2.1.1
    have xw321 : w3.cell? ⟨w.heap.size + 1, 1, none⟩ = some (.int .i64 y2) := Tw3.2.2.2.1.2.2.1.1
    have xw322 : w3.cell? ⟨w.heap.size + 1, 2, none⟩ = some (.int .i64 y3) := Tw3.2.2.2.1.2.2.2.1.1
    have xw330 : w3.cell? ⟨w.heap.size, 0, none⟩ = some (.int .i64 x1) := Tw3.2.2.2.2.1.2.1.1
    have xw331 : w3.cell? ⟨w.heap.size, 1, none⟩ = some (.int .i64 x2) := Tw3.2.2.2.2.1.2.2.1.1
    have xw332 : w3.cell? ⟨w.heap.size, 2, none⟩ = some (.int .i64 x3) := Tw3.2.2.2.2.1.2.2.2.1.1
    have lw30 := Tw3.2.1.1
    have lw31 := Tw3.2.2.1.1
    have lw32 := Tw3.2.2.2.1.1
    have lw33 := Tw3.2.2.2.2.1.1
    go_wp2_with fail
    refine (less_any _ _ _ _ _ _ (-p) (-q) d true _ H2).mono ?_
    rintro e w4 ⟨rfl, hbw4⟩
    have Tw4 : TL w [(w3.heap.size, [.int .i64 x1, .int .i64 x2, .int .i64 x3]), (w2.heap.size, [.int .i64 p, .int .i64 q, .int .i64 d]), (w1.heap.size, [.int .i64 p, .int .i64 q, .int .i64 d]), (w.heap.size + 1, [.int .i64 y1, .int .i64 y2, .int .i64 y3]), (w.heap.size, [.int .i64 x1, .int .i64 x2, .int .i64 x3])] w4 := TL.below (TL.new (t := 26) (Tw3) rfl) hbw4
    clear hbw4
    have xw400 : w4.cell? ⟨w3.heap.size, 0, none⟩ = some (.int .i64 x1) := Tw4.2.1.2.1.1
    have xw401 : w4.cell? ⟨w3.heap.size, 1, none⟩ = some (.int .i64 x2) := Tw4.2.1.2.2.1.1
    have xw402 : w4.cell? ⟨w3.heap.size, 2, none⟩ = some (.int .i64 x3) := Tw4.2.1.2.2.2.1.1
    have xw410 : w4.cell? ⟨w2.heap.size, 0, none⟩ = some (.int .i64 p) := Tw4.2.2.1.2.1.1
    have xw411 : w4.cell? ⟨w2.heap.size, 1, none⟩ = some (.int .i64 q) := Tw4.2.2.1.2.2.1.1
    have xw412 : w4.cell? ⟨w2.heap.size, 2, none⟩ = some (.int .i64 d) := Tw4.2.2.1.2.2.2.1.1
    have xw420 : w4.cell? ⟨w1.heap.size, 0, none⟩ = some (.int .i64 p) := Tw4.2.2.2.1.2.1.1
    have xw421 : w4.cell? ⟨w1.heap.size, 1, none⟩ = some (.int .i64 q) := Tw4.2.2.2.1.2.2.1.1
    have xw422 : w4.cell? ⟨w1.heap.size, 2, none⟩ = some (.int .i64 d) := Tw4.2.2.2.1.2.2.2.1.1
    have xw430 : w4.cell? ⟨w.heap.size + 1, 0, none⟩ = some (.int .i64 y1) := Tw4.2.2.2.2.1.2.1.1
    have xw431 : w4.cell? ⟨w.heap.size + 1, 1, none⟩ = some (.int .i64 y2) := Tw4.2.2.2.2.1.2.2.1.1
    have xw432 : w4.cell? ⟨w.heap.size + 1, 2, none⟩ = some (.int .i64 y3) := Tw4.2.2.2.2.1.2.2.2.1.1
    have xw440 : w4.cell? ⟨w.heap.size, 0, none⟩ = some (.int .i64 x1) := Tw4.2.2.2.2.2.1.2.1.1
    have xw441 : w4.cell? ⟨w.heap.size, 1, none⟩ = some (.int .i64 x2) := Tw4.2.2.2.2.2.1.2.2.1.1
    have xw442 : w4.cell? ⟨w.heap.size, 2, none⟩ = some (.int .i64 x3) := Tw4.2.2.2.2.2.1.2.2.2.1.1
    have lw40 := Tw4.2.1.1
    have lw41 := Tw4.2.2.1.1
    have lw42 := Tw4.2.2.2.1.1
    have lw43 := Tw4.2.2.2.2.1.1
    have lw44 := Tw4.2.2.2.2.2.1.1
    go_wp2_with fail
    go_ret
    exact ⟨rfl, into hb0 (TL.new (t := 26) (Tw4) rfl).1.1 hb0.size⟩

end Go.Proofs.Ytfoafahmjlagcaa
