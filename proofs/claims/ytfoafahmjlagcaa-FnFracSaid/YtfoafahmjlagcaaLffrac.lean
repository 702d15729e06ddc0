/-
  THE WALK of FnFrac: for all bytes it returns true and turns nothing old.
-/
import Derived.Test.YtfoafahmjlagcaaWs
import Derived.Test.YtfoafahmjlagcaaPf
namespace Go.Proofs.Ytfoafahmjlagcaa
open Go.RowKit
open PL

set_option maxHeartbeats 8000000 in
theorem FnFrac_walk (ad : Option Addr) (len cap : Nat) (w0 : World) (hB : BytesIn w0 ad len cap) :
    Calls Try.prog 4 #[.slice ad len cap] w0 fun e w' =>
      e = .returned (.bool true) ∧ Below w0.heap.size w0 w' := by
  go_enter Try.func4, Try.ntmps4
  by_cases hl : (len : Int) > 1048576
  · go_wp2_with fail
    go_ret
    exact ⟨rfl, Below.refl _ _⟩
  · go_wp2_with fail
    refine (DrawFracValid_any ad len cap w0 hB).mono ?_
    rintro e w ⟨x1, x2, x3, rfl, hb0⟩
    obtain ⟨ok, H0⟩ : ∃ o, valid ⟨x1, x2, x3⟩ = o := ⟨_, rfl⟩
    go_wp2_with fail
    refine (valid_any _ _ _ ok _ H0).mono ?_
    rintro e w1 ⟨rfl, hbw1⟩
    have Tw1 : TL w [(w.heap.size, [.int .i64 x1, .int .i64 x2, .int .i64 x3])] w1 := TL.below (TL.new (t := 26) (TL.refl w) rfl) hbw1
    clear hbw1
    have xw100 : w1.cell? ⟨w.heap.size, 0, none⟩ = some (.int .i64 x1) := Tw1.2.1.2.1.1
    have xw101 : w1.cell? ⟨w.heap.size, 1, none⟩ = some (.int .i64 x2) := Tw1.2.1.2.2.1.1
    have xw102 : w1.cell? ⟨w.heap.size, 2, none⟩ = some (.int .i64 x3) := Tw1.2.1.2.2.2.1.1
    have lw10 := Tw1.2.1.1
    go_wp2_with fail
    refine (svalid_any _ _ _ ok _ H0).mono ?_
    rintro e w2 ⟨rfl, hbw2⟩
    have Tw2 : TL w [(w.heap.size, [.int .i64 x1, .int .i64 x2, .int .i64 x3])] w2 := TL.below (Tw1) hbw2
    clear hbw2
    have xw200 : w2.cell? ⟨w.heap.size, 0, none⟩ = some (.int .i64 x1) := Tw2.2.1.2.1.1
    have xw201 : w2.cell? ⟨w.heap.size, 1, none⟩ = some (.int .i64 x2) := Tw2.2.1.2.2.1.1
    have xw202 : w2.cell? ⟨w.heap.size, 2, none⟩ = some (.int .i64 x3) := Tw2.2.1.2.2.2.1.1
    have lw20 := Tw2.2.1.1
    cases ok
    · go_wp2_with fail
      go_ret
      exact ⟨rfl, into hb0 (Tw2).1.1 hb0.size⟩
    have H1 := Lib.hid (make_self H0)
    have H2 := Lib.hid (less_self H0)
    go_wp2_with fail
    refine (make_any _ _ _ x1 x2 x3 true _ H1).mono ?_
    rintro e w3 ⟨rfl, hbw3⟩
    have Tw3 : TL w [(w.heap.size, [.int .i64 x1, .int .i64 x2, .int .i64 x3])] w3 := TL.below (Tw2) hbw3
    clear hbw3
    have xw300 : w3.cell? ⟨w.heap.size, 0, none⟩ = some (.int .i64 x1) := Tw3.2.1.2.1.1
    have xw301 : w3.cell? ⟨w.heap.size, 1, none⟩ = some (.int .i64 x2) := Tw3.2.1.2.2.1.1
    have xw302 : w3.cell? ⟨w.heap.size, 2, none⟩ = some (.int .i64 x3) := Tw3.2.1.2.2.2.1.1
    have lw30 := Tw3.2.1.1
    go_wp2_with fail
    refine (less_any _ _ _ _ _ _ 0 0 1 true _ H2).mono ?_
    rintro e w4 ⟨rfl, hbw4⟩
    have Tw4 : TL w [(w3.heap.size, [.int .i64 x1, .int .i64 x2, .int .i64 x3]), (w.heap.size, [.int .i64 x1, .int .i64 x2, .int .i64 x3])] w4 := TL.below (TL.new (t := 26) (Tw3) rfl) hbw4
    clear hbw4
    have xw400 : w4.cell? ⟨w3.heap.size, 0, none⟩ = some (.int .i64 x1) := Tw4.2.1.2.1.1
    have xw401 : w4.cell? ⟨w3.heap.size, 1, none⟩ = some (.int .i64 x2) := Tw4.2.1.2.2.1.1
    have xw402 : w4.cell? ⟨w3.heap.size, 2, none⟩ = some (.int .i64 x3) := Tw4.2.1.2.2.2.1.1
    have xw410 : w4.cell? ⟨w.heap.size, 0, none⟩ = some (.int .i64 x1) := Tw4.2.2.1.2.1.1
    have xw411 : w4.cell? ⟨w.heap.size, 1, none⟩ = some (.int .i64 x2) := Tw4.2.2.1.2.2.1.1
    have xw412 : w4.cell? ⟨w.heap.size, 2, none⟩ = some (.int .i64 x3) := Tw4.2.2.1.2.2.2.1.1
    have lw40 := Tw4.2.1.1
    have lw41 := Tw4.2.2.1.1
    go_wp2_with fail
    go_ret
    exact ⟨rfl, into hb0 (TL.new (t := 26) (Tw4) rfl).1.1 hb0.size⟩

end Go.Proofs.Ytfoafahmjlagcaa
