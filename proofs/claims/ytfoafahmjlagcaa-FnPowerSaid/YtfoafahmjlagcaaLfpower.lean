/-
  THE WALK of FnPower: for all bytes it returns true and turns nothing old.
-/
import Derived.Test.YtfoafahmjlagcaaWs
import Derived.Test.YtfoafahmjlagcaaPf
namespace Go.Proofs.Ytfoafahmjlagcaa
open Go.RowKit
open PL

set_option maxHeartbeats 8000000 in
theorem FnPower_walk (ad : Option Addr) (len cap : Nat) (w0 : World) (hB : BytesIn w0 ad len cap) :
    Calls Try.prog 8 #[.slice ad len cap] w0 fun e w' =>
      e = .returned (.bool true) ∧ Below w0.heap.size w0 w' := by
  go_enter Try.func8, Try.ntmps8
  by_cases hl : (len : Int) > 1048576
  · go_wp2_with fail
    go_ret
    exact ⟨rfl, Below.refl _ _⟩
  · go_wp2_with fail
    refine (DrawFracPower_any ad len cap w0 hB).mono ?_
    rintro e w ⟨x1, x2, x3, rfl, hb0⟩
    obtain ⟨⟨p, q, d⟩, ok, H0⟩ : ∃ r o, power ⟨x1, x2, x3⟩ = (r, o) := ⟨_, _, rfl⟩
    have H := Lib.hid H0
    go_wp2_with fail
    refine (power_any _ _ _ p q d ok _ H).mono ?_
    rintro e w1 ⟨rfl, hbw1⟩
    have Tw1 : TL w [(w.heap.size, [.int .i64 x1, .int .i64 x2, .int .i64 x3])] w1 := TL.below (TL.new (t := 26) (TL.refl w) rfl) hbw1
    clear hbw1
    have xw100 : w1.cell? ⟨w.heap.size, 0, none⟩ = some (.int .i64 x1) := Tw1.2.1.2.1.1
    have xw101 : w1.cell? ⟨w.heap.size, 1, none⟩ = some (.int .i64 x2) := Tw1.2.1.2.2.1.1
    have xw102 : w1.cell? ⟨w.heap.size, 2, none⟩ = some (.int .i64 x3) := Tw1.2.1.2.2.2.1.1
    have lw10 := Tw1.2.1.1
    go_wp2_with fail
    refine (spower_any _ _ _ p q d ok _ H).mono ?_
    rintro e w2 ⟨rfl, hbw2⟩
    have Tw2 : TL w [(w1.heap.size, [.int .i64 p, .int .i64 q, .int .i64 d]), (w.heap.size, [.int .i64 x1, .int .i64 x2, .int .i64 x3])] w2 := TL.below (TL.new (t := 26) (Tw1) rfl) hbw2
    clear hbw2
    have xw200 : w2.cell? ⟨w1.heap.size, 0, none⟩ = some (.int .i64 p) := Tw2.2.1.2.1.1
    have xw201 : w2.cell? ⟨w1.heap.size, 1, none⟩ = some (.int .i64 q) := Tw2.2.1.2.2.1.1
    have xw202 : w2.cell? ⟨w1.heap.size, 2, none⟩ = some (.int .i64 d) := Tw2.2.1.2.2.2.1.1
    have xw210 : w2.cell? ⟨w.heap.size, 0, none⟩ = some (.int .i64 x1) := Tw2.2.2.1.2.1.1
    have xw211 : w2.cell? ⟨w.heap.size, 1, none⟩ = some (.int .i64 x2) := Tw2.2.2.1.2.2.1.1
    have xw212 : w2.cell? ⟨w.heap.size, 2, none⟩ = some (.int .i64 x3) := Tw2.2.2.1.2.2.2.1.1
    have lw20 := Tw2.2.1.1
    have lw21 := Tw2.2.2.1.1
    cases ok
    · go_wp2_with fail
      go_ret
      exact ⟨rfl, into hb0 (TL.new (t := 26) (Tw2) rfl).1.1 hb0.size⟩
    have HM := mirror_of_power H0
    have H1 := Lib.hid HM
    have H2 := Lib.hid (power_conj H0 HM)
    obtain ⟨N, Z⟩ := power_nonneg H0
    have I := (power_got H0).2.2.1
    simp only at N Z I
    have I2 : (q == 0) = true := by simpa using I
    clear H0 HM I
    go_wp2_with fail
    refine (mirror_any _ _ _ x1 (-x2) x3 true _ H1).mono ?_
    rintro e w3 ⟨rfl, hbw3⟩
    have Tw3 : TL w [(w2.heap.size, [.int .i64 p, .int .i64 q, .int .i64 d]), (w1.heap.size, [.int .i64 p, .int .i64 q, .int .i64 d]), (w.heap.size, [.int .i64 x1, .int .i64 x2, .int .i64 x3])] w3 := TL.below (TL.new (t := 26) (Tw2) rfl) hbw3
    clear hbw3
    have xw300 : w3.cell? ⟨w2.heap.size, 0, none⟩ = some (.int .i64 p) := Tw3.2.1.2.1.1
    have xw301 : w3.cell? ⟨w2.heap.size, 1, none⟩ = some (.int .i64 q) := Tw3.2.1.2.2.1.1
    have xw302 : w3.cell? ⟨w2.heap.size, 2, none⟩ = some (.int .i64 d) := Tw3.2.1.2.2.2.1.1
    have xw310 : w3.cell? ⟨w1.heap.size, 0, none⟩ = some (.int .i64 p) := Tw3.2.2.1.2.1.1
    have xw311 : w3.cell? ⟨w1.heap.size, 1, none⟩ = some (.int .i64 q) := Tw3.2.2.1.2.2.1.1
    have xw312 : w3.cell? ⟨w1.heap.size, 2, none⟩ = some (.int .i64 d) := Tw3.2.2.1.2.2.2.1.1
    have xw320 : w3.cell? ⟨w.heap.size, 0, none⟩ = some (.int .i64 x1) := Tw3.2.2.2.1.2.1.1
    have xw321 : w3.cell? ⟨w.heap.size, 1, none⟩ = some (.int .i64 x2) := Tw3.2.2.2.1.2.2.1.1
    have xw322 : w3.cell? ⟨w.heap.size, 2, none⟩ = some (.int .i64 x3) := Tw3.2.2.2.1.2.2.2.1.1
    have lw30 := Tw3.2.1.1
    have lw31 := Tw3.2.2.1.1
    have lw32 := Tw3.2.2.2.1.1
    go_wp2_with fail
    refine (power_any _ _ _ p q d true _ H2).mono ?_
    rintro e w4 ⟨rfl, hbw4⟩
    have Tw4 : TL w [(w3.heap.size, [.int .i64 x1, .int .i64 (-x2), .int .i64 x3]), (w2.heap.size, [.int .i64 p, .int .i64 q, .int .i64 d]), (w1.heap.size, [.int .i64 p, .int .i64 q, .int .i64 d]), (w.heap.size, [.int .i64 x1, .int .i64 x2, .int .i64 x3])] w4 := TL.below (TL.new (t := 26) (Tw3) rfl) hbw4
    clear hbw4
    have xw400 : w4.cell? ⟨w3.heap.size, 0, none⟩ = some (.int .i64 x1) := Tw4.2.1.2.1.1
    have xw401 : w4.cell? ⟨w3.heap.size, 1, none⟩ = some (.int .i64 (-x2)) := Tw4.2.1.2.2.1.1
    have xw402 : w4.cell? ⟨w3.heap.size, 2, none⟩ = some (.int .i64 x3) := Tw4.2.1.2.2.2.1.1
    have xw410 : w4.cell? ⟨w2.heap.size, 0, none⟩ = some (.int .i64 p) := Tw4.2.2.1.2.1.1
    have xw411 : w4.cell? ⟨w2.heap.size, 1, none⟩ = some (.int .i64 q) := Tw4.2.2.1.2.2.1.1
    have xw412 : w4.cell? ⟨w2.heap.size, 2, none⟩ = some (.int .i64 d) := Tw4.2.2.1.2.2.2.1.1
    have xw420 : w4.cell? ⟨w1.heap.size, 0, none⟩ = some (.int .i64 p) := Tw4.2.2.2.1.2.1.1
    have xw421 : w4.cell? ⟨w1.heap.size, 1, none⟩ = some (.int .i64 q) := Tw4.2.2.2.1.2.2.1.1
    have xw422 : w4.cell? ⟨w1.heap.size, 2, none⟩ = some (.int .i64 d) := Tw4.2.2.2.1.2.2.2.1.1
    have xw430 : w4.cell? ⟨w.heap.size, 0, none⟩ = some (.int .i64 x1) := Tw4.2.2.2.2.1.2.1.1
    have xw431 : w4.cell? ⟨w.heap.size, 1, none⟩ = some (.int .i64 x2) := Tw4.2.2.2.2.1.2.2.1.1
    have xw432 : w4.cell? ⟨w.heap.size, 2, none⟩ = some (.int .i64 x3) := Tw4.2.2.2.2.1.2.2.2.1.1
    have lw40 := Tw4.2.1.1
    have lw41 := Tw4.2.2.1.1
    have lw42 := Tw4.2.2.2.1.1
    have lw43 := Tw4.2.2.2.2.1.1
    have N1 : ¬ (p < 0) := by omega
    by_cases h1 : x1 = 0
    · have g1 : (x1 == 0) = true := by simpa using h1
      by_cases h2 : x2 = 0
      · have g2 : (x2 == 0) = true := by simpa using h2
        have g0 : (p == 0) = true := by simpa using Z.2 ⟨h1, h2⟩
        go_wp2_with fail
        go_ret
        exact ⟨rfl, into hb0 (TL.new (t := 26) (Tw4) rfl).1.1 hb0.size⟩
      · have g2 : (x2 == 0) = false := by simpa using h2
        have g0 : (p == 0) = false := by simp; exact fun e => h2 (Z.1 e).2
        go_wp2_with fail
        go_ret
        exact ⟨rfl, into hb0 (TL.new (t := 26) (Tw4) rfl).1.1 hb0.size⟩
    · have g1 : (x1 == 0) = false := by simpa using h1
      have g0 : (p == 0) = false := by simp; exact fun e => h1 (Z.1 e).1
      go_wp2_with fail
      go_ret
      exact ⟨rfl, into hb0 (TL.new (t := 26) (Tw4) rfl).1.1 hb0.size⟩

end Go.Proofs.Ytfoafahmjlagcaa
