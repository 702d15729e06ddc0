/-
  THE WALK of FnTimes: for all bytes it returns true and turns nothing old.
-/
import Derived.Test.YtlhbpjdokkelpaaDoorWs
import Derived.Test.YtlhbpjdokkelpaaDoorPf
import Derived.Test.YtlhbpjdokkelpaaDoorWo
namespace Go.Proofs.YtlhbpjdokkelpaaDoor
open Go.RowKit
open PL

set_option maxHeartbeats 8000000 in
theorem FnTimes_walk (ad : Option Addr) (len cap : Nat) (w0 : World) (hB : BytesIn w0 ad len cap) (HZ : ZC w0) :
    Calls Tryd.prog 4 #[.slice ad len cap] w0 fun e w' =>
      e = .returned (.bool true) ∧ Below w0.heap.size w0 w' := by
  go_enter Tryd.func4, Tryd.ntmps4
  by_cases hl : (len : Int) > 1048576
  · go_wp2_with fail
    go_ret
    exact ⟨rfl, Below.refl _ _⟩
  · go_wp2_with fail
    refine (DrawFracTimes_any ad len cap w0 hB).mono ?_
    rintro e w ⟨x1, x2, x3, y1, y2, y3, rfl, hb0⟩
    obtain ⟨⟨p, q, d⟩, ok, H0⟩ : ∃ r o, times ⟨x1, x2, x3⟩ ⟨y1, y2, y3⟩ = (r, o) := ⟨_, _, rfl⟩
    have H := Lib.hid H0
    go_wp2_with fail
    refine (times_any _ _ _ _ _ _ p q d ok _ H).mono ?_
    rintro e w1 ⟨rfl, hbw1⟩
    have Tw1 : TL w [(w.heap.size + 1, [.int .i64 y1, .int .i64 y2, .int .i64 y3]), (w.heap.size, [.int .i64 x1, .int .i64 x2, .int .i64 x3])] w1 := TL.below (TL.new (t := 24) (TL.new (t := 24) (TL.refl w) rfl) (by simp)) hbw1
    clear hbw1
    have xw100 : w1.cell? ⟨w.heap.size + 1, 0, none⟩ = some (.int .i64 y1) := Tw1.2.1.2.1.1
    have xw101 : w1.cell? ⟨w.heap.size + 1, 1, none⟩ = some (.int .i64 y2) := Tw1.2.1.2.2.1.1
    have xw102 : w1.cell? ⟨w.heap.size + 1, 2, none⟩ = some (.int .i64 y3) := Tw1.2.1.2.2.2.1.1
    have xw110 : w1.cell? ⟨w.heap.size, 0, none⟩ = some (.int .i64 x1) := Tw1.2.2.1.2.1.1
    have xw111 : w1.cell? ⟨w.heap.size, 1, none⟩ = some (.int .i64 x2) := Tw1.2.2.1.2.2.1.1
    have xw112 : w1.cell? ⟨w.heap.size, 2, none⟩ = some (.int .i64 x3) := Tw1.2.2.1.2.2.2.1.1
    have lw10 := Tw1.2.1.1
    have lw11 := Tw1.2.2.1.1
    go_wp2_with fail
    refine (stimes_any _ _ _ _ _ _ p q d ok _ H).mono ?_
    rintro e w2 ⟨rfl, hbw2⟩
    have Tw2 : TL w [(w1.heap.size, [.int .i64 p, .int .i64 q, .int .i64 d]), (w.heap.size + 1, [.int .i64 y1, .int .i64 y2, .int .i64 y3]), (w.heap.size, [.int .i64 x1, .int .i64 x2, .int .i64 x3])] w2 := TL.below (TL.new (t := 24) (Tw1) rfl) hbw2
    clear hbw2
    have xw200 : w2.cell? ⟨w1.heap.size, 0, none⟩ = some (.int .i64 p) := Tw2.2.1.2.1.1
    have xw201 : w2.cell? ⟨w1.heap.size, 1, none⟩ = some (.int .i64 q) := Tw2.2.1.2.2.1.1
    have xw202 : w2.cell? ⟨w1.heap.size, 2, none⟩ = some (.int .i64 d) := Tw2.2.1.2.2.2.1.1
    have xw210 : w2.cell? ⟨w.heap.size + 1, 0, none⟩ = some (.int .i64 y1) := Tw2.2.2.1.2.1.1
    have xw211 : w2.cell? ⟨w.heap.size + 1, 1, none⟩ = some (.int .i64 y2) := Tw2.2.2.1.2.2.1.1
    have xw212 : w2.cell? ⟨w.heap.size + 1, 2, none⟩ = some (.int .i64 y3) := Tw2.2.2.1.2.2.2.1.1
    have xw220 : w2.cell? ⟨w.heap.size, 0, none⟩ = some (.int .i64 x1) := Tw2.2.2.2.1.2.1.1
    have xw221 : w2.cell? ⟨w.heap.size, 1, none⟩ = some (.int .i64 x2) := Tw2.2.2.2.1.2.2.1.1
    have xw222 : w2.cell? ⟨w.heap.size, 2, none⟩ = some (.int .i64 x3) := Tw2.2.2.2.1.2.2.2.1.1
    have lw20 := Tw2.2.1.1
    have lw21 := Tw2.2.2.1.1
    have lw22 := Tw2.2.2.2.1.1
    cases ok
    · go_wp2_with fail
      go_ret
      exact ⟨rfl, into hb0 (TL.new (t := 24) (Tw2) rfl).1.1 hb0.size⟩
    have H1 := Lib.hid ((times_comm' ⟨y1, y2, y3⟩ ⟨x1, x2, x3⟩).trans H0)
    obtain ⟨⟨a1, a2, a3⟩, oq, H2⟩ : ∃ r o, over ⟨p, q, d⟩ ⟨y1, y2, y3⟩ = (r, o) := ⟨_, _, rfl⟩
    have KH2 := Lib.hid H2
    obtain ⟨⟨u1, u2, u3⟩, r, H3⟩ : ∃ r o, power ⟨x1, x2, x3⟩ = (r, o) := ⟨_, _, rfl⟩
    have KH3 := Lib.hid H3
    obtain ⟨⟨v1, v2, v3⟩, s, H4⟩ : ∃ r o, power ⟨y1, y2, y3⟩ = (r, o) := ⟨_, _, rfl⟩
    have KH4 := Lib.hid H4
    obtain ⟨⟨t1, t2, t3⟩, ot, H5⟩ : ∃ r o, times ⟨u1, u2, u3⟩ ⟨v1, v2, v3⟩ = (r, o) := ⟨_, _, rfl⟩
    have KH5 := Lib.hid H5
    obtain ⟨⟨n1, n2, n3⟩, z, H6⟩ : ∃ r o, power ⟨p, q, d⟩ = (r, o) := ⟨_, _, rfl⟩
    have KH6 := Lib.hid H6
    have HA := Lib.hid (fun h : oq = true => over_of_times H0 (h ▸ H2))
    have HN := Lib.hid (fun (h1 : r = true) (h2 : s = true) (h3 : ot = true) (h4 : z = true) => power_times_power H0 (h1 ▸ H3) (h2 ▸ H4) (h3 ▸ H5) (h4 ▸ H6))
    clear H0 H2 H3 H4 H5 H6
    go_wp2_with fail
    refine (times_any _ _ _ _ _ _ p q d true _ H1).mono ?_
    rintro e w3 ⟨rfl, hbw3⟩
    have Tw3 : TL w [(w2.heap.size, [.int .i64 p, .int .i64 q, .int .i64 d]), (w1.heap.size, [.int .i64 p, .int .i64 q, .int .i64 d]), (w.heap.size + 1, [.int .i64 y1, .int .i64 y2, .int .i64 y3]), (w.heap.size, [.int .i64 x1, .int .i64 x2, .int .i64 x3])] w3 := TL.below (TL.new (t := 24) (Tw2) rfl) hbw3
    clear hbw3
    have xw300 : w3.cell? ⟨w2.heap.size, 0, none⟩ = some (.int .i64 p) := Tw3.2.1.2.1.1
    have xw301 : w3.cell? ⟨w2.heap.size, 1, none⟩ = some (.int .i64 q) := Tw3.2.1.2.2.1.1
    have xw302 : w3.cell? ⟨w2.heap.size, 2, none⟩ = some (.int .i64 d) := Tw3.2.1.2.2.2.1.1
    have xw310 : w3.cell? ⟨w1.heap.size, 0, none⟩ = some (.int .i64 p) := Tw3.2.2.1.2.1.1
    have xw311 : w3.cell? ⟨w1.heap.size, 1, none⟩ = some (.int .i64 q) := Tw3.2.2.1.2.2.1.1
    have xw312 : w3.cell? ⟨w1.heap.size, 2, none⟩ = some (.int .i64 d) := Tw3.2.2.1.2.2.2.1.1
    have xw320 : w3.cell? ⟨w.heap.size + 1, 0, none⟩ = some (.int .i64 y1) := Tw3.2.2.2.1.2.1.1
    have xw321 : w3.cell? ⟨w.heap.size + 1, 1, none⟩ = some (.int .i64 y2) := Tw3.2.2.2.1.2.2.1.1
    have xw322 : w3.cell? ⟨w.heap.size + 1, 2, none⟩ = some (.int .i64 y3) := Tw3.2.2.2.1.2.2.2.1.1
    have xw330 : w3.cell? ⟨w.heap.size, 0, none⟩ = some (.int .i64 x1) := Tw3.2.2.2.2.1.2.1.1
    have xw331 : w3.cell? ⟨w.heap.size, 1, none⟩ = some (.int .i64 x2) := Tw3.2.2.2.2.1.2.2.1.1
    have xw332 : w3.cell? ⟨w.heap.size, 2, none⟩ = some (.int .i64 x3) := Tw3.2.2.2.2.1.2.2.2.1.1
    have lw30 := Tw3.2.1.1
    have lw31 := Tw3.2.2.1.1
    have lw32 := Tw3.2.2.2.1.1
    have lw33 := Tw3.2.2.2.2.1.1
    go_wp2_with fail
    refine (over_any _ _ _ _ _ _ a1 a2 a3 oq _ (ZC.below (ZC.below HZ hb0) (by first | exact (TL.new (t := 24) (Tw3) rfl).1.1 | go_grown)) KH2).mono ?_
    rintro e w4 ⟨rfl, hbw4⟩
    have Tw4 : TL w [(w3.heap.size, [.int .i64 p, .int .i64 q, .int .i64 d]), (w2.heap.size, [.int .i64 p, .int .i64 q, .int .i64 d]), (w1.heap.size, [.int .i64 p, .int .i64 q, .int .i64 d]), (w.heap.size + 1, [.int .i64 y1, .int .i64 y2, .int .i64 y3]), (w.heap.size, [.int .i64 x1, .int .i64 x2, .int .i64 x3])] w4 := TL.below (TL.new (t := 24) (Tw3) rfl) hbw4
    clear hbw4
    have xw400 : w4.cell? ⟨w3.heap.size, 0, none⟩ = some (.int .i64 p) := Tw4.2.1.2.1.1
    have xw401 : w4.cell? ⟨w3.heap.size, 1, none⟩ = some (.int .i64 q) := Tw4.2.1.2.2.1.1
    have xw402 : w4.cell? ⟨w3.heap.size, 2, none⟩ = some (.int .i64 d) := Tw4.2.1.2.2.2.1.1
    have xw410 : w4.cell? ⟨w2.heap.size, 0, none⟩ = some (.int .i64 p) := Tw4.2.2.1.2.1.1
    have xw411 : w4.cell? ⟨w2.heap.size, 1, none⟩ = some (.int .i64 q) := Tw4.2.2.1.2.2.1.1
    have xw412 : w4.cell? ⟨w2.heap.size, 2, none⟩ = some (.int .i64 d) := Tw4.2.2.1.2.2.2.1.1
    have xw420 : w4.cell? ⟨w1.heap.size, 0, none⟩ = some (.int .i64 p) := Tw4.2.2.2.1.2.1.1
    have xw421 : w4.cell? ⟨w1.heap.size, 1, none⟩ = some (.int .i64 q) := Tw4.2.2.2.1.2.2.1.1
    have xw422 : w4.cell? ⟨w1.heap.size, 2, none⟩ = some (.int .i64 d) := Tw4.2.2.2.1.2.2.2.1.1
    have xw430 : w4.cell? ⟨w.heap.size + 1, 0, none⟩ = some (.int .i64 y1) := Tw4.2.2.2.2.1.2.1.1
    have xw431 : w4.cell? ⟨w.heap.size + 1, 1, none⟩ = some (.int .i64 y2) := Tw4.2.2.2.2.1.2.2.1.1
    have xw432 : w4.cell? ⟨w.heap.size + 1, 2, none⟩ = some (.int .i64 y3) := Tw4.2.2.2.2.1.2.2.2.1.1
    have xw440 : w4.cell? ⟨w.heap.size, 0, none⟩ = some (.int .i64 x1) := Tw4.2.2.2.2.2.1.2.1.1
    have xw441 : w4.cell? ⟨w.heap.size, 1, none⟩ = some (.int .i64 x2) := Tw4.2.2.2.2.2.1.2.2.1.1
    have xw442 : w4.cell? ⟨w.heap.size, 2, none⟩ = some (.int .i64 x3) := Tw4.2.2.2.2.2.1.2.2.2.1.1
    have lw40 := Tw4.2.1.1
    have lw41 := Tw4.2.2.1.1
    have lw42 := Tw4.2.2.2.1.1
    have lw43 := Tw4.2.2.2.2.1.1
    have lw44 := Tw4.2.2.2.2.2.1.1
    go_wp2_with fail
    refine (power_any _ _ _ u1 u2 u3 r _ KH3).mono ?_
    rintro e w5 ⟨rfl, hbw5⟩
    have Tw5 : TL w [(w4.heap.size, [.int .i64 a1, .int .i64 a2, .int .i64 a3]), (w3.heap.size, [.int .i64 p, .int .i64 q, .int .i64 d]), (w2.heap.size, [.int .i64 p, .int .i64 q, .int .i64 d]), (w1.heap.size, [.int .i64 p, .int .i64 q, .int .i64 d]), (w.heap.size + 1, [.int .i64 y1, .int .i64 y2, .int .i64 y3]), (w.heap.size, [.int .i64 x1, .int .i64 x2, .int .i64 x3])] w5 := TL.below (TL.new (t := 24) (Tw4) rfl) hbw5
    clear hbw5
    have xw500 : w5.cell? ⟨w4.heap.size, 0, none⟩ = some (.int .i64 a1) := Tw5.2.1.2.1.1
    have xw501 : w5.cell? ⟨w4.heap.size, 1, none⟩ = some (.int .i64 a2) := Tw5.2.1.2.2.1.1
    have xw502 : w5.cell? ⟨w4.heap.size, 2, none⟩ = some (.int .i64 a3) := Tw5.2.1.2.2.2.1.1
    have xw510 : w5.cell? ⟨w3.heap.size, 0, none⟩ = some (.int .i64 p) := Tw5.2.2.1.2.1.1
    have xw511 : w5.cell? ⟨w3.heap.size, 1, none⟩ = some (.int .i64 q) := Tw5.2.2.1.2.2.1.1
    have xw512 : w5.cell? ⟨w3.heap.size, 2, none⟩ = some (.int .i64 d) := Tw5.2.2.1.2.2.2.1.1
    have xw520 : w5.cell? ⟨w2.heap.size, 0, none⟩ = some (.int .i64 p) := Tw5.2.2.2.1.2.1.1
    have xw521 : w5.cell? ⟨w2.heap.size, 1, none⟩ = some (.int .i64 q) := Tw5.2.2.2.1.2.2.1.1
    have xw522 : w5.cell? ⟨w2.heap.size, 2, none⟩ = some (.int .i64 d) := Tw5.2.2.2.1.2.2.2.1.1
    have xw530 : w5.cell? ⟨w1.heap.size, 0, none⟩ = some (.int .i64 p) := Tw5.2.2.2.2.1.2.1.1
    have xw531 : w5.cell? ⟨w1.heap.size, 1, none⟩ = some (.int .i64 q) := Tw5.2.2.2.2.1.2.2.1.1
    have xw532 : w5.cell? ⟨w1.heap.size, 2, none⟩ = some (.int .i64 d) := Tw5.2.2.2.2.1.2.2.2.1.1
    have xw540 : w5.cell? ⟨w.heap.size + 1, 0, none⟩ = some (.int .i64 y1) := Tw5.2.2.2.2.2.1.2.1.1
    have xw541 : w5.cell? ⟨w.heap.size + 1, 1, none⟩ = some (.int .i64 y2) := Tw5.2.2.2.2.2.1.2.2.1.1
    have xw542 : w5.cell? ⟨w.heap.size + 1, 2, none⟩ = some (.int .i64 y3) := Tw5.2.2.2.2.2.1.2.2.2.1.1
    have xw550 : w5.cell? ⟨w.heap.size, 0, none⟩ = some (.int .i64 x1) := Tw5.2.2.2.2.2.2.1.2.1.1
    have xw551 : w5.cell? ⟨w.heap.size, 1, none⟩ = some (.int .i64 x2) := Tw5.2.2.2.2.2.2.1.2.2.1.1
    have xw552 : w5.cell? ⟨w.heap.size, 2, none⟩ = some (.int .i64 x3) := Tw5.2.2.2.2.2.2.1.2.2.2.1.1
    have lw50 := Tw5.2.1.1
    have lw51 := Tw5.2.2.1.1
    have lw52 := Tw5.2.2.2.1.1
    have lw53 := Tw5.2.2.2.2.1.1
    have lw54 := Tw5.2.2.2.2.2.1.1
    have lw55 := Tw5.2.2.2.2.2.2.1.1
    go_wp2_with fail
    refine (power_any _ _ _ v1 v2 v3 s _ KH4).mono ?_
    rintro e w6 ⟨rfl, hbw6⟩
    have Tw6 : TL w [(w5.heap.size, [.int .i64 u1, .int .i64 u2, .int .i64 u3]), (w4.heap.size, [.int .i64 a1, .int .i64 a2, .int .i64 a3]), (w3.heap.size, [.int .i64 p, .int .i64 q, .int .i64 d]), (w2.heap.size, [.int .i64 p, .int .i64 q, .int .i64 d]), (w1.heap.size, [.int .i64 p, .int .i64 q, .int .i64 d]), (w.heap.size + 1, [.int .i64 y1, .int .i64 y2, .int .i64 y3]), (w.heap.size, [.int .i64 x1, .int .i64 x2, .int .i64 x3])] w6 := TL.below (TL.new (t := 24) (Tw5) rfl) hbw6
    clear hbw6
    have xw600 : w6.cell? ⟨w5.heap.size, 0, none⟩ = some (.int .i64 u1) := Tw6.2.1.2.1.1
    have xw601 : w6.cell? ⟨w5.heap.size, 1, none⟩ = some (.int .i64 u2) := Tw6.2.1.2.2.1.1
    have xw602 : w6.cell? ⟨w5.heap.size, 2, none⟩ = some (.int .i64 u3) := Tw6.2.1.2.2.2.1.1
    have xw610 : w6.cell? ⟨w4.heap.size, 0, none⟩ = some (.int .i64 a1) := Tw6.2.2.1.2.1.1
    have xw611 : w6.cell? ⟨w4.heap.size, 1, none⟩ = some (.int .i64 a2) := Tw6.2.2.1.2.2.1.1
    have xw612 : w6.cell? ⟨w4.heap.size, 2, none⟩ = some (.int .i64 a3) := Tw6.2.2.1.2.2.2.1.1
    have xw620 : w6.cell? ⟨w3.heap.size, 0, none⟩ = some (.int .i64 p) := Tw6.2.2.2.1.2.1.1
    have xw621 : w6.cell? ⟨w3.heap.size, 1, none⟩ = some (.int .i64 q) := Tw6.2.2.2.1.2.2.1.1
    have xw622 : w6.cell? ⟨w3.heap.size, 2, none⟩ = some (.int .i64 d) := Tw6.2.2.2.1.2.2.2.1.1
    have xw630 : w6.cell? ⟨w2.heap.size, 0, none⟩ = some (.int .i64 p) := Tw6.2.2.2.2.1.2.1.1
    have xw631 : w6.cell? ⟨w2.heap.size, 1, none⟩ = some (.int .i64 q) := Tw6.2.2.2.2.1.2.2.1.1
    have xw632 : w6.cell? ⟨w2.heap.size, 2, none⟩ = some (.int .i64 d) := Tw6.2.2.2.2.1.2.2.2.1.1
    have xw640 : w6.cell? ⟨w1.heap.size, 0, none⟩ = some (.int .i64 p) := Tw6.2.2.2.2.2.1.2.1.1
    have xw641 : w6.cell? ⟨w1.heap.size, 1, none⟩ = some (.int .i64 q) := Tw6.2.2.2.2.2.1.2.2.1.1
    have xw642 : w6.cell? ⟨w1.heap.size, 2, none⟩ = some (.int .i64 d) := Tw6.2.2.2.2.2.1.2.2.2.1.1
    have xw650 : w6.cell? ⟨w.heap.size + 1, 0, none⟩ = some (.int .i64 y1) := Tw6.2.2.2.2.2.2.1.2.1.1
    have xw651 : w6.cell? ⟨w.heap.size + 1, 1, none⟩ = some (.int .i64 y2) := Tw6.2.2.2.2.2.2.1.2.2.1.1
    have xw652 : w6.cell? ⟨w.heap.size + 1, 2, none⟩ = some (.int .i64 y3) := Tw6.2.2.2.2.2.2.1.2.2.2.1.1
    have xw660 : w6.cell? ⟨w.heap.size, 0, none⟩ = some (.int .i64 x1) := Tw6.2.2.2.2.2.2.2.1.2.1.1
    have xw661 : w6.cell? ⟨w.heap.size, 1, none⟩ = some (.int .i64 x2) := Tw6.2.2.2.2.2.2.2.1.2.2.1.1
    have xw662 : w6.cell? ⟨w.heap.size, 2, none⟩ = some (.int .i64 x3) := Tw6.2.2.2.2.2.2.2.1.2.2.2.1.1
    have lw60 := Tw6.2.1.1
    have lw61 := Tw6.2.2.1.1
    have lw62 := Tw6.2.2.2.1.1
    have lw63 := Tw6.2.2.2.2.1.1
    have lw64 := Tw6.2.2.2.2.2.1.1
    have lw65 := Tw6.2.2.2.2.2.2.1.1
    have lw66 := Tw6.2.2.2.2.2.2.2.1.1
    go_wp2_with fail
    refine (times_any _ _ _ _ _ _ t1 t2 t3 ot _ KH5).mono ?_
    rintro e w7 ⟨rfl, hbw7⟩
    have Tw7 : TL w [(w6.heap.size, [.int .i64 v1, .int .i64 v2, .int .i64 v3]), (w5.heap.size, [.int .i64 u1, .int .i64 u2, .int .i64 u3]), (w4.heap.size, [.int .i64 a1, .int .i64 a2, .int .i64 a3]), (w3.heap.size, [.int .i64 p, .int .i64 q, .int .i64 d]), (w2.heap.size, [.int .i64 p, .int .i64 q, .int .i64 d]), (w1.heap.size, [.int .i64 p, .int .i64 q, .int .i64 d]), (w.heap.size + 1, [.int .i64 y1, .int .i64 y2, .int .i64 y3]), (w.heap.size, [.int .i64 x1, .int .i64 x2, .int .i64 x3])] w7 := TL.below (TL.new (t := 24) (Tw6) rfl) hbw7
    clear hbw7
    have xw700 : w7.cell? ⟨w6.heap.size, 0, none⟩ = some (.int .i64 v1) := Tw7.2.1.2.1.1
    have xw701 : w7.cell? ⟨w6.heap.size, 1, none⟩ = some (.int .i64 v2) := Tw7.2.1.2.2.1.1
    have xw702 : w7.cell? ⟨w6.heap.size, 2, none⟩ = some (.int .i64 v3) := Tw7.2.1.2.2.2.1.1
    have xw710 : w7.cell? ⟨w5.heap.size, 0, none⟩ = some (.int .i64 u1) := Tw7.2.2.1.2.1.1
    have xw711 : w7.cell? ⟨w5.heap.size, 1, none⟩ = some (.int .i64 u2) := Tw7.2.2.1.2.2.1.1
    have xw712 : w7.cell? ⟨w5.heap.size, 2, none⟩ = some (.int .i64 u3) := Tw7.2.2.1.2.2.2.1.1
    have xw720 : w7.cell? ⟨w4.heap.size, 0, none⟩ = some (.int .i64 a1) := Tw7.2.2.2.1.2.1.1
    have xw721 : w7.cell? ⟨w4.heap.size, 1, none⟩ = some (.int .i64 a2) := Tw7.2.2.2.1.2.2.1.1
    have xw722 : w7.cell? ⟨w4.heap.size, 2, none⟩ = some (.int .i64 a3) := Tw7.2.2.2.1.2.2.2.1.1
    have xw730 : w7.cell? ⟨w3.heap.size, 0, none⟩ = some (.int .i64 p) := Tw7.2.2.2.2.1.2.1.1
    have xw731 : w7.cell? ⟨w3.heap.size, 1, none⟩ = some (.int .i64 q) := Tw7.2.2.2.2.1.2.2.1.1
    have xw732 : w7.cell? ⟨w3.heap.size, 2, none⟩ = some (.int .i64 d) := Tw7.2.2.2.2.1.2.2.2.1.1
    have xw740 : w7.cell? ⟨w2.heap.size, 0, none⟩ = some (.int .i64 p) := Tw7.2.2.2.2.2.1.2.1.1
    have xw741 : w7.cell? ⟨w2.heap.size, 1, none⟩ = some (.int .i64 q) := Tw7.2.2.2.2.2.1.2.2.1.1
    have xw742 : w7.cell? ⟨w2.heap.size, 2, none⟩ = some (.int .i64 d) := Tw7.2.2.2.2.2.1.2.2.2.1.1
    have xw750 : w7.cell? ⟨w1.heap.size, 0, none⟩ = some (.int .i64 p) := Tw7.2.2.2.2.2.2.1.2.1.1
    have xw751 : w7.cell? ⟨w1.heap.size, 1, none⟩ = some (.int .i64 q) := Tw7.2.2.2.2.2.2.1.2.2.1.1
    have xw752 : w7.cell? ⟨w1.heap.size, 2, none⟩ = some (.int .i64 d) := Tw7.2.2.2.2.2.2.1.2.2.2.1.1
    have xw760 : w7.cell? ⟨w.heap.size + 1, 0, none⟩ = some (.int .i64 y1) := Tw7.2.2.2.2.2.2.2.1.2.1.1
    have xw761 : w7.cell? ⟨w.heap.size + 1, 1, none⟩ = some (.int .i64 y2) := Tw7.2.2.2.2.2.2.2.1.2.2.1.1
    have xw762 : w7.cell? ⟨w.heap.size + 1, 2, none⟩ = some (.int .i64 y3) := Tw7.2.2.2.2.2.2.2.1.2.2.2.1.1
    have xw770 : w7.cell? ⟨w.heap.size, 0, none⟩ = some (.int .i64 x1) := Tw7.2.2.2.2.2.2.2.2.1.2.1.1
    have xw771 : w7.cell? ⟨w.heap.size, 1, none⟩ = some (.int .i64 x2) := Tw7.2.2.2.2.2.2.2.2.1.2.2.1.1
    have xw772 : w7.cell? ⟨w.heap.size, 2, none⟩ = some (.int .i64 x3) := Tw7.2.2.2.2.2.2.2.2.1.2.2.2.1.1
    have lw70 := Tw7.2.1.1
    have lw71 := Tw7.2.2.1.1
    have lw72 := Tw7.2.2.2.1.1
    have lw73 := Tw7.2.2.2.2.1.1
    have lw74 := Tw7.2.2.2.2.2.1.1
    have lw75 := Tw7.2.2.2.2.2.2.1.1
    have lw76 := Tw7.2.2.2.2.2.2.2.1.1
    have lw77 := Tw7.2.2.2.2.2.2.2.2.1.1
    go_wp2_with fail
    refine (power_any _ _ _ n1 n2 n3 z _ KH6).mono ?_
    rintro e w8 ⟨rfl, hbw8⟩
    have Tw8 : TL w [(w7.heap.size, [.int .i64 t1, .int .i64 t2, .int .i64 t3]), (w6.heap.size, [.int .i64 v1, .int .i64 v2, .int .i64 v3]), (w5.heap.size, [.int .i64 u1, .int .i64 u2, .int .i64 u3]), (w4.heap.size, [.int .i64 a1, .int .i64 a2, .int .i64 a3]), (w3.heap.size, [.int .i64 p, .int .i64 q, .int .i64 d]), (w2.heap.size, [.int .i64 p, .int .i64 q, .int .i64 d]), (w1.heap.size, [.int .i64 p, .int .i64 q, .int .i64 d]), (w.heap.size + 1, [.int .i64 y1, .int .i64 y2, .int .i64 y3]), (w.heap.size, [.int .i64 x1, .int .i64 x2, .int .i64 x3])] w8 := TL.below (TL.new (t := 24) (Tw7) rfl) hbw8
    clear hbw8
    have xw800 : w8.cell? ⟨w7.heap.size, 0, none⟩ = some (.int .i64 t1) := Tw8.2.1.2.1.1
    have xw801 : w8.cell? ⟨w7.heap.size, 1, none⟩ = some (.int .i64 t2) := Tw8.2.1.2.2.1.1
    have xw802 : w8.cell? ⟨w7.heap.size, 2, none⟩ = some (.int .i64 t3) := Tw8.2.1.2.2.2.1.1
    have xw810 : w8.cell? ⟨w6.heap.size, 0, none⟩ = some (.int .i64 v1) := Tw8.2.2.1.2.1.1
    have xw811 : w8.cell? ⟨w6.heap.size, 1, none⟩ = some (.int .i64 v2) := Tw8.2.2.1.2.2.1.1
    have xw812 : w8.cell? ⟨w6.heap.size, 2, none⟩ = some (.int .i64 v3) := Tw8.2.2.1.2.2.2.1.1
    have xw820 : w8.cell? ⟨w5.heap.size, 0, none⟩ = some (.int .i64 u1) := Tw8.2.2.2.1.2.1.1
    have xw821 : w8.cell? ⟨w5.heap.size, 1, none⟩ = some (.int .i64 u2) := Tw8.2.2.2.1.2.2.1.1
    have xw822 : w8.cell? ⟨w5.heap.size, 2, none⟩ = some (.int .i64 u3) := Tw8.2.2.2.1.2.2.2.1.1
    have xw830 : w8.cell? ⟨w4.heap.size, 0, none⟩ = some (.int .i64 a1) := Tw8.2.2.2.2.1.2.1.1
    have xw831 : w8.cell? ⟨w4.heap.size, 1, none⟩ = some (.int .i64 a2) := Tw8.2.2.2.2.1.2.2.1.1
    have xw832 : w8.cell? ⟨w4.heap.size, 2, none⟩ = some (.int .i64 a3) := Tw8.2.2.2.2.1.2.2.2.1.1
    have xw840 : w8.cell? ⟨w3.heap.size, 0, none⟩ = some (.int .i64 p) := Tw8.2.2.2.2.2.1.2.1.1
    have xw841 : w8.cell? ⟨w3.heap.size, 1, none⟩ = some (.int .i64 q) := Tw8.2.2.2.2.2.1.2.2.1.1
    have xw842 : w8.cell? ⟨w3.heap.size, 2, none⟩ = some (.int .i64 d) := Tw8.2.2.2.2.2.1.2.2.2.1.1
    have xw850 : w8.cell? ⟨w2.heap.size, 0, none⟩ = some (.int .i64 p) := Tw8.2.2.2.2.2.2.1.2.1.1
    have xw851 : w8.cell? ⟨w2.heap.size, 1, none⟩ = some (.int .i64 q) := Tw8.2.2.2.2.2.2.1.2.2.1.1
    have xw852 : w8.cell? ⟨w2.heap.size, 2, none⟩ = some (.int .i64 d) := Tw8.2.2.2.2.2.2.1.2.2.2.1.1
    have xw860 : w8.cell? ⟨w1.heap.size, 0, none⟩ = some (.int .i64 p) := Tw8.2.2.2.2.2.2.2.1.2.1.1
    have xw861 : w8.cell? ⟨w1.heap.size, 1, none⟩ = some (.int .i64 q) := Tw8.2.2.2.2.2.2.2.1.2.2.1.1
    have xw862 : w8.cell? ⟨w1.heap.size, 2, none⟩ = some (.int .i64 d) := Tw8.2.2.2.2.2.2.2.1.2.2.2.1.1
    have xw870 : w8.cell? ⟨w.heap.size + 1, 0, none⟩ = some (.int .i64 y1) := Tw8.2.2.2.2.2.2.2.2.1.2.1.1
    have xw871 : w8.cell? ⟨w.heap.size + 1, 1, none⟩ = some (.int .i64 y2) := Tw8.2.2.2.2.2.2.2.2.1.2.2.1.1
    have xw872 : w8.cell? ⟨w.heap.size + 1, 2, none⟩ = some (.int .i64 y3) := Tw8.2.2.2.2.2.2.2.2.1.2.2.2.1.1
    have xw880 : w8.cell? ⟨w.heap.size, 0, none⟩ = some (.int .i64 x1) := Tw8.2.2.2.2.2.2.2.2.2.1.2.1.1
    have xw881 : w8.cell? ⟨w.heap.size, 1, none⟩ = some (.int .i64 x2) := Tw8.2.2.2.2.2.2.2.2.2.1.2.2.1.1
    have xw882 : w8.cell? ⟨w.heap.size, 2, none⟩ = some (.int .i64 x3) := Tw8.2.2.2.2.2.2.2.2.2.1.2.2.2.1.1
    have lw80 := Tw8.2.1.1
    have lw81 := Tw8.2.2.1.1
    have lw82 := Tw8.2.2.2.1.1
    have lw83 := Tw8.2.2.2.2.1.1
    have lw84 := Tw8.2.2.2.2.2.1.1
    have lw85 := Tw8.2.2.2.2.2.2.1.1
    have lw86 := Tw8.2.2.2.2.2.2.2.1.1
    have lw87 := Tw8.2.2.2.2.2.2.2.2.1.1
    have lw88 := Tw8.2.2.2.2.2.2.2.2.2.1.1
    cases oq
    · clear HA
      cases r
      · clear HN
        go_wp2_with fail
        (first | go_quiet (fail) | skip)
        go_wp2_with fail
        go_ret
        exact ⟨rfl, by first | exact into hb0 (TL.new (t := 24) (Tw8) rfl).1.1 hb0.size | exact into hb0 (TL.drewN (TL.new (t := 24) (Tw8) rfl) _).1.1 hb0.size⟩
      · cases s
        · clear HN
          go_wp2_with fail
          (first | go_quiet (fail) | skip)
          go_wp2_with fail
          go_ret
          exact ⟨rfl, by first | exact into hb0 (TL.new (t := 24) (Tw8) rfl).1.1 hb0.size | exact into hb0 (TL.drewN (TL.new (t := 24) (Tw8) rfl) _).1.1 hb0.size⟩
        · cases ot
          · clear HN
            go_wp2_with fail
            (first | go_quiet (fail) | skip)
            go_wp2_with fail
            go_ret
            exact ⟨rfl, by first | exact into hb0 (TL.new (t := 24) (Tw8) rfl).1.1 hb0.size | exact into hb0 (TL.drewN (TL.new (t := 24) (Tw8) rfl) _).1.1 hb0.size⟩
          · cases z
            · clear HN
              go_wp2_with fail
              (first | go_quiet (fail) | skip)
              go_wp2_with fail
              go_ret
              exact ⟨rfl, by first | exact into hb0 (TL.new (t := 24) (Tw8) rfl).1.1 hb0.size | exact into hb0 (TL.drewN (TL.new (t := 24) (Tw8) rfl) _).1.1 hb0.size⟩
            · have E := HN.out rfl rfl rfl rfl
              simp only [Fr.mk.injEq] at E
              obtain ⟨e1, e2, e3⟩ := E
              clear HN
              subst t1
              subst t2
              subst t3
              go_wp2_with fail
              (first | go_quiet (fail) | skip)
              go_wp2_with fail
              go_ret
              exact ⟨rfl, by first | exact into hb0 (TL.new (t := 24) (Tw8) rfl).1.1 hb0.size | exact into hb0 (TL.drewN (TL.new (t := 24) (Tw8) rfl) _).1.1 hb0.size⟩
    · have E := HA.out rfl
      simp only [Fr.mk.injEq] at E
      obtain ⟨e1, e2, e3⟩ := E
      clear HA
      subst a1
      subst a2
      subst a3
      cases r
      · clear HN
        go_wp2_with fail
        (first | go_quiet (fail) | skip)
        go_wp2_with fail
        go_ret
        exact ⟨rfl, by first | exact into hb0 (TL.new (t := 24) (Tw8) rfl).1.1 hb0.size | exact into hb0 (TL.drewN (TL.new (t := 24) (Tw8) rfl) _).1.1 hb0.size⟩
      · cases s
        · clear HN
          go_wp2_with fail
          (first | go_quiet (fail) | skip)
          go_wp2_with fail
          go_ret
          exact ⟨rfl, by first | exact into hb0 (TL.new (t := 24) (Tw8) rfl).1.1 hb0.size | exact into hb0 (TL.drewN (TL.new (t := 24) (Tw8) rfl) _).1.1 hb0.size⟩
        · cases ot
          · clear HN
            go_wp2_with fail
            (first | go_quiet (fail) | skip)
            go_wp2_with fail
            go_ret
            exact ⟨rfl, by first | exact into hb0 (TL.new (t := 24) (Tw8) rfl).1.1 hb0.size | exact into hb0 (TL.drewN (TL.new (t := 24) (Tw8) rfl) _).1.1 hb0.size⟩
          · cases z
            · clear HN
              go_wp2_with fail
              (first | go_quiet (fail) | skip)
              go_wp2_with fail
              go_ret
              exact ⟨rfl, by first | exact into hb0 (TL.new (t := 24) (Tw8) rfl).1.1 hb0.size | exact into hb0 (TL.drewN (TL.new (t := 24) (Tw8) rfl) _).1.1 hb0.size⟩
            · have E := HN.out rfl rfl rfl rfl
              simp only [Fr.mk.injEq] at E
              obtain ⟨e1, e2, e3⟩ := E
              clear HN
              subst t1
              subst t2
              subst t3
              go_wp2_with fail
              (first | go_quiet (fail) | skip)
              go_wp2_with fail
              go_ret
              exact ⟨rfl, by first | exact into hb0 (TL.new (t := 24) (Tw8) rfl).1.1 hb0.size | exact into hb0 (TL.drewN (TL.new (t := 24) (Tw8) rfl) _).1.1 hb0.size⟩

end Go.Proofs.YtlhbpjdokkelpaaDoor
