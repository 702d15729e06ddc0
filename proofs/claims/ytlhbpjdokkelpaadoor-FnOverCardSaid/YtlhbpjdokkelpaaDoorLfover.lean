/-
  THE WALK of FnOver: for all bytes it returns true and turns nothing old.
-/
import Derived.Test.YtlhbpjdokkelpaaDoorWs
import Derived.Test.YtlhbpjdokkelpaaDoorPf
import Derived.Test.YtlhbpjdokkelpaaDoorWo
namespace Go.Proofs.YtlhbpjdokkelpaaDoor
open Go.RowKit
open PL

set_option maxHeartbeats 8000000 in
theorem FnOver_walk (ad : Option Addr) (len cap : Nat) (w0 : World) (hB : BytesIn w0 ad len cap) (HZ : ZC w0) :
    Calls Tryd.prog 3 #[.slice ad len cap] w0 fun e w' =>
      e = .returned (.bool true) ∧ Below w0.heap.size w0 w' := by
  go_enter Tryd.func3, Tryd.ntmps3
  by_cases hl : (len : Int) > 1048576
  · go_wp2_with fail
    go_ret
    exact ⟨rfl, Below.refl _ _⟩
  · go_wp2_with fail
    refine (DrawFracOver_any ad len cap w0 hB).mono ?_
    rintro e w ⟨x1, x2, x3, y1, y2, y3, rfl, hb0⟩
    obtain ⟨⟨p, q, d⟩, ok, H0⟩ : ∃ r o, over ⟨x1, x2, x3⟩ ⟨y1, y2, y3⟩ = (r, o) := ⟨_, _, rfl⟩
    have H := Lib.hid H0
    go_wp2_with fail
    refine (over_any _ _ _ _ _ _ p q d ok _ (ZC.below (ZC.below HZ hb0) (by first | exact (TL.new (t := 24) (TL.new (t := 24) (TL.refl w) rfl) (by simp)).1.1 | go_grown)) H).mono ?_
    rintro e w1 ⟨rfl, hbw1⟩
    have Tw1 : TL w [(w.heap.size + 1, [.int .i64 y1, .int .i64 y2, .int .i64 y3]), (w.heap.size, [.int .i64 x1, .int .i64 x2, .int .i64 x3])] w1 := TL.below (TL.new (t := 24) (TL.new (t := 24) (TL.refl w) rfl) (by simp)) hbw1
    clear hbw1
    have xw100 : w1.cell? ⟨w.heap.size + 1, 0, none⟩ = some (.int .i64 y1) := Tw1.2.1.2.1.1
    have xw101 : w1.cell? ⟨w.heap.size + 1, 1, none⟩ = some (.int .i64 y2) := Tw1.2.1.2.2.1.1
    have xw102 : w1.cell? ⟨w.heap.size + 1, 2, none⟩ = some (.int .i64 y3) := Tw1.2.1.2.2.2.1.1
    have xw110 : w1.cell? ⟨w.heap.size, 0, none⟩ = some (.int .i64 x1) := Tw1.2.2.1.2.1.1
    have xw111 : w1.cell? ⟨w.heap.size, 1, none⟩ = some (.int .i64 x2) := Tw1.2.2.1.2.2.1.1
    have xw112 : w1.cell? ⟨w.heap.size, 2, none⟩ = some (.int .i64 x3) := Tw1.2.2.1.2.2.2.1.1
    have lw10 := Tw1.2.1.1
    have lw11 := Tw1.2.2.1.1
    go_wp2_with fail
    refine (sover_any _ _ _ _ _ _ p q d ok _ H).mono ?_
    rintro e w2 ⟨rfl, hbw2⟩
    have Tw2 : TL w [(w1.heap.size, [.int .i64 p, .int .i64 q, .int .i64 d]), (w.heap.size + 1, [.int .i64 y1, .int .i64 y2, .int .i64 y3]), (w.heap.size, [.int .i64 x1, .int .i64 x2, .int .i64 x3])] w2 := TL.below (TL.new (t := 24) (Tw1) rfl) hbw2
    clear hbw2
    have xw200 : w2.cell? ⟨w1.heap.size, 0, none⟩ = some (.int .i64 p) := Tw2.2.1.2.1.1
    have xw201 : w2.cell? ⟨w1.heap.size, 1, none⟩ = some (.int .i64 q) := Tw2.2.1.2.2.1.1
    have xw202 : w2.cell? ⟨w1.heap.size, 2, none⟩ = some (.int .i64 d) := Tw2.2.1.2.2.2.1.1
    have xw210 : w2.cell? ⟨w.heap.size + 1, 0, none⟩ = some (.int .i64 y1) := Tw2.2.2.1.2.1.1
    have xw211 : w2.cell? ⟨w.heap.size + 1, 1, none⟩ = some (.int .i64 y2) := Tw2.2.2.1.2.2.1.1
    have xw212 : w2.cell? ⟨w.heap.size + 1, 2, none⟩ = some (.int .i64 y3) := Tw2.2.2.1.2.2.2.1.1
    have xw220 : w2.cell? ⟨w.heap.size, 0, none⟩ = some (.int .i64 x1) := Tw2.2.2.2.1.2.1.1
    have xw221 : w2.cell? ⟨w.heap.size, 1, none⟩ = some (.int .i64 x2) := Tw2.2.2.2.1.2.2.1.1
    have xw222 : w2.cell? ⟨w.heap.size, 2, none⟩ = some (.int .i64 x3) := Tw2.2.2.2.1.2.2.2.1.1
    have lw20 := Tw2.2.1.1
    have lw21 := Tw2.2.2.1.1
    have lw22 := Tw2.2.2.2.1.1
    cases ok
    · go_wp2_with fail
      go_ret
      exact ⟨rfl, into hb0 (TL.new (t := 24) (Tw2) rfl).1.1 hb0.size⟩
    obtain ⟨⟨u1, u2, u3⟩, o, H3⟩ : ∃ r o, times ⟨p, q, d⟩ ⟨y1, y2, y3⟩ = (r, o) := ⟨_, _, rfl⟩
    have H1 := Lib.hid H3
    go_wp2_with fail
    refine (times_any _ _ _ _ _ _ u1 u2 u3 o _ H1).mono ?_
    rintro e w3 ⟨rfl, hbw3⟩
    have Tw3 : TL w [(w2.heap.size, [.int .i64 p, .int .i64 q, .int .i64 d]), (w1.heap.size, [.int .i64 p, .int .i64 q, .int .i64 d]), (w.heap.size + 1, [.int .i64 y1, .int .i64 y2, .int .i64 y3]), (w.heap.size, [.int .i64 x1, .int .i64 x2, .int .i64 x3])] w3 := TL.below (TL.new (t := 24) (Tw2) rfl) hbw3
    clear hbw3
    have xw300 : w3.cell? ⟨w2.heap.size, 0, none⟩ = some (.int .i64 p) := Tw3.2.1.2.1.1
    have xw301 : w3.cell? ⟨w2.heap.size, 1, none⟩ = some (.int .i64 q) := Tw3.2.1.2.2.1.1
    have xw302 : w3.cell? ⟨w2.heap.size, 2, none⟩ = some (.int .i64 d) := Tw3.2.1.2.2.2.1.1
    have xw310 : w3.cell? ⟨w1.heap.size, 0, none⟩ = some (.int .i64 p) := Tw3.2.2.1.2.1.1
    have xw311 : w3.cell? ⟨w1.heap.size, 1, none⟩ = some (.int .i64 q) := Tw3.2.2.1.2.2.1.1
    have xw312 : w3.cell? ⟨w1.heap.size, 2, none⟩ = some (.int .i64 d) := Tw3.2.2.1.2.2.2.1.1
    have xw320 : w3.cell? ⟨w.heap.size + 1, 0, none⟩ = some (.int .i64 y1) := Tw3.2.2.2.1.2.1.1
    have xw321 : w3.cell? ⟨w.heap.size + 1, 1, none⟩ = some (.int .i64 y2) := Tw3.2.2.2.1.2.2.1.1
    have xw322 : w3.cell? ⟨w.heap.size + 1, 2, none⟩ = some (.int .i64 y3) := Tw3.2.2.2.1.2.2.2.1.1
    have xw330 : w3.cell? ⟨w.heap.size, 0, none⟩ = some (.int .i64 x1) := Tw3.2.2.2.2.1.2.1.1
    have xw331 : w3.cell? ⟨w.heap.size, 1, none⟩ = some (.int .i64 x2) := Tw3.2.2.2.2.1.2.2.1.1
    have xw332 : w3.cell? ⟨w.heap.size, 2, none⟩ = some (.int .i64 x3) := Tw3.2.2.2.2.1.2.2.2.1.1
    have lw30 := Tw3.2.1.1
    have lw31 := Tw3.2.2.1.1
    have lw32 := Tw3.2.2.2.1.1
    have lw33 := Tw3.2.2.2.2.1.1
    cases o
    · go_wp2_with fail
      (first | go_quiet (fail) | skip)
      go_wp2_with fail
      go_ret
      exact ⟨rfl, by first | exact into hb0 (TL.new (t := 24) (Tw3) rfl).1.1 hb0.size | exact into hb0 (TL.drewN (TL.new (t := 24) (Tw3) rfl) _).1.1 hb0.size⟩
    · have E := times_of_over H0 H3
      simp only [Fr.mk.injEq] at E
      obtain ⟨e1, e2, e3⟩ := E
      subst u1
      subst u2
      subst u3
      go_wp2_with fail
      (first | go_quiet (fail) | skip)
      go_wp2_with fail
      go_ret
      exact ⟨rfl, by first | exact into hb0 (TL.new (t := 24) (Tw3) rfl).1.1 hb0.size | exact into hb0 (TL.drewN (TL.new (t := 24) (Tw3) rfl) _).1.1 hb0.size⟩

end Go.Proofs.YtlhbpjdokkelpaaDoor
