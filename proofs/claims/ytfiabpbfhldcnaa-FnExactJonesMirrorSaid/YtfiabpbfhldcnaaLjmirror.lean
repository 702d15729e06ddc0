/-
  THE WALK of FnExactJonesMirror: for all arguments it returns true and turns nothing old.
-/
import Derived.Test.YtfiabpbfhldcnaaWk
import Derived.Test.YtfiabpbfhldcnaaWm
import Derived.Test.YtfiabpbfhldcnaaWn
import Derived.Test.YtfiabpbfhldcnaaWp
import Derived.Test.YtfiabpbfhldcnaaWj
import Derived.Test.YtfiabpbfhldcnaaWf
namespace Go.Proofs.Ytfiabpbfhldcnaa
open Go.RowKit
open PL

set_option maxHeartbeats 4000000 in
theorem FnExactJonesMirror_walk (a1 a2 a3 a4 a5 a6 : Int) (w : World) :
    Calls Try.prog 6 #[.agg #[.int .i64 a1, .int .i64 a2, .int .i64 a3, .int .i64 a4, .int .i64 a5, .int .i64 a6]] w fun e w' =>
      e = .returned (.bool true) ∧ Below w.heap.size w w' := by
  obtain ⟨⟨⟨p1, p2, p3⟩, ⟨p4, p5, p6⟩⟩, b, H0⟩ : ∃ r b, jmirror ⟨a1, a2, a3⟩ ⟨a4, a5, a6⟩ = (r, b) := ⟨_, _, rfl⟩
  have H := Lib.hid H0; clear H0
  go_enter Try.func6, Try.ntmps6
  go_wp2_with fail
  refine (toJones_any _ _ _ _ _ _ _).mono ?_
  rintro e w1 ⟨rfl, hbw1, -⟩
  have Tw1 : TL w [(w.heap.size, [.int .i64 a1, .int .i64 a2, .int .i64 a3, .int .i64 a4, .int .i64 a5, .int .i64 a6])] w1 := TL.below (TL.new (t := 25) (TL.refl w) rfl) hbw1
  clear hbw1
  have xw100 : w1.cell? ⟨w.heap.size, 0, none⟩ = some (.int .i64 a1) := Tw1.2.1.2.1.1
  have xw101 : w1.cell? ⟨w.heap.size, 1, none⟩ = some (.int .i64 a2) := Tw1.2.1.2.2.1.1
  have xw102 : w1.cell? ⟨w.heap.size, 2, none⟩ = some (.int .i64 a3) := Tw1.2.1.2.2.2.1.1
  have xw103 : w1.cell? ⟨w.heap.size, 3, none⟩ = some (.int .i64 a4) := Tw1.2.1.2.2.2.2.1.1
  have xw104 : w1.cell? ⟨w.heap.size, 4, none⟩ = some (.int .i64 a5) := Tw1.2.1.2.2.2.2.2.1.1
  have xw105 : w1.cell? ⟨w.heap.size, 5, none⟩ = some (.int .i64 a6) := Tw1.2.1.2.2.2.2.2.2.1.1
  have lw10 := Tw1.2.1.1
  go_wp2_with fail
  refine (sjmirror_any _ _ _ _ _ _ p1 p2 p3 p4 p5 p6 b _ H).mono ?_
  rintro e w2 ⟨rfl, hbw2⟩
  have Tw2 : TL w [(w.heap.size, [.int .i64 a1, .int .i64 a2, .int .i64 a3, .int .i64 a4, .int .i64 a5, .int .i64 a6])] w2 := TL.below (Tw1) hbw2
  clear hbw2
  have xw200 : w2.cell? ⟨w.heap.size, 0, none⟩ = some (.int .i64 a1) := Tw2.2.1.2.1.1
  have xw201 : w2.cell? ⟨w.heap.size, 1, none⟩ = some (.int .i64 a2) := Tw2.2.1.2.2.1.1
  have xw202 : w2.cell? ⟨w.heap.size, 2, none⟩ = some (.int .i64 a3) := Tw2.2.1.2.2.2.1.1
  have xw203 : w2.cell? ⟨w.heap.size, 3, none⟩ = some (.int .i64 a4) := Tw2.2.1.2.2.2.2.1.1
  have xw204 : w2.cell? ⟨w.heap.size, 4, none⟩ = some (.int .i64 a5) := Tw2.2.1.2.2.2.2.2.1.1
  have xw205 : w2.cell? ⟨w.heap.size, 5, none⟩ = some (.int .i64 a6) := Tw2.2.1.2.2.2.2.2.2.1.1
  have lw20 := Tw2.2.1.1
  go_wp2_with fail
  refine (toJones_any _ _ _ _ _ _ _).mono ?_
  rintro e w3 ⟨rfl, hbw3, -⟩
  have Tw3 : TL w [(w2.heap.size, [.int .i64 p1, .int .i64 p2, .int .i64 p3, .int .i64 p4, .int .i64 p5, .int .i64 p6]), (w.heap.size, [.int .i64 a1, .int .i64 a2, .int .i64 a3, .int .i64 a4, .int .i64 a5, .int .i64 a6])] w3 := TL.below (TL.new (t := 29) Tw2 rfl) hbw3
  clear hbw3
  have xw300 : w3.cell? ⟨w2.heap.size, 0, none⟩ = some (.int .i64 p1) := Tw3.2.1.2.1.1
  have xw301 : w3.cell? ⟨w2.heap.size, 1, none⟩ = some (.int .i64 p2) := Tw3.2.1.2.2.1.1
  have xw302 : w3.cell? ⟨w2.heap.size, 2, none⟩ = some (.int .i64 p3) := Tw3.2.1.2.2.2.1.1
  have xw303 : w3.cell? ⟨w2.heap.size, 3, none⟩ = some (.int .i64 p4) := Tw3.2.1.2.2.2.2.1.1
  have xw304 : w3.cell? ⟨w2.heap.size, 4, none⟩ = some (.int .i64 p5) := Tw3.2.1.2.2.2.2.2.1.1
  have xw305 : w3.cell? ⟨w2.heap.size, 5, none⟩ = some (.int .i64 p6) := Tw3.2.1.2.2.2.2.2.2.1.1
  have xw310 : w3.cell? ⟨w.heap.size, 0, none⟩ = some (.int .i64 a1) := Tw3.2.2.1.2.1.1
  have xw311 : w3.cell? ⟨w.heap.size, 1, none⟩ = some (.int .i64 a2) := Tw3.2.2.1.2.2.1.1
  have xw312 : w3.cell? ⟨w.heap.size, 2, none⟩ = some (.int .i64 a3) := Tw3.2.2.1.2.2.2.1.1
  have xw313 : w3.cell? ⟨w.heap.size, 3, none⟩ = some (.int .i64 a4) := Tw3.2.2.1.2.2.2.2.1.1
  have xw314 : w3.cell? ⟨w.heap.size, 4, none⟩ = some (.int .i64 a5) := Tw3.2.2.1.2.2.2.2.2.1.1
  have xw315 : w3.cell? ⟨w.heap.size, 5, none⟩ = some (.int .i64 a6) := Tw3.2.2.1.2.2.2.2.2.2.1.1
  have lw30 := Tw3.2.1.1
  have lw31 := Tw3.2.2.1.1
  go_wp2_with fail
  refine (jmirror_any _ _ _ _ _ _ p1 p2 p3 p4 p5 p6 b _ H).mono ?_
  rintro e w4 ⟨rfl, hbw4⟩
  have Tw4 : TL w [(w2.heap.size, [.int .i64 p1, .int .i64 p2, .int .i64 p3, .int .i64 p4, .int .i64 p5, .int .i64 p6]), (w.heap.size, [.int .i64 a1, .int .i64 a2, .int .i64 a3, .int .i64 a4, .int .i64 a5, .int .i64 a6])] w4 := TL.below (Tw3) hbw4
  clear hbw4
  have xw400 : w4.cell? ⟨w2.heap.size, 0, none⟩ = some (.int .i64 p1) := Tw4.2.1.2.1.1
  have xw401 : w4.cell? ⟨w2.heap.size, 1, none⟩ = some (.int .i64 p2) := Tw4.2.1.2.2.1.1
  have xw402 : w4.cell? ⟨w2.heap.size, 2, none⟩ = some (.int .i64 p3) := Tw4.2.1.2.2.2.1.1
  have xw403 : w4.cell? ⟨w2.heap.size, 3, none⟩ = some (.int .i64 p4) := Tw4.2.1.2.2.2.2.1.1
  have xw404 : w4.cell? ⟨w2.heap.size, 4, none⟩ = some (.int .i64 p5) := Tw4.2.1.2.2.2.2.2.1.1
  have xw405 : w4.cell? ⟨w2.heap.size, 5, none⟩ = some (.int .i64 p6) := Tw4.2.1.2.2.2.2.2.2.1.1
  have xw410 : w4.cell? ⟨w.heap.size, 0, none⟩ = some (.int .i64 a1) := Tw4.2.2.1.2.1.1
  have xw411 : w4.cell? ⟨w.heap.size, 1, none⟩ = some (.int .i64 a2) := Tw4.2.2.1.2.2.1.1
  have xw412 : w4.cell? ⟨w.heap.size, 2, none⟩ = some (.int .i64 a3) := Tw4.2.2.1.2.2.2.1.1
  have xw413 : w4.cell? ⟨w.heap.size, 3, none⟩ = some (.int .i64 a4) := Tw4.2.2.1.2.2.2.2.1.1
  have xw414 : w4.cell? ⟨w.heap.size, 4, none⟩ = some (.int .i64 a5) := Tw4.2.2.1.2.2.2.2.2.1.1
  have xw415 : w4.cell? ⟨w.heap.size, 5, none⟩ = some (.int .i64 a6) := Tw4.2.2.1.2.2.2.2.2.2.1.1
  have lw40 := Tw4.2.1.1
  have lw41 := Tw4.2.2.1.1
  go_wp2_with fail
  refine (eqJones_yes _ _ _ _ _ _ _).mono ?_
  rintro e w5 ⟨rfl, hbw5⟩
  have Tw5 : TL w [(w4.heap.size, [.int .i64 p1, .int .i64 p2, .int .i64 p3, .int .i64 p4, .int .i64 p5, .int .i64 p6]), (w2.heap.size, [.int .i64 p1, .int .i64 p2, .int .i64 p3, .int .i64 p4, .int .i64 p5, .int .i64 p6]), (w.heap.size, [.int .i64 a1, .int .i64 a2, .int .i64 a3, .int .i64 a4, .int .i64 a5, .int .i64 a6])] w5 := TL.below (TL.new (t := 29) Tw4 rfl) hbw5
  clear hbw5
  have xw500 : w5.cell? ⟨w4.heap.size, 0, none⟩ = some (.int .i64 p1) := Tw5.2.1.2.1.1
  have xw501 : w5.cell? ⟨w4.heap.size, 1, none⟩ = some (.int .i64 p2) := Tw5.2.1.2.2.1.1
  have xw502 : w5.cell? ⟨w4.heap.size, 2, none⟩ = some (.int .i64 p3) := Tw5.2.1.2.2.2.1.1
  have xw503 : w5.cell? ⟨w4.heap.size, 3, none⟩ = some (.int .i64 p4) := Tw5.2.1.2.2.2.2.1.1
  have xw504 : w5.cell? ⟨w4.heap.size, 4, none⟩ = some (.int .i64 p5) := Tw5.2.1.2.2.2.2.2.1.1
  have xw505 : w5.cell? ⟨w4.heap.size, 5, none⟩ = some (.int .i64 p6) := Tw5.2.1.2.2.2.2.2.2.1.1
  have xw510 : w5.cell? ⟨w2.heap.size, 0, none⟩ = some (.int .i64 p1) := Tw5.2.2.1.2.1.1
  have xw511 : w5.cell? ⟨w2.heap.size, 1, none⟩ = some (.int .i64 p2) := Tw5.2.2.1.2.2.1.1
  have xw512 : w5.cell? ⟨w2.heap.size, 2, none⟩ = some (.int .i64 p3) := Tw5.2.2.1.2.2.2.1.1
  have xw513 : w5.cell? ⟨w2.heap.size, 3, none⟩ = some (.int .i64 p4) := Tw5.2.2.1.2.2.2.2.1.1
  have xw514 : w5.cell? ⟨w2.heap.size, 4, none⟩ = some (.int .i64 p5) := Tw5.2.2.1.2.2.2.2.2.1.1
  have xw515 : w5.cell? ⟨w2.heap.size, 5, none⟩ = some (.int .i64 p6) := Tw5.2.2.1.2.2.2.2.2.2.1.1
  have xw520 : w5.cell? ⟨w.heap.size, 0, none⟩ = some (.int .i64 a1) := Tw5.2.2.2.1.2.1.1
  have xw521 : w5.cell? ⟨w.heap.size, 1, none⟩ = some (.int .i64 a2) := Tw5.2.2.2.1.2.2.1.1
  have xw522 : w5.cell? ⟨w.heap.size, 2, none⟩ = some (.int .i64 a3) := Tw5.2.2.2.1.2.2.2.1.1
  have xw523 : w5.cell? ⟨w.heap.size, 3, none⟩ = some (.int .i64 a4) := Tw5.2.2.2.1.2.2.2.2.1.1
  have xw524 : w5.cell? ⟨w.heap.size, 4, none⟩ = some (.int .i64 a5) := Tw5.2.2.2.1.2.2.2.2.2.1.1
  have xw525 : w5.cell? ⟨w.heap.size, 5, none⟩ = some (.int .i64 a6) := Tw5.2.2.2.1.2.2.2.2.2.2.1.1
  have lw50 := Tw5.2.1.1
  have lw51 := Tw5.2.2.1.1
  have lw52 := Tw5.2.2.2.1.1
  cases b
  all_goals
    go_wp2_with fail
    go_ret
    exact ⟨rfl, Tw5.1.1⟩

end Go.Proofs.Ytfiabpbfhldcnaa
