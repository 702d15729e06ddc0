/-
  THE WALK of FnExactJonesValid: for all arguments it returns true and turns nothing old.
-/
import Derived.Test.YtfiabpbfhldcnaaWk
import Derived.Test.YtfiabpbfhldcnaaWf
namespace Go.Proofs.Ytfiabpbfhldcnaa
open Go.RowKit
open PL

set_option maxHeartbeats 4000000 in
theorem FnExactJonesValid_walk (a1 a2 a3 a4 a5 a6 : Int) (w : World) :
    Calls Try.prog 3 #[.agg #[.int .i64 a1, .int .i64 a2, .int .i64 a3, .int .i64 a4, .int .i64 a5, .int .i64 a6]] w fun e w' =>
      e = .returned (.bool true) ∧ Below w.heap.size w w' := by
  obtain ⟨b, H0⟩ : ∃ b, (valid ⟨a1, a2, a3⟩ && valid ⟨a4, a5, a6⟩) = b := ⟨_, rfl⟩
  have H := Lib.hid H0; clear H0
  go_enter Try.func3, Try.ntmps3
  go_wp2_with fail
  refine (toJones_any _ _ _ _ _ _ _).mono ?_
  rintro e w1 ⟨rfl, hbw1, -⟩
  have Tw1 : TL w [(w.heap.size, [.int .i64 a1, .int .i64 a2, .int .i64 a3, .int .i64 a4, .int .i64 a5, .int .i64 a6])] w1 := TL.below (TL.new (t := 25) (TL.refl w) rfl) hbw1
  clear hbw1
  have xw100 : w1.cell? ⟨w.heap.size, 0, none⟩ = some (.int .i64 a1) := Tw1.2.1.2.1.1
  have xw101 : w1.cell? ⟨w.heap.size, 1, none⟩ = some (.int .i64 a2) := Tw1.2.1.2.2.1.1
  have xw102 : w1.cell? ⟨w.heap.size, 2, none⟩ = some (.int .i64 a3) := Tw1.2.1.2.2.2.1.1
  have xw103 : w1.cell? ⟨w.heap.size, 3, none⟩ = some (.int .i64 a4) := Tw1.2.1.2.2.2.2.1.1
  have xw104 : w1.cell? ⟨w.heap.size, 4, none⟩ = some (.int .i64 a5) := Tw1.2.1.2.2.2.2.2.1.1
  have xw105 : w1.cell? ⟨w.heap.size, 5, none⟩ = some (.int .i64 a6) := Tw1.2.1.2.2.2.2.2.2.1.1
  have lw10 := Tw1.2.1.1
  go_wp2_with fail
  refine (sjvalid_any _ _ _ _ _ _ b _ H).mono ?_
  rintro e w2 ⟨rfl, hbw2⟩
  have Tw2 : TL w [(w.heap.size, [.int .i64 a1, .int .i64 a2, .int .i64 a3, .int .i64 a4, .int .i64 a5, .int .i64 a6])] w2 := TL.below (Tw1) hbw2
  clear hbw2
  have xw200 : w2.cell? ⟨w.heap.size, 0, none⟩ = some (.int .i64 a1) := Tw2.2.1.2.1.1
  have xw201 : w2.cell? ⟨w.heap.size, 1, none⟩ = some (.int .i64 a2) := Tw2.2.1.2.2.1.1
  have xw202 : w2.cell? ⟨w.heap.size, 2, none⟩ = some (.int .i64 a3) := Tw2.2.1.2.2.2.1.1
  have xw203 : w2.cell? ⟨w.heap.size, 3, none⟩ = some (.int .i64 a4) := Tw2.2.1.2.2.2.2.1.1
  have xw204 : w2.cell? ⟨w.heap.size, 4, none⟩ = some (.int .i64 a5) := Tw2.2.1.2.2.2.2.2.1.1
  have xw205 : w2.cell? ⟨w.heap.size, 5, none⟩ = some (.int .i64 a6) := Tw2.2.1.2.2.2.2.2.2.1.1
  have lw20 := Tw2.2.1.1
  go_wp2_with fail
  refine (toJones_any _ _ _ _ _ _ _).mono ?_
  rintro e w3 ⟨rfl, hbw3, -⟩
  have Tw3 : TL w [(w.heap.size, [.int .i64 a1, .int .i64 a2, .int .i64 a3, .int .i64 a4, .int .i64 a5, .int .i64 a6])] w3 := TL.below (Tw2) hbw3
  clear hbw3
  have xw300 : w3.cell? ⟨w.heap.size, 0, none⟩ = some (.int .i64 a1) := Tw3.2.1.2.1.1
  have xw301 : w3.cell? ⟨w.heap.size, 1, none⟩ = some (.int .i64 a2) := Tw3.2.1.2.2.1.1
  have xw302 : w3.cell? ⟨w.heap.size, 2, none⟩ = some (.int .i64 a3) := Tw3.2.1.2.2.2.1.1
  have xw303 : w3.cell? ⟨w.heap.size, 3, none⟩ = some (.int .i64 a4) := Tw3.2.1.2.2.2.2.1.1
  have xw304 : w3.cell? ⟨w.heap.size, 4, none⟩ = some (.int .i64 a5) := Tw3.2.1.2.2.2.2.2.1.1
  have xw305 : w3.cell? ⟨w.heap.size, 5, none⟩ = some (.int .i64 a6) := Tw3.2.1.2.2.2.2.2.2.1.1
  have lw30 := Tw3.2.1.1
  go_wp2_with fail
  refine (jvalid_any _ _ _ _ _ _ b _ H).mono ?_
  rintro e w4 ⟨rfl, hbw4⟩
  have Tw4 : TL w [(w.heap.size, [.int .i64 a1, .int .i64 a2, .int .i64 a3, .int .i64 a4, .int .i64 a5, .int .i64 a6])] w4 := TL.below (Tw3) hbw4
  clear hbw4
  have xw400 : w4.cell? ⟨w.heap.size, 0, none⟩ = some (.int .i64 a1) := Tw4.2.1.2.1.1
  have xw401 : w4.cell? ⟨w.heap.size, 1, none⟩ = some (.int .i64 a2) := Tw4.2.1.2.2.1.1
  have xw402 : w4.cell? ⟨w.heap.size, 2, none⟩ = some (.int .i64 a3) := Tw4.2.1.2.2.2.1.1
  have xw403 : w4.cell? ⟨w.heap.size, 3, none⟩ = some (.int .i64 a4) := Tw4.2.1.2.2.2.2.1.1
  have xw404 : w4.cell? ⟨w.heap.size, 4, none⟩ = some (.int .i64 a5) := Tw4.2.1.2.2.2.2.2.1.1
  have xw405 : w4.cell? ⟨w.heap.size, 5, none⟩ = some (.int .i64 a6) := Tw4.2.1.2.2.2.2.2.2.1.1
  have lw40 := Tw4.2.1.1
  cases b
  all_goals
    go_wp2_with fail
    go_ret
    exact ⟨rfl, Tw4.1.1⟩

end Go.Proofs.Ytfiabpbfhldcnaa
