/-
  THE WALK of FnJones: for all bytes it returns true and turns nothing old.
-/
import Derived.Test.YtlhbpjdokkelpaaDoorWx
import Derived.Test.YtlhbpjdokkelpaaDoorWva
namespace Go.Proofs.YtlhbpjdokkelpaaDoor
open Go.RowKit
open PL

set_option maxHeartbeats 8000000 in
theorem FnJones_walk (ad : Option Addr) (len cap : Nat) (w0 : World) (hB : BytesIn w0 ad len cap) (HZ : ZC w0) :
    Calls Tryd.prog 5 #[.slice ad len cap] w0 fun e w' =>
      e = .returned (.bool true) ∧ Below w0.heap.size w0 w' := by
  go_enter Tryd.func5, Tryd.ntmps5
  by_cases hl : (len : Int) > 1048576
  · go_wp2_with fail
    go_ret
    exact ⟨rfl, Below.refl _ _⟩
  · go_wp2_with fail
    refine (DrawJonesValid_any ad len cap w0 hB).mono ?_
    rintro e w ⟨x1, x2, x3, x4, x5, x6, rfl, hb0⟩
    obtain ⟨o, hv⟩ : ∃ o, (valid ⟨x1, x2, x3⟩ && valid ⟨x4, x5, x6⟩) = o := ⟨_, rfl⟩
    have HV := Lib.hid hv
    go_wp2_with fail
    refine (jvalid_any _ _ _ _ _ _ o _ HV).mono ?_
    rintro e w1 ⟨rfl, hbw1⟩
    have Tw1 : TL w [(w.heap.size, [.int .i64 x1, .int .i64 x2, .int .i64 x3, .int .i64 x4, .int .i64 x5, .int .i64 x6])] w1 := TL.below (TL.new (t := 32) (TL.refl w) rfl) hbw1
    clear hbw1
    have xw100 : w1.cell? ⟨w.heap.size, 0, none⟩ = some (.int .i64 x1) := Tw1.2.1.2.1.1
    have xw101 : w1.cell? ⟨w.heap.size, 1, none⟩ = some (.int .i64 x2) := Tw1.2.1.2.2.1.1
    have xw102 : w1.cell? ⟨w.heap.size, 2, none⟩ = some (.int .i64 x3) := Tw1.2.1.2.2.2.1.1
    have xw103 : w1.cell? ⟨w.heap.size, 3, none⟩ = some (.int .i64 x4) := Tw1.2.1.2.2.2.2.1.1
    have xw104 : w1.cell? ⟨w.heap.size, 4, none⟩ = some (.int .i64 x5) := Tw1.2.1.2.2.2.2.2.1.1
    have xw105 : w1.cell? ⟨w.heap.size, 5, none⟩ = some (.int .i64 x6) := Tw1.2.1.2.2.2.2.2.2.1.1
    have lw10 := Tw1.2.1.1
    go_wp2_with fail
    refine (sjvalid_any _ _ _ _ _ _ o _ HV).mono ?_
    rintro e w2 ⟨rfl, hbw2⟩
    have Tw2 : TL w [(w.heap.size, [.int .i64 x1, .int .i64 x2, .int .i64 x3, .int .i64 x4, .int .i64 x5, .int .i64 x6])] w2 := TL.below (Tw1) hbw2
    clear hbw2
    have xw200 : w2.cell? ⟨w.heap.size, 0, none⟩ = some (.int .i64 x1) := Tw2.2.1.2.1.1
    have xw201 : w2.cell? ⟨w.heap.size, 1, none⟩ = some (.int .i64 x2) := Tw2.2.1.2.2.1.1
    have xw202 : w2.cell? ⟨w.heap.size, 2, none⟩ = some (.int .i64 x3) := Tw2.2.1.2.2.2.1.1
    have xw203 : w2.cell? ⟨w.heap.size, 3, none⟩ = some (.int .i64 x4) := Tw2.2.1.2.2.2.2.1.1
    have xw204 : w2.cell? ⟨w.heap.size, 4, none⟩ = some (.int .i64 x5) := Tw2.2.1.2.2.2.2.2.1.1
    have xw205 : w2.cell? ⟨w.heap.size, 5, none⟩ = some (.int .i64 x6) := Tw2.2.1.2.2.2.2.2.2.1.1
    have lw20 := Tw2.2.1.1
    cases o
    · go_wp2_with fail
      go_ret
      exact ⟨rfl, into hb0 (Tw2).1.1 hb0.size⟩
    obtain ⟨⟨p, q, d⟩, t, H3⟩ : ∃ r o, times ⟨x1, x2, x3⟩ ⟨x4, x5, x6⟩ = (r, o) := ⟨_, _, rfl⟩
    have H1 := Lib.hid H3
    have HA := Lib.hid (fun h : t = true => alike_self hv (by rw [H3]; exact h))
    clear H3 hv
    go_wp2_with fail
    refine (times_any _ _ _ _ _ _ p q d t _ H1).mono ?_
    rintro e w3 ⟨rfl, hbw3⟩
    have Tw3 : TL w [(w.heap.size, [.int .i64 x1, .int .i64 x2, .int .i64 x3, .int .i64 x4, .int .i64 x5, .int .i64 x6])] w3 := TL.below (Tw2) hbw3
    clear hbw3
    have xw300 : w3.cell? ⟨w.heap.size, 0, none⟩ = some (.int .i64 x1) := Tw3.2.1.2.1.1
    have xw301 : w3.cell? ⟨w.heap.size, 1, none⟩ = some (.int .i64 x2) := Tw3.2.1.2.2.1.1
    have xw302 : w3.cell? ⟨w.heap.size, 2, none⟩ = some (.int .i64 x3) := Tw3.2.1.2.2.2.1.1
    have xw303 : w3.cell? ⟨w.heap.size, 3, none⟩ = some (.int .i64 x4) := Tw3.2.1.2.2.2.2.1.1
    have xw304 : w3.cell? ⟨w.heap.size, 4, none⟩ = some (.int .i64 x5) := Tw3.2.1.2.2.2.2.2.1.1
    have xw305 : w3.cell? ⟨w.heap.size, 5, none⟩ = some (.int .i64 x6) := Tw3.2.1.2.2.2.2.2.2.1.1
    have lw30 := Tw3.2.1.1
    cases t
    · clear HA
      go_wp2_with fail
      (first | go_quiet (fail) | skip)
      go_wp2_with fail
      go_ret
      exact ⟨rfl, by first | exact into hb0 (TL.new (t := 24) (Tw3) rfl).1.1 hb0.size | exact into hb0 (TL.drewN (TL.new (t := 24) (Tw3) rfl) _).1.1 hb0.size⟩
    have H2 := Lib.hid (HA.out rfl)
    clear HA
    go_wp2_with fail
    refine (alike_any _ _ _ _ _ _ _ _ _ _ _ _ true _ (ZC.below (ZC.below HZ hb0) (by first | exact (TL.new (t := 24) (Tw3) rfl).1.1 | go_grown)) H2).mono ?_
    rintro e w4 ⟨rfl, hbw4⟩
    have Tw4 : TL w [(w3.heap.size, [.int .i64 p, .int .i64 q, .int .i64 d]), (w.heap.size, [.int .i64 x1, .int .i64 x2, .int .i64 x3, .int .i64 x4, .int .i64 x5, .int .i64 x6])] w4 := TL.below (TL.new (t := 24) (Tw3) rfl) hbw4
    clear hbw4
    have xw400 : w4.cell? ⟨w3.heap.size, 0, none⟩ = some (.int .i64 p) := Tw4.2.1.2.1.1
    have xw401 : w4.cell? ⟨w3.heap.size, 1, none⟩ = some (.int .i64 q) := Tw4.2.1.2.2.1.1
    have xw402 : w4.cell? ⟨w3.heap.size, 2, none⟩ = some (.int .i64 d) := Tw4.2.1.2.2.2.1.1
    have xw410 : w4.cell? ⟨w.heap.size, 0, none⟩ = some (.int .i64 x1) := Tw4.2.2.1.2.1.1
    have xw411 : w4.cell? ⟨w.heap.size, 1, none⟩ = some (.int .i64 x2) := Tw4.2.2.1.2.2.1.1
    have xw412 : w4.cell? ⟨w.heap.size, 2, none⟩ = some (.int .i64 x3) := Tw4.2.2.1.2.2.2.1.1
    have xw413 : w4.cell? ⟨w.heap.size, 3, none⟩ = some (.int .i64 x4) := Tw4.2.2.1.2.2.2.2.1.1
    have xw414 : w4.cell? ⟨w.heap.size, 4, none⟩ = some (.int .i64 x5) := Tw4.2.2.1.2.2.2.2.2.1.1
    have xw415 : w4.cell? ⟨w.heap.size, 5, none⟩ = some (.int .i64 x6) := Tw4.2.2.1.2.2.2.2.2.2.1.1
    have lw40 := Tw4.2.1.1
    have lw41 := Tw4.2.2.1.1
    go_wp2_with fail
    (first | go_quiet (fail) | skip)
    go_wp2_with fail
    go_ret
    exact ⟨rfl, by first | exact into hb0 (Tw4).1.1 hb0.size | exact into hb0 (TL.drewN (Tw4) _).1.1 hb0.size⟩

end Go.Proofs.YtlhbpjdokkelpaaDoor
