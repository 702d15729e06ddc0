/-
  WALKS: is a vector dark? (the program's and the reference's). Condition: the variable zero holds 0 over 1.
-/
import Derived.Test.YtlhbpjdokkelpaaDoorWo
import Derived.Test.YtlhbpjdokkelpaaDoorWi
namespace Go.Proofs.YtlhbpjdokkelpaaDoor
open Go.RowKit
open PL

set_option maxHeartbeats 4000000 in
theorem dark_any (a1 a2 a3 a4 a5 a6 : Int) (b : Bool) (w : World) (HZ : ZC w) (hb : Hid (((a1 == 0) && (a2 == 0) && (a3 == 1) && (a4 == 0) && (a5 == 0) && (a6 == 1)) = b)) :
    Calls Tryd.prog 27 #[.agg #[.int .i64 a1, .int .i64 a2, .int .i64 a3, .int .i64 a4, .int .i64 a5, .int .i64 a6]] w fun e w' => e = .returned (.bool b) ∧ Below w.heap.size w w' := by
  have HA := HZ.below (show Below w.heap.size w (w.alloc (.cells #[.int .i64 a1, .int .i64 a2, .int .i64 a3, .int .i64 a4, .int .i64 a5, .int .i64 a6] 32)) from (Below.refl _ _).alloc (Nat.le_refl _) _)
  have z0 : (w.alloc (.cells #[.int .i64 a1, .int .i64 a2, .int .i64 a3, .int .i64 a4, .int .i64 a5, .int .i64 a6] 32)).cell? ⟨0, 0, none⟩ = some (.int .i64 0) := HA.2.1
  have z1 : (w.alloc (.cells #[.int .i64 a1, .int .i64 a2, .int .i64 a3, .int .i64 a4, .int .i64 a5, .int .i64 a6] 32)).cell? ⟨0, 1, none⟩ = some (.int .i64 0) := HA.2.2.1
  have z2 : (w.alloc (.cells #[.int .i64 a1, .int .i64 a2, .int .i64 a3, .int .i64 a4, .int .i64 a5, .int .i64 a6] 32)).cell? ⟨0, 2, none⟩ = some (.int .i64 1) := HA.2.2.2
  have y0 : w.cell? ⟨0, 0, none⟩ = some (.int .i64 0) := HZ.2.1
  have y1 : w.cell? ⟨0, 1, none⟩ = some (.int .i64 0) := HZ.2.2.1
  have y2 : w.cell? ⟨0, 2, none⟩ = some (.int .i64 1) := HZ.2.2.2
  clear HA HZ
  rcases Bool.eq_false_or_eq_true (a1 == 0) with h0 | h0
  · rcases Bool.eq_false_or_eq_true (a2 == 0) with h1 | h1
    · rcases Bool.eq_false_or_eq_true (a3 == 1) with h2 | h2
      · rcases Bool.eq_false_or_eq_true (a4 == 0) with h3 | h3
        · rcases Bool.eq_false_or_eq_true (a5 == 0) with h4 | h4
          · rcases Bool.eq_false_or_eq_true (a6 == 1) with h5 | h5
            · have HB := Lib.hid (show b = true by have h := hb.out; rw [h0, h1, h2, h3, h4, h5] at h; simpa using h.symm)
              clear hb
              go_enter Tryd.func27, Tryd.ntmps27
              go_wp2_with fail
              go_ret
              exact ⟨by rw [HB.out]; rfl, (Below.refl _ _).alloc (Nat.le_refl _) _⟩
            · have HB := Lib.hid (show b = false by have h := hb.out; rw [h0, h1, h2, h3, h4, h5] at h; simpa using h.symm)
              clear hb
              go_enter Tryd.func27, Tryd.ntmps27
              go_wp2_with fail
              go_ret
              exact ⟨by rw [HB.out]; rfl, (Below.refl _ _).alloc (Nat.le_refl _) _⟩
          · have HB := Lib.hid (show b = false by have h := hb.out; rw [h0, h1, h2, h3, h4] at h; simpa using h.symm)
            clear hb
            go_enter Tryd.func27, Tryd.ntmps27
            go_wp2_with fail
            go_ret
            exact ⟨by rw [HB.out]; rfl, (Below.refl _ _).alloc (Nat.le_refl _) _⟩
        · have HB := Lib.hid (show b = false by have h := hb.out; rw [h0, h1, h2, h3] at h; simpa using h.symm)
          clear hb
          go_enter Tryd.func27, Tryd.ntmps27
          go_wp2_with fail
          go_ret
          exact ⟨by rw [HB.out]; rfl, (Below.refl _ _).alloc (Nat.le_refl _) _⟩
      · have HB := Lib.hid (show b = false by have h := hb.out; rw [h0, h1, h2] at h; simpa using h.symm)
        clear hb
        go_enter Tryd.func27, Tryd.ntmps27
        go_wp2_with fail
        go_ret
        exact ⟨by rw [HB.out]; rfl, (Below.refl _ _).alloc (Nat.le_refl _) _⟩
    · have HB := Lib.hid (show b = false by have h := hb.out; rw [h0, h1] at h; simpa using h.symm)
      clear hb
      go_enter Tryd.func27, Tryd.ntmps27
      go_wp2_with fail
      go_ret
      exact ⟨by rw [HB.out]; rfl, (Below.refl _ _).alloc (Nat.le_refl _) _⟩
  · have HB := Lib.hid (show b = false by have h := hb.out; rw [h0] at h; simpa using h.symm)
    clear hb
    go_enter Tryd.func27, Tryd.ntmps27
    go_wp2_with fail
    go_ret
    exact ⟨by rw [HB.out]; rfl, (Below.refl _ _).alloc (Nat.le_refl _) _⟩

end Go.Proofs.YtlhbpjdokkelpaaDoor
