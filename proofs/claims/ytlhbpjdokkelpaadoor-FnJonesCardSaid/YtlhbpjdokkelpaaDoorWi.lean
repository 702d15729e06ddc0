/-
  WALKS: the reckoning that remembers whether something on the way is none (keep, need, add, times, mirror, power, got). Condition: its cell lies in memory.
-/
import Derived.Test.YtlhbpjdokkelpaaDoorWd
import Derived.Test.YtlhbpjdokkelpaaDoorWf
namespace Go.Proofs.YtlhbpjdokkelpaaDoor
open Go.RowKit
open PL

/-- All blocks but k are as they were; new ones may have come. -/
structure Bex (k : Nat) (w w' : World) : Prop where
  os : w'.os = w.os
  tape : w'.tape = w.tape
  output : w'.output = w.output
  size : w.heap.size ≤ w'.heap.size
  block : ∀ i, i < w.heap.size → i ≠ k → w'.heap[i]? = w.heap[i]?

theorem Bex.of {k : Nat} {w w' : World} (h : Below w.heap.size w w') : Bex k w w' := ⟨h.os, h.tape, h.output, h.size, fun i hi _ => h.block i hi⟩
theorem Bex.trans {k : Nat} {a b c : World} (h : Bex k a b) (g : Bex k b c) : Bex k a c :=
  ⟨g.os.trans h.os, g.tape.trans h.tape, g.output.trans h.output, Nat.le_trans h.size g.size, fun i hi hk => (g.block i (Nat.lt_of_lt_of_le hi h.size) hk).trans (h.block i hi hk)⟩
theorem Bex.refl (k : Nat) (w : World) : Bex k w w := Bex.of (Below.refl _ _)
theorem Bex.alloc {k : Nat} {a w : World} (h : Bex k a w) (o : Obj) : Bex k a (w.alloc o) := h.trans (Bex.of ((Below.refl _ _).alloc (Nat.le_refl _) _))
theorem Bex.drew {k : Nat} {a w : World} (h : Bex k a w) : Bex k a w.drew := h.trans (Bex.of (Below.drew (Below.refl _ _)))
theorem Bex.set {k o : Nat} {a w : World} (h : Bex k a w) (u : Value) : Bex k a (w.setCell ⟨k, o, none⟩ u) :=
  h.trans ⟨rfl, rfl, rfl, by rw [World.size_setCell]; exact Nat.le_refl _, fun _ _ hk => Below.heap_setCell _ _ _ _ hk⟩
theorem Bex.setNew {k g o : Nat} {a w : World} (h : Bex k a w) (hg : a.heap.size ≤ g) (u : Value) : Bex k a (w.setCell ⟨g, o, none⟩ u) :=
  ⟨h.os, h.tape, h.output, by rw [World.size_setCell]; exact h.size, fun i hi hk => (Below.heap_setCell _ _ _ _ (show i ≠ g by omega)).trans (h.block i hi hk)⟩
theorem Bex.below {k B : Nat} {w w' : World} (h : Bex k w w') (hk : B ≤ k) (hB : B ≤ w.heap.size) : Below B w w' :=
  ⟨h.os, h.tape, h.output, h.size, fun i hi => h.block i (by omega) (by omega)⟩
theorem Bex.cell {k i o : Nat} {w w' : World} (h : Bex k w w') (hi : i < w.heap.size) (hk : i ≠ k) : w'.cell? ⟨i, o, none⟩ = w.cell? ⟨i, o, none⟩ := World.cell?_of_block (w := w) (h.block i hi hk)
theorem Bex.frozen {k i o : Nat} {w w' : World} (h : Bex k w w') (hi : i < w.heap.size) (hk : i ≠ k) : w'.frozen? ⟨i, o, none⟩ = w.frozen? ⟨i, o, none⟩ := World.frozen?_of_block (w := w) (h.block i hi hk)
theorem CB.bex {k i : Nat} {w w' : World} (h : Bex k w w') (hi : i < w.heap.size) (hk : i ≠ k) : ∀ {vs : List Value} {o : Nat}, CB w i o vs → CB w' i o vs
  | [], _, _ => trivial
  | _ :: _, _, c => ⟨⟨(h.cell hi hk).trans c.1.1, (h.frozen hi hk).trans c.1.2⟩, CB.bex h hi hk c.2⟩
theorem BL.bex {k : Nat} {w w' : World} (h : Bex k w w') : ∀ {l : List (Nat × List Value)}, BL w l → (∀ x ∈ l, x.1 ≠ k) → BL w' l
  | [], _, _ => trivial
  | x :: _, b, hk => ⟨⟨Nat.lt_of_lt_of_le b.1.1 h.size, CB.bex h b.1.1 (hk x (by simp)) b.1.2⟩, BL.bex h b.2 (fun y hy => hk y (by simp [hy]))⟩
theorem TL.bex {k : Nat} {w W w1 : World} {l : List (Nat × List Value)} (h : TL w l W) (hb : Bex k W w1) (hk : w.heap.size ≤ k) (hl : ∀ x ∈ l, x.1 ≠ k) : TL w l w1 :=
  ⟨⟨h.1.1.trans (hb.below hk h.1.2), Nat.le_trans h.1.2 hb.size⟩, BL.bex hb h.2 hl⟩
theorem TL.tail {w W : World} {x : Nat × List Value} {l : List (Nat × List Value)} (h : TL w (x :: l) W) : TL w l W := ⟨h.1, h.2.2⟩

/-- The cell of a reckoning: is something none? -/
def SB (w : World) (k : Nat) (b : Bool) : Prop := k < w.heap.size ∧ w.cell? ⟨k, 0, none⟩ = some (.bool b) ∧ w.frozen? ⟨k, 0, none⟩ = false
theorem SB.below {w w' : World} {k : Nat} {b : Bool} (h : SB w k b) (hb : Below w.heap.size w w') : SB w' k b :=
  ⟨Nat.lt_of_lt_of_le h.1 hb.size, (hb.cell (p := ⟨k, 0, none⟩) h.1).trans h.2.1, (hb.frozen (p := ⟨k, 0, none⟩) h.1).trans h.2.2⟩
theorem SB.new {w : World} {k : Nat} {b : Bool} {t : TypeId} (hk : k = w.heap.size) : SB (w.alloc (.cells #[.bool b] t)) k b := by
  subst hk; refine ⟨by simp, ?_, ?_⟩ <;> simp
theorem SB.alloc {w : World} {k : Nat} {b : Bool} (h : SB w k b) (o : Obj) : SB (w.alloc o) k b := SB.below h ((Below.refl _ _).alloc (Nat.le_refl _) _)
theorem SB.set {w : World} {k : Nat} {b c : Bool} (h : SB w k b) : SB (w.setCell ⟨k, 0, none⟩ (.bool c)) k c := by
  obtain ⟨h0, h1, h2⟩ := h
  refine ⟨?_, ?_, ?_⟩
  · rw [World.size_setCell]; exact h0
  · simp [*, go_sem]
  · rw [World.frozen?_setCell]; exact h2
theorem SB.far {w : World} {k g o : Nat} {b : Bool} {u : Value} (h : SB w k b) (hg : k ≠ g) : SB (w.setCell ⟨g, o, none⟩ u) k b :=
  ⟨by rw [World.size_setCell]; exact h.1, (World.cell?_of_block (Below.heap_setCell _ _ _ _ hg)).trans h.2.1, by rw [World.frozen?_setCell]; exact h.2.2⟩
theorem SB.cast {w : World} {k : Nat} {b c : Bool} (h : SB w k b) (e : b = c) : SB w k c := e ▸ h
theorem CB.sb {w w' : World} {k i : Nat} {b : Bool} {vs : List Value} (hS : SB w k b) (h : Bex k w w') (hik : i < k) (c : CB w i 0 vs) : CB w' i 0 vs := CB.bex h (Nat.lt_trans hik hS.1) (by omega) c
theorem C3.bex {k i : Nat} {w w' : World} {x y z : Value} (h : Bex k w w') (hi : i < w.heap.size) (hk : i ≠ k) (c : C3 w i x y z) : C3 w' i x y z :=
  ⟨(h.cell hi hk).trans c.1, (h.cell hi hk).trans c.2.1, (h.cell hi hk).trans c.2.2.1, (h.frozen hi hk).trans c.2.2.2.1, (h.frozen hi hk).trans c.2.2.2.2.1, (h.frozen hi hk).trans c.2.2.2.2.2⟩
theorem SB.lt {w : World} {k : Nat} {b : Bool} (h : SB w k b) : k < w.heap.size := h.1

set_option maxHeartbeats 1000000 in
theorem keep_any (k : Nat) (p q d : Int) (b ok : Bool) (w : World) (hS : SB w k b) (hn : Hid (ok = false → p = 0 ∧ q = 0 ∧ d = 0)) :
    Calls Tryd.prog 36 #[.pointer (some ⟨k, 0, none⟩), .agg #[.int .i64 p, .int .i64 q, .int .i64 d], .bool ok] w fun e w' =>
      e = .returned (.agg #[.int .i64 p, .int .i64 q, .int .i64 d]) ∧ Bex k w w' ∧ SB w' k (b || !ok) := by
  have hS0 := hS
  obtain ⟨hk, hc, hf⟩ := hS0
  have hk2 : k ≠ w.heap.size := by omega
  have hk3 : k ≠ w.heap.size + 1 := by omega
  cases ok
  · obtain ⟨rfl, rfl, rfl⟩ := hn.out rfl
    clear hn
    go_enter Tryd.func36, Tryd.ntmps36
    go_wp2_with fail
    refine bodyPost_ret (by simp [results, Tryd.results36, go_sem]; rfl) rfl ?_
    exact ⟨rfl, by repeat' (first | exact Bex.refl _ _ | refine Bex.alloc ?_ _ | refine Bex.set ?_ _ | refine Bex.setNew ?_ (by simp) _), by
      rw [show (b || !false) = true from by simp]
      repeat' (first | exact hS | refine SB.alloc ?_ _ | refine SB.set (b := b) ?_)⟩
  · clear hn
    go_enter Tryd.func36, Tryd.ntmps36
    go_wp2_with fail
    refine bodyPost_ret (by simp [results, Tryd.results36, go_sem]; rfl) rfl ?_
    exact ⟨rfl, by repeat' (first | exact Bex.refl _ _ | refine Bex.alloc ?_ _ | refine Bex.setNew ?_ (by simp) _), by
      rw [show (b || !true) = b from by simp]
      repeat' (first | exact hS | refine SB.alloc ?_ _ | refine SB.far ?_ (by omega))⟩

set_option maxHeartbeats 1000000 in
theorem need_any (k : Nat) (b ok : Bool) (w : World) (hS : SB w k b) :
    Calls Tryd.prog 25 #[.pointer (some ⟨k, 0, none⟩), .bool ok] w fun e w' => e = .returned (.pointer (some ⟨k, 0, none⟩)) ∧ Bex k w w' ∧ SB w' k (b || !ok) := by
  have hS0 := hS
  obtain ⟨hk, hc, hf⟩ := hS0
  cases ok
  · go_enter Tryd.func25, Tryd.ntmps25
    go_wp2_with fail
    go_ret
    exact ⟨rfl, Bex.set (Bex.refl _ _) _, by rw [show (b || !false) = true from by simp]; exact SB.set hS⟩
  · go_enter Tryd.func25, Tryd.ntmps25
    go_wp2_with fail
    go_ret
    exact ⟨rfl, Bex.refl _ _, by rw [show (b || !true) = b from by simp]; exact hS⟩

set_option maxHeartbeats 1000000 in
theorem s_times (k : Nat) (a1 a2 a3 c1 c2 c3 : Int) (b : Bool) (w : World) (hS : SB w k b) :
    Calls Tryd.prog 26 #[.pointer (some ⟨k, 0, none⟩), .agg #[.int .i64 a1, .int .i64 a2, .int .i64 a3], .agg #[.int .i64 c1, .int .i64 c2, .int .i64 c3]] w fun e w' =>
      e = .returned (.agg #[.int .i64 (times ⟨a1, a2, a3⟩ ⟨c1, c2, c3⟩).1.re, .int .i64 (times ⟨a1, a2, a3⟩ ⟨c1, c2, c3⟩).1.im, .int .i64 (times ⟨a1, a2, a3⟩ ⟨c1, c2, c3⟩).1.den]) ∧ Bex k w w' ∧ SB w' k (b || !(times ⟨a1, a2, a3⟩ ⟨c1, c2, c3⟩).2) := by
  obtain ⟨r, hr0⟩ : ∃ r, times ⟨a1, a2, a3⟩ ⟨c1, c2, c3⟩ = r := ⟨_, rfl⟩
  have hz : r.2 = false → r.1.re = 0 ∧ r.1.im = 0 ∧ r.1.den = 0 := by
    intro h
    rw [← hr0] at h ⊢
    rw [times_nil h]; exact ⟨rfl, rfl, rfl⟩
  obtain ⟨⟨p, q, d⟩, ok⟩ := r
  simp only at hz
  rw [hr0]
  have hr := Lib.hid hr0
  have Hz := Lib.hid hz
  clear hr0 hz
  have hk := hS.1
  go_enter Tryd.func26, Tryd.ntmps26
  go_wp2_with fail
  refine (times_any _ _ _ _ _ _ p q d ok _ hr).mono ?_
  rintro e w1 ⟨rfl, hb1⟩
  have hB1 : Below w.heap.size w w1 := into (by go_grown) hb1 (by simp <;> omega)
  have hz1 : w.heap.size + 3 ≤ w1.heap.size := by have := hb1.size; simp at this; omega
  have hS1 := SB.below hS hB1
  have c1 := C3.below hb1 (k := w.heap.size + 1 + 1) (by simp <;> omega) (C3.new (by simp))
  clear hb1
  go_wp2_with fail
  refine (keep_any k _ _ _ b ok _ hS1 Hz).mono ?_
  rintro e w2 ⟨rfl, hb2, hS2⟩
  have c2 := C3.bex hb2 (by omega) (by omega) c1
  obtain ⟨t0, t1, t2, t3, t4, t5⟩ := c2
  go_wp2_with fail
  refine bodyPost_ret (by simp [results, Tryd.results26, go_sem, t0, t1, t2]; rfl) rfl ?_
  exact ⟨rfl, Bex.setNew (Bex.setNew (Bex.setNew ((Bex.of hB1).trans hb2) (by omega) _) (by omega) _) (by omega) _, SB.far (SB.far (SB.far hS2 (by omega)) (by omega)) (by omega)⟩

theorem ret_jb {r s : (Fr × Fr) × Bool} (h : r = s) : Ending.returned (.tuple #[.agg #[.int .i64 r.1.1.re, .int .i64 r.1.1.im, .int .i64 r.1.1.den, .int .i64 r.1.2.re, .int .i64 r.1.2.im, .int .i64 r.1.2.den], .bool r.2]) = .returned (.tuple #[.agg #[.int .i64 s.1.1.re, .int .i64 s.1.1.im, .int .i64 s.1.1.den, .int .i64 s.1.2.re, .int .i64 s.1.2.im, .int .i64 s.1.2.den], .bool s.2]) := by rw [h]

theorem valid_h (re im den : Int) (b : Bool) (w : World) (hb0 : Hid (valid ⟨re, im, den⟩ = b)) :
    Calls Tryd.prog 18 #[.agg #[.int .i64 re, .int .i64 im, .int .i64 den]] w fun e w' => e = .returned (.bool b) ∧ Below w.heap.size w w' := valid_any re im den b w hb0.out

set_option maxHeartbeats 1000000 in
theorem jvalid_any (a1 a2 a3 a4 a5 a6 : Int) (b : Bool) (w : World) (hb0 : Hid ((valid ⟨a1, a2, a3⟩ && valid ⟨a4, a5, a6⟩) = b)) :
    Calls Tryd.prog 14 #[.agg #[.int .i64 a1, .int .i64 a2, .int .i64 a3, .int .i64 a4, .int .i64 a5, .int .i64 a6]] w fun e w' => e = .returned (.bool b) ∧ Below w.heap.size w w' := by
  by_cases hx : valid ⟨a1, a2, a3⟩ = true
  · have HX := Lib.hid hx
    obtain ⟨c, hc⟩ : ∃ c, valid ⟨a4, a5, a6⟩ = c := ⟨_, rfl⟩
    have HC := Lib.hid hc
    have HB : Hid (c = b) := by have h := hb0.out; rw [hx, hc, Bool.true_and] at h; exact h
    clear hx hc hb0
    go_enter Tryd.func14, Tryd.ntmps14
    go_wp2_with fail
    refine (valid_any _ _ _ true _ HX.out).mono ?_
    rintro e w1 ⟨rfl, hb1⟩
    have T1 : TL w [(w.heap.size, [.int .i64 a1, .int .i64 a2, .int .i64 a3, .int .i64 a4, .int .i64 a5, .int .i64 a6])] w1 := TL.below (TL.new (t := 32) (TL.refl w) rfl) hb1
    clear hb1
    have x00 : w1.cell? ⟨w.heap.size, 0, none⟩ = some (.int .i64 a1) := T1.2.1.2.1.1
    have x01 : w1.cell? ⟨w.heap.size, 1, none⟩ = some (.int .i64 a2) := T1.2.1.2.2.1.1
    have x02 : w1.cell? ⟨w.heap.size, 2, none⟩ = some (.int .i64 a3) := T1.2.1.2.2.2.1.1
    have x03 : w1.cell? ⟨w.heap.size, 3, none⟩ = some (.int .i64 a4) := T1.2.1.2.2.2.2.1.1
    have x04 : w1.cell? ⟨w.heap.size, 4, none⟩ = some (.int .i64 a5) := T1.2.1.2.2.2.2.2.1.1
    have x05 : w1.cell? ⟨w.heap.size, 5, none⟩ = some (.int .i64 a6) := T1.2.1.2.2.2.2.2.2.1.1
    go_wp2_with fail
    refine (valid_any _ _ _ c _ HC.out).mono ?_
    rintro e w2 ⟨rfl, hb2⟩
    have T2 := TL.below T1 hb2
    go_wp2_with fail
    go_ret
    exact ⟨ret_b HB.out, T2.1.1⟩
  · have HX := Lib.hid (show valid ⟨a1, a2, a3⟩ = false by simpa using hx)
    have HB : Hid (false = b) := by have h := hb0.out; rw [HX.out, Bool.false_and] at h; exact h
    clear hx hb0
    go_enter Tryd.func14, Tryd.ntmps14
    go_wp2_with fail
    refine (valid_any _ _ _ false _ HX.out).mono ?_
    rintro e w1 ⟨rfl, hb1⟩
    have T1 : TL w [(w.heap.size, [.int .i64 a1, .int .i64 a2, .int .i64 a3, .int .i64 a4, .int .i64 a5, .int .i64 a6])] w1 := TL.below (TL.new (t := 32) (TL.refl w) rfl) hb1
    go_wp2_with fail
    go_ret
    exact ⟨ret_b HB.out, T1.1.1⟩

set_option maxHeartbeats 1000000 in
theorem sjvalid_any (a1 a2 a3 a4 a5 a6 : Int) (b : Bool) (w : World) (hb0 : Hid ((valid ⟨a1, a2, a3⟩ && valid ⟨a4, a5, a6⟩) = b)) :
    Calls Tryd.prog 15 #[.agg #[.int .i64 a1, .int .i64 a2, .int .i64 a3, .int .i64 a4, .int .i64 a5, .int .i64 a6]] w fun e w' => e = .returned (.bool b) ∧ Below w.heap.size w w' := by
  by_cases hx : valid ⟨a1, a2, a3⟩ = true
  · have HX := Lib.hid hx
    obtain ⟨c, hc⟩ : ∃ c, valid ⟨a4, a5, a6⟩ = c := ⟨_, rfl⟩
    have HC := Lib.hid hc
    have HB : Hid (c = b) := by have h := hb0.out; rw [hx, hc, Bool.true_and] at h; exact h
    clear hx hc hb0
    go_enter Tryd.func15, Tryd.ntmps15
    go_wp2_with fail
    refine (svalid_any _ _ _ true _ HX.out).mono ?_
    rintro e w1 ⟨rfl, hb1⟩
    have T1 : TL w [(w.heap.size, [.int .i64 a1, .int .i64 a2, .int .i64 a3, .int .i64 a4, .int .i64 a5, .int .i64 a6])] w1 := TL.below (TL.new (t := 32) (TL.refl w) rfl) hb1
    clear hb1
    have x00 : w1.cell? ⟨w.heap.size, 0, none⟩ = some (.int .i64 a1) := T1.2.1.2.1.1
    have x01 : w1.cell? ⟨w.heap.size, 1, none⟩ = some (.int .i64 a2) := T1.2.1.2.2.1.1
    have x02 : w1.cell? ⟨w.heap.size, 2, none⟩ = some (.int .i64 a3) := T1.2.1.2.2.2.1.1
    have x03 : w1.cell? ⟨w.heap.size, 3, none⟩ = some (.int .i64 a4) := T1.2.1.2.2.2.2.1.1
    have x04 : w1.cell? ⟨w.heap.size, 4, none⟩ = some (.int .i64 a5) := T1.2.1.2.2.2.2.2.1.1
    have x05 : w1.cell? ⟨w.heap.size, 5, none⟩ = some (.int .i64 a6) := T1.2.1.2.2.2.2.2.2.1.1
    go_wp2_with fail
    refine (svalid_any _ _ _ c _ HC.out).mono ?_
    rintro e w2 ⟨rfl, hb2⟩
    have T2 := TL.below T1 hb2
    go_wp2_with fail
    go_ret
    exact ⟨ret_b HB.out, T2.1.1⟩
  · have HX := Lib.hid (show valid ⟨a1, a2, a3⟩ = false by simpa using hx)
    have HB : Hid (false = b) := by have h := hb0.out; rw [HX.out, Bool.false_and] at h; exact h
    clear hx hb0
    go_enter Tryd.func15, Tryd.ntmps15
    go_wp2_with fail
    refine (svalid_any _ _ _ false _ HX.out).mono ?_
    rintro e w1 ⟨rfl, hb1⟩
    have T1 : TL w [(w.heap.size, [.int .i64 a1, .int .i64 a2, .int .i64 a3, .int .i64 a4, .int .i64 a5, .int .i64 a6])] w1 := TL.below (TL.new (t := 32) (TL.refl w) rfl) hb1
    go_wp2_with fail
    go_ret
    exact ⟨ret_b HB.out, T1.1.1⟩

end Go.Proofs.YtlhbpjdokkelpaaDoor
