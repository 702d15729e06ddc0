/-
  THE DRAWS of fractions: some integers. Condition: the bytes that came in.
-/
import Derived.Test.YtmhdklhdnmpabaaWr
import Derived.Deep.QuietTactic
namespace Go.Proofs.Ytmhdklhdnmpabaa
open Go.RowKit
open PL

theorem drawn {g K : Nat} {w w1 w2 : World} (hb : Below w.heap.size w w1) (R : RD w.heap.size g K w1) (X : Bex g w1 w2) : Below w.heap.size w w2 := hb.trans (X.below R.1 hb.size)

theorem BytesIn.below {w W : World} {a : Option Addr} {len cap : Nat} (h : BytesIn w a len cap) (hb : Below w.heap.size w W) : BytesIn W a len cap := by
  rcases h with h | ⟨b, off, e, h1, h2, h3, h4⟩
  · exact .inl h
  · exact .inr ⟨b, off, e, h1, h2, Nat.lt_of_lt_of_le h3 hb.size, fun i hi => by obtain ⟨x, x0, x1, hc⟩ := h4 i hi; exact ⟨x, x0, x1, (hb.cell (p := ⟨b, off + i, none⟩) h3).trans hc⟩⟩

theorem TL.bexR {w W w1 : World} {l : List (Nat × List Value)} {g : Nat} (h : TL w l W) (hb : Bex g W w1) (hg : w.heap.size ≤ g) (hl : ∀ x ∈ l, x.1 ≠ g) : TL w l w1 :=
  ⟨⟨h.1.1.trans (hb.below hg h.1.2), Nat.le_trans h.1.2 hb.size⟩, BL.bex hb h.2 hl⟩

theorem TL.farR {w W : World} {l : List (Nat × List Value)} {g : Nat} {x y z : Value} (h : TL w l W) (hg : w.heap.size ≤ g) (hl : ∀ b ∈ l, b.1 ≠ g) :
    TL w l (((W.setCell ⟨g, 0, none⟩ x).setCell ⟨g, 1, none⟩ y).setCell ⟨g, 2, none⟩ z) := TL.set (TL.set (TL.set h hg hl) hg hl) hg hl

set_option maxHeartbeats 8000000 in
theorem DrawFracWide_any (a : Option Addr) (len cap : Nat) (w : World) (hB : BytesIn w a len cap) :
    Calls Try.prog 11 #[.slice a len cap] w fun e w' =>
      ∃ x1 x2 x3 : Int, e = .returned (.agg #[.int .i64 x1, .int .i64 x2, .int .i64 x3]) ∧ Below w.heap.size w w' := by
  go_enter Try.func11, Try.ntmps11
  go_wp2_with fail
  have T0 : TL w [(w.heap.size, [.int .i64 0, .int .i64 0, .int .i64 0])] (w.alloc (.cells #[.int .i64 0, .int .i64 0, .int .i64 0] 24)) := TL.new (t := 24) (TL.refl w) rfl
  generalize (w.alloc (.cells #[.int .i64 0, .int .i64 0, .int .i64 0] 24)) = W at *
  refine (l6Open_any a len cap W (hB.below T0.1.1)).mono ?_
  rintro e w1 ⟨g, rfl, hb1, R1⟩
  have T1 := T0.below hb1
  have N := TL.ne T0 R1.1
  have hg := Nat.le_trans T0.1.2 R1.1
  go_wp2_with fail
  refine (l91Frac_any _ g 0 _ R1 (by omega)).mono ?_
  rintro e w2 ⟨x1, x2, x3, rfl, X2, R2⟩
  have T2 := T1.bexR X2 hg N
  have nc0 : w2.cell? ⟨w.heap.size, 0, none⟩ = some (.int .i64 0) := T2.2.1.2.1.1
  have nf0 : w2.frozen? ⟨w.heap.size, 0, none⟩ = false := T2.2.1.2.1.2
  have nc1 : w2.cell? ⟨w.heap.size, 1, none⟩ = some (.int .i64 0) := T2.2.1.2.2.1.1
  have nf1 : w2.frozen? ⟨w.heap.size, 1, none⟩ = false := T2.2.1.2.2.1.2
  have nc2 : w2.cell? ⟨w.heap.size, 2, none⟩ = some (.int .i64 0) := T2.2.1.2.2.2.1.1
  have nf2 : w2.frozen? ⟨w.heap.size, 2, none⟩ = false := T2.2.1.2.2.2.1.2
  go_wp2_with fail
  refine bodyPost_ret (by simp [results, Try.results11, go_sem, nc0, nc1, nc2]; rfl) rfl ?_
  exact ⟨_, _, _, rfl, (TL.set3 (x' := .int .i64 x1) (y' := .int .i64 x2) (z' := .int .i64 x3) (⟨T2.1, trivial⟩ : TL w [] w2) (Nat.le_refl _) (by simp) T2.2.1.1 T2.2.1.2).1.1⟩

set_option maxHeartbeats 8000000 in
theorem DrawFracSingle_any (a : Option Addr) (len cap : Nat) (w : World) (hB : BytesIn w a len cap) :
    Calls Try.prog 15 #[.slice a len cap] w fun e w' =>
      ∃ x1 x2 x3 : Int, e = .returned (.agg #[.int .i64 x1, .int .i64 x2, .int .i64 x3]) ∧ Below w.heap.size w w' := by
  go_enter Try.func15, Try.ntmps15
  go_wp2_with fail
  have T0 : TL w [(w.heap.size, [.int .i64 0, .int .i64 0, .int .i64 0])] (w.alloc (.cells #[.int .i64 0, .int .i64 0, .int .i64 0] 24)) := TL.new (t := 24) (TL.refl w) rfl
  generalize (w.alloc (.cells #[.int .i64 0, .int .i64 0, .int .i64 0] 24)) = W at *
  refine (l6Open_any a len cap W (hB.below T0.1.1)).mono ?_
  rintro e w1 ⟨g, rfl, hb1, R1⟩
  have T1 := T0.below hb1
  have N := TL.ne T0 R1.1
  have hg := Nat.le_trans T0.1.2 R1.1
  go_wp2_with fail
  refine (l91Frac_any _ g 0 _ R1 (by omega)).mono ?_
  rintro e w2 ⟨x1, x2, x3, rfl, X2, R2⟩
  have T2 := T1.bexR X2 hg N
  have nc0 : w2.cell? ⟨w.heap.size, 0, none⟩ = some (.int .i64 0) := T2.2.1.2.1.1
  have nf0 : w2.frozen? ⟨w.heap.size, 0, none⟩ = false := T2.2.1.2.1.2
  have nc1 : w2.cell? ⟨w.heap.size, 1, none⟩ = some (.int .i64 0) := T2.2.1.2.2.1.1
  have nf1 : w2.frozen? ⟨w.heap.size, 1, none⟩ = false := T2.2.1.2.2.1.2
  have nc2 : w2.cell? ⟨w.heap.size, 2, none⟩ = some (.int .i64 0) := T2.2.1.2.2.2.1.1
  have nf2 : w2.frozen? ⟨w.heap.size, 2, none⟩ = false := T2.2.1.2.2.2.1.2
  go_wp2_with fail
  refine bodyPost_ret (by simp [results, Try.results15, go_sem, nc0, nc1, nc2]; rfl) rfl ?_
  exact ⟨_, _, _, rfl, (TL.set3 (x' := .int .i64 x1) (y' := .int .i64 x2) (z' := .int .i64 x3) (⟨T2.1, trivial⟩ : TL w [] w2) (Nat.le_refl _) (by simp) T2.2.1.1 T2.2.1.2).1.1⟩

set_option maxHeartbeats 8000000 in
theorem l91Real_any (B g K : Nat) (w : World) (HR : RD B g K w) (hK : K ≤ 8000) :
    Calls Try.prog 23 #[.pointer (some ⟨g, 0, none⟩)] w fun e w' =>
      ∃ x1 x2 x3 : Int, e = .returned (.agg #[.int .i64 x1, .int .i64 x2, .int .i64 x3]) ∧ Bex g w w' ∧ RD B g (K + 8) w' := by
  go_enter Try.func23, Try.ntmps23
  go_wp2_with fail
  have hg := HR.2.2.1
  have hBg : B ≤ w.heap.size := HR.2.1
  have hb0 : Below w.heap.size w (w.alloc (.cells #[.int .i64 0, .int .i64 0, .int .i64 0] 24)) := (Below.refl _ _).alloc (Nat.le_refl _) _
  have O0 : CB (w.alloc (.cells #[.int .i64 0, .int .i64 0, .int .i64 0] 24)) w.heap.size 0 [.int .i64 0, .int .i64 0, .int .i64 0] := CB.new rfl
  have R0 := RD.below HR hb0
  have X0 := Bex.of (k := g) hb0
  have hs0 : w.heap.size < (w.alloc (.cells #[.int .i64 0, .int .i64 0, .int .i64 0] 24)).heap.size := by simp
  generalize (w.alloc (.cells #[.int .i64 0, .int .i64 0, .int .i64 0] 24)) = W0 at *
  refine (l91Frac_any B g K _ R0 (by omega)).mono ?_
  rintro e w1 ⟨u1, u2, u3, rfl, X1, R1⟩
  have O1 := CB.bex X1 hs0 (by omega) O0
  have hs1 : w.heap.size < w1.heap.size := Nat.lt_of_lt_of_le hs0 X1.size
  replace X1 := X0.trans X1
  go_wp2_with fail
  have hb2 : Below w1.heap.size w1 (w1.alloc (.cells #[.int .i64 u1, .int .i64 u2, .int .i64 u3] 24)) := (Below.refl _ _).alloc (Nat.le_refl _) _
  have O2 := CB.below hb2 hs1 O1
  have hs2 : w.heap.size < (w1.alloc (.cells #[.int .i64 u1, .int .i64 u2, .int .i64 u3] 24)).heap.size := by simp; omega
  have A2 : CB (w1.alloc (.cells #[.int .i64 u1, .int .i64 u2, .int .i64 u3] 24)) w1.heap.size 0 [.int .i64 u1, .int .i64 u2, .int .i64 u3] := CB.new rfl
  have hg1 := R1.2.2.1
  have R2 := RD.below R1 hb2
  have X2 := X1.trans (Bex.of (k := g) hb2)
  have ha2 : w1.heap.size < (w1.alloc (.cells #[.int .i64 u1, .int .i64 u2, .int .i64 u3] 24)).heap.size := by simp
  generalize (w1.alloc (.cells #[.int .i64 u1, .int .i64 u2, .int .i64 u3] 24)) = w2 at *
  refine (pick_any B g (K + 5) 20 _ R2 (by omega) (by omega) (by omega)).mono ?_
  rintro e w3 ⟨v, rfl, v0, v1, Y3, R3⟩
  have O3 := CB.bex Y3 hs2 (by omega) O2
  have A3 := CB.bex Y3 ha2 (by omega) A2
  have hs3 : w.heap.size < w3.heap.size := Nat.lt_of_lt_of_le hs2 Y3.size
  have X3 := X2.trans Y3
  have oc0 : w3.cell? ⟨w.heap.size, 0, none⟩ = some (.int .i64 0) := O3.1.1
  have of0 : w3.frozen? ⟨w.heap.size, 0, none⟩ = false := O3.1.2
  have oc1 : w3.cell? ⟨w.heap.size, 1, none⟩ = some (.int .i64 0) := O3.2.1.1
  have of1 : w3.frozen? ⟨w.heap.size, 1, none⟩ = false := O3.2.1.2
  have oc2 : w3.cell? ⟨w.heap.size, 2, none⟩ = some (.int .i64 0) := O3.2.2.1.1
  have of2 : w3.frozen? ⟨w.heap.size, 2, none⟩ = false := O3.2.2.1.2
  have ac0 : w3.cell? ⟨w1.heap.size, 0, none⟩ = some (.int .i64 u1) := A3.1.1
  have af0 : w3.frozen? ⟨w1.heap.size, 0, none⟩ = false := A3.1.2
  have ac1 : w3.cell? ⟨w1.heap.size, 1, none⟩ = some (.int .i64 u2) := A3.2.1.1
  have af1 : w3.frozen? ⟨w1.heap.size, 1, none⟩ = false := A3.2.1.2
  have ac2 : w3.cell? ⟨w1.heap.size, 2, none⟩ = some (.int .i64 u3) := A3.2.2.1.1
  have af2 : w3.frozen? ⟨w1.heap.size, 2, none⟩ = false := A3.2.2.1.2
  by_cases n0 : v = 0
  · subst n0
    go_wp2_with fail
    refine bodyPost_ret (by simp [results, Try.results23, go_sem, oc0, oc1, oc2]; rfl) rfl ?_
    exact ⟨_, _, _, rfl, X3.new3 (Nat.le_refl _), (RD.far3 R3 hBg (by omega)).mono (by omega)⟩
  have e0 : (v == 0) = false := by simpa using n0
  go_wp2_with fail
  refine (pick_any B g (K + 6) 17 _ R3 (by omega) (by omega) (by omega)).mono ?_
  rintro e w4 ⟨a, rfl, a0, a1, Y4, R4⟩
  have O4 := CB.bex Y4 hs3 (by omega) O3
  have hs4 : w.heap.size < w4.heap.size := Nat.lt_of_lt_of_le hs3 Y4.size
  have X4 := X3.trans Y4
  go_wp2_with fail
  refine (pick_any B g (K + 7) 4 _ R4 (by omega) (by omega) (by omega)).mono ?_
  rintro e w5 ⟨b, rfl, b0, b1, Y5, R5⟩
  have O5 := CB.bex Y5 hs4 (by omega) O4
  have hs5 : w.heap.size < w5.heap.size := Nat.lt_of_lt_of_le hs4 Y5.size
  have X5 := X4.trans Y5
  rcases hL : low (a - 8) 0 (1 + b) with ⟨⟨x, y, z⟩, ok⟩
  have HL := Lib.hid hL
  clear hL
  go_wp2_with fail
  refine (l2Low_any _ _ _ x y z ok _ HL (by omega) (by omega) (by omega) (by omega) (by omega) (by omega)).mono ?_
  rintro e w6 ⟨rfl, hb6⟩
  have O6 := CB.below hb6 hs5 O5
  have X6 := X5.trans (Bex.of (k := g) hb6)
  have R6 := RD.below R5 hb6
  have hs6 : w.heap.size < w6.heap.size := Nat.lt_of_lt_of_le hs5 hb6.size
  have hb7 : Below w6.heap.size w6 (w6.alloc (.cells #[.int .i64 x, .int .i64 y, .int .i64 z] 24)) := (Below.refl _ _).alloc (Nat.le_refl _) _
  have O7 := CB.below hb7 hs6 O6
  have u0 : w6.cell? ⟨w.heap.size, 0, none⟩ = some (.int .i64 0) := O6.1.1
  have t0 : w6.frozen? ⟨w.heap.size, 0, none⟩ = false := O6.1.2
  have r0 : (w6.alloc (.cells #[.int .i64 x, .int .i64 y, .int .i64 z] 24)).frozen? ⟨w.heap.size, 0, none⟩ = false := O7.1.2
  have p0 : (w6.alloc (.cells #[.int .i64 x, .int .i64 y, .int .i64 z] 24)).cell? ⟨w.heap.size, 0, none⟩ = some (.int .i64 0) := O7.1.1
  have u1 : w6.cell? ⟨w.heap.size, 1, none⟩ = some (.int .i64 0) := O6.2.1.1
  have t1 : w6.frozen? ⟨w.heap.size, 1, none⟩ = false := O6.2.1.2
  have r1 : (w6.alloc (.cells #[.int .i64 x, .int .i64 y, .int .i64 z] 24)).frozen? ⟨w.heap.size, 1, none⟩ = false := O7.2.1.2
  have p1 : (w6.alloc (.cells #[.int .i64 x, .int .i64 y, .int .i64 z] 24)).cell? ⟨w.heap.size, 1, none⟩ = some (.int .i64 0) := O7.2.1.1
  have u2 : w6.cell? ⟨w.heap.size, 2, none⟩ = some (.int .i64 0) := O6.2.2.1.1
  have t2 : w6.frozen? ⟨w.heap.size, 2, none⟩ = false := O6.2.2.1.2
  have r2 : (w6.alloc (.cells #[.int .i64 x, .int .i64 y, .int .i64 z] 24)).frozen? ⟨w.heap.size, 2, none⟩ = false := O7.2.2.1.2
  have p2 : (w6.alloc (.cells #[.int .i64 x, .int .i64 y, .int .i64 z] 24)).cell? ⟨w.heap.size, 2, none⟩ = some (.int .i64 0) := O7.2.2.1.1
  have O8 := O6.set3 (x' := .int .i64 x) (y' := .int .i64 y) (z' := .int .i64 z)
  have hs8 : w.heap.size < (((w6.setCell ⟨w.heap.size, 0, none⟩ (.int .i64 x)).setCell ⟨w.heap.size, 1, none⟩ (.int .i64 y)).setCell ⟨w.heap.size, 2, none⟩ (.int .i64 z)).heap.size := by simpa using hs6
  have hb9 : Below (((w6.setCell ⟨w.heap.size, 0, none⟩ (.int .i64 x)).setCell ⟨w.heap.size, 1, none⟩ (.int .i64 y)).setCell ⟨w.heap.size, 2, none⟩ (.int .i64 z)).heap.size (((w6.setCell ⟨w.heap.size, 0, none⟩ (.int .i64 x)).setCell ⟨w.heap.size, 1, none⟩ (.int .i64 y)).setCell ⟨w.heap.size, 2, none⟩ (.int .i64 z)) ((((w6.setCell ⟨w.heap.size, 0, none⟩ (.int .i64 x)).setCell ⟨w.heap.size, 1, none⟩ (.int .i64 y)).setCell ⟨w.heap.size, 2, none⟩ (.int .i64 z)).alloc (.cells #[.int .i64 x, .int .i64 y, .int .i64 z] 24)) := (Below.refl _ _).alloc (Nat.le_refl _) _
  have O9 := CB.below hb9 hs8 O8
  have f0 : ((((w6.setCell ⟨w.heap.size, 0, none⟩ (.int .i64 x)).setCell ⟨w.heap.size, 1, none⟩ (.int .i64 y)).setCell ⟨w.heap.size, 2, none⟩ (.int .i64 z)).alloc (.cells #[.int .i64 x, .int .i64 y, .int .i64 z] 24)).cell? ⟨w.heap.size, 0, none⟩ = some (.int .i64 x) := O9.1.1
  have f1 : ((((w6.setCell ⟨w.heap.size, 0, none⟩ (.int .i64 x)).setCell ⟨w.heap.size, 1, none⟩ (.int .i64 y)).setCell ⟨w.heap.size, 2, none⟩ (.int .i64 z)).alloc (.cells #[.int .i64 x, .int .i64 y, .int .i64 z] 24)).cell? ⟨w.heap.size, 1, none⟩ = some (.int .i64 y) := O9.2.1.1
  have f2 : ((((w6.setCell ⟨w.heap.size, 0, none⟩ (.int .i64 x)).setCell ⟨w.heap.size, 1, none⟩ (.int .i64 y)).setCell ⟨w.heap.size, 2, none⟩ (.int .i64 z)).alloc (.cells #[.int .i64 x, .int .i64 y, .int .i64 z] 24)).cell? ⟨w.heap.size, 2, none⟩ = some (.int .i64 z) := O9.2.2.1.1
  go_wp2_with fail
  refine bodyPost_ret (by simp [results, Try.results23, go_sem, f0, f1, f2]; rfl) rfl ?_
  exact ⟨_, _, _, rfl, (X6.new3 (Nat.le_refl _)).trans (Bex.of hb9), (RD.below (RD.far3 R6 hBg (by omega)) hb9).mono (by omega)⟩

set_option maxHeartbeats 8000000 in
theorem DrawFracCompare_any (a : Option Addr) (len cap : Nat) (w : World) (hB : BytesIn w a len cap) :
    Calls Try.prog 7 #[.slice a len cap] w fun e w' =>
      ∃ x1 x2 x3 y1 y2 y3 : Int, e = .returned (.tuple #[.agg #[.int .i64 x1, .int .i64 x2, .int .i64 x3], .agg #[.int .i64 y1, .int .i64 y2, .int .i64 y3]]) ∧ Below w.heap.size w w' := by
  go_enter Try.func7, Try.ntmps7
  go_wp2_with fail
  have T0 : TL w [(w.heap.size + 1, [.int .i64 0, .int .i64 0, .int .i64 0]), (w.heap.size, [.int .i64 0, .int .i64 0, .int .i64 0])] ((w.alloc (.cells #[.int .i64 0, .int .i64 0, .int .i64 0] 24)).alloc (.cells #[.int .i64 0, .int .i64 0, .int .i64 0] 24)) := TL.new (t := 24) (TL.new (t := 24) (TL.refl w) rfl) (by simp)
  generalize ((w.alloc (.cells #[.int .i64 0, .int .i64 0, .int .i64 0] 24)).alloc (.cells #[.int .i64 0, .int .i64 0, .int .i64 0] 24)) = W at *
  refine (l6Open_any a len cap W (hB.below T0.1.1)).mono ?_
  rintro e w1 ⟨g, rfl, hb1, R1⟩
  have T1 := T0.below hb1
  have N := TL.ne T0 R1.1
  have hg := Nat.le_trans T0.1.2 R1.1
  go_wp2_with fail
  refine (l91Real_any _ g 0 _ R1 (by omega)).mono ?_
  rintro e w2 ⟨x1, x2, x3, rfl, X2, R2⟩
  have T2 := T1.bexR X2 hg N
  go_wp2_with fail
  have T3 : TL w [(w2.heap.size, [.int .i64 x1, .int .i64 x2, .int .i64 x3]), (w.heap.size + 1, [.int .i64 0, .int .i64 0, .int .i64 0]), (w.heap.size, [.int .i64 0, .int .i64 0, .int .i64 0])] (w2.alloc (.cells #[.int .i64 x1, .int .i64 x2, .int .i64 x3] 24)) := TL.new (t := 24) T2 rfl
  have hb3 : Below w2.heap.size w2 (w2.alloc (.cells #[.int .i64 x1, .int .i64 x2, .int .i64 x3] 24)) := (Below.refl _ _).alloc (Nat.le_refl _) _
  have R3 : RD W.heap.size g 8 (w2.alloc (.cells #[.int .i64 x1, .int .i64 x2, .int .i64 x3] 24)) := RD.below R2 hb3
  have hg2 : g < w2.heap.size := R2.2.2.1
  have N3 : ∀ x ∈ ([(w2.heap.size, [.int .i64 x1, .int .i64 x2, .int .i64 x3]), (w.heap.size + 1, [.int .i64 0, .int .i64 0, .int .i64 0]), (w.heap.size, [.int .i64 0, .int .i64 0, .int .i64 0])] : List (Nat × List Value)), x.1 ≠ g := by
    intro x hx
    rcases List.mem_cons.1 hx with rfl | hx
    · simp only; omega
    · exact N x hx
  have hle : w.heap.size < w2.heap.size := T2.2.2.1.1
  have hle1 : w.heap.size + 1 < w2.heap.size := T2.2.1.1
  generalize w2.alloc (.cells #[.int .i64 x1, .int .i64 x2, .int .i64 x3] 24) = W3 at *
  go_cut [2] (fun s2 wx => ∃ y1 y2 y3 : Int, s2 = .pointer (some ⟨w.heap.size, 0, none⟩) ∧ TL w [(w.heap.size + 1, [.int .i64 y1, .int .i64 y2, .int .i64 y3]), (w.heap.size, [.int .i64 x1, .int .i64 x2, .int .i64 x3])] wx)
  have TX : TL w [(w2.heap.size, [.int .i64 x1, .int .i64 x2, .int .i64 x3])] W3 := ⟨T3.1, T3.2.1, trivial⟩
  have NE0 : ∀ x ∈ ([(w2.heap.size, [.int .i64 x1, .int .i64 x2, .int .i64 x3])] : List (Nat × List Value)), x.1 ≠ w.heap.size := fun x hx => by have := List.mem_singleton.1 hx; subst this; simp only; omega
  have NE1 : ∀ x ∈ ([(w2.heap.size, [.int .i64 x1, .int .i64 x2, .int .i64 x3])] : List (Nat × List Value)), x.1 ≠ w.heap.size + 1 := fun x hx => by have := List.mem_singleton.1 hx; subst this; simp only; omega
  case first =>
    have SL := Lib.hid (fun (W' : World) (h : TL w [(w2.heap.size, [.int .i64 x1, .int .i64 x2, .int .i64 x3])] W') => (show W'.cell? ⟨w2.heap.size, 0, none⟩ = some (.int .i64 x1) ∧ W'.cell? ⟨w2.heap.size, 1, none⟩ = some (.int .i64 x2) ∧ W'.cell? ⟨w2.heap.size, 2, none⟩ = some (.int .i64 x3) ∧ TL w [(w2.heap.size, [.int .i64 x1, .int .i64 x2, .int .i64 x3])] W' from ⟨h.2.1.2.1.1, h.2.1.2.2.1.1, h.2.1.2.2.2.1.1, h⟩))
    go_region_held3 (fun W' => W'.cell? ⟨w2.heap.size, 0, none⟩ = some (.int .i64 x1) ∧ W'.cell? ⟨w2.heap.size, 1, none⟩ = some (.int .i64 x2) ∧ W'.cell? ⟨w2.heap.size, 2, none⟩ = some (.int .i64 x3) ∧ TL w [(w2.heap.size, [.int .i64 x1, .int .i64 x2, .int .i64 x3])] W')
      (with_reducible apply SL.out; first | with_reducible assumption | (with_reducible apply TL.farR; (· with_reducible assumption); (· omega); (· first | exact NE0 | exact NE1)) | (with_reducible apply TL.farR; (· with_reducible apply TL.farR; (· with_reducible assumption); (· omega); (· first | exact NE0 | exact NE1)); (· omega); (· first | exact NE0 | exact NE1)) | (with_reducible apply TL.drew; with_reducible assumption))
      (first | (go_at_call 23; refine (l91Real_any W.heap.size g 8 _ (by first | exact R3 | exact RD.below R3 (Below.drew (Below.refl _ _))) (by omega)).mono ?_; rintro e w4 ⟨y1, y2, y3, rfl, X4, R4⟩; have T4 : TL w [(w2.heap.size, [.int .i64 x1, .int .i64 x2, .int .i64 x3]), (w.heap.size + 1, [.int .i64 0, .int .i64 0, .int .i64 0]), (w.heap.size, [.int .i64 0, .int .i64 0, .int .i64 0])] w4 := TL.bexR (by first | exact T3 | exact T3.drew) X4 hg N3; have TX4 : TL w [(w2.heap.size, [.int .i64 x1, .int .i64 x2, .int .i64 x3])] w4 := ⟨T4.1, T4.2.1, trivial⟩; have kc0 : w4.cell? ⟨w2.heap.size, 0, none⟩ = some (.int .i64 x1) := T4.2.1.2.1.1; have kf0 : w4.frozen? ⟨w2.heap.size, 0, none⟩ = false := T4.2.1.2.1.2; have kc1 : w4.cell? ⟨w2.heap.size, 1, none⟩ = some (.int .i64 x2) := T4.2.1.2.2.1.1; have kf1 : w4.frozen? ⟨w2.heap.size, 1, none⟩ = false := T4.2.1.2.2.1.2; have kc2 : w4.cell? ⟨w2.heap.size, 2, none⟩ = some (.int .i64 x3) := T4.2.1.2.2.2.1.1; have kf2 : w4.frozen? ⟨w2.heap.size, 2, none⟩ = false := T4.2.1.2.2.2.1.2; have mc0 : w4.cell? ⟨w.heap.size + 1, 0, none⟩ = some (.int .i64 0) := T4.2.2.1.2.1.1; have mf0 : w4.frozen? ⟨w.heap.size + 1, 0, none⟩ = false := T4.2.2.1.2.1.2; have mc1 : w4.cell? ⟨w.heap.size + 1, 1, none⟩ = some (.int .i64 0) := T4.2.2.1.2.2.1.1; have mf1 : w4.frozen? ⟨w.heap.size + 1, 1, none⟩ = false := T4.2.2.1.2.2.1.2; have mc2 : w4.cell? ⟨w.heap.size + 1, 2, none⟩ = some (.int .i64 0) := T4.2.2.1.2.2.2.1.1; have mf2 : w4.frozen? ⟨w.heap.size + 1, 2, none⟩ = false := T4.2.2.1.2.2.2.1.2; have nc0 : w4.cell? ⟨w.heap.size, 0, none⟩ = some (.int .i64 0) := T4.2.2.2.1.2.1.1; have nf0 : w4.frozen? ⟨w.heap.size, 0, none⟩ = false := T4.2.2.2.1.2.1.2; have nc1 : w4.cell? ⟨w.heap.size, 1, none⟩ = some (.int .i64 0) := T4.2.2.2.1.2.2.1.1; have nf1 : w4.frozen? ⟨w.heap.size, 1, none⟩ = false := T4.2.2.2.1.2.2.1.2; have nc2 : w4.cell? ⟨w.heap.size, 2, none⟩ = some (.int .i64 0) := T4.2.2.2.1.2.2.2.1.1; have nf2 : w4.frozen? ⟨w.heap.size, 2, none⟩ = false := T4.2.2.2.1.2.2.2.1.2))
    all_goals (go_wp2_with fail; go_meet; case rel => exact ⟨_, _, _, rfl, TL.set3 (TL.set3 ⟨T4.1, trivial⟩ (Nat.le_refl _) (by simp) T4.2.2.2.1.1 T4.2.2.2.1.2) (by omega) (by simp) (by simpa using T4.2.2.1.1) (CB.far (by omega) (CB.far (by omega) (CB.far (by omega) T4.2.2.1.2)))⟩)
  case rest =>
    obtain ⟨y1, y2, y3, rfl, hT⟩ := hcut
    have mc0 : wc.cell? ⟨w.heap.size + 1, 0, none⟩ = some (.int .i64 y1) := hT.2.1.2.1.1
    have mc1 : wc.cell? ⟨w.heap.size + 1, 1, none⟩ = some (.int .i64 y2) := hT.2.1.2.2.1.1
    have mc2 : wc.cell? ⟨w.heap.size + 1, 2, none⟩ = some (.int .i64 y3) := hT.2.1.2.2.2.1.1
    have nc0 : wc.cell? ⟨w.heap.size, 0, none⟩ = some (.int .i64 x1) := hT.2.2.1.2.1.1
    have nc1 : wc.cell? ⟨w.heap.size, 1, none⟩ = some (.int .i64 x2) := hT.2.2.1.2.2.1.1
    have nc2 : wc.cell? ⟨w.heap.size, 2, none⟩ = some (.int .i64 x3) := hT.2.2.1.2.2.2.1.1
    go_wp2_with fail
    refine bodyPost_ret (by simp [results, Try.results7, go_sem, mc0, mc1, mc2, nc0, nc1, nc2]; rfl) rfl ?_
    exact ⟨_, _, _, _, _, _, rfl, hT.1.1⟩

end Go.Proofs.Ytmhdklhdnmpabaa
