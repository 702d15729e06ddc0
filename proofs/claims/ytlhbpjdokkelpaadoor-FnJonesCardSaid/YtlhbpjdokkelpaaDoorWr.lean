/-
  THE DRAWS: a reader opened; a fraction drawn: some three integers. Condition: the bytes that came in.
-/
import Derived.Test.YtlhbpjdokkelpaaDoorWq
import Derived.Test.YtlhbpjdokkelpaaDoorWg
namespace Go.Proofs.YtlhbpjdokkelpaaDoor
open Go.RowKit
open PL

/-- Bytes that came in. -/
def BytesIn (w : World) (a : Option Addr) (len cap : Nat) : Prop :=
  len = 0 ∨ ∃ b off, a = some ⟨b, off, none⟩ ∧ len ≤ cap ∧ cap ≤ maxLen ∧ b < w.heap.size ∧ ∀ i, i < len → ∃ x : Int, 0 ≤ x ∧ x < 256 ∧ w.cell? ⟨b, off + i, none⟩ = some (.int .u8 x)

theorem bytes_in {w : World} {x : Addr} {len cap : Nat} {zs : List Int} (hl : len ≤ cap) (hm : cap ≤ maxLen) (hz : zs.length = cap)
    (hcell : ∀ i, i < zs.length → w.cell? (x.add i) = some (.int .u8 (zs.getD i 0))) (hwz : ∀ n ∈ zs, (Lit.int .u8 n).wf = true) : BytesIn w (some x) len cap := by
  by_cases h0 : len = 0
  · exact .inl h0
  · obtain ⟨b, off, spot⟩ := x
    have hc := hcell 0 (by omega)
    have hs : spot = none := by simpa [Addr.add] using World.cell?_spot hc
    subst hs
    have hc0 : w.cell? ⟨b, off, none⟩ = some (.int .u8 (zs.getD 0 0)) := by simpa [Addr.add] using hc
    refine .inr ⟨b, off, rfl, hl, hm, World.block_lt_of_cell? _ _ hc0, fun i hi => ?_⟩
    have hi' : i < zs.length := by omega
    have hn := hwz (zs.getD i 0) (by rw [List.getD_eq_getElem?_getD, List.getElem?_eq_getElem hi']; exact List.getElem_mem hi')
    simp [Lit.wf, IntKind.min, IntKind.max, IntKind.signed, IntKind.bits] at hn
    exact ⟨zs.getD i 0, by simp; omega, by simp; omega, by have h := hcell i hi'; by_cases hz0 : i = 0; (· subst hz0; simpa [Addr.add] using h); (· simpa [Addr.add, hz0] using h)⟩

theorem RD.new {w : World} {a : Option Addr} {len cap : Nat} {t : TypeId} (hBy : Bytes w.heap.size w a len) : RD w.heap.size w.heap.size 0 (w.alloc (.cells #[.slice a len cap, .int .i64 0] t)) :=
  ⟨Nat.le_refl _, by simp, by simp, a, len, cap, 0, CB.new rfl, by omega, by omega, hBy.bex (k := w.heap.size) (Bex.of (Below.alloc (Below.refl _ _) (Nat.le_refl _) _)) (Nat.le_refl _) (Nat.le_refl _)⟩

set_option maxHeartbeats 4000000 in
theorem l6Open_any (a : Option Addr) (len cap : Nat) (w : World) (hB : BytesIn w a len cap) :
    Calls Tryd.prog 24 #[.slice a len cap] w fun e w' =>
      ∃ g : Nat, e = .returned (.pointer (some ⟨g, 0, none⟩)) ∧ Below w.heap.size w w' ∧ RD w.heap.size g 0 w' := by
  rcases hB with rfl | ⟨b, off, rfl, hl, hm, hb, hx⟩
  · go_enter Tryd.func24, Tryd.ntmps24
    go_wp2_with fail
    go_ret
    exact ⟨_, rfl, (Below.refl _ _).alloc (Nat.le_refl _) _, RD.new ⟨by omega, .inl rfl⟩⟩
  · by_cases h : (len : Int) ≤ 2000
    · go_enter Tryd.func24, Tryd.ntmps24
      go_wp2_with fail
      go_ret
      exact ⟨_, rfl, (Below.refl _ _).alloc (Nat.le_refl _) _, RD.new ⟨by omega, .inr ⟨b, off, rfl, hb, hx⟩⟩⟩
    · go_enter Tryd.func24, Tryd.ntmps24
      go_wp2_with fail
      go_ret
      exact ⟨_, rfl, (Below.refl _ _).alloc (Nat.le_refl _) _, RD.new ⟨by omega, .inr ⟨b, off, rfl, hb, fun i hi => hx i (by omega)⟩⟩⟩

theorem RD.mono {B g K K' : Nat} {w : World} (h : RD B g K w) (hk : K ≤ K') : RD B g K' w := by
  obtain ⟨h1, h2, h3, a, len, cap, p, hC, hp0, hp1, hBy⟩ := h
  exact ⟨h1, h2, h3, a, len, cap, p, hC, hp0, by omega, hBy⟩
theorem RD.far {B g K k o : Nat} {u : Value} {w : World} (h : RD B g K w) (hk : B ≤ k) (hn : g ≠ k) : RD B g K (w.setCell ⟨k, o, none⟩ u) := by
  obtain ⟨h1, h2, h3, a, len, cap, p, hC, hp0, hp1, hBy⟩ := h
  have hb : Bex k w (w.setCell ⟨k, o, none⟩ u) := (Bex.refl _ _).set _
  exact ⟨h1, Nat.le_trans h2 hb.size, Nat.lt_of_lt_of_le h3 hb.size, a, len, cap, p, CB.far hn hC, hp0, hp1, hBy.bex hb hk h2⟩
theorem RD.far3 {B g K k : Nat} {x y z : Value} {w : World} (h : RD B g K w) (hk : B ≤ k) (hn : g ≠ k) : RD B g K (((w.setCell ⟨k, 0, none⟩ x).setCell ⟨k, 1, none⟩ y).setCell ⟨k, 2, none⟩ z) := RD.far (RD.far (RD.far h hk hn) hk hn) hk hn
theorem Bex.new3 {g k : Nat} {a w : World} {x y z : Value} (h : Bex g a w) (hk : a.heap.size ≤ k) : Bex g a (((w.setCell ⟨k, 0, none⟩ x).setCell ⟨k, 1, none⟩ y).setCell ⟨k, 2, none⟩ z) := Bex.setNew (Bex.setNew (Bex.setNew h hk _) hk _) hk _

set_option maxHeartbeats 4000000 in
theorem l91Frac_any (B g K : Nat) (w : World) (HR : RD B g K w) (hK : K ≤ 9000) :
    Calls Tryd.prog 28 #[.pointer (some ⟨g, 0, none⟩)] w fun e w' =>
      ∃ x y z : Int, e = .returned (.agg #[.int .i64 x, .int .i64 y, .int .i64 z]) ∧ Bex g w w' ∧ RD B g (K + 5) w' := by
  go_enter Tryd.func28, Tryd.ntmps28
  go_wp2_with fail
  have hg := HR.2.2.1
  have O0 : CB (w.alloc (.cells #[.int .i64 0, .int .i64 0, .int .i64 0] 24)) w.heap.size 0 [.int .i64 0, .int .i64 0, .int .i64 0] := CB.new rfl
  have hb0 : Below w.heap.size w (w.alloc (.cells #[.int .i64 0, .int .i64 0, .int .i64 0] 24)) := (Below.refl _ _).alloc (Nat.le_refl _) _
  have R0 := RD.below HR hb0
  have X0 := Bex.of (k := g) hb0
  have hs0 : w.heap.size < (w.alloc (.cells #[.int .i64 0, .int .i64 0, .int .i64 0] 24)).heap.size := by simp
  refine (pick_any B g K 40 _ R0 (by omega) (by omega) (by omega)).mono ?_
  rintro e w1 ⟨v, rfl, v0, v1, X1, R1⟩
  have O1 := CB.bex X1 hs0 (by omega) O0
  have hs1 : w.heap.size < w1.heap.size := Nat.lt_of_lt_of_le hs0 X1.size
  replace X1 := X0.trans X1
  have o0 : w1.cell? ⟨w.heap.size, 0, none⟩ = some (.int .i64 0) := O1.1.1
  have q0 : w1.frozen? ⟨w.heap.size, 0, none⟩ = false := O1.1.2
  have o1 : w1.cell? ⟨w.heap.size, 1, none⟩ = some (.int .i64 0) := O1.2.1.1
  have q1 : w1.frozen? ⟨w.heap.size, 1, none⟩ = false := O1.2.1.2
  have o2 : w1.cell? ⟨w.heap.size, 2, none⟩ = some (.int .i64 0) := O1.2.2.1.1
  have q2 : w1.frozen? ⟨w.heap.size, 2, none⟩ = false := O1.2.2.1.2
  have hBg : B ≤ w.heap.size := HR.2.1
  by_cases n0 : v = 0
  · subst n0
    go_wp2_with fail
    refine bodyPost_ret (by simp [results, Tryd.results28, go_sem, o0, o1, o2]; rfl) rfl ?_
    exact ⟨_, _, _, rfl, X1.new3 (Nat.le_refl _), (RD.far3 R1 hBg (by omega)).mono (by omega)⟩
  by_cases n1 : v = 1
  · subst n1
    go_wp2_with fail
    refine bodyPost_ret (by simp [results, Tryd.results28, go_sem, o0, o1, o2]; rfl) rfl ?_
    exact ⟨_, _, _, rfl, X1.new3 (Nat.le_refl _), (RD.far3 R1 hBg (by omega)).mono (by omega)⟩
  by_cases n2 : v = 2
  · subst n2
    go_wp2_with fail
    refine bodyPost_ret (by simp [results, Tryd.results28, go_sem, o0, o1, o2]; rfl) rfl ?_
    exact ⟨_, _, _, rfl, X1.new3 (Nat.le_refl _), (RD.far3 R1 hBg (by omega)).mono (by omega)⟩
  by_cases n3 : v = 3
  · subst n3
    go_wp2_with fail
    refine bodyPost_ret (by simp [results, Tryd.results28, go_sem, o0, o1, o2]; rfl) rfl ?_
    exact ⟨_, _, _, rfl, X1.new3 (Nat.le_refl _), (RD.far3 R1 hBg (by omega)).mono (by omega)⟩
  have e0 : (v == 0) = false := by simpa using n0
  have e1 : (v == 1) = false := by simpa using n1
  have e2 : (v == 2) = false := by simpa using n2
  have e3 : (v == 3) = false := by simpa using n3
  go_wp2_with fail
  refine (pick_any B g (K + 1) 13 _ R1 (by omega) (by omega) (by omega)).mono ?_
  rintro e w2 ⟨a, rfl, a0, a1, Y2, R2⟩
  have O2 := CB.bex Y2 hs1 (by omega) O1
  have hs2 : w.heap.size < w2.heap.size := Nat.lt_of_lt_of_le hs1 Y2.size
  have X2 := X1.trans Y2
  clear Y2
  go_wp2_with fail
  refine (pick_any B g (K + 2) 9 _ R2 (by omega) (by omega) (by omega)).mono ?_
  rintro e w3 ⟨b, rfl, b0, b1, Y3, R3⟩
  have O3 := CB.bex Y3 hs2 (by omega) O2
  have hs3 : w.heap.size < w3.heap.size := Nat.lt_of_lt_of_le hs2 Y3.size
  have X3 := X2.trans Y3
  clear Y3
  go_wp2_with fail
  refine (pick_any B g (K + 3) 2 _ R3 (by omega) (by omega) (by omega)).mono ?_
  rintro e w4 ⟨c, rfl, c0, c1, Y4, R4⟩
  have O4 := CB.bex Y4 hs3 (by omega) O3
  have hs4 : w.heap.size < w4.heap.size := Nat.lt_of_lt_of_le hs3 Y4.size
  have X4 := X3.trans Y4
  clear Y4
  have m := mul_bd (x := b - 4) (X := 10) (by omega) (by omega) (y := c) (Y := 10) (by omega) (by omega)
  simp only [Int.reduceMul, Int.reduceNeg] at m
  go_wp2_with fail
  refine (pick_any B g (K + 4) 5 _ R4 (by omega) (by omega) (by omega)).mono ?_
  rintro e w5 ⟨d, rfl, d0, d1, Y5, R5⟩
  have O5 := CB.bex Y5 hs4 (by omega) O4
  have hs5 : w.heap.size < w5.heap.size := Nat.lt_of_lt_of_le hs4 Y5.size
  have X5 := X4.trans Y5
  clear Y5
  rcases hL : low (a - 6) ((b - 4) * c) (1 + d) with ⟨⟨x, y, z⟩, ok⟩
  have HL := Lib.hid hL
  clear hL
  go_wp2_with fail
  refine (l2Low_any _ _ _ x y z ok _ HL (by omega) (by omega) (by omega) (by omega) (by omega) (by omega)).mono ?_
  rintro e w6 ⟨rfl, hb6⟩
  have O6 := CB.below hb6 hs5 O5
  have X6 := X5.trans (Bex.of (k := g) hb6)
  have R6 := RD.below R5 hb6
  have hs6 : w.heap.size < w6.heap.size := Nat.lt_of_lt_of_le hs5 hb6.size
  have hb7 : Below w6.heap.size w6 (w6.alloc (.cells #[.int .i64 x, .int .i64 y, .int .i64 z] 24)) := (Below.refl _ _).alloc (Nat.le_refl _) _
  have O7 := CB.below hb7 hs6 O6
  have u0 : w6.cell? ⟨w.heap.size, 0, none⟩ = some (.int .i64 0) := O6.1.1
  have t0 : w6.frozen? ⟨w.heap.size, 0, none⟩ = false := O6.1.2
  have r0 : (w6.alloc (.cells #[.int .i64 x, .int .i64 y, .int .i64 z] 24)).frozen? ⟨w.heap.size, 0, none⟩ = false := O7.1.2
  have p0 : (w6.alloc (.cells #[.int .i64 x, .int .i64 y, .int .i64 z] 24)).cell? ⟨w.heap.size, 0, none⟩ = some (.int .i64 0) := O7.1.1
  have u1 : w6.cell? ⟨w.heap.size, 1, none⟩ = some (.int .i64 0) := O6.2.1.1
  have t1 : w6.frozen? ⟨w.heap.size, 1, none⟩ = false := O6.2.1.2
  have r1 : (w6.alloc (.cells #[.int .i64 x, .int .i64 y, .int .i64 z] 24)).frozen? ⟨w.heap.size, 1, none⟩ = false := O7.2.1.2
  have p1 : (w6.alloc (.cells #[.int .i64 x, .int .i64 y, .int .i64 z] 24)).cell? ⟨w.heap.size, 1, none⟩ = some (.int .i64 0) := O7.2.1.1
  have u2 : w6.cell? ⟨w.heap.size, 2, none⟩ = some (.int .i64 0) := O6.2.2.1.1
  have t2 : w6.frozen? ⟨w.heap.size, 2, none⟩ = false := O6.2.2.1.2
  have r2 : (w6.alloc (.cells #[.int .i64 x, .int .i64 y, .int .i64 z] 24)).frozen? ⟨w.heap.size, 2, none⟩ = false := O7.2.2.1.2
  have p2 : (w6.alloc (.cells #[.int .i64 x, .int .i64 y, .int .i64 z] 24)).cell? ⟨w.heap.size, 2, none⟩ = some (.int .i64 0) := O7.2.2.1.1
  have O8 := O6.set3 (x' := .int .i64 x) (y' := .int .i64 y) (z' := .int .i64 z)
  have hs8 : w.heap.size < (((w6.setCell ⟨w.heap.size, 0, none⟩ (.int .i64 x)).setCell ⟨w.heap.size, 1, none⟩ (.int .i64 y)).setCell ⟨w.heap.size, 2, none⟩ (.int .i64 z)).heap.size := by simpa using hs6
  have hb9 : Below (((w6.setCell ⟨w.heap.size, 0, none⟩ (.int .i64 x)).setCell ⟨w.heap.size, 1, none⟩ (.int .i64 y)).setCell ⟨w.heap.size, 2, none⟩ (.int .i64 z)).heap.size (((w6.setCell ⟨w.heap.size, 0, none⟩ (.int .i64 x)).setCell ⟨w.heap.size, 1, none⟩ (.int .i64 y)).setCell ⟨w.heap.size, 2, none⟩ (.int .i64 z)) ((((w6.setCell ⟨w.heap.size, 0, none⟩ (.int .i64 x)).setCell ⟨w.heap.size, 1, none⟩ (.int .i64 y)).setCell ⟨w.heap.size, 2, none⟩ (.int .i64 z)).alloc (.cells #[.int .i64 x, .int .i64 y, .int .i64 z] 24)) := (Below.refl _ _).alloc (Nat.le_refl _) _
  have O9 := CB.below hb9 hs8 O8
  have f0 : ((((w6.setCell ⟨w.heap.size, 0, none⟩ (.int .i64 x)).setCell ⟨w.heap.size, 1, none⟩ (.int .i64 y)).setCell ⟨w.heap.size, 2, none⟩ (.int .i64 z)).alloc (.cells #[.int .i64 x, .int .i64 y, .int .i64 z] 24)).cell? ⟨w.heap.size, 0, none⟩ = some (.int .i64 x) := O9.1.1
  have f1 : ((((w6.setCell ⟨w.heap.size, 0, none⟩ (.int .i64 x)).setCell ⟨w.heap.size, 1, none⟩ (.int .i64 y)).setCell ⟨w.heap.size, 2, none⟩ (.int .i64 z)).alloc (.cells #[.int .i64 x, .int .i64 y, .int .i64 z] 24)).cell? ⟨w.heap.size, 1, none⟩ = some (.int .i64 y) := O9.2.1.1
  have f2 : ((((w6.setCell ⟨w.heap.size, 0, none⟩ (.int .i64 x)).setCell ⟨w.heap.size, 1, none⟩ (.int .i64 y)).setCell ⟨w.heap.size, 2, none⟩ (.int .i64 z)).alloc (.cells #[.int .i64 x, .int .i64 y, .int .i64 z] 24)).cell? ⟨w.heap.size, 2, none⟩ = some (.int .i64 z) := O9.2.2.1.1
  go_wp2_with fail
  refine bodyPost_ret (by simp [results, Tryd.results28, go_sem, f0, f1, f2]; rfl) rfl ?_
  exact ⟨_, _, _, rfl, (X6.new3 (Nat.le_refl _)).trans (Bex.of hb9), (RD.below (RD.far3 R6 hBg (by omega)) hb9).mono (by omega)⟩

end Go.Proofs.YtlhbpjdokkelpaaDoor
