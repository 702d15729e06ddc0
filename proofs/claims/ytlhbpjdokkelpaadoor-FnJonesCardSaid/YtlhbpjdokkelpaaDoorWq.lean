/-
  THE READER that draws numbers off bytes: what stands of it; one draw. Condition: its block, its bytes.
-/
import Derived.Test.YtlhbpjdokkelpaaDoorWd
import Derived.Test.YtlhbpjdokkelpaaDoorWf
import Derived.Test.YtlhbpjdokkelpaaDoorWi
namespace Go.Proofs.YtlhbpjdokkelpaaDoor
open Go.RowKit
open PL

/-- The bytes: at most 2000, below block B. -/
def Bytes (B : Nat) (w : World) (a : Option Addr) (len : Nat) : Prop :=
  len ≤ 2000 ∧ (len = 0 ∨ ∃ b off, a = some ⟨b, off, none⟩ ∧ b < B ∧ ∀ i, i < len → ∃ x : Int, 0 ≤ x ∧ x < 256 ∧ w.cell? ⟨b, off + i, none⟩ = some (.int .u8 x))
/-- The reader: block g holds the bytes and the place, which is at most K. -/
def RD (B g K : Nat) (w : World) : Prop :=
  B ≤ g ∧ B ≤ w.heap.size ∧ g < w.heap.size ∧ ∃ (a : Option Addr) (len cap : Nat) (p : Int), CB w g 0 [.slice a len cap, .int .i64 p] ∧ 0 ≤ p ∧ p ≤ K ∧ Bytes B w a len

theorem Bytes.bex {B k : Nat} {w w' : World} {a : Option Addr} {len : Nat} (h : Bytes B w a len) (hb : Bex k w w') (hk : B ≤ k) (hB : B ≤ w.heap.size) : Bytes B w' a len := by
  refine ⟨h.1, ?_⟩
  rcases h.2 with h0 | ⟨b, off, e, hlt, hx⟩
  · exact .inl h0
  · refine .inr ⟨b, off, e, hlt, fun i hi => ?_⟩
    obtain ⟨x, x0, x1, hc⟩ := hx i hi
    exact ⟨x, x0, x1, (hb.cell (by omega) (by omega)).trans hc⟩

theorem Bex.drewN {k : Nat} {a w : World} (h : Bex k a w) (n : Nat) : Bex k a (w.drewN n) := h.trans (Bex.of (below_drewN (Below.refl _ _) n))

theorem xor_nat (x y : Int) (h0 : 0 ≤ x) (h1 : x < 4611686018427387904) (k0 : 0 ≤ y) (k1 : y < 4611686018427387904) : 0 ≤ bits .xor .i64 x y ∧ bits .xor .i64 x y < 9223372036854775808 := by
  obtain ⟨m, rfl⟩ := Int.eq_ofNat_of_zero_le h0
  obtain ⟨n, rfl⟩ := Int.eq_ofNat_of_zero_le k0
  have hx : (m ^^^ n) < 2 ^ 62 := Nat.xor_lt_two_pow (by omega) (by omega)
  have e : (BitVec.ofInt 64 (m : Int) ^^^ BitVec.ofInt 64 (n : Int)).toNat = m ^^^ n := by
    rw [BitVec.toNat_xor, BitVec.toNat_ofInt, BitVec.toNat_ofInt]
    congr 1 <;> omega
  have e2 : bits .xor .i64 (m : Int) (n : Int) = IntKind.i64.wrap (((BitVec.ofInt 64 (m : Int) ^^^ BitVec.ofInt 64 (n : Int)).toNat : Nat) : Int) := rfl
  rw [e2, e, IntKind.wrap_i64]
  omega

theorem RD.step {B g K len cap : Nat} {a : Option Addr} {p : Int} {w : World} (hBg : B ≤ g) (hBw : B ≤ w.heap.size) (hg : g < w.heap.size) (hC : CB w g 0 [.slice a len cap, .int .i64 p]) (h0 : 0 ≤ p) (h1 : p ≤ K) (hB : Bytes B w a len) :
    RD B g (K + 1) (w.setCell ⟨g, 1, none⟩ (.int .i64 (p + 1))) := by
  have hb : Bex g w (w.setCell ⟨g, 1, none⟩ (.int .i64 (p + 1))) := (Bex.refl _ _).set _
  refine ⟨hBg, Nat.le_trans hBw hb.size, Nat.lt_of_lt_of_le hg hb.size, a, len, cap, p + 1, ?_, by omega, by omega, hB.bex hb hBg hBw⟩
  obtain ⟨⟨c0, f0⟩, ⟨c1, f1⟩, -⟩ := hC
  simp only [Nat.zero_add] at c1 f1
  refine ⟨⟨?_, ?_⟩, ⟨?_, ?_⟩, trivial⟩
  · simp [*, go_sem]
  · rw [World.frozen?_setCell]; exact f0
  · simp [*, go_sem]
  · rw [World.frozen?_setCell]; exact f1

theorem RD.below {B g K : Nat} {w w' : World} (h : RD B g K w) (hb : Below w.heap.size w w') : RD B g K w' := by
  obtain ⟨h1, h2, h3, a, len, cap, p, hC, hp0, hp1, hBy⟩ := h
  exact ⟨h1, Nat.le_trans h2 hb.size, Nat.lt_of_lt_of_le h3 hb.size, a, len, cap, p, CB.below hb h3 hC, hp0, hp1, hBy.bex (Bex.of (k := g) hb) h1 h2⟩

set_option maxHeartbeats 4000000 in
theorem pick_any (B g K : Nat) (n : Int) (w : World) (HR : RD B g K w) (hK : K ≤ 10000) (hn0 : 1 ≤ n) (hn1 : n ≤ 10000) :
    Calls Tryd.prog 35 #[.pointer (some ⟨g, 0, none⟩), .int .i64 n] w fun e w' =>
      ∃ v : Int, e = .returned (.int .i64 v) ∧ 0 ≤ v ∧ v < n ∧ Bex g w w' ∧ RD B g (K + 1) w' := by
  obtain ⟨hBg, hBw, hg, a, len, cap, p, hC, hp0, hp1, hL, hB⟩ := HR
  have c0 := hC.1.1
  have c1 := hC.2.1.1
  have f0 := hC.1.2
  have f1 := hC.2.1.2
  simp only [Nat.zero_add] at c1 f1
  have hp2 : p ≤ 10000 := by omega
  by_cases h0 : len = 0
  · subst h0
    have hn : (n < 1) = False := by simp; omega
    go_enter Tryd.func35, Tryd.ntmps35
    go_wp2_with fail
    go_ret
    exact ⟨0, rfl, by omega, by omega, (Bex.refl _ _).set _, RD.step hBg hBw hg hC hp0 hp1 ⟨hL, .inl rfl⟩⟩
  · rcases hB with hB | ⟨b, off, rfl, hbB, hx⟩
    · exact absurd hB h0
    have hBy : Bytes B w (some ⟨b, off, none⟩) len := ⟨hL, .inr ⟨b, off, rfl, hbB, hx⟩⟩
    have hl : ((len : Int) == 0) = false := by simp; omega
    have hn : (n < 1) = False := by simp; omega
    by_cases hk : p < len
    · obtain ⟨x, x0, x1, hc⟩ := hx p.toNat (by omega)
      have hr0 : 0 ≤ x % n := Int.emod_nonneg _ (by omega)
      have hr1 : x % n < n := Int.emod_lt_of_pos _ (by omega)
      clear hx
      go_enter Tryd.func35, Tryd.ntmps35
      go_wp2_with fail
      go_ret
      exact ⟨x % n, rfl, hr0, hr1, (Bex.refl _ _).set _, RD.step hBg hBw hg hC hp0 hp1 hBy⟩
    · have m0 : 0 ≤ p % (len : Int) := Int.emod_nonneg _ (by omega)
      have m1 : p % (len : Int) < len := Int.emod_lt_of_pos _ (by omega)
      have m2 : 0 ≤ (p * 7 + 3) % (len : Int) := Int.emod_nonneg _ (by omega)
      have m3 : (p * 7 + 3) % (len : Int) < len := Int.emod_lt_of_pos _ (by omega)
      have d0 : 0 ≤ p / (len : Int) := Int.ediv_nonneg hp0 (by omega)
      have d1 : p / (len : Int) ≤ p := Int.ediv_le_self _ hp0
      obtain ⟨x, x0, x1, hc⟩ := hx (p % (len : Int)).toNat (by omega)
      obtain ⟨y, y0, y1, hd⟩ := hx ((p * 7 + 3) % (len : Int)).toNat (by omega)
      clear hx
      go_enter Tryd.func35, Tryd.ntmps35
      go_wp2_with fail
      go_quiet (fail)
      go_wp2_with fail
      go_ret
      obtain ⟨z0, z1⟩ := xor_nat (x * 131 + y * 1117 + p * 29 + p / (len : Int) * 53) ((x * 131 + y * 1117 + p * 29 + p / (len : Int) * 53) / 64) (by omega) (by omega) (by omega) (by omega)
      exact ⟨_, rfl, Int.tmod_nonneg _ z0, Int.tmod_lt_of_pos _ (by omega), ((Bex.refl _ _).set _).drewN _, RD.below (RD.step hBg hBw hg hC hp0 hp1 hBy) (below_drewN (Below.refl _ _) _)⟩
end Go.Proofs.YtlhbpjdokkelpaaDoor
