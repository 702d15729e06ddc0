/-
  THE DRAWS: a reader opened; a fraction drawn: some three integers. Condition: the bytes that came in.
-/
import Derived.Test.YtanodgboimjmoaaWq
import Derived.Test.YtanodgboimjmoaaWg
namespace Go.Proofs.Ytanodgboimjmoaa
open Go.RowKit
open PL

/-- Bytes that came in. -/
def BytesIn (w : World) (a : Option Addr) (len cap : Nat) : Prop :=
  len = 0 ∨ ∃ b off, a = some ⟨b, off, none⟩ ∧ len ≤ cap ∧ cap ≤ maxLen ∧ b < w.heap.size ∧ ∀ i, i < len → ∃ x : Int, 0 ≤ x ∧ x < 256 ∧ w.cell? ⟨b, off + i, none⟩ = some (.int .u8 x)

theorem bytes_in {w : World} {x : Addr} {len cap : Nat} {zs : List Int} (hl : len ≤ cap) (hm : cap ≤ maxLen) (hz : zs.length = cap)
    (hcell : ∀ i, i < zs.length → w.cell? (x.add i) = some (.int .u8 (zs.getD i 0))) (hwz : ∀ n ∈ zs, (Lit.int .u8 n).wf = true) : BytesIn w (some x) len cap := by
  by_cases h0 : len = 0
  · exact .inl h0
  · obtain ⟨b, off, spot⟩ := x
    have hc := hcell 0 (by omega)
    have hs : spot = none := by simpa [Addr.add] using World.cell?_spot hc
    subst hs
    have hc0 : w.cell? ⟨b, off, none⟩ = some (.int .u8 (zs.getD 0 0)) := by simpa [Addr.add] using hc
    refine .inr ⟨b, off, rfl, hl, hm, World.block_lt_of_cell? _ _ hc0, fun i hi => ?_⟩
    have hi' : i < zs.length := by omega
    have hn := hwz (zs.getD i 0) (by rw [List.getD_eq_getElem?_getD, List.getElem?_eq_getElem hi']; exact List.getElem_mem hi')
    simp [Lit.wf, IntKind.min, IntKind.max, IntKind.signed, IntKind.bits] at hn
    exact ⟨zs.getD i 0, by simp; omega, by simp; omega, by have h := hcell i hi'; by_cases hz0 : i = 0; (· subst hz0; simpa [Addr.add] using h); (· simpa [Addr.add, hz0] using h)⟩

theorem RD.new {w : World} {a : Option Addr} {len cap : Nat} {t : TypeId} (hBy : Bytes w.heap.size w a len) : RD w.heap.size w.heap.size 0 (w.alloc (.cells #[.slice a len cap, .int .i64 0] t)) :=
  ⟨Nat.le_refl _, by simp, by simp, a, len, cap, 0, CB.new rfl, by omega, by omega, hBy.bex (k := w.heap.size) (Bex.of (Below.alloc (Below.refl _ _) (Nat.le_refl _) _)) (Nat.le_refl _) (Nat.le_refl _)⟩

set_option maxHeartbeats 4000000 in
theorem l6Open_any (a : Option Addr) (len cap : Nat) (w : World) (hB : BytesIn w a len cap) :
    Calls Try.prog 32 #[.slice a len cap] w fun e w' =>
      ∃ g : Nat, e = .returned (.pointer (some ⟨g, 0, none⟩)) ∧ Below w.heap.size w w' ∧ RD w.heap.size g 0 w' := by
  rcases hB with rfl | ⟨b, off, rfl, hl, hm, hb, hx⟩
  · go_enter Try.func32, Try.ntmps32
    go_wp2_with fail
    go_ret
    exact ⟨_, rfl, (Below.refl _ _).alloc (Nat.le_refl _) _, RD.new ⟨by omega, .inl rfl⟩⟩
  · by_cases h : (len : Int) ≤ 2000
    · go_enter Try.func32, Try.ntmps32
      go_wp2_with fail
      go_ret
      exact ⟨_, rfl, (Below.refl _ _).alloc (Nat.le_refl _) _, RD.new ⟨by omega, .inr ⟨b, off, rfl, hb, hx⟩⟩⟩
    · go_enter Try.func32, Try.ntmps32
      go_wp2_with fail
      go_ret
      exact ⟨_, rfl, (Below.refl _ _).alloc (Nat.le_refl _) _, RD.new ⟨by omega, .inr ⟨b, off, rfl, hb, fun i hi => hx i (by omega)⟩⟩⟩

theorem RD.mono {B g K K' : Nat} {w : World} (h : RD B g K w) (hk : K ≤ K') : RD B g K' w := by
  obtain ⟨h1, h2, h3, a, len, cap, p, hC, hp0, hp1, hBy⟩ := h
  exact ⟨h1, h2, h3, a, len, cap, p, hC, hp0, by omega, hBy⟩
theorem RD.far {B g K k o : Nat} {u : Value} {w : World} (h : RD B g K w) (hk : B ≤ k) (hn : g ≠ k) : RD B g K (w.setCell ⟨k, o, none⟩ u) := by
  obtain ⟨h1, h2, h3, a, len, cap, p, hC, hp0, hp1, hBy⟩ := h
  have hb : Bex k w (w.setCell ⟨k, o, none⟩ u) := (Bex.refl _ _).set _
  exact ⟨h1, Nat.le_trans h2 hb.size, Nat.lt_of_lt_of_le h3 hb.size, a, len, cap, p, CB.far hn hC, hp0, hp1, hBy.bex hb hk h2⟩
theorem RD.far3 {B g K k : Nat} {x y z : Value} {w : World} (h : RD B g K w) (hk : B ≤ k) (hn : g ≠ k) : RD B g K (((w.setCell ⟨k, 0, none⟩ x).setCell ⟨k, 1, none⟩ y).setCell ⟨k, 2, none⟩ z) := RD.far (RD.far (RD.far h hk hn) hk hn) hk hn
theorem Bex.new3 {g k : Nat} {a w : World} {x y z : Value} (h : Bex g a w) (hk : a.heap.size ≤ k) : Bex g a (((w.setCell ⟨k, 0, none⟩ x).setCell ⟨k, 1, none⟩ y).setCell ⟨k, 2, none⟩ z) := Bex.setNew (Bex.setNew (Bex.setNew h hk _) hk _) hk _

end Go.Proofs.Ytanodgboimjmoaa
