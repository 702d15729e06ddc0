/-
  WALKS: are two vectors alike? The program's. Condition: the variable zero holds 0 over 1.
-/
import Derived.Test.YtlhbpjdokkelpaaDoorWv1
import Derived.Test.YtlhbpjdokkelpaaDoorWv2
import Derived.Test.YtlhbpjdokkelpaaDoorWv3
import Derived.Test.YtlhbpjdokkelpaaDoorWv4
namespace Go.Proofs.YtlhbpjdokkelpaaDoor
open Go.RowKit
open PL

set_option maxHeartbeats 16000000 in
theorem alike_any (a1 a2 a3 a4 a5 a6 b1 b2 b3 b4 b5 b6 : Int) (b : Bool) (w : World) (HZ : ZC w) (H : Hid (alike ⟨a1, a2, a3⟩ ⟨a4, a5, a6⟩ ⟨b1, b2, b3⟩ ⟨b4, b5, b6⟩ = b)) :
    Calls Tryd.prog 16 #[.agg #[.int .i64 a1, .int .i64 a2, .int .i64 a3, .int .i64 a4, .int .i64 a5, .int .i64 a6], .agg #[.int .i64 b1, .int .i64 b2, .int .i64 b3, .int .i64 b4, .int .i64 b5, .int .i64 b6]] w fun e w' => e = .returned (.bool b) ∧ Below w.heap.size w w' := by
  obtain ⟨⟨⟨x1, x2, x3⟩, p⟩, hp⟩ : ∃ r, times ⟨a1, a2, a3⟩ ⟨b4, b5, b6⟩ = r := ⟨_, rfl⟩
  obtain ⟨⟨⟨y1, y2, y3⟩, q⟩, hq⟩ : ∃ r, times ⟨a4, a5, a6⟩ ⟨b1, b2, b3⟩ = r := ⟨_, rfl⟩
  obtain ⟨v, hv⟩ : ∃ v, (valid ⟨a1, a2, a3⟩ && valid ⟨a4, a5, a6⟩) = v := ⟨_, rfl⟩
  obtain ⟨u, hu⟩ : ∃ u, (valid ⟨b1, b2, b3⟩ && valid ⟨b4, b5, b6⟩) = u := ⟨_, rfl⟩
  have HB : Hid ((v && u && p && q && (x1 == y1 && x2 == y2 && x3 == y3) && (dk ⟨a1, a2, a3⟩ ⟨a4, a5, a6⟩ == dk ⟨b1, b2, b3⟩ ⟨b4, b5, b6⟩)) = b) := by
    have h := H.out
    unfold alike eq3 at h
    rw [hp, hq, hv, hu] at h
    exact h
  clear H
  have HP := Lib.hid hp
  have HQ := Lib.hid hq
  have HV := Lib.hid hv
  have HU := Lib.hid hu
  clear hp hq hv hu
  rcases Bool.eq_false_or_eq_true (v) with h0 | h0
  · rcases Bool.eq_false_or_eq_true (u) with h1 | h1
    · rcases Bool.eq_false_or_eq_true (p) with h2 | h2
      · rcases Bool.eq_false_or_eq_true (q) with h3 | h3
        · rcases Bool.eq_false_or_eq_true (x1 == y1) with h4 | h4
          · rcases Bool.eq_false_or_eq_true (x2 == y2) with h5 | h5
            · rcases Bool.eq_false_or_eq_true (x3 == y3) with h6 | h6
              · exact alike_leaf7 a1 a2 a3 a4 a5 a6 b1 b2 b3 b4 b5 b6 x1 x2 x3 y1 y2 y3 p q v u b w HZ HB HP HQ HV HU h0 h1 h2 h3 h4 h5 h6
              · exact alike_leaf6 a1 a2 a3 a4 a5 a6 b1 b2 b3 b4 b5 b6 x1 x2 x3 y1 y2 y3 p q v u b w HZ HB HP HQ HV HU h0 h1 h2 h3 h4 h5 h6
            · exact alike_leaf5 a1 a2 a3 a4 a5 a6 b1 b2 b3 b4 b5 b6 x1 x2 x3 y1 y2 y3 p q v u b w HZ HB HP HQ HV HU h0 h1 h2 h3 h4 h5
          · exact alike_leaf4 a1 a2 a3 a4 a5 a6 b1 b2 b3 b4 b5 b6 x1 x2 x3 y1 y2 y3 p q v u b w HZ HB HP HQ HV HU h0 h1 h2 h3 h4
        · exact alike_leaf3 a1 a2 a3 a4 a5 a6 b1 b2 b3 b4 b5 b6 x1 x2 x3 y1 y2 y3 p q v u b w HZ HB HP HQ HV HU h0 h1 h2 h3
      · exact alike_leaf2 a1 a2 a3 a4 a5 a6 b1 b2 b3 b4 b5 b6 x1 x2 x3 y1 y2 y3 p q v u b w HZ HB HP HQ HV HU h0 h1 h2
    · exact alike_leaf1 a1 a2 a3 a4 a5 a6 b1 b2 b3 b4 b5 b6 x1 x2 x3 y1 y2 y3 p q v u b w HZ HB HP HQ HV HU h0 h1
  · exact alike_leaf0 a1 a2 a3 a4 a5 a6 b1 b2 b3 b4 b5 b6 x1 x2 x3 y1 y2 y3 p q v u b w HZ HB HP HQ HV HU h0

end Go.Proofs.YtlhbpjdokkelpaaDoor
