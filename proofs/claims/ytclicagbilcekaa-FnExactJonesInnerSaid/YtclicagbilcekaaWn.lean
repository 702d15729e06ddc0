/-
  WALKS: the reference's functions on vectors, the program's JonesCross, the laws' own toJones and eqJones. No condition.
-/
import Derived.Test.YtclicagbilcekaaWg
import Derived.Test.YtclicagbilcekaaWi
import Derived.Test.YtclicagbilcekaaWe
namespace Go.Proofs.Ytclicagbilcekaa
open Go.RowKit
open PL

set_option maxHeartbeats 4000000 in
theorem sjpower_any (a1 a2 a3 a4 a5 a6 p q d : Int) (b : Bool) (w : World) (H : Hid (jpower ⟨a1, a2, a3⟩ ⟨a4, a5, a6⟩ = (⟨p, q, d⟩, b))) :
    Calls Try.prog 7 #[.agg #[.int .i64 a1, .int .i64 a2, .int .i64 a3, .int .i64 a4, .int .i64 a5, .int .i64 a6]] w fun e w' =>
      e = .returned (.tuple #[.agg #[.int .i64 p, .int .i64 q, .int .i64 d], .bool b]) ∧ Below w.heap.size w w' := by
  obtain ⟨⟨g1, g2, g3⟩, o1, h1⟩ : ∃ r o, power ⟨a1, a2, a3⟩ = (r, o) := ⟨_, _, rfl⟩
  obtain ⟨⟨h1', h2', h3'⟩, o2, h2⟩ : ∃ r o, power ⟨a4, a5, a6⟩ = (r, o) := ⟨_, _, rfl⟩
  obtain ⟨⟨k1, k2, k3⟩, o3, h3⟩ : ∃ r o, add ⟨g1, g2, g3⟩ ⟨h1', h2', h3'⟩ = (r, o) := ⟨_, _, rfl⟩
  have H3 := Lib.hid h3
  have H1 := Lib.hid h1
  have H2 := Lib.hid h2
  cases o1
  · cases o2
    · have HL : Hid ((nil, false) = ((⟨p, q, d⟩, b) : Fr × Bool)) := by have h := H.out; unfold jpower sum2 at h; rw [h1, h2] at h; exact h
      clear h1 h2 H h3
      go_enter Try.func7, Try.ntmps7
      go_wp2_with fail
      refine (spower_any _ _ _ g1 g2 g3 false _ H1).mono ?_
      rintro e w1 ⟨rfl, hbw1⟩
      have Tw1 : TL w [(w.heap.size + 1, [.int .i64 0, .int .i64 0, .int .i64 0]), (w.heap.size, [.int .i64 a1, .int .i64 a2, .int .i64 a3, .int .i64 a4, .int .i64 a5, .int .i64 a6])] w1 := TL.below (TL.new (t := 26) (TL.new (t := 30) (TL.refl w) rfl) (by simp)) hbw1
      clear hbw1
      have Bw1 := Tw1.1.1
      have xw100 : w1.cell? ⟨w.heap.size + 1, 0, none⟩ = some (.int .i64 0) := Tw1.2.1.2.1.1
      have xw101 : w1.cell? ⟨w.heap.size + 1, 1, none⟩ = some (.int .i64 0) := Tw1.2.1.2.2.1.1
      have xw102 : w1.cell? ⟨w.heap.size + 1, 2, none⟩ = some (.int .i64 0) := Tw1.2.1.2.2.2.1.1
      have xw110 : w1.cell? ⟨w.heap.size, 0, none⟩ = some (.int .i64 a1) := Tw1.2.2.1.2.1.1
      have xw111 : w1.cell? ⟨w.heap.size, 1, none⟩ = some (.int .i64 a2) := Tw1.2.2.1.2.2.1.1
      have xw112 : w1.cell? ⟨w.heap.size, 2, none⟩ = some (.int .i64 a3) := Tw1.2.2.1.2.2.2.1.1
      have xw113 : w1.cell? ⟨w.heap.size, 3, none⟩ = some (.int .i64 a4) := Tw1.2.2.1.2.2.2.2.1.1
      have xw114 : w1.cell? ⟨w.heap.size, 4, none⟩ = some (.int .i64 a5) := Tw1.2.2.1.2.2.2.2.2.1.1
      have xw115 : w1.cell? ⟨w.heap.size, 5, none⟩ = some (.int .i64 a6) := Tw1.2.2.1.2.2.2.2.2.2.1.1
      have lw10 := Tw1.2.1.1
      have lw11 := Tw1.2.2.1.1
      have fw10 : w1.frozen? ⟨w.heap.size + 1, 0, none⟩ = false := Tw1.2.1.2.1.2
      have fw11 : w1.frozen? ⟨w.heap.size + 1, 1, none⟩ = false := Tw1.2.1.2.2.1.2
      have fw12 : w1.frozen? ⟨w.heap.size + 1, 2, none⟩ = false := Tw1.2.1.2.2.2.1.2
      go_wp2_with fail
      refine (spower_any _ _ _ h1' h2' h3' false _ H2).mono ?_
      rintro e w2 ⟨rfl, hbw2⟩
      have Tw2 : TL w [(w1.heap.size, [.int .i64 g1, .int .i64 g2, .int .i64 g3]), (w.heap.size + 1, [.int .i64 0, .int .i64 0, .int .i64 0]), (w.heap.size, [.int .i64 a1, .int .i64 a2, .int .i64 a3, .int .i64 a4, .int .i64 a5, .int .i64 a6])] w2 := TL.below (TL.new (t := 26) Tw1 rfl) hbw2
      clear hbw2
      have Bw2 := Tw2.1.1
      have xw200 : w2.cell? ⟨w1.heap.size, 0, none⟩ = some (.int .i64 g1) := Tw2.2.1.2.1.1
      have xw201 : w2.cell? ⟨w1.heap.size, 1, none⟩ = some (.int .i64 g2) := Tw2.2.1.2.2.1.1
      have xw202 : w2.cell? ⟨w1.heap.size, 2, none⟩ = some (.int .i64 g3) := Tw2.2.1.2.2.2.1.1
      have xw210 : w2.cell? ⟨w.heap.size + 1, 0, none⟩ = some (.int .i64 0) := Tw2.2.2.1.2.1.1
      have xw211 : w2.cell? ⟨w.heap.size + 1, 1, none⟩ = some (.int .i64 0) := Tw2.2.2.1.2.2.1.1
      have xw212 : w2.cell? ⟨w.heap.size + 1, 2, none⟩ = some (.int .i64 0) := Tw2.2.2.1.2.2.2.1.1
      have xw220 : w2.cell? ⟨w.heap.size, 0, none⟩ = some (.int .i64 a1) := Tw2.2.2.2.1.2.1.1
      have xw221 : w2.cell? ⟨w.heap.size, 1, none⟩ = some (.int .i64 a2) := Tw2.2.2.2.1.2.2.1.1
      have xw222 : w2.cell? ⟨w.heap.size, 2, none⟩ = some (.int .i64 a3) := Tw2.2.2.2.1.2.2.2.1.1
      have xw223 : w2.cell? ⟨w.heap.size, 3, none⟩ = some (.int .i64 a4) := Tw2.2.2.2.1.2.2.2.2.1.1
      have xw224 : w2.cell? ⟨w.heap.size, 4, none⟩ = some (.int .i64 a5) := Tw2.2.2.2.1.2.2.2.2.2.1.1
      have xw225 : w2.cell? ⟨w.heap.size, 5, none⟩ = some (.int .i64 a6) := Tw2.2.2.2.1.2.2.2.2.2.2.1.1
      have lw20 := Tw2.2.1.1
      have lw21 := Tw2.2.2.1.1
      have lw22 := Tw2.2.2.2.1.1
      have fw20 : w2.frozen? ⟨w.heap.size + 1, 0, none⟩ = false := Tw2.2.2.1.2.1.2
      have fw21 : w2.frozen? ⟨w.heap.size + 1, 1, none⟩ = false := Tw2.2.2.1.2.2.1.2
      have fw22 : w2.frozen? ⟨w.heap.size + 1, 2, none⟩ = false := Tw2.2.2.1.2.2.2.1.2
      go_upto_region 3 with fail
      have Tw3 : TL w [(w2.heap.size, [.int .i64 h1', .int .i64 h2', .int .i64 h3']), (w1.heap.size, [.int .i64 g1, .int .i64 g2, .int .i64 g3]), (w.heap.size + 1, [.int .i64 0, .int .i64 0, .int .i64 0]), (w.heap.size, [.int .i64 a1, .int .i64 a2, .int .i64 a3, .int .i64 a4, .int .i64 a5, .int .i64 a6])] (w2.alloc (.cells #[.int .i64 h1', .int .i64 h2', .int .i64 h3'] 26)) := TL.new (t := 26) Tw2 rfl
      generalize w2.alloc (.cells #[.int .i64 h1', .int .i64 h2', .int .i64 h3'] 26) = w3 at Tw3 ⊢
      have Bw3 := Tw3.1.1
      have hlow : w.heap.size ≤ w3.heap.size := Tw3.1.2
      clear xw100 xw101 xw102 xw110 xw111 xw112 xw113 xw114 xw115
      clear xw200 xw201 xw202 xw210 xw211 xw212 xw220 xw221 xw222 xw223 xw224 xw225
      have xw300 : w3.cell? ⟨w2.heap.size, 0, none⟩ = some (.int .i64 h1') := Tw3.2.1.2.1.1
      have xw301 : w3.cell? ⟨w2.heap.size, 1, none⟩ = some (.int .i64 h2') := Tw3.2.1.2.2.1.1
      have xw302 : w3.cell? ⟨w2.heap.size, 2, none⟩ = some (.int .i64 h3') := Tw3.2.1.2.2.2.1.1
      have xw310 : w3.cell? ⟨w1.heap.size, 0, none⟩ = some (.int .i64 g1) := Tw3.2.2.1.2.1.1
      have xw311 : w3.cell? ⟨w1.heap.size, 1, none⟩ = some (.int .i64 g2) := Tw3.2.2.1.2.2.1.1
      have xw312 : w3.cell? ⟨w1.heap.size, 2, none⟩ = some (.int .i64 g3) := Tw3.2.2.1.2.2.2.1.1
      have xw320 : w3.cell? ⟨w.heap.size + 1, 0, none⟩ = some (.int .i64 0) := Tw3.2.2.2.1.2.1.1
      have xw321 : w3.cell? ⟨w.heap.size + 1, 1, none⟩ = some (.int .i64 0) := Tw3.2.2.2.1.2.2.1.1
      have xw322 : w3.cell? ⟨w.heap.size + 1, 2, none⟩ = some (.int .i64 0) := Tw3.2.2.2.1.2.2.2.1.1
      have xw330 : w3.cell? ⟨w.heap.size, 0, none⟩ = some (.int .i64 a1) := Tw3.2.2.2.2.1.2.1.1
      have xw331 : w3.cell? ⟨w.heap.size, 1, none⟩ = some (.int .i64 a2) := Tw3.2.2.2.2.1.2.2.1.1
      have xw332 : w3.cell? ⟨w.heap.size, 2, none⟩ = some (.int .i64 a3) := Tw3.2.2.2.2.1.2.2.2.1.1
      have xw333 : w3.cell? ⟨w.heap.size, 3, none⟩ = some (.int .i64 a4) := Tw3.2.2.2.2.1.2.2.2.2.1.1
      have xw334 : w3.cell? ⟨w.heap.size, 4, none⟩ = some (.int .i64 a5) := Tw3.2.2.2.2.1.2.2.2.2.2.1.1
      have xw335 : w3.cell? ⟨w.heap.size, 5, none⟩ = some (.int .i64 a6) := Tw3.2.2.2.2.1.2.2.2.2.2.2.1.1
      have lw30 := Tw3.2.1.1
      have lw31 := Tw3.2.2.1.1
      have lw32 := Tw3.2.2.2.1.1
      have lw33 := Tw3.2.2.2.2.1.1
      have fw30 : w3.frozen? ⟨w.heap.size + 1, 0, none⟩ = false := Tw3.2.2.2.1.2.1.2
      have fw31 : w3.frozen? ⟨w.heap.size + 1, 1, none⟩ = false := Tw3.2.2.2.1.2.2.1.2
      have fw32 : w3.frozen? ⟨w.heap.size + 1, 2, none⟩ = false := Tw3.2.2.2.1.2.2.2.1.2
      go_wp2_with fail
      refine bodyPost_ret (by simp [results, Try.results7, go_sem, xw320, xw321, xw322]; rfl) rfl ?_
      exact ⟨ret_fb HL.out, by go_grown⟩
    · have HL : Hid ((nil, false) = ((⟨p, q, d⟩, b) : Fr × Bool)) := by have h := H.out; unfold jpower sum2 at h; rw [h1, h2] at h; exact h
      clear h1 h2 H h3
      go_enter Try.func7, Try.ntmps7
      go_wp2_with fail
      refine (spower_any _ _ _ g1 g2 g3 false _ H1).mono ?_
      rintro e w1 ⟨rfl, hbw1⟩
      have Tw1 : TL w [(w.heap.size + 1, [.int .i64 0, .int .i64 0, .int .i64 0]), (w.heap.size, [.int .i64 a1, .int .i64 a2, .int .i64 a3, .int .i64 a4, .int .i64 a5, .int .i64 a6])] w1 := TL.below (TL.new (t := 26) (TL.new (t := 30) (TL.refl w) rfl) (by simp)) hbw1
      clear hbw1
      have Bw1 := Tw1.1.1
      have xw100 : w1.cell? ⟨w.heap.size + 1, 0, none⟩ = some (.int .i64 0) := Tw1.2.1.2.1.1
      have xw101 : w1.cell? ⟨w.heap.size + 1, 1, none⟩ = some (.int .i64 0) := Tw1.2.1.2.2.1.1
      have xw102 : w1.cell? ⟨w.heap.size + 1, 2, none⟩ = some (.int .i64 0) := Tw1.2.1.2.2.2.1.1
      have xw110 : w1.cell? ⟨w.heap.size, 0, none⟩ = some (.int .i64 a1) := Tw1.2.2.1.2.1.1
      have xw111 : w1.cell? ⟨w.heap.size, 1, none⟩ = some (.int .i64 a2) := Tw1.2.2.1.2.2.1.1
      have xw112 : w1.cell? ⟨w.heap.size, 2, none⟩ = some (.int .i64 a3) := Tw1.2.2.1.2.2.2.1.1
      have xw113 : w1.cell? ⟨w.heap.size, 3, none⟩ = some (.int .i64 a4) := Tw1.2.2.1.2.2.2.2.1.1
      have xw114 : w1.cell? ⟨w.heap.size, 4, none⟩ = some (.int .i64 a5) := Tw1.2.2.1.2.2.2.2.2.1.1
      have xw115 : w1.cell? ⟨w.heap.size, 5, none⟩ = some (.int .i64 a6) := Tw1.2.2.1.2.2.2.2.2.2.1.1
      have lw10 := Tw1.2.1.1
      have lw11 := Tw1.2.2.1.1
      have fw10 : w1.frozen? ⟨w.heap.size + 1, 0, none⟩ = false := Tw1.2.1.2.1.2
      have fw11 : w1.frozen? ⟨w.heap.size + 1, 1, none⟩ = false := Tw1.2.1.2.2.1.2
      have fw12 : w1.frozen? ⟨w.heap.size + 1, 2, none⟩ = false := Tw1.2.1.2.2.2.1.2
      go_wp2_with fail
      refine (spower_any _ _ _ h1' h2' h3' true _ H2).mono ?_
      rintro e w2 ⟨rfl, hbw2⟩
      have Tw2 : TL w [(w1.heap.size, [.int .i64 g1, .int .i64 g2, .int .i64 g3]), (w.heap.size + 1, [.int .i64 0, .int .i64 0, .int .i64 0]), (w.heap.size, [.int .i64 a1, .int .i64 a2, .int .i64 a3, .int .i64 a4, .int .i64 a5, .int .i64 a6])] w2 := TL.below (TL.new (t := 26) Tw1 rfl) hbw2
      clear hbw2
      have Bw2 := Tw2.1.1
      have xw200 : w2.cell? ⟨w1.heap.size, 0, none⟩ = some (.int .i64 g1) := Tw2.2.1.2.1.1
      have xw201 : w2.cell? ⟨w1.heap.size, 1, none⟩ = some (.int .i64 g2) := Tw2.2.1.2.2.1.1
      have xw202 : w2.cell? ⟨w1.heap.size, 2, none⟩ = some (.int .i64 g3) := Tw2.2.1.2.2.2.1.1
      have xw210 : w2.cell? ⟨w.heap.size + 1, 0, none⟩ = some (.int .i64 0) := Tw2.2.2.1.2.1.1
      have xw211 : w2.cell? ⟨w.heap.size + 1, 1, none⟩ = some (.int .i64 0) := Tw2.2.2.1.2.2.1.1
      have xw212 : w2.cell? ⟨w.heap.size + 1, 2, none⟩ = some (.int .i64 0) := Tw2.2.2.1.2.2.2.1.1
      have xw220 : w2.cell? ⟨w.heap.size, 0, none⟩ = some (.int .i64 a1) := Tw2.2.2.2.1.2.1.1
      have xw221 : w2.cell? ⟨w.heap.size, 1, none⟩ = some (.int .i64 a2) := Tw2.2.2.2.1.2.2.1.1
      have xw222 : w2.cell? ⟨w.heap.size, 2, none⟩ = some (.int .i64 a3) := Tw2.2.2.2.1.2.2.2.1.1
      have xw223 : w2.cell? ⟨w.heap.size, 3, none⟩ = some (.int .i64 a4) := Tw2.2.2.2.1.2.2.2.2.1.1
      have xw224 : w2.cell? ⟨w.heap.size, 4, none⟩ = some (.int .i64 a5) := Tw2.2.2.2.1.2.2.2.2.2.1.1
      have xw225 : w2.cell? ⟨w.heap.size, 5, none⟩ = some (.int .i64 a6) := Tw2.2.2.2.1.2.2.2.2.2.2.1.1
      have lw20 := Tw2.2.1.1
      have lw21 := Tw2.2.2.1.1
      have lw22 := Tw2.2.2.2.1.1
      have fw20 : w2.frozen? ⟨w.heap.size + 1, 0, none⟩ = false := Tw2.2.2.1.2.1.2
      have fw21 : w2.frozen? ⟨w.heap.size + 1, 1, none⟩ = false := Tw2.2.2.1.2.2.1.2
      have fw22 : w2.frozen? ⟨w.heap.size + 1, 2, none⟩ = false := Tw2.2.2.1.2.2.2.1.2
      go_upto_region 3 with fail
      have Tw3 : TL w [(w2.heap.size, [.int .i64 h1', .int .i64 h2', .int .i64 h3']), (w1.heap.size, [.int .i64 g1, .int .i64 g2, .int .i64 g3]), (w.heap.size + 1, [.int .i64 0, .int .i64 0, .int .i64 0]), (w.heap.size, [.int .i64 a1, .int .i64 a2, .int .i64 a3, .int .i64 a4, .int .i64 a5, .int .i64 a6])] (w2.alloc (.cells #[.int .i64 h1', .int .i64 h2', .int .i64 h3'] 26)) := TL.new (t := 26) Tw2 rfl
      generalize w2.alloc (.cells #[.int .i64 h1', .int .i64 h2', .int .i64 h3'] 26) = w3 at Tw3 ⊢
      have Bw3 := Tw3.1.1
      have hlow : w.heap.size ≤ w3.heap.size := Tw3.1.2
      clear xw100 xw101 xw102 xw110 xw111 xw112 xw113 xw114 xw115
      clear xw200 xw201 xw202 xw210 xw211 xw212 xw220 xw221 xw222 xw223 xw224 xw225
      have xw300 : w3.cell? ⟨w2.heap.size, 0, none⟩ = some (.int .i64 h1') := Tw3.2.1.2.1.1
      have xw301 : w3.cell? ⟨w2.heap.size, 1, none⟩ = some (.int .i64 h2') := Tw3.2.1.2.2.1.1
      have xw302 : w3.cell? ⟨w2.heap.size, 2, none⟩ = some (.int .i64 h3') := Tw3.2.1.2.2.2.1.1
      have xw310 : w3.cell? ⟨w1.heap.size, 0, none⟩ = some (.int .i64 g1) := Tw3.2.2.1.2.1.1
      have xw311 : w3.cell? ⟨w1.heap.size, 1, none⟩ = some (.int .i64 g2) := Tw3.2.2.1.2.2.1.1
      have xw312 : w3.cell? ⟨w1.heap.size, 2, none⟩ = some (.int .i64 g3) := Tw3.2.2.1.2.2.2.1.1
      have xw320 : w3.cell? ⟨w.heap.size + 1, 0, none⟩ = some (.int .i64 0) := Tw3.2.2.2.1.2.1.1
      have xw321 : w3.cell? ⟨w.heap.size + 1, 1, none⟩ = some (.int .i64 0) := Tw3.2.2.2.1.2.2.1.1
      have xw322 : w3.cell? ⟨w.heap.size + 1, 2, none⟩ = some (.int .i64 0) := Tw3.2.2.2.1.2.2.2.1.1
      have xw330 : w3.cell? ⟨w.heap.size, 0, none⟩ = some (.int .i64 a1) := Tw3.2.2.2.2.1.2.1.1
      have xw331 : w3.cell? ⟨w.heap.size, 1, none⟩ = some (.int .i64 a2) := Tw3.2.2.2.2.1.2.2.1.1
      have xw332 : w3.cell? ⟨w.heap.size, 2, none⟩ = some (.int .i64 a3) := Tw3.2.2.2.2.1.2.2.2.1.1
      have xw333 : w3.cell? ⟨w.heap.size, 3, none⟩ = some (.int .i64 a4) := Tw3.2.2.2.2.1.2.2.2.2.1.1
      have xw334 : w3.cell? ⟨w.heap.size, 4, none⟩ = some (.int .i64 a5) := Tw3.2.2.2.2.1.2.2.2.2.2.1.1
      have xw335 : w3.cell? ⟨w.heap.size, 5, none⟩ = some (.int .i64 a6) := Tw3.2.2.2.2.1.2.2.2.2.2.2.1.1
      have lw30 := Tw3.2.1.1
      have lw31 := Tw3.2.2.1.1
      have lw32 := Tw3.2.2.2.1.1
      have lw33 := Tw3.2.2.2.2.1.1
      have fw30 : w3.frozen? ⟨w.heap.size + 1, 0, none⟩ = false := Tw3.2.2.2.1.2.1.2
      have fw31 : w3.frozen? ⟨w.heap.size + 1, 1, none⟩ = false := Tw3.2.2.2.1.2.2.1.2
      have fw32 : w3.frozen? ⟨w.heap.size + 1, 2, none⟩ = false := Tw3.2.2.2.1.2.2.2.1.2
      go_wp2_with fail
      refine bodyPost_ret (by simp [results, Try.results7, go_sem, xw320, xw321, xw322]; rfl) rfl ?_
      exact ⟨ret_fb HL.out, by go_grown⟩
  · cases o2
    · have HL : Hid ((nil, false) = ((⟨p, q, d⟩, b) : Fr × Bool)) := by have h := H.out; unfold jpower sum2 at h; rw [h1, h2] at h; exact h
      clear h1 h2 H h3
      go_enter Try.func7, Try.ntmps7
      go_wp2_with fail
      refine (spower_any _ _ _ g1 g2 g3 true _ H1).mono ?_
      rintro e w1 ⟨rfl, hbw1⟩
      have Tw1 : TL w [(w.heap.size + 1, [.int .i64 0, .int .i64 0, .int .i64 0]), (w.heap.size, [.int .i64 a1, .int .i64 a2, .int .i64 a3, .int .i64 a4, .int .i64 a5, .int .i64 a6])] w1 := TL.below (TL.new (t := 26) (TL.new (t := 30) (TL.refl w) rfl) (by simp)) hbw1
      clear hbw1
      have Bw1 := Tw1.1.1
      have xw100 : w1.cell? ⟨w.heap.size + 1, 0, none⟩ = some (.int .i64 0) := Tw1.2.1.2.1.1
      have xw101 : w1.cell? ⟨w.heap.size + 1, 1, none⟩ = some (.int .i64 0) := Tw1.2.1.2.2.1.1
      have xw102 : w1.cell? ⟨w.heap.size + 1, 2, none⟩ = some (.int .i64 0) := Tw1.2.1.2.2.2.1.1
      have xw110 : w1.cell? ⟨w.heap.size, 0, none⟩ = some (.int .i64 a1) := Tw1.2.2.1.2.1.1
      have xw111 : w1.cell? ⟨w.heap.size, 1, none⟩ = some (.int .i64 a2) := Tw1.2.2.1.2.2.1.1
      have xw112 : w1.cell? ⟨w.heap.size, 2, none⟩ = some (.int .i64 a3) := Tw1.2.2.1.2.2.2.1.1
      have xw113 : w1.cell? ⟨w.heap.size, 3, none⟩ = some (.int .i64 a4) := Tw1.2.2.1.2.2.2.2.1.1
      have xw114 : w1.cell? ⟨w.heap.size, 4, none⟩ = some (.int .i64 a5) := Tw1.2.2.1.2.2.2.2.2.1.1
      have xw115 : w1.cell? ⟨w.heap.size, 5, none⟩ = some (.int .i64 a6) := Tw1.2.2.1.2.2.2.2.2.2.1.1
      have lw10 := Tw1.2.1.1
      have lw11 := Tw1.2.2.1.1
      have fw10 : w1.frozen? ⟨w.heap.size + 1, 0, none⟩ = false := Tw1.2.1.2.1.2
      have fw11 : w1.frozen? ⟨w.heap.size + 1, 1, none⟩ = false := Tw1.2.1.2.2.1.2
      have fw12 : w1.frozen? ⟨w.heap.size + 1, 2, none⟩ = false := Tw1.2.1.2.2.2.1.2
      go_wp2_with fail
      refine (spower_any _ _ _ h1' h2' h3' false _ H2).mono ?_
      rintro e w2 ⟨rfl, hbw2⟩
      have Tw2 : TL w [(w1.heap.size, [.int .i64 g1, .int .i64 g2, .int .i64 g3]), (w.heap.size + 1, [.int .i64 0, .int .i64 0, .int .i64 0]), (w.heap.size, [.int .i64 a1, .int .i64 a2, .int .i64 a3, .int .i64 a4, .int .i64 a5, .int .i64 a6])] w2 := TL.below (TL.new (t := 26) Tw1 rfl) hbw2
      clear hbw2
      have Bw2 := Tw2.1.1
      have xw200 : w2.cell? ⟨w1.heap.size, 0, none⟩ = some (.int .i64 g1) := Tw2.2.1.2.1.1
      have xw201 : w2.cell? ⟨w1.heap.size, 1, none⟩ = some (.int .i64 g2) := Tw2.2.1.2.2.1.1
      have xw202 : w2.cell? ⟨w1.heap.size, 2, none⟩ = some (.int .i64 g3) := Tw2.2.1.2.2.2.1.1
      have xw210 : w2.cell? ⟨w.heap.size + 1, 0, none⟩ = some (.int .i64 0) := Tw2.2.2.1.2.1.1
      have xw211 : w2.cell? ⟨w.heap.size + 1, 1, none⟩ = some (.int .i64 0) := Tw2.2.2.1.2.2.1.1
      have xw212 : w2.cell? ⟨w.heap.size + 1, 2, none⟩ = some (.int .i64 0) := Tw2.2.2.1.2.2.2.1.1
      have xw220 : w2.cell? ⟨w.heap.size, 0, none⟩ = some (.int .i64 a1) := Tw2.2.2.2.1.2.1.1
      have xw221 : w2.cell? ⟨w.heap.size, 1, none⟩ = some (.int .i64 a2) := Tw2.2.2.2.1.2.2.1.1
      have xw222 : w2.cell? ⟨w.heap.size, 2, none⟩ = some (.int .i64 a3) := Tw2.2.2.2.1.2.2.2.1.1
      have xw223 : w2.cell? ⟨w.heap.size, 3, none⟩ = some (.int .i64 a4) := Tw2.2.2.2.1.2.2.2.2.1.1
      have xw224 : w2.cell? ⟨w.heap.size, 4, none⟩ = some (.int .i64 a5) := Tw2.2.2.2.1.2.2.2.2.2.1.1
      have xw225 : w2.cell? ⟨w.heap.size, 5, none⟩ = some (.int .i64 a6) := Tw2.2.2.2.1.2.2.2.2.2.2.1.1
      have lw20 := Tw2.2.1.1
      have lw21 := Tw2.2.2.1.1
      have lw22 := Tw2.2.2.2.1.1
      have fw20 : w2.frozen? ⟨w.heap.size + 1, 0, none⟩ = false := Tw2.2.2.1.2.1.2
      have fw21 : w2.frozen? ⟨w.heap.size + 1, 1, none⟩ = false := Tw2.2.2.1.2.2.1.2
      have fw22 : w2.frozen? ⟨w.heap.size + 1, 2, none⟩ = false := Tw2.2.2.1.2.2.2.1.2
      go_upto_region 3 with fail
      have Tw3 : TL w [(w2.heap.size, [.int .i64 h1', .int .i64 h2', .int .i64 h3']), (w1.heap.size, [.int .i64 g1, .int .i64 g2, .int .i64 g3]), (w.heap.size + 1, [.int .i64 0, .int .i64 0, .int .i64 0]), (w.heap.size, [.int .i64 a1, .int .i64 a2, .int .i64 a3, .int .i64 a4, .int .i64 a5, .int .i64 a6])] (w2.alloc (.cells #[.int .i64 h1', .int .i64 h2', .int .i64 h3'] 26)) := TL.new (t := 26) Tw2 rfl
      generalize w2.alloc (.cells #[.int .i64 h1', .int .i64 h2', .int .i64 h3'] 26) = w3 at Tw3 ⊢
      have Bw3 := Tw3.1.1
      have hlow : w.heap.size ≤ w3.heap.size := Tw3.1.2
      clear xw100 xw101 xw102 xw110 xw111 xw112 xw113 xw114 xw115
      clear xw200 xw201 xw202 xw210 xw211 xw212 xw220 xw221 xw222 xw223 xw224 xw225
      have xw300 : w3.cell? ⟨w2.heap.size, 0, none⟩ = some (.int .i64 h1') := Tw3.2.1.2.1.1
      have xw301 : w3.cell? ⟨w2.heap.size, 1, none⟩ = some (.int .i64 h2') := Tw3.2.1.2.2.1.1
      have xw302 : w3.cell? ⟨w2.heap.size, 2, none⟩ = some (.int .i64 h3') := Tw3.2.1.2.2.2.1.1
      have xw310 : w3.cell? ⟨w1.heap.size, 0, none⟩ = some (.int .i64 g1) := Tw3.2.2.1.2.1.1
      have xw311 : w3.cell? ⟨w1.heap.size, 1, none⟩ = some (.int .i64 g2) := Tw3.2.2.1.2.2.1.1
      have xw312 : w3.cell? ⟨w1.heap.size, 2, none⟩ = some (.int .i64 g3) := Tw3.2.2.1.2.2.2.1.1
      have xw320 : w3.cell? ⟨w.heap.size + 1, 0, none⟩ = some (.int .i64 0) := Tw3.2.2.2.1.2.1.1
      have xw321 : w3.cell? ⟨w.heap.size + 1, 1, none⟩ = some (.int .i64 0) := Tw3.2.2.2.1.2.2.1.1
      have xw322 : w3.cell? ⟨w.heap.size + 1, 2, none⟩ = some (.int .i64 0) := Tw3.2.2.2.1.2.2.2.1.1
      have xw330 : w3.cell? ⟨w.heap.size, 0, none⟩ = some (.int .i64 a1) := Tw3.2.2.2.2.1.2.1.1
      have xw331 : w3.cell? ⟨w.heap.size, 1, none⟩ = some (.int .i64 a2) := Tw3.2.2.2.2.1.2.2.1.1
      have xw332 : w3.cell? ⟨w.heap.size, 2, none⟩ = some (.int .i64 a3) := Tw3.2.2.2.2.1.2.2.2.1.1
      have xw333 : w3.cell? ⟨w.heap.size, 3, none⟩ = some (.int .i64 a4) := Tw3.2.2.2.2.1.2.2.2.2.1.1
      have xw334 : w3.cell? ⟨w.heap.size, 4, none⟩ = some (.int .i64 a5) := Tw3.2.2.2.2.1.2.2.2.2.2.1.1
      have xw335 : w3.cell? ⟨w.heap.size, 5, none⟩ = some (.int .i64 a6) := Tw3.2.2.2.2.1.2.2.2.2.2.2.1.1
      have lw30 := Tw3.2.1.1
      have lw31 := Tw3.2.2.1.1
      have lw32 := Tw3.2.2.2.1.1
      have lw33 := Tw3.2.2.2.2.1.1
      have fw30 : w3.frozen? ⟨w.heap.size + 1, 0, none⟩ = false := Tw3.2.2.2.1.2.1.2
      have fw31 : w3.frozen? ⟨w.heap.size + 1, 1, none⟩ = false := Tw3.2.2.2.1.2.2.1.2
      have fw32 : w3.frozen? ⟨w.heap.size + 1, 2, none⟩ = false := Tw3.2.2.2.1.2.2.2.1.2
      go_wp2_with fail
      refine bodyPost_ret (by simp [results, Try.results7, go_sem, xw320, xw321, xw322]; rfl) rfl ?_
      exact ⟨ret_fb HL.out, by go_grown⟩
    · have HL : Hid ((⟨k1, k2, k3⟩, o3) = ((⟨p, q, d⟩, b) : Fr × Bool)) := by have h := H.out; unfold jpower sum2 at h; rw [h1, h2] at h; simp only [Bool.and_self, if_true] at h; rw [h3] at h; exact h
      clear h1 h2 H h3
      go_enter Try.func7, Try.ntmps7
      go_wp2_with fail
      refine (spower_any _ _ _ g1 g2 g3 true _ H1).mono ?_
      rintro e w1 ⟨rfl, hbw1⟩
      have Tw1 : TL w [(w.heap.size + 1, [.int .i64 0, .int .i64 0, .int .i64 0]), (w.heap.size, [.int .i64 a1, .int .i64 a2, .int .i64 a3, .int .i64 a4, .int .i64 a5, .int .i64 a6])] w1 := TL.below (TL.new (t := 26) (TL.new (t := 30) (TL.refl w) rfl) (by simp)) hbw1
      clear hbw1
      have Bw1 := Tw1.1.1
      have xw100 : w1.cell? ⟨w.heap.size + 1, 0, none⟩ = some (.int .i64 0) := Tw1.2.1.2.1.1
      have xw101 : w1.cell? ⟨w.heap.size + 1, 1, none⟩ = some (.int .i64 0) := Tw1.2.1.2.2.1.1
      have xw102 : w1.cell? ⟨w.heap.size + 1, 2, none⟩ = some (.int .i64 0) := Tw1.2.1.2.2.2.1.1
      have xw110 : w1.cell? ⟨w.heap.size, 0, none⟩ = some (.int .i64 a1) := Tw1.2.2.1.2.1.1
      have xw111 : w1.cell? ⟨w.heap.size, 1, none⟩ = some (.int .i64 a2) := Tw1.2.2.1.2.2.1.1
      have xw112 : w1.cell? ⟨w.heap.size, 2, none⟩ = some (.int .i64 a3) := Tw1.2.2.1.2.2.2.1.1
      have xw113 : w1.cell? ⟨w.heap.size, 3, none⟩ = some (.int .i64 a4) := Tw1.2.2.1.2.2.2.2.1.1
      have xw114 : w1.cell? ⟨w.heap.size, 4, none⟩ = some (.int .i64 a5) := Tw1.2.2.1.2.2.2.2.2.1.1
      have xw115 : w1.cell? ⟨w.heap.size, 5, none⟩ = some (.int .i64 a6) := Tw1.2.2.1.2.2.2.2.2.2.1.1
      have lw10 := Tw1.2.1.1
      have lw11 := Tw1.2.2.1.1
      have fw10 : w1.frozen? ⟨w.heap.size + 1, 0, none⟩ = false := Tw1.2.1.2.1.2
      have fw11 : w1.frozen? ⟨w.heap.size + 1, 1, none⟩ = false := Tw1.2.1.2.2.1.2
      have fw12 : w1.frozen? ⟨w.heap.size + 1, 2, none⟩ = false := Tw1.2.1.2.2.2.1.2
      go_wp2_with fail
      refine (spower_any _ _ _ h1' h2' h3' true _ H2).mono ?_
      rintro e w2 ⟨rfl, hbw2⟩
      have Tw2 : TL w [(w1.heap.size, [.int .i64 g1, .int .i64 g2, .int .i64 g3]), (w.heap.size + 1, [.int .i64 0, .int .i64 0, .int .i64 0]), (w.heap.size, [.int .i64 a1, .int .i64 a2, .int .i64 a3, .int .i64 a4, .int .i64 a5, .int .i64 a6])] w2 := TL.below (TL.new (t := 26) Tw1 rfl) hbw2
      clear hbw2
      have Bw2 := Tw2.1.1
      have xw200 : w2.cell? ⟨w1.heap.size, 0, none⟩ = some (.int .i64 g1) := Tw2.2.1.2.1.1
      have xw201 : w2.cell? ⟨w1.heap.size, 1, none⟩ = some (.int .i64 g2) := Tw2.2.1.2.2.1.1
      have xw202 : w2.cell? ⟨w1.heap.size, 2, none⟩ = some (.int .i64 g3) := Tw2.2.1.2.2.2.1.1
      have xw210 : w2.cell? ⟨w.heap.size + 1, 0, none⟩ = some (.int .i64 0) := Tw2.2.2.1.2.1.1
      have xw211 : w2.cell? ⟨w.heap.size + 1, 1, none⟩ = some (.int .i64 0) := Tw2.2.2.1.2.2.1.1
      have xw212 : w2.cell? ⟨w.heap.size + 1, 2, none⟩ = some (.int .i64 0) := Tw2.2.2.1.2.2.2.1.1
      have xw220 : w2.cell? ⟨w.heap.size, 0, none⟩ = some (.int .i64 a1) := Tw2.2.2.2.1.2.1.1
      have xw221 : w2.cell? ⟨w.heap.size, 1, none⟩ = some (.int .i64 a2) := Tw2.2.2.2.1.2.2.1.1
      have xw222 : w2.cell? ⟨w.heap.size, 2, none⟩ = some (.int .i64 a3) := Tw2.2.2.2.1.2.2.2.1.1
      have xw223 : w2.cell? ⟨w.heap.size, 3, none⟩ = some (.int .i64 a4) := Tw2.2.2.2.1.2.2.2.2.1.1
      have xw224 : w2.cell? ⟨w.heap.size, 4, none⟩ = some (.int .i64 a5) := Tw2.2.2.2.1.2.2.2.2.2.1.1
      have xw225 : w2.cell? ⟨w.heap.size, 5, none⟩ = some (.int .i64 a6) := Tw2.2.2.2.1.2.2.2.2.2.2.1.1
      have lw20 := Tw2.2.1.1
      have lw21 := Tw2.2.2.1.1
      have lw22 := Tw2.2.2.2.1.1
      have fw20 : w2.frozen? ⟨w.heap.size + 1, 0, none⟩ = false := Tw2.2.2.1.2.1.2
      have fw21 : w2.frozen? ⟨w.heap.size + 1, 1, none⟩ = false := Tw2.2.2.1.2.2.1.2
      have fw22 : w2.frozen? ⟨w.heap.size + 1, 2, none⟩ = false := Tw2.2.2.1.2.2.2.1.2
      go_upto_region 3 with fail
      have Tw3 : TL w [(w2.heap.size, [.int .i64 h1', .int .i64 h2', .int .i64 h3']), (w1.heap.size, [.int .i64 g1, .int .i64 g2, .int .i64 g3]), (w.heap.size + 1, [.int .i64 0, .int .i64 0, .int .i64 0]), (w.heap.size, [.int .i64 a1, .int .i64 a2, .int .i64 a3, .int .i64 a4, .int .i64 a5, .int .i64 a6])] (w2.alloc (.cells #[.int .i64 h1', .int .i64 h2', .int .i64 h3'] 26)) := TL.new (t := 26) Tw2 rfl
      generalize w2.alloc (.cells #[.int .i64 h1', .int .i64 h2', .int .i64 h3'] 26) = w3 at Tw3 ⊢
      have Bw3 := Tw3.1.1
      have hlow : w.heap.size ≤ w3.heap.size := Tw3.1.2
      clear xw100 xw101 xw102 xw110 xw111 xw112 xw113 xw114 xw115
      clear xw200 xw201 xw202 xw210 xw211 xw212 xw220 xw221 xw222 xw223 xw224 xw225
      have xw300 : w3.cell? ⟨w2.heap.size, 0, none⟩ = some (.int .i64 h1') := Tw3.2.1.2.1.1
      have xw301 : w3.cell? ⟨w2.heap.size, 1, none⟩ = some (.int .i64 h2') := Tw3.2.1.2.2.1.1
      have xw302 : w3.cell? ⟨w2.heap.size, 2, none⟩ = some (.int .i64 h3') := Tw3.2.1.2.2.2.1.1
      have xw310 : w3.cell? ⟨w1.heap.size, 0, none⟩ = some (.int .i64 g1) := Tw3.2.2.1.2.1.1
      have xw311 : w3.cell? ⟨w1.heap.size, 1, none⟩ = some (.int .i64 g2) := Tw3.2.2.1.2.2.1.1
      have xw312 : w3.cell? ⟨w1.heap.size, 2, none⟩ = some (.int .i64 g3) := Tw3.2.2.1.2.2.2.1.1
      have xw320 : w3.cell? ⟨w.heap.size + 1, 0, none⟩ = some (.int .i64 0) := Tw3.2.2.2.1.2.1.1
      have xw321 : w3.cell? ⟨w.heap.size + 1, 1, none⟩ = some (.int .i64 0) := Tw3.2.2.2.1.2.2.1.1
      have xw322 : w3.cell? ⟨w.heap.size + 1, 2, none⟩ = some (.int .i64 0) := Tw3.2.2.2.1.2.2.2.1.1
      have xw330 : w3.cell? ⟨w.heap.size, 0, none⟩ = some (.int .i64 a1) := Tw3.2.2.2.2.1.2.1.1
      have xw331 : w3.cell? ⟨w.heap.size, 1, none⟩ = some (.int .i64 a2) := Tw3.2.2.2.2.1.2.2.1.1
      have xw332 : w3.cell? ⟨w.heap.size, 2, none⟩ = some (.int .i64 a3) := Tw3.2.2.2.2.1.2.2.2.1.1
      have xw333 : w3.cell? ⟨w.heap.size, 3, none⟩ = some (.int .i64 a4) := Tw3.2.2.2.2.1.2.2.2.2.1.1
      have xw334 : w3.cell? ⟨w.heap.size, 4, none⟩ = some (.int .i64 a5) := Tw3.2.2.2.2.1.2.2.2.2.2.1.1
      have xw335 : w3.cell? ⟨w.heap.size, 5, none⟩ = some (.int .i64 a6) := Tw3.2.2.2.2.1.2.2.2.2.2.2.1.1
      have lw30 := Tw3.2.1.1
      have lw31 := Tw3.2.2.1.1
      have lw32 := Tw3.2.2.2.1.1
      have lw33 := Tw3.2.2.2.2.1.1
      have fw30 : w3.frozen? ⟨w.heap.size + 1, 0, none⟩ = false := Tw3.2.2.2.1.2.1.2
      have fw31 : w3.frozen? ⟨w.heap.size + 1, 1, none⟩ = false := Tw3.2.2.2.1.2.2.1.2
      have fw32 : w3.frozen? ⟨w.heap.size + 1, 2, none⟩ = false := Tw3.2.2.2.1.2.2.2.1.2
      go_wp2_with fail
      refine (sadd_any _ _ _ _ _ _ k1 k2 k3 o3 _ H3).mono ?_
      rintro e w4 ⟨rfl, hbw4⟩
      have Tw4 : TL w [(w2.heap.size, [.int .i64 h1', .int .i64 h2', .int .i64 h3']), (w1.heap.size, [.int .i64 g1, .int .i64 g2, .int .i64 g3]), (w.heap.size + 1, [.int .i64 0, .int .i64 0, .int .i64 0]), (w.heap.size, [.int .i64 a1, .int .i64 a2, .int .i64 a3, .int .i64 a4, .int .i64 a5, .int .i64 a6])] w4 := TL.below (Tw3) hbw4
      clear hbw4
      have Bw4 := Tw4.1.1
      have xw400 : w4.cell? ⟨w2.heap.size, 0, none⟩ = some (.int .i64 h1') := Tw4.2.1.2.1.1
      have xw401 : w4.cell? ⟨w2.heap.size, 1, none⟩ = some (.int .i64 h2') := Tw4.2.1.2.2.1.1
      have xw402 : w4.cell? ⟨w2.heap.size, 2, none⟩ = some (.int .i64 h3') := Tw4.2.1.2.2.2.1.1
      have xw410 : w4.cell? ⟨w1.heap.size, 0, none⟩ = some (.int .i64 g1) := Tw4.2.2.1.2.1.1
      have xw411 : w4.cell? ⟨w1.heap.size, 1, none⟩ = some (.int .i64 g2) := Tw4.2.2.1.2.2.1.1
      have xw412 : w4.cell? ⟨w1.heap.size, 2, none⟩ = some (.int .i64 g3) := Tw4.2.2.1.2.2.2.1.1
      have xw420 : w4.cell? ⟨w.heap.size + 1, 0, none⟩ = some (.int .i64 0) := Tw4.2.2.2.1.2.1.1
      have xw421 : w4.cell? ⟨w.heap.size + 1, 1, none⟩ = some (.int .i64 0) := Tw4.2.2.2.1.2.2.1.1
      have xw422 : w4.cell? ⟨w.heap.size + 1, 2, none⟩ = some (.int .i64 0) := Tw4.2.2.2.1.2.2.2.1.1
      have xw430 : w4.cell? ⟨w.heap.size, 0, none⟩ = some (.int .i64 a1) := Tw4.2.2.2.2.1.2.1.1
      have xw431 : w4.cell? ⟨w.heap.size, 1, none⟩ = some (.int .i64 a2) := Tw4.2.2.2.2.1.2.2.1.1
      have xw432 : w4.cell? ⟨w.heap.size, 2, none⟩ = some (.int .i64 a3) := Tw4.2.2.2.2.1.2.2.2.1.1
      have xw433 : w4.cell? ⟨w.heap.size, 3, none⟩ = some (.int .i64 a4) := Tw4.2.2.2.2.1.2.2.2.2.1.1
      have xw434 : w4.cell? ⟨w.heap.size, 4, none⟩ = some (.int .i64 a5) := Tw4.2.2.2.2.1.2.2.2.2.2.1.1
      have xw435 : w4.cell? ⟨w.heap.size, 5, none⟩ = some (.int .i64 a6) := Tw4.2.2.2.2.1.2.2.2.2.2.2.1.1
      have lw40 := Tw4.2.1.1
      have lw41 := Tw4.2.2.1.1
      have lw42 := Tw4.2.2.2.1.1
      have lw43 := Tw4.2.2.2.2.1.1
      have fw40 : w4.frozen? ⟨w.heap.size + 1, 0, none⟩ = false := Tw4.2.2.2.1.2.1.2
      have fw41 : w4.frozen? ⟨w.heap.size + 1, 1, none⟩ = false := Tw4.2.2.2.1.2.2.1.2
      have fw42 : w4.frozen? ⟨w.heap.size + 1, 2, none⟩ = false := Tw4.2.2.2.1.2.2.2.1.2
      go_wp2_with fail
      refine bodyPost_ret (by simp [results, Try.results7, go_sem, xw420, xw421, xw422]; rfl) rfl ?_
      exact ⟨ret_fb HL.out, by go_grown⟩

end Go.Proofs.Ytclicagbilcekaa
