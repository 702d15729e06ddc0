/-
  WALKS: the reference's functions on vectors, the program's JonesCross, the laws' own toJones and eqJones. No condition.
-/
import Derived.Test.YtfiabpbfhldcnaaWg
import Derived.Test.YtfiabpbfhldcnaaWi
import Derived.Test.YtfiabpbfhldcnaaWe
namespace Go.Proofs.Ytfiabpbfhldcnaa
open Go.RowKit
open PL

set_option maxHeartbeats 4000000 in
theorem sjmirror_any (a1 a2 a3 a4 a5 a6 p1 p2 p3 p4 p5 p6 : Int) (b : Bool) (w : World) (H : Hid (jmirror ⟨a1, a2, a3⟩ ⟨a4, a5, a6⟩ = ((⟨p1, p2, p3⟩, ⟨p4, p5, p6⟩), b))) :
    Calls Try.prog 17 #[.agg #[.int .i64 a1, .int .i64 a2, .int .i64 a3, .int .i64 a4, .int .i64 a5, .int .i64 a6]] w fun e w' =>
      e = .returned (.tuple #[.agg #[.int .i64 p1, .int .i64 p2, .int .i64 p3, .int .i64 p4, .int .i64 p5, .int .i64 p6], .bool b]) ∧ Below w.heap.size w w' := by
  obtain ⟨⟨g1, g2, g3⟩, o1, h1⟩ : ∃ r o, mirror ⟨a1, a2, a3⟩ = (r, o) := ⟨_, _, rfl⟩
  obtain ⟨⟨h1', h2', h3'⟩, o2, h2⟩ : ∃ r o, mirror ⟨a4, a5, a6⟩ = (r, o) := ⟨_, _, rfl⟩
  have H1 := Lib.hid h1
  have H2 := Lib.hid h2
  cases o1
  · cases o2
    · have HL : Hid (((nil, nil), false) = (((⟨p1, p2, p3⟩, ⟨p4, p5, p6⟩), b) : (Fr × Fr) × Bool)) := by have h := H.out; unfold jmirror both at h; rw [h1, h2] at h; exact h
      clear h1 h2 H
      go_enter Try.func17, Try.ntmps17
      go_wp2_with fail
      refine (smirror_any _ _ _ g1 g2 g3 false _ H1).mono ?_
      rintro e w1 ⟨rfl, hbw1⟩
      have Tw1 : TL w [(w.heap.size + 1, [.int .i64 0, .int .i64 0, .int .i64 0, .int .i64 0, .int .i64 0, .int .i64 0]), (w.heap.size, [.int .i64 a1, .int .i64 a2, .int .i64 a3, .int .i64 a4, .int .i64 a5, .int .i64 a6])] w1 := TL.below (TL.new (t := 29) (TL.new (t := 29) (TL.refl w) rfl) (by simp)) hbw1
      clear hbw1
      have Bw1 := Tw1.1.1
      have xw100 : w1.cell? ⟨w.heap.size + 1, 0, none⟩ = some (.int .i64 0) := Tw1.2.1.2.1.1
      have xw101 : w1.cell? ⟨w.heap.size + 1, 1, none⟩ = some (.int .i64 0) := Tw1.2.1.2.2.1.1
      have xw102 : w1.cell? ⟨w.heap.size + 1, 2, none⟩ = some (.int .i64 0) := Tw1.2.1.2.2.2.1.1
      have xw103 : w1.cell? ⟨w.heap.size + 1, 3, none⟩ = some (.int .i64 0) := Tw1.2.1.2.2.2.2.1.1
      have xw104 : w1.cell? ⟨w.heap.size + 1, 4, none⟩ = some (.int .i64 0) := Tw1.2.1.2.2.2.2.2.1.1
      have xw105 : w1.cell? ⟨w.heap.size + 1, 5, none⟩ = some (.int .i64 0) := Tw1.2.1.2.2.2.2.2.2.1.1
      have xw110 : w1.cell? ⟨w.heap.size, 0, none⟩ = some (.int .i64 a1) := Tw1.2.2.1.2.1.1
      have xw111 : w1.cell? ⟨w.heap.size, 1, none⟩ = some (.int .i64 a2) := Tw1.2.2.1.2.2.1.1
      have xw112 : w1.cell? ⟨w.heap.size, 2, none⟩ = some (.int .i64 a3) := Tw1.2.2.1.2.2.2.1.1
      have xw113 : w1.cell? ⟨w.heap.size, 3, none⟩ = some (.int .i64 a4) := Tw1.2.2.1.2.2.2.2.1.1
      have xw114 : w1.cell? ⟨w.heap.size, 4, none⟩ = some (.int .i64 a5) := Tw1.2.2.1.2.2.2.2.2.1.1
      have xw115 : w1.cell? ⟨w.heap.size, 5, none⟩ = some (.int .i64 a6) := Tw1.2.2.1.2.2.2.2.2.2.1.1
      have lw10 := Tw1.2.1.1
      have lw11 := Tw1.2.2.1.1
      have fw10 : w1.frozen? ⟨w.heap.size + 1, 0, none⟩ = false := Tw1.2.1.2.1.2
      have fw11 : w1.frozen? ⟨w.heap.size + 1, 1, none⟩ = false := Tw1.2.1.2.2.1.2
      have fw12 : w1.frozen? ⟨w.heap.size + 1, 2, none⟩ = false := Tw1.2.1.2.2.2.1.2
      have fw13 : w1.frozen? ⟨w.heap.size + 1, 3, none⟩ = false := Tw1.2.1.2.2.2.2.1.2
      have fw14 : w1.frozen? ⟨w.heap.size + 1, 4, none⟩ = false := Tw1.2.1.2.2.2.2.2.1.2
      have fw15 : w1.frozen? ⟨w.heap.size + 1, 5, none⟩ = false := Tw1.2.1.2.2.2.2.2.2.1.2
      go_wp2_with fail
      refine (smirror_any _ _ _ h1' h2' h3' false _ H2).mono ?_
      rintro e w2 ⟨rfl, hbw2⟩
      have Tw2 : TL w [(w1.heap.size, [.int .i64 g1, .int .i64 g2, .int .i64 g3]), (w.heap.size + 1, [.int .i64 0, .int .i64 0, .int .i64 0, .int .i64 0, .int .i64 0, .int .i64 0]), (w.heap.size, [.int .i64 a1, .int .i64 a2, .int .i64 a3, .int .i64 a4, .int .i64 a5, .int .i64 a6])] w2 := TL.below (TL.new (t := 27) Tw1 rfl) hbw2
      clear hbw2
      have Bw2 := Tw2.1.1
      have xw200 : w2.cell? ⟨w1.heap.size, 0, none⟩ = some (.int .i64 g1) := Tw2.2.1.2.1.1
      have xw201 : w2.cell? ⟨w1.heap.size, 1, none⟩ = some (.int .i64 g2) := Tw2.2.1.2.2.1.1
      have xw202 : w2.cell? ⟨w1.heap.size, 2, none⟩ = some (.int .i64 g3) := Tw2.2.1.2.2.2.1.1
      have xw210 : w2.cell? ⟨w.heap.size + 1, 0, none⟩ = some (.int .i64 0) := Tw2.2.2.1.2.1.1
      have xw211 : w2.cell? ⟨w.heap.size + 1, 1, none⟩ = some (.int .i64 0) := Tw2.2.2.1.2.2.1.1
      have xw212 : w2.cell? ⟨w.heap.size + 1, 2, none⟩ = some (.int .i64 0) := Tw2.2.2.1.2.2.2.1.1
      have xw213 : w2.cell? ⟨w.heap.size + 1, 3, none⟩ = some (.int .i64 0) := Tw2.2.2.1.2.2.2.2.1.1
      have xw214 : w2.cell? ⟨w.heap.size + 1, 4, none⟩ = some (.int .i64 0) := Tw2.2.2.1.2.2.2.2.2.1.1
      have xw215 : w2.cell? ⟨w.heap.size + 1, 5, none⟩ = some (.int .i64 0) := Tw2.2.2.1.2.2.2.2.2.2.1.1
      have xw220 : w2.cell? ⟨w.heap.size, 0, none⟩ = some (.int .i64 a1) := Tw2.2.2.2.1.2.1.1
      have xw221 : w2.cell? ⟨w.heap.size, 1, none⟩ = some (.int .i64 a2) := Tw2.2.2.2.1.2.2.1.1
      have xw222 : w2.cell? ⟨w.heap.size, 2, none⟩ = some (.int .i64 a3) := Tw2.2.2.2.1.2.2.2.1.1
      have xw223 : w2.cell? ⟨w.heap.size, 3, none⟩ = some (.int .i64 a4) := Tw2.2.2.2.1.2.2.2.2.1.1
      have xw224 : w2.cell? ⟨w.heap.size, 4, none⟩ = some (.int .i64 a5) := Tw2.2.2.2.1.2.2.2.2.2.1.1
      have xw225 : w2.cell? ⟨w.heap.size, 5, none⟩ = some (.int .i64 a6) := Tw2.2.2.2.1.2.2.2.2.2.2.1.1
      have lw20 := Tw2.2.1.1
      have lw21 := Tw2.2.2.1.1
      have lw22 := Tw2.2.2.2.1.1
      have fw20 : w2.frozen? ⟨w.heap.size + 1, 0, none⟩ = false := Tw2.2.2.1.2.1.2
      have fw21 : w2.frozen? ⟨w.heap.size + 1, 1, none⟩ = false := Tw2.2.2.1.2.2.1.2
      have fw22 : w2.frozen? ⟨w.heap.size + 1, 2, none⟩ = false := Tw2.2.2.1.2.2.2.1.2
      have fw23 : w2.frozen? ⟨w.heap.size + 1, 3, none⟩ = false := Tw2.2.2.1.2.2.2.2.1.2
      have fw24 : w2.frozen? ⟨w.heap.size + 1, 4, none⟩ = false := Tw2.2.2.1.2.2.2.2.2.1.2
      have fw25 : w2.frozen? ⟨w.heap.size + 1, 5, none⟩ = false := Tw2.2.2.1.2.2.2.2.2.2.1.2
      go_upto_region 3 with fail
      have Tw3 : TL w [(w2.heap.size, [.int .i64 h1', .int .i64 h2', .int .i64 h3']), (w1.heap.size, [.int .i64 g1, .int .i64 g2, .int .i64 g3]), (w.heap.size + 1, [.int .i64 0, .int .i64 0, .int .i64 0, .int .i64 0, .int .i64 0, .int .i64 0]), (w.heap.size, [.int .i64 a1, .int .i64 a2, .int .i64 a3, .int .i64 a4, .int .i64 a5, .int .i64 a6])] (w2.alloc (.cells #[.int .i64 h1', .int .i64 h2', .int .i64 h3'] 27)) := TL.new (t := 27) Tw2 rfl
      generalize w2.alloc (.cells #[.int .i64 h1', .int .i64 h2', .int .i64 h3'] 27) = w3 at Tw3 ⊢
      have Bw3 := Tw3.1.1
      have hlow : w.heap.size ≤ w3.heap.size := Tw3.1.2
      clear xw100 xw101 xw102 xw103 xw104 xw105 xw110 xw111 xw112 xw113 xw114 xw115
      clear xw200 xw201 xw202 xw210 xw211 xw212 xw213 xw214 xw215 xw220 xw221 xw222 xw223 xw224 xw225
      have xw300 : w3.cell? ⟨w2.heap.size, 0, none⟩ = some (.int .i64 h1') := Tw3.2.1.2.1.1
      have xw301 : w3.cell? ⟨w2.heap.size, 1, none⟩ = some (.int .i64 h2') := Tw3.2.1.2.2.1.1
      have xw302 : w3.cell? ⟨w2.heap.size, 2, none⟩ = some (.int .i64 h3') := Tw3.2.1.2.2.2.1.1
      have xw310 : w3.cell? ⟨w1.heap.size, 0, none⟩ = some (.int .i64 g1) := Tw3.2.2.1.2.1.1
      have xw311 : w3.cell? ⟨w1.heap.size, 1, none⟩ = some (.int .i64 g2) := Tw3.2.2.1.2.2.1.1
      have xw312 : w3.cell? ⟨w1.heap.size, 2, none⟩ = some (.int .i64 g3) := Tw3.2.2.1.2.2.2.1.1
      have xw320 : w3.cell? ⟨w.heap.size + 1, 0, none⟩ = some (.int .i64 0) := Tw3.2.2.2.1.2.1.1
      have xw321 : w3.cell? ⟨w.heap.size + 1, 1, none⟩ = some (.int .i64 0) := Tw3.2.2.2.1.2.2.1.1
      have xw322 : w3.cell? ⟨w.heap.size + 1, 2, none⟩ = some (.int .i64 0) := Tw3.2.2.2.1.2.2.2.1.1
      have xw323 : w3.cell? ⟨w.heap.size + 1, 3, none⟩ = some (.int .i64 0) := Tw3.2.2.2.1.2.2.2.2.1.1
      have xw324 : w3.cell? ⟨w.heap.size + 1, 4, none⟩ = some (.int .i64 0) := Tw3.2.2.2.1.2.2.2.2.2.1.1
      have xw325 : w3.cell? ⟨w.heap.size + 1, 5, none⟩ = some (.int .i64 0) := Tw3.2.2.2.1.2.2.2.2.2.2.1.1
      have xw330 : w3.cell? ⟨w.heap.size, 0, none⟩ = some (.int .i64 a1) := Tw3.2.2.2.2.1.2.1.1
      have xw331 : w3.cell? ⟨w.heap.size, 1, none⟩ = some (.int .i64 a2) := Tw3.2.2.2.2.1.2.2.1.1
      have xw332 : w3.cell? ⟨w.heap.size, 2, none⟩ = some (.int .i64 a3) := Tw3.2.2.2.2.1.2.2.2.1.1
      have xw333 : w3.cell? ⟨w.heap.size, 3, none⟩ = some (.int .i64 a4) := Tw3.2.2.2.2.1.2.2.2.2.1.1
      have xw334 : w3.cell? ⟨w.heap.size, 4, none⟩ = some (.int .i64 a5) := Tw3.2.2.2.2.1.2.2.2.2.2.1.1
      have xw335 : w3.cell? ⟨w.heap.size, 5, none⟩ = some (.int .i64 a6) := Tw3.2.2.2.2.1.2.2.2.2.2.2.1.1
      have lw30 := Tw3.2.1.1
      have lw31 := Tw3.2.2.1.1
      have lw32 := Tw3.2.2.2.1.1
      have lw33 := Tw3.2.2.2.2.1.1
      have fw30 : w3.frozen? ⟨w.heap.size + 1, 0, none⟩ = false := Tw3.2.2.2.1.2.1.2
      have fw31 : w3.frozen? ⟨w.heap.size + 1, 1, none⟩ = false := Tw3.2.2.2.1.2.2.1.2
      have fw32 : w3.frozen? ⟨w.heap.size + 1, 2, none⟩ = false := Tw3.2.2.2.1.2.2.2.1.2
      have fw33 : w3.frozen? ⟨w.heap.size + 1, 3, none⟩ = false := Tw3.2.2.2.1.2.2.2.2.1.2
      have fw34 : w3.frozen? ⟨w.heap.size + 1, 4, none⟩ = false := Tw3.2.2.2.1.2.2.2.2.2.1.2
      have fw35 : w3.frozen? ⟨w.heap.size + 1, 5, none⟩ = false := Tw3.2.2.2.1.2.2.2.2.2.2.1.2
      go_wp2_with fail
      refine bodyPost_ret (by simp [results, Try.results17, go_sem, xw320, xw321, xw322, xw323, xw324, xw325]; rfl) rfl ?_
      exact ⟨ret_jb HL.out, by go_grown⟩
    · have HL : Hid (((nil, nil), false) = (((⟨p1, p2, p3⟩, ⟨p4, p5, p6⟩), b) : (Fr × Fr) × Bool)) := by have h := H.out; unfold jmirror both at h; rw [h1, h2] at h; exact h
      clear h1 h2 H
      go_enter Try.func17, Try.ntmps17
      go_wp2_with fail
      refine (smirror_any _ _ _ g1 g2 g3 false _ H1).mono ?_
      rintro e w1 ⟨rfl, hbw1⟩
      have Tw1 : TL w [(w.heap.size + 1, [.int .i64 0, .int .i64 0, .int .i64 0, .int .i64 0, .int .i64 0, .int .i64 0]), (w.heap.size, [.int .i64 a1, .int .i64 a2, .int .i64 a3, .int .i64 a4, .int .i64 a5, .int .i64 a6])] w1 := TL.below (TL.new (t := 29) (TL.new (t := 29) (TL.refl w) rfl) (by simp)) hbw1
      clear hbw1
      have Bw1 := Tw1.1.1
      have xw100 : w1.cell? ⟨w.heap.size + 1, 0, none⟩ = some (.int .i64 0) := Tw1.2.1.2.1.1
      have xw101 : w1.cell? ⟨w.heap.size + 1, 1, none⟩ = some (.int .i64 0) := Tw1.2.1.2.2.1.1
      have xw102 : w1.cell? ⟨w.heap.size + 1, 2, none⟩ = some (.int .i64 0) := Tw1.2.1.2.2.2.1.1
      have xw103 : w1.cell? ⟨w.heap.size + 1, 3, none⟩ = some (.int .i64 0) := Tw1.2.1.2.2.2.2.1.1
      have xw104 : w1.cell? ⟨w.heap.size + 1, 4, none⟩ = some (.int .i64 0) := Tw1.2.1.2.2.2.2.2.1.1
      have xw105 : w1.cell? ⟨w.heap.size + 1, 5, none⟩ = some (.int .i64 0) := Tw1.2.1.2.2.2.2.2.2.1.1
      have xw110 : w1.cell? ⟨w.heap.size, 0, none⟩ = some (.int .i64 a1) := Tw1.2.2.1.2.1.1
      have xw111 : w1.cell? ⟨w.heap.size, 1, none⟩ = some (.int .i64 a2) := Tw1.2.2.1.2.2.1.1
      have xw112 : w1.cell? ⟨w.heap.size, 2, none⟩ = some (.int .i64 a3) := Tw1.2.2.1.2.2.2.1.1
      have xw113 : w1.cell? ⟨w.heap.size, 3, none⟩ = some (.int .i64 a4) := Tw1.2.2.1.2.2.2.2.1.1
      have xw114 : w1.cell? ⟨w.heap.size, 4, none⟩ = some (.int .i64 a5) := Tw1.2.2.1.2.2.2.2.2.1.1
      have xw115 : w1.cell? ⟨w.heap.size, 5, none⟩ = some (.int .i64 a6) := Tw1.2.2.1.2.2.2.2.2.2.1.1
      have lw10 := Tw1.2.1.1
      have lw11 := Tw1.2.2.1.1
      have fw10 : w1.frozen? ⟨w.heap.size + 1, 0, none⟩ = false := Tw1.2.1.2.1.2
      have fw11 : w1.frozen? ⟨w.heap.size + 1, 1, none⟩ = false := Tw1.2.1.2.2.1.2
      have fw12 : w1.frozen? ⟨w.heap.size + 1, 2, none⟩ = false := Tw1.2.1.2.2.2.1.2
      have fw13 : w1.frozen? ⟨w.heap.size + 1, 3, none⟩ = false := Tw1.2.1.2.2.2.2.1.2
      have fw14 : w1.frozen? ⟨w.heap.size + 1, 4, none⟩ = false := Tw1.2.1.2.2.2.2.2.1.2
      have fw15 : w1.frozen? ⟨w.heap.size + 1, 5, none⟩ = false := Tw1.2.1.2.2.2.2.2.2.1.2
      go_wp2_with fail
      refine (smirror_any _ _ _ h1' h2' h3' true _ H2).mono ?_
      rintro e w2 ⟨rfl, hbw2⟩
      have Tw2 : TL w [(w1.heap.size, [.int .i64 g1, .int .i64 g2, .int .i64 g3]), (w.heap.size + 1, [.int .i64 0, .int .i64 0, .int .i64 0, .int .i64 0, .int .i64 0, .int .i64 0]), (w.heap.size, [.int .i64 a1, .int .i64 a2, .int .i64 a3, .int .i64 a4, .int .i64 a5, .int .i64 a6])] w2 := TL.below (TL.new (t := 27) Tw1 rfl) hbw2
      clear hbw2
      have Bw2 := Tw2.1.1
      have xw200 : w2.cell? ⟨w1.heap.size, 0, none⟩ = some (.int .i64 g1) := Tw2.2.1.2.1.1
      have xw201 : w2.cell? ⟨w1.heap.size, 1, none⟩ = some (.int .i64 g2) := Tw2.2.1.2.2.1.1
      have xw202 : w2.cell? ⟨w1.heap.size, 2, none⟩ = some (.int .i64 g3) := Tw2.2.1.2.2.2.1.1
      have xw210 : w2.cell? ⟨w.heap.size + 1, 0, none⟩ = some (.int .i64 0) := Tw2.2.2.1.2.1.1
      have xw211 : w2.cell? ⟨w.heap.size + 1, 1, none⟩ = some (.int .i64 0) := Tw2.2.2.1.2.2.1.1
      have xw212 : w2.cell? ⟨w.heap.size + 1, 2, none⟩ = some (.int .i64 0) := Tw2.2.2.1.2.2.2.1.1
      have xw213 : w2.cell? ⟨w.heap.size + 1, 3, none⟩ = some (.int .i64 0) := Tw2.2.2.1.2.2.2.2.1.1
      have xw214 : w2.cell? ⟨w.heap.size + 1, 4, none⟩ = some (.int .i64 0) := Tw2.2.2.1.2.2.2.2.2.1.1
      have xw215 : w2.cell? ⟨w.heap.size + 1, 5, none⟩ = some (.int .i64 0) := Tw2.2.2.1.2.2.2.2.2.2.1.1
      have xw220 : w2.cell? ⟨w.heap.size, 0, none⟩ = some (.int .i64 a1) := Tw2.2.2.2.1.2.1.1
      have xw221 : w2.cell? ⟨w.heap.size, 1, none⟩ = some (.int .i64 a2) := Tw2.2.2.2.1.2.2.1.1
      have xw222 : w2.cell? ⟨w.heap.size, 2, none⟩ = some (.int .i64 a3) := Tw2.2.2.2.1.2.2.2.1.1
      have xw223 : w2.cell? ⟨w.heap.size, 3, none⟩ = some (.int .i64 a4) := Tw2.2.2.2.1.2.2.2.2.1.1
      have xw224 : w2.cell? ⟨w.heap.size, 4, none⟩ = some (.int .i64 a5) := Tw2.2.2.2.1.2.2.2.2.2.1.1
      have xw225 : w2.cell? ⟨w.heap.size, 5, none⟩ = some (.int .i64 a6) := Tw2.2.2.2.1.2.2.2.2.2.2.1.1
      have lw20 := Tw2.2.1.1
      have lw21 := Tw2.2.2.1.1
      have lw22 := Tw2.2.2.2.1.1
      have fw20 : w2.frozen? ⟨w.heap.size + 1, 0, none⟩ = false := Tw2.2.2.1.2.1.2
      have fw21 : w2.frozen? ⟨w.heap.size + 1, 1, none⟩ = false := Tw2.2.2.1.2.2.1.2
      have fw22 : w2.frozen? ⟨w.heap.size + 1, 2, none⟩ = false := Tw2.2.2.1.2.2.2.1.2
      have fw23 : w2.frozen? ⟨w.heap.size + 1, 3, none⟩ = false := Tw2.2.2.1.2.2.2.2.1.2
      have fw24 : w2.frozen? ⟨w.heap.size + 1, 4, none⟩ = false := Tw2.2.2.1.2.2.2.2.2.1.2
      have fw25 : w2.frozen? ⟨w.heap.size + 1, 5, none⟩ = false := Tw2.2.2.1.2.2.2.2.2.2.1.2
      go_upto_region 3 with fail
      have Tw3 : TL w [(w2.heap.size, [.int .i64 h1', .int .i64 h2', .int .i64 h3']), (w1.heap.size, [.int .i64 g1, .int .i64 g2, .int .i64 g3]), (w.heap.size + 1, [.int .i64 0, .int .i64 0, .int .i64 0, .int .i64 0, .int .i64 0, .int .i64 0]), (w.heap.size, [.int .i64 a1, .int .i64 a2, .int .i64 a3, .int .i64 a4, .int .i64 a5, .int .i64 a6])] (w2.alloc (.cells #[.int .i64 h1', .int .i64 h2', .int .i64 h3'] 27)) := TL.new (t := 27) Tw2 rfl
      generalize w2.alloc (.cells #[.int .i64 h1', .int .i64 h2', .int .i64 h3'] 27) = w3 at Tw3 ⊢
      have Bw3 := Tw3.1.1
      have hlow : w.heap.size ≤ w3.heap.size := Tw3.1.2
      clear xw100 xw101 xw102 xw103 xw104 xw105 xw110 xw111 xw112 xw113 xw114 xw115
      clear xw200 xw201 xw202 xw210 xw211 xw212 xw213 xw214 xw215 xw220 xw221 xw222 xw223 xw224 xw225
      have xw300 : w3.cell? ⟨w2.heap.size, 0, none⟩ = some (.int .i64 h1') := Tw3.2.1.2.1.1
      have xw301 : w3.cell? ⟨w2.heap.size, 1, none⟩ = some (.int .i64 h2') := Tw3.2.1.2.2.1.1
      have xw302 : w3.cell? ⟨w2.heap.size, 2, none⟩ = some (.int .i64 h3') := Tw3.2.1.2.2.2.1.1
      have xw310 : w3.cell? ⟨w1.heap.size, 0, none⟩ = some (.int .i64 g1) := Tw3.2.2.1.2.1.1
      have xw311 : w3.cell? ⟨w1.heap.size, 1, none⟩ = some (.int .i64 g2) := Tw3.2.2.1.2.2.1.1
      have xw312 : w3.cell? ⟨w1.heap.size, 2, none⟩ = some (.int .i64 g3) := Tw3.2.2.1.2.2.2.1.1
      have xw320 : w3.cell? ⟨w.heap.size + 1, 0, none⟩ = some (.int .i64 0) := Tw3.2.2.2.1.2.1.1
      have xw321 : w3.cell? ⟨w.heap.size + 1, 1, none⟩ = some (.int .i64 0) := Tw3.2.2.2.1.2.2.1.1
      have xw322 : w3.cell? ⟨w.heap.size + 1, 2, none⟩ = some (.int .i64 0) := Tw3.2.2.2.1.2.2.2.1.1
      have xw323 : w3.cell? ⟨w.heap.size + 1, 3, none⟩ = some (.int .i64 0) := Tw3.2.2.2.1.2.2.2.2.1.1
      have xw324 : w3.cell? ⟨w.heap.size + 1, 4, none⟩ = some (.int .i64 0) := Tw3.2.2.2.1.2.2.2.2.2.1.1
      have xw325 : w3.cell? ⟨w.heap.size + 1, 5, none⟩ = some (.int .i64 0) := Tw3.2.2.2.1.2.2.2.2.2.2.1.1
      have xw330 : w3.cell? ⟨w.heap.size, 0, none⟩ = some (.int .i64 a1) := Tw3.2.2.2.2.1.2.1.1
      have xw331 : w3.cell? ⟨w.heap.size, 1, none⟩ = some (.int .i64 a2) := Tw3.2.2.2.2.1.2.2.1.1
      have xw332 : w3.cell? ⟨w.heap.size, 2, none⟩ = some (.int .i64 a3) := Tw3.2.2.2.2.1.2.2.2.1.1
      have xw333 : w3.cell? ⟨w.heap.size, 3, none⟩ = some (.int .i64 a4) := Tw3.2.2.2.2.1.2.2.2.2.1.1
      have xw334 : w3.cell? ⟨w.heap.size, 4, none⟩ = some (.int .i64 a5) := Tw3.2.2.2.2.1.2.2.2.2.2.1.1
      have xw335 : w3.cell? ⟨w.heap.size, 5, none⟩ = some (.int .i64 a6) := Tw3.2.2.2.2.1.2.2.2.2.2.2.1.1
      have lw30 := Tw3.2.1.1
      have lw31 := Tw3.2.2.1.1
      have lw32 := Tw3.2.2.2.1.1
      have lw33 := Tw3.2.2.2.2.1.1
      have fw30 : w3.frozen? ⟨w.heap.size + 1, 0, none⟩ = false := Tw3.2.2.2.1.2.1.2
      have fw31 : w3.frozen? ⟨w.heap.size + 1, 1, none⟩ = false := Tw3.2.2.2.1.2.2.1.2
      have fw32 : w3.frozen? ⟨w.heap.size + 1, 2, none⟩ = false := Tw3.2.2.2.1.2.2.2.1.2
      have fw33 : w3.frozen? ⟨w.heap.size + 1, 3, none⟩ = false := Tw3.2.2.2.1.2.2.2.2.1.2
      have fw34 : w3.frozen? ⟨w.heap.size + 1, 4, none⟩ = false := Tw3.2.2.2.1.2.2.2.2.2.1.2
      have fw35 : w3.frozen? ⟨w.heap.size + 1, 5, none⟩ = false := Tw3.2.2.2.1.2.2.2.2.2.2.1.2
      go_wp2_with fail
      refine bodyPost_ret (by simp [results, Try.results17, go_sem, xw320, xw321, xw322, xw323, xw324, xw325]; rfl) rfl ?_
      exact ⟨ret_jb HL.out, by go_grown⟩
  · cases o2
    · have HL : Hid (((nil, nil), false) = (((⟨p1, p2, p3⟩, ⟨p4, p5, p6⟩), b) : (Fr × Fr) × Bool)) := by have h := H.out; unfold jmirror both at h; rw [h1, h2] at h; exact h
      clear h1 h2 H
      go_enter Try.func17, Try.ntmps17
      go_wp2_with fail
      refine (smirror_any _ _ _ g1 g2 g3 true _ H1).mono ?_
      rintro e w1 ⟨rfl, hbw1⟩
      have Tw1 : TL w [(w.heap.size + 1, [.int .i64 0, .int .i64 0, .int .i64 0, .int .i64 0, .int .i64 0, .int .i64 0]), (w.heap.size, [.int .i64 a1, .int .i64 a2, .int .i64 a3, .int .i64 a4, .int .i64 a5, .int .i64 a6])] w1 := TL.below (TL.new (t := 29) (TL.new (t := 29) (TL.refl w) rfl) (by simp)) hbw1
      clear hbw1
      have Bw1 := Tw1.1.1
      have xw100 : w1.cell? ⟨w.heap.size + 1, 0, none⟩ = some (.int .i64 0) := Tw1.2.1.2.1.1
      have xw101 : w1.cell? ⟨w.heap.size + 1, 1, none⟩ = some (.int .i64 0) := Tw1.2.1.2.2.1.1
      have xw102 : w1.cell? ⟨w.heap.size + 1, 2, none⟩ = some (.int .i64 0) := Tw1.2.1.2.2.2.1.1
      have xw103 : w1.cell? ⟨w.heap.size + 1, 3, none⟩ = some (.int .i64 0) := Tw1.2.1.2.2.2.2.1.1
      have xw104 : w1.cell? ⟨w.heap.size + 1, 4, none⟩ = some (.int .i64 0) := Tw1.2.1.2.2.2.2.2.1.1
      have xw105 : w1.cell? ⟨w.heap.size + 1, 5, none⟩ = some (.int .i64 0) := Tw1.2.1.2.2.2.2.2.2.1.1
      have xw110 : w1.cell? ⟨w.heap.size, 0, none⟩ = some (.int .i64 a1) := Tw1.2.2.1.2.1.1
      have xw111 : w1.cell? ⟨w.heap.size, 1, none⟩ = some (.int .i64 a2) := Tw1.2.2.1.2.2.1.1
      have xw112 : w1.cell? ⟨w.heap.size, 2, none⟩ = some (.int .i64 a3) := Tw1.2.2.1.2.2.2.1.1
      have xw113 : w1.cell? ⟨w.heap.size, 3, none⟩ = some (.int .i64 a4) := Tw1.2.2.1.2.2.2.2.1.1
      have xw114 : w1.cell? ⟨w.heap.size, 4, none⟩ = some (.int .i64 a5) := Tw1.2.2.1.2.2.2.2.2.1.1
      have xw115 : w1.cell? ⟨w.heap.size, 5, none⟩ = some (.int .i64 a6) := Tw1.2.2.1.2.2.2.2.2.2.1.1
      have lw10 := Tw1.2.1.1
      have lw11 := Tw1.2.2.1.1
      have fw10 : w1.frozen? ⟨w.heap.size + 1, 0, none⟩ = false := Tw1.2.1.2.1.2
      have fw11 : w1.frozen? ⟨w.heap.size + 1, 1, none⟩ = false := Tw1.2.1.2.2.1.2
      have fw12 : w1.frozen? ⟨w.heap.size + 1, 2, none⟩ = false := Tw1.2.1.2.2.2.1.2
      have fw13 : w1.frozen? ⟨w.heap.size + 1, 3, none⟩ = false := Tw1.2.1.2.2.2.2.1.2
      have fw14 : w1.frozen? ⟨w.heap.size + 1, 4, none⟩ = false := Tw1.2.1.2.2.2.2.2.1.2
      have fw15 : w1.frozen? ⟨w.heap.size + 1, 5, none⟩ = false := Tw1.2.1.2.2.2.2.2.2.1.2
      go_wp2_with fail
      refine (smirror_any _ _ _ h1' h2' h3' false _ H2).mono ?_
      rintro e w2 ⟨rfl, hbw2⟩
      have Tw2 : TL w [(w1.heap.size, [.int .i64 g1, .int .i64 g2, .int .i64 g3]), (w.heap.size + 1, [.int .i64 0, .int .i64 0, .int .i64 0, .int .i64 0, .int .i64 0, .int .i64 0]), (w.heap.size, [.int .i64 a1, .int .i64 a2, .int .i64 a3, .int .i64 a4, .int .i64 a5, .int .i64 a6])] w2 := TL.below (TL.new (t := 27) Tw1 rfl) hbw2
      clear hbw2
      have Bw2 := Tw2.1.1
      have xw200 : w2.cell? ⟨w1.heap.size, 0, none⟩ = some (.int .i64 g1) := Tw2.2.1.2.1.1
      have xw201 : w2.cell? ⟨w1.heap.size, 1, none⟩ = some (.int .i64 g2) := Tw2.2.1.2.2.1.1
      have xw202 : w2.cell? ⟨w1.heap.size, 2, none⟩ = some (.int .i64 g3) := Tw2.2.1.2.2.2.1.1
      have xw210 : w2.cell? ⟨w.heap.size + 1, 0, none⟩ = some (.int .i64 0) := Tw2.2.2.1.2.1.1
      have xw211 : w2.cell? ⟨w.heap.size + 1, 1, none⟩ = some (.int .i64 0) := Tw2.2.2.1.2.2.1.1
      have xw212 : w2.cell? ⟨w.heap.size + 1, 2, none⟩ = some (.int .i64 0) := Tw2.2.2.1.2.2.2.1.1
      have xw213 : w2.cell? ⟨w.heap.size + 1, 3, none⟩ = some (.int .i64 0) := Tw2.2.2.1.2.2.2.2.1.1
      have xw214 : w2.cell? ⟨w.heap.size + 1, 4, none⟩ = some (.int .i64 0) := Tw2.2.2.1.2.2.2.2.2.1.1
      have xw215 : w2.cell? ⟨w.heap.size + 1, 5, none⟩ = some (.int .i64 0) := Tw2.2.2.1.2.2.2.2.2.2.1.1
      have xw220 : w2.cell? ⟨w.heap.size, 0, none⟩ = some (.int .i64 a1) := Tw2.2.2.2.1.2.1.1
      have xw221 : w2.cell? ⟨w.heap.size, 1, none⟩ = some (.int .i64 a2) := Tw2.2.2.2.1.2.2.1.1
      have xw222 : w2.cell? ⟨w.heap.size, 2, none⟩ = some (.int .i64 a3) := Tw2.2.2.2.1.2.2.2.1.1
      have xw223 : w2.cell? ⟨w.heap.size, 3, none⟩ = some (.int .i64 a4) := Tw2.2.2.2.1.2.2.2.2.1.1
      have xw224 : w2.cell? ⟨w.heap.size, 4, none⟩ = some (.int .i64 a5) := Tw2.2.2.2.1.2.2.2.2.2.1.1
      have xw225 : w2.cell? ⟨w.heap.size, 5, none⟩ = some (.int .i64 a6) := Tw2.2.2.2.1.2.2.2.2.2.2.1.1
      have lw20 := Tw2.2.1.1
      have lw21 := Tw2.2.2.1.1
      have lw22 := Tw2.2.2.2.1.1
      have fw20 : w2.frozen? ⟨w.heap.size + 1, 0, none⟩ = false := Tw2.2.2.1.2.1.2
      have fw21 : w2.frozen? ⟨w.heap.size + 1, 1, none⟩ = false := Tw2.2.2.1.2.2.1.2
      have fw22 : w2.frozen? ⟨w.heap.size + 1, 2, none⟩ = false := Tw2.2.2.1.2.2.2.1.2
      have fw23 : w2.frozen? ⟨w.heap.size + 1, 3, none⟩ = false := Tw2.2.2.1.2.2.2.2.1.2
      have fw24 : w2.frozen? ⟨w.heap.size + 1, 4, none⟩ = false := Tw2.2.2.1.2.2.2.2.2.1.2
      have fw25 : w2.frozen? ⟨w.heap.size + 1, 5, none⟩ = false := Tw2.2.2.1.2.2.2.2.2.2.1.2
      go_upto_region 3 with fail
      have Tw3 : TL w [(w2.heap.size, [.int .i64 h1', .int .i64 h2', .int .i64 h3']), (w1.heap.size, [.int .i64 g1, .int .i64 g2, .int .i64 g3]), (w.heap.size + 1, [.int .i64 0, .int .i64 0, .int .i64 0, .int .i64 0, .int .i64 0, .int .i64 0]), (w.heap.size, [.int .i64 a1, .int .i64 a2, .int .i64 a3, .int .i64 a4, .int .i64 a5, .int .i64 a6])] (w2.alloc (.cells #[.int .i64 h1', .int .i64 h2', .int .i64 h3'] 27)) := TL.new (t := 27) Tw2 rfl
      generalize w2.alloc (.cells #[.int .i64 h1', .int .i64 h2', .int .i64 h3'] 27) = w3 at Tw3 ⊢
      have Bw3 := Tw3.1.1
      have hlow : w.heap.size ≤ w3.heap.size := Tw3.1.2
      clear xw100 xw101 xw102 xw103 xw104 xw105 xw110 xw111 xw112 xw113 xw114 xw115
      clear xw200 xw201 xw202 xw210 xw211 xw212 xw213 xw214 xw215 xw220 xw221 xw222 xw223 xw224 xw225
      have xw300 : w3.cell? ⟨w2.heap.size, 0, none⟩ = some (.int .i64 h1') := Tw3.2.1.2.1.1
      have xw301 : w3.cell? ⟨w2.heap.size, 1, none⟩ = some (.int .i64 h2') := Tw3.2.1.2.2.1.1
      have xw302 : w3.cell? ⟨w2.heap.size, 2, none⟩ = some (.int .i64 h3') := Tw3.2.1.2.2.2.1.1
      have xw310 : w3.cell? ⟨w1.heap.size, 0, none⟩ = some (.int .i64 g1) := Tw3.2.2.1.2.1.1
      have xw311 : w3.cell? ⟨w1.heap.size, 1, none⟩ = some (.int .i64 g2) := Tw3.2.2.1.2.2.1.1
      have xw312 : w3.cell? ⟨w1.heap.size, 2, none⟩ = some (.int .i64 g3) := Tw3.2.2.1.2.2.2.1.1
      have xw320 : w3.cell? ⟨w.heap.size + 1, 0, none⟩ = some (.int .i64 0) := Tw3.2.2.2.1.2.1.1
      have xw321 : w3.cell? ⟨w.heap.size + 1, 1, none⟩ = some (.int .i64 0) := Tw3.2.2.2.1.2.2.1.1
      have xw322 : w3.cell? ⟨w.heap.size + 1, 2, none⟩ = some (.int .i64 0) := Tw3.2.2.2.1.2.2.2.1.1
      have xw323 : w3.cell? ⟨w.heap.size + 1, 3, none⟩ = some (.int .i64 0) := Tw3.2.2.2.1.2.2.2.2.1.1
      have xw324 : w3.cell? ⟨w.heap.size + 1, 4, none⟩ = some (.int .i64 0) := Tw3.2.2.2.1.2.2.2.2.2.1.1
      have xw325 : w3.cell? ⟨w.heap.size + 1, 5, none⟩ = some (.int .i64 0) := Tw3.2.2.2.1.2.2.2.2.2.2.1.1
      have xw330 : w3.cell? ⟨w.heap.size, 0, none⟩ = some (.int .i64 a1) := Tw3.2.2.2.2.1.2.1.1
      have xw331 : w3.cell? ⟨w.heap.size, 1, none⟩ = some (.int .i64 a2) := Tw3.2.2.2.2.1.2.2.1.1
      have xw332 : w3.cell? ⟨w.heap.size, 2, none⟩ = some (.int .i64 a3) := Tw3.2.2.2.2.1.2.2.2.1.1
      have xw333 : w3.cell? ⟨w.heap.size, 3, none⟩ = some (.int .i64 a4) := Tw3.2.2.2.2.1.2.2.2.2.1.1
      have xw334 : w3.cell? ⟨w.heap.size, 4, none⟩ = some (.int .i64 a5) := Tw3.2.2.2.2.1.2.2.2.2.2.1.1
      have xw335 : w3.cell? ⟨w.heap.size, 5, none⟩ = some (.int .i64 a6) := Tw3.2.2.2.2.1.2.2.2.2.2.2.1.1
      have lw30 := Tw3.2.1.1
      have lw31 := Tw3.2.2.1.1
      have lw32 := Tw3.2.2.2.1.1
      have lw33 := Tw3.2.2.2.2.1.1
      have fw30 : w3.frozen? ⟨w.heap.size + 1, 0, none⟩ = false := Tw3.2.2.2.1.2.1.2
      have fw31 : w3.frozen? ⟨w.heap.size + 1, 1, none⟩ = false := Tw3.2.2.2.1.2.2.1.2
      have fw32 : w3.frozen? ⟨w.heap.size + 1, 2, none⟩ = false := Tw3.2.2.2.1.2.2.2.1.2
      have fw33 : w3.frozen? ⟨w.heap.size + 1, 3, none⟩ = false := Tw3.2.2.2.1.2.2.2.2.1.2
      have fw34 : w3.frozen? ⟨w.heap.size + 1, 4, none⟩ = false := Tw3.2.2.2.1.2.2.2.2.2.1.2
      have fw35 : w3.frozen? ⟨w.heap.size + 1, 5, none⟩ = false := Tw3.2.2.2.1.2.2.2.2.2.2.1.2
      go_wp2_with fail
      refine bodyPost_ret (by simp [results, Try.results17, go_sem, xw320, xw321, xw322, xw323, xw324, xw325]; rfl) rfl ?_
      exact ⟨ret_jb HL.out, by go_grown⟩
    · have HL : Hid (((⟨g1, g2, g3⟩, ⟨h1', h2', h3'⟩), true) = (((⟨p1, p2, p3⟩, ⟨p4, p5, p6⟩), b) : (Fr × Fr) × Bool)) := by have h := H.out; unfold jmirror both at h; rw [h1, h2] at h; exact h
      clear h1 h2 H
      go_enter Try.func17, Try.ntmps17
      go_wp2_with fail
      refine (smirror_any _ _ _ g1 g2 g3 true _ H1).mono ?_
      rintro e w1 ⟨rfl, hbw1⟩
      have Tw1 : TL w [(w.heap.size + 1, [.int .i64 0, .int .i64 0, .int .i64 0, .int .i64 0, .int .i64 0, .int .i64 0]), (w.heap.size, [.int .i64 a1, .int .i64 a2, .int .i64 a3, .int .i64 a4, .int .i64 a5, .int .i64 a6])] w1 := TL.below (TL.new (t := 29) (TL.new (t := 29) (TL.refl w) rfl) (by simp)) hbw1
      clear hbw1
      have Bw1 := Tw1.1.1
      have xw100 : w1.cell? ⟨w.heap.size + 1, 0, none⟩ = some (.int .i64 0) := Tw1.2.1.2.1.1
      have xw101 : w1.cell? ⟨w.heap.size + 1, 1, none⟩ = some (.int .i64 0) := Tw1.2.1.2.2.1.1
      have xw102 : w1.cell? ⟨w.heap.size + 1, 2, none⟩ = some (.int .i64 0) := Tw1.2.1.2.2.2.1.1
      have xw103 : w1.cell? ⟨w.heap.size + 1, 3, none⟩ = some (.int .i64 0) := Tw1.2.1.2.2.2.2.1.1
      have xw104 : w1.cell? ⟨w.heap.size + 1, 4, none⟩ = some (.int .i64 0) := Tw1.2.1.2.2.2.2.2.1.1
      have xw105 : w1.cell? ⟨w.heap.size + 1, 5, none⟩ = some (.int .i64 0) := Tw1.2.1.2.2.2.2.2.2.1.1
      have xw110 : w1.cell? ⟨w.heap.size, 0, none⟩ = some (.int .i64 a1) := Tw1.2.2.1.2.1.1
      have xw111 : w1.cell? ⟨w.heap.size, 1, none⟩ = some (.int .i64 a2) := Tw1.2.2.1.2.2.1.1
      have xw112 : w1.cell? ⟨w.heap.size, 2, none⟩ = some (.int .i64 a3) := Tw1.2.2.1.2.2.2.1.1
      have xw113 : w1.cell? ⟨w.heap.size, 3, none⟩ = some (.int .i64 a4) := Tw1.2.2.1.2.2.2.2.1.1
      have xw114 : w1.cell? ⟨w.heap.size, 4, none⟩ = some (.int .i64 a5) := Tw1.2.2.1.2.2.2.2.2.1.1
      have xw115 : w1.cell? ⟨w.heap.size, 5, none⟩ = some (.int .i64 a6) := Tw1.2.2.1.2.2.2.2.2.2.1.1
      have lw10 := Tw1.2.1.1
      have lw11 := Tw1.2.2.1.1
      have fw10 : w1.frozen? ⟨w.heap.size + 1, 0, none⟩ = false := Tw1.2.1.2.1.2
      have fw11 : w1.frozen? ⟨w.heap.size + 1, 1, none⟩ = false := Tw1.2.1.2.2.1.2
      have fw12 : w1.frozen? ⟨w.heap.size + 1, 2, none⟩ = false := Tw1.2.1.2.2.2.1.2
      have fw13 : w1.frozen? ⟨w.heap.size + 1, 3, none⟩ = false := Tw1.2.1.2.2.2.2.1.2
      have fw14 : w1.frozen? ⟨w.heap.size + 1, 4, none⟩ = false := Tw1.2.1.2.2.2.2.2.1.2
      have fw15 : w1.frozen? ⟨w.heap.size + 1, 5, none⟩ = false := Tw1.2.1.2.2.2.2.2.2.1.2
      go_wp2_with fail
      refine (smirror_any _ _ _ h1' h2' h3' true _ H2).mono ?_
      rintro e w2 ⟨rfl, hbw2⟩
      have Tw2 : TL w [(w1.heap.size, [.int .i64 g1, .int .i64 g2, .int .i64 g3]), (w.heap.size + 1, [.int .i64 0, .int .i64 0, .int .i64 0, .int .i64 0, .int .i64 0, .int .i64 0]), (w.heap.size, [.int .i64 a1, .int .i64 a2, .int .i64 a3, .int .i64 a4, .int .i64 a5, .int .i64 a6])] w2 := TL.below (TL.new (t := 27) Tw1 rfl) hbw2
      clear hbw2
      have Bw2 := Tw2.1.1
      have xw200 : w2.cell? ⟨w1.heap.size, 0, none⟩ = some (.int .i64 g1) := Tw2.2.1.2.1.1
      have xw201 : w2.cell? ⟨w1.heap.size, 1, none⟩ = some (.int .i64 g2) := Tw2.2.1.2.2.1.1
      have xw202 : w2.cell? ⟨w1.heap.size, 2, none⟩ = some (.int .i64 g3) := Tw2.2.1.2.2.2.1.1
      have xw210 : w2.cell? ⟨w.heap.size + 1, 0, none⟩ = some (.int .i64 0) := Tw2.2.2.1.2.1.1
      have xw211 : w2.cell? ⟨w.heap.size + 1, 1, none⟩ = some (.int .i64 0) := Tw2.2.2.1.2.2.1.1
      have xw212 : w2.cell? ⟨w.heap.size + 1, 2, none⟩ = some (.int .i64 0) := Tw2.2.2.1.2.2.2.1.1
      have xw213 : w2.cell? ⟨w.heap.size + 1, 3, none⟩ = some (.int .i64 0) := Tw2.2.2.1.2.2.2.2.1.1
      have xw214 : w2.cell? ⟨w.heap.size + 1, 4, none⟩ = some (.int .i64 0) := Tw2.2.2.1.2.2.2.2.2.1.1
      have xw215 : w2.cell? ⟨w.heap.size + 1, 5, none⟩ = some (.int .i64 0) := Tw2.2.2.1.2.2.2.2.2.2.1.1
      have xw220 : w2.cell? ⟨w.heap.size, 0, none⟩ = some (.int .i64 a1) := Tw2.2.2.2.1.2.1.1
      have xw221 : w2.cell? ⟨w.heap.size, 1, none⟩ = some (.int .i64 a2) := Tw2.2.2.2.1.2.2.1.1
      have xw222 : w2.cell? ⟨w.heap.size, 2, none⟩ = some (.int .i64 a3) := Tw2.2.2.2.1.2.2.2.1.1
      have xw223 : w2.cell? ⟨w.heap.size, 3, none⟩ = some (.int .i64 a4) := Tw2.2.2.2.1.2.2.2.2.1.1
      have xw224 : w2.cell? ⟨w.heap.size, 4, none⟩ = some (.int .i64 a5) := Tw2.2.2.2.1.2.2.2.2.2.1.1
      have xw225 : w2.cell? ⟨w.heap.size, 5, none⟩ = some (.int .i64 a6) := Tw2.2.2.2.1.2.2.2.2.2.2.1.1
      have lw20 := Tw2.2.1.1
      have lw21 := Tw2.2.2.1.1
      have lw22 := Tw2.2.2.2.1.1
      have fw20 : w2.frozen? ⟨w.heap.size + 1, 0, none⟩ = false := Tw2.2.2.1.2.1.2
      have fw21 : w2.frozen? ⟨w.heap.size + 1, 1, none⟩ = false := Tw2.2.2.1.2.2.1.2
      have fw22 : w2.frozen? ⟨w.heap.size + 1, 2, none⟩ = false := Tw2.2.2.1.2.2.2.1.2
      have fw23 : w2.frozen? ⟨w.heap.size + 1, 3, none⟩ = false := Tw2.2.2.1.2.2.2.2.1.2
      have fw24 : w2.frozen? ⟨w.heap.size + 1, 4, none⟩ = false := Tw2.2.2.1.2.2.2.2.2.1.2
      have fw25 : w2.frozen? ⟨w.heap.size + 1, 5, none⟩ = false := Tw2.2.2.1.2.2.2.2.2.2.1.2
      go_upto_region 3 with fail
      have Tw3 : TL w [(w2.heap.size, [.int .i64 h1', .int .i64 h2', .int .i64 h3']), (w1.heap.size, [.int .i64 g1, .int .i64 g2, .int .i64 g3]), (w.heap.size + 1, [.int .i64 0, .int .i64 0, .int .i64 0, .int .i64 0, .int .i64 0, .int .i64 0]), (w.heap.size, [.int .i64 a1, .int .i64 a2, .int .i64 a3, .int .i64 a4, .int .i64 a5, .int .i64 a6])] (w2.alloc (.cells #[.int .i64 h1', .int .i64 h2', .int .i64 h3'] 27)) := TL.new (t := 27) Tw2 rfl
      generalize w2.alloc (.cells #[.int .i64 h1', .int .i64 h2', .int .i64 h3'] 27) = w3 at Tw3 ⊢
      have Bw3 := Tw3.1.1
      have hlow : w.heap.size ≤ w3.heap.size := Tw3.1.2
      clear xw100 xw101 xw102 xw103 xw104 xw105 xw110 xw111 xw112 xw113 xw114 xw115
      clear xw200 xw201 xw202 xw210 xw211 xw212 xw213 xw214 xw215 xw220 xw221 xw222 xw223 xw224 xw225
      have xw300 : w3.cell? ⟨w2.heap.size, 0, none⟩ = some (.int .i64 h1') := Tw3.2.1.2.1.1
      have xw301 : w3.cell? ⟨w2.heap.size, 1, none⟩ = some (.int .i64 h2') := Tw3.2.1.2.2.1.1
      have xw302 : w3.cell? ⟨w2.heap.size, 2, none⟩ = some (.int .i64 h3') := Tw3.2.1.2.2.2.1.1
      have xw310 : w3.cell? ⟨w1.heap.size, 0, none⟩ = some (.int .i64 g1) := Tw3.2.2.1.2.1.1
      have xw311 : w3.cell? ⟨w1.heap.size, 1, none⟩ = some (.int .i64 g2) := Tw3.2.2.1.2.2.1.1
      have xw312 : w3.cell? ⟨w1.heap.size, 2, none⟩ = some (.int .i64 g3) := Tw3.2.2.1.2.2.2.1.1
      have xw320 : w3.cell? ⟨w.heap.size + 1, 0, none⟩ = some (.int .i64 0) := Tw3.2.2.2.1.2.1.1
      have xw321 : w3.cell? ⟨w.heap.size + 1, 1, none⟩ = some (.int .i64 0) := Tw3.2.2.2.1.2.2.1.1
      have xw322 : w3.cell? ⟨w.heap.size + 1, 2, none⟩ = some (.int .i64 0) := Tw3.2.2.2.1.2.2.2.1.1
      have xw323 : w3.cell? ⟨w.heap.size + 1, 3, none⟩ = some (.int .i64 0) := Tw3.2.2.2.1.2.2.2.2.1.1
      have xw324 : w3.cell? ⟨w.heap.size + 1, 4, none⟩ = some (.int .i64 0) := Tw3.2.2.2.1.2.2.2.2.2.1.1
      have xw325 : w3.cell? ⟨w.heap.size + 1, 5, none⟩ = some (.int .i64 0) := Tw3.2.2.2.1.2.2.2.2.2.2.1.1
      have xw330 : w3.cell? ⟨w.heap.size, 0, none⟩ = some (.int .i64 a1) := Tw3.2.2.2.2.1.2.1.1
      have xw331 : w3.cell? ⟨w.heap.size, 1, none⟩ = some (.int .i64 a2) := Tw3.2.2.2.2.1.2.2.1.1
      have xw332 : w3.cell? ⟨w.heap.size, 2, none⟩ = some (.int .i64 a3) := Tw3.2.2.2.2.1.2.2.2.1.1
      have xw333 : w3.cell? ⟨w.heap.size, 3, none⟩ = some (.int .i64 a4) := Tw3.2.2.2.2.1.2.2.2.2.1.1
      have xw334 : w3.cell? ⟨w.heap.size, 4, none⟩ = some (.int .i64 a5) := Tw3.2.2.2.2.1.2.2.2.2.2.1.1
      have xw335 : w3.cell? ⟨w.heap.size, 5, none⟩ = some (.int .i64 a6) := Tw3.2.2.2.2.1.2.2.2.2.2.2.1.1
      have lw30 := Tw3.2.1.1
      have lw31 := Tw3.2.2.1.1
      have lw32 := Tw3.2.2.2.1.1
      have lw33 := Tw3.2.2.2.2.1.1
      have fw30 : w3.frozen? ⟨w.heap.size + 1, 0, none⟩ = false := Tw3.2.2.2.1.2.1.2
      have fw31 : w3.frozen? ⟨w.heap.size + 1, 1, none⟩ = false := Tw3.2.2.2.1.2.2.1.2
      have fw32 : w3.frozen? ⟨w.heap.size + 1, 2, none⟩ = false := Tw3.2.2.2.1.2.2.2.1.2
      have fw33 : w3.frozen? ⟨w.heap.size + 1, 3, none⟩ = false := Tw3.2.2.2.1.2.2.2.2.1.2
      have fw34 : w3.frozen? ⟨w.heap.size + 1, 4, none⟩ = false := Tw3.2.2.2.1.2.2.2.2.2.1.2
      have fw35 : w3.frozen? ⟨w.heap.size + 1, 5, none⟩ = false := Tw3.2.2.2.1.2.2.2.2.2.2.1.2
      go_wp2_with fail
      refine bodyPost_ret (by simp [results, Try.results17, go_sem, xw320, xw321, xw322, xw323, xw324, xw325]; rfl) rfl ?_
      exact ⟨ret_jb HL.out, by go_grown⟩

end Go.Proofs.Ytfiabpbfhldcnaa
