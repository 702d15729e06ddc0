/-
  FnJones: for every input the law returns true, and each argument reads afterwards as it read before. No condition beyond the row's own.
-/
import Derived.Test.YtlhbpjdokkelpaaDoorLfjones
import Derived.ProofKit
import Derived.OpenShut
import Derived.ChangeOld
import Derived.Below
import Derived.Lib.SmallJoins
import Derived.LaidMore
import Derived.Stop.Joined
import Derived.ChangeVars
import Derived.WalkSmall
import Derived.MakeChecks
import Derived.SevenTiedAt
import Derived.Test.YtlhbpjdokkelpaaDoorCards
import Derived.Test.YtlhbpjdokkelpaaDoorTie
namespace Go.Proofs.YtlhbpjdokkelpaaDoor.FnJones
open Go.ChangeShapes Go.WideShapes Go.ChangeAt Go.RowKit Go.Joins
set_option linter.unusedVariables false

theorem own : ownKnob Tryd.prog.godebug = none := by kernel_rfl
theorem laidOut : laidOutB Tryd.prog = true := by kernel_rfl

theorem cells1 : Tryd.prog.cellsOf 3 = 1 := by kernel_rfl
theorem gZ : Tryd.prog.globalNamed "loop.example/polarisedlight/impl.zero" = some 0 := by kernel_rfl
theorem tZ : (Tryd.prog.globals[0]?).map (·.type) = some 24 := by kernel_rfl
theorem cellsZ : Tryd.prog.cellsOf 24 = 3 := by kernel_rfl
def cz : Array Value := #[.int .i64 0, .int .i64 0, .int .i64 1]
abbrev zeroH {H : Type} : DataW H := .agg [.lit (.int .i64 0), .lit (.int .i64 0), .lit (.int .i64 1)]
theorem reads_zero {H : Type} (enc : TypeId × Value → H) (W : World) (sp : Nat → Bool) : DataW.trod enc Tryd.prog W 0 sp true 4 24 cz.toList = some (zeroH, []) := by kernel_rfl
theorem door_met (os : Os) (args : Array Value) : laidMetH Tryd.prog [("loop.example/polarisedlight/impl.zero", Rows.laid_loop_example_polarisedlight_impl_zero)] ((World.doorLaid Tryd.prog 14 os).forCall (fun _ _ => 0) ⟨#[], args, []⟩).memory :=
  laidMetH_of_parts3 (fuel := 8) (laidMet_of_run' 8 (by kernel_rfl) (by kernel_rfl)) (by kernel_rfl) (by kernel_rfl)
/-- What the row's condition gives the walk: the variable's three cells. -/
theorem cells_of_laid {W : World} (h : laidMetH Tryd.prog [("loop.example/polarisedlight/impl.zero", Rows.laid_loop_example_polarisedlight_impl_zero)] W) : W.var? Tryd.prog "loop.example/polarisedlight/impl.zero" = some cz := by
  rw [MakeChecks.laidMetH_plain _ _ _ (by kernel_rfl)] at h
  obtain ⟨ps, ⟨g, t, cs, fuel, p, q, hg, ht, hvar, hd, _, _⟩, _⟩ := h
  obtain rfl := Option.some.inj (gZ.symm.trans hg)
  obtain rfl := Option.some.inj (tZ.symm.trans ht)
  rw [hvar]
  obtain ⟨y0, y1, y2, m, hx, hl, h0, h1, h2⟩ := Go.Deep.trod_struct3 Tryd.underlying24 hd
  obtain ⟨l⟩ := cs
  rw [cellsZ] at hl
  obtain ⟨c0, c1, c2, rfl⟩ : ∃ c0 c1 c2, l = [c0, c1, c2] := by
    match l, hl with
    | [a, b, c], _ => exact ⟨a, b, c, rfl⟩
  obtain ⟨a, e0, f0, _⟩ := DataW.trod_int Tryd.underlying3 h0
  obtain ⟨b, e1, f1, _⟩ := DataW.trod_int Tryd.underlying3 h1
  obtain ⟨c, e2, f2, _⟩ := DataW.trod_int Tryd.underlying3 h2
  simp [cells1] at e0 e1 e2
  subst e0 e1 e2 f0 f1 f2
  simp [Rows.laid_loop_example_polarisedlight_impl_zero] at hx
  obtain ⟨⟨rfl, rfl, rfl⟩, _⟩ := hx
  rfl

set_option maxRecDepth 100000 in
theorem lifted (os : Os) (started : os.Started) (H : Type) (enc : TypeId × Value → H) :
    ReturnsInHanded {} Tryd.checked os 5 .any (fun w args => (Rows.fnJonesSpec.pre enc Tryd.prog Tryd.f5 [] false w args ∧ laidMetH Tryd.prog [("loop.example/polarisedlight/impl.zero", Rows.laid_loop_example_polarisedlight_impl_zero)] w) ∧ sizedMet enc Tryd.prog Tryd.f5 (OpenSpec.ofChange Rows.fnJonesSpec) false w args) (Rows.fnJonesSpec.post enc Tryd.prog Tryd.f5 false true false false) := by
  refine returnsInHanded_of_change_and (C := Tryd.checked) (X := fun w _ => laidMetH Tryd.prog [("loop.example/polarisedlight/impl.zero", Rows.laid_loop_example_polarisedlight_impl_zero)] w) (fun _ _ _ hh h => h.of_heap hh) own started (by kernel_rfl) Tryd.func5
    (ChangeSpec.witness_shaped (enc := enc) (C := Tryd.checked) (os := os) (X := fun w _ => laidMetH Tryd.prog [("loop.example/polarisedlight/impl.zero", Rows.laid_loop_example_polarisedlight_impl_zero)] w) false (World.doorLaid Tryd.prog 14 os) #[.slice none 0 0] 8 rfl (World.shaped_of_RefB (by kernel_rfl) (by kernel_rfl)) (by kernel_rfl) (by kernel_rfl) (by kernel_rfl) (door_met os _)) ?_
  intro W base args ds gs before hval0 hW _ _ hL _
  have hval : ∀ (j : Nat) t v, Tryd.f5.params[j]? = some t → args[j]? = some v → Value.okWide Tryd.prog W .any base t v := hval0
  have hW' := hW
  obtain ⟨p, q, hA0, hV, rfl, hfz, hnd⟩ := hW
  have hA : DataW.TrodAll enc Tryd.prog W 0 (fun _ => true) true Tryd.f5.params.toList args.toList ds p := hA0
  rw [Tryd.params5] at hA hval
  obtain ⟨v0, vs0, d0, ds0, p0, q0, hargs, rfl, rfl, h0, r0⟩ := trodAll_cons hA
  obtain ⟨rfl, rfl, rfl⟩ := trodAll_nil r0
  obtain rfl : args = #[v0] := by cases args; simp_all
  have hV0 : DataW.TrodVars enc Tryd.prog W (fun _ => true) ["loop.example/polarisedlight/impl.zero"] gs q := hV
  obtain ⟨g, t, cs, fuel, d, p', rfl, hg, ht, hvar, hd, rfl⟩ := trodVars_one hV0
  obtain rfl := Option.some.inj (gZ.symm.trans hg)
  obtain rfl := Option.some.inj (tZ.symm.trans ht)
  obtain rfl : cs = cz := Option.some.inj (hvar.symm.trans (cells_of_laid hL))
  obtain ⟨rfl, rfl⟩ := DataW.Trod.unique (v := .agg cz) ⟨fuel, hd⟩ ⟨4, reads_zero enc W _⟩
  have z0 : W.cell? ⟨0, 0, none⟩ = some (.int .i64 0) := World.var?_cell hg hvar 0
  have z1 : W.cell? ⟨0, 1, none⟩ = some (.int .i64 0) := World.var?_cell hg hvar 1
  have z2 : W.cell? ⟨0, 2, none⟩ = some (.int .i64 1) := World.var?_cell hg hvar 2
  have HZ : ZC W := ⟨World.block_lt_of_cell? _ _ z0, z0, z1, z2⟩
  have k0 := h0
  have lt0 : ∀ x ∈ p0, x.block < W.heap.size := by obtain ⟨m, hm⟩ := k0; exact DataW.trod_lt m _ _ _ hm
  obtain ⟨ad, len, cap, rfl⟩ := okWide_slice Tryd.underlying22 (hval 0 22 v0 rfl rfl)
  have wB : BytesIn W ad len cap := by
    obtain ⟨fuel, hf⟩ := h0
    rcases open_ints Tryd.underlying22 Tryd.underlying5 (by kernel_rfl) hf with ⟨hcs, _⟩ | ⟨x, l, c, zs, hcs, _, hl, hm, hz, _, hcell, hwz⟩
    · simp [Value.cells] at hcs
      obtain ⟨rfl, rfl, rfl⟩ := hcs
      exact .inl rfl
    · simp [Value.cells] at hcs
      obtain ⟨rfl, rfl, rfl⟩ := hcs
      exact bytes_in hl hm (by simpa using hz) hcell hwz
  clear hA0 hval0
  refine (FnJones_walk ad len cap W wB HZ).mono fun e W' ⟨he, bel⟩ => ?_
  subst he
  exact ⟨_, rfl, _, _, _, [], _, _, hW', trodAll_mk1 (shut_bool Tryd.underlying4 _), (trodAll_cons_mk (Below.trod laidOut (by kernel_rfl) (of_decide_eq_true (by kernel_rfl)) k0 bel lt0) trodAll_mk0), trodVars_mk1 gZ tZ (var?_below bel gZ HZ.1 hvar) (reads_zero enc W' _), bel.frame _, fun h => by cases h⟩

/-- FnJones: the statement. -/
theorem row : Rows.FnJonesSaid :=
  OpenClaim.holds_of_wide 5 Tryd.f5 rfl rfl rfl rfl rfl rfl rfl ⟨rfl, rfl, rfl, rfl, rfl⟩ rfl rfl rfl rfl rfl (by kernel_rfl) Tryd.func5 (by kernel_rfl)
    (of_decide_eq_true (by kernel_rfl)) (by unfold Func.isWrapper; first | (rw [if_pos (by decide +kernel)]; kernel_rfl) | (rw [if_neg (by decide +kernel)]; exact ⟨rfl, rfl⟩))
    (fun os started H enc _ => lifted os started H enc)

/-- FnJones: the tied card. -/
theorem proved : Rows.FnJonesCardSaid :=
  Claim7.holds_tied_plain_at .later [] [.data] true Rows.fnJonesCard.stood.harness false
    row (fun _ h => by cases h) (by kernel_rfl) (fun _ h => by cases h) fnJones_row_tie rfl ⟨rfl, rfl⟩ (by kernel_rfl) rfl
    (fun f fn hf hfn => by
      obtain rfl : f = 5 := Option.some.inj ((show Tryd.prog.funcNamed "loop.example/polarisedlight/laws.FnJones" = some 5 by kernel_rfl).symm.trans hf) |>.symm
      obtain rfl : fn = Tryd.f5 := (Option.some.inj (Tryd.func5.symm.trans hfn)).symm
      exact ⟨by kernel_rfl, fun j t ht => by
        rw [Tryd.params5] at ht
        have hm : t ∈ [22] := by simpa using Array.mem_of_getElem? ht
        have hall : ([22].all fun u => !Tryd.prog.wantsStandIn u) = true := by kernel_rfl
        exact (show Tryd.prog.wantsStandIn t = false by simpa using List.all_eq_true.1 hall t hm)⟩)
    (by kernel_rfl)
#print axioms proved
end Go.Proofs.YtlhbpjdokkelpaaDoor.FnJones
