/-
  No cell of these rows narrows 'for every input' (looked for: loops, veiled, ifaces, maps, wideKeys, modest, calm, conditions, laid).
  DERIVED. THE GIVEN ROWS OF THIS SEAT. 4 by the template 'for every input the law returns true; each argument reads behind the call as it read before'; 0 by the template 'total and deterministic' (their statements: YtclicagbilcekaaTotals.lean).
  GIVEN WITH THE SEED: the statements are not yours to turn. If you find one false, say at which input.
  Laid BY PROGRAM, IN A SANDBOX (cutbox-rows.mjs): the forced cells as the released guide's own fill.sh prints them over the translation 63898bc47e5e7324… (all of the seat's roots in one cut). By AI agents, Wed Nov 11 2026. No macro, syntax, notation, axiom, sorry.
-/
import Derived.Test.YtclicagbilcekaaChecked
import GoSem.Claim
import GoSem.ClaimJoined
import GoSem.ClaimMapViews
import Derived.JoinedTies
import Derived.KernelRfl
namespace Go.Proofs.Ytclicagbilcekaa
/- THE CELL 'sum', in the pinned program and in every row, IS THE sha256 OF THE DUMP (.gsa) THAT YtclicagbilcekaaProg.lean LOADS. Nothing in Lean hashes anything: it is a label: what it is worth is what the hold of that sum in a sandbox is worth. -/
noncomputable def Try.pinned : Pinned := { name := "ytclicagbilcekaa", sum := "63898bc47e5e7324beed2020d6d2182ff3509afd543f061916fe1b9c2ee7d16d", checked := Try.checked }
namespace Rows
def none {H : Type} : Left H := { results := [], args := [] }

/-- 'laws.FnExactJonesPower': WHATEVER THE INPUT: true; the input reads as it did. -/
def fnExactJonesPowerSpec : ChangeSpec := { name := "fnExactJonesPower", fn := fun _ => fun
  | [d] => { results := [.lit (.bool true)], args := [d] }
  | _ => none }
def fnExactJonesPowerRow : OpenClaim := { program := "ytclicagbilcekaa", sum := "63898bc47e5e7324beed2020d6d2182ff3509afd543f061916fe1b9c2ee7d16d", func := "loop.example/polarisedlight/laws.FnExactJonesPower", spec := "fnExactJonesPower", apart := false }
def FnExactJonesPowerSaid : Prop := fnExactJonesPowerRow.holds Try.pinned (OpenSpec.ofChange fnExactJonesPowerSpec)

/-- ITS FALSE NEIGHBOUR: 'it returns false'. Refute it at one input. -/
def fnExactJonesPowerWrong : ChangeSpec := { name := "fnExactJonesPower", fn := fun _ => fun
  | [d] => { results := [.lit (.bool false)], args := [d] }
  | _ => none }
def FnExactJonesPowerWrongFalsely : Prop := fnExactJonesPowerRow.holds Try.pinned (OpenSpec.ofChange fnExactJonesPowerWrong)

/-- 'laws.FnExactJonesInner': WHATEVER THE INPUT: true; the input reads as it did. -/
def fnExactJonesInnerSpec : ChangeSpec := { name := "fnExactJonesInner", fn := fun _ => fun
  | [d1, d2] => { results := [.lit (.bool true)], args := [d1, d2] }
  | _ => none }
def fnExactJonesInnerRow : OpenClaim := { program := "ytclicagbilcekaa", sum := "63898bc47e5e7324beed2020d6d2182ff3509afd543f061916fe1b9c2ee7d16d", func := "loop.example/polarisedlight/laws.FnExactJonesInner", spec := "fnExactJonesInner", apart := false }
def FnExactJonesInnerSaid : Prop := fnExactJonesInnerRow.holds Try.pinned (OpenSpec.ofChange fnExactJonesInnerSpec)

/-- ITS FALSE NEIGHBOUR: 'it returns false'. Refute it at one input. -/
def fnExactJonesInnerWrong : ChangeSpec := { name := "fnExactJonesInner", fn := fun _ => fun
  | [d1, d2] => { results := [.lit (.bool false)], args := [d1, d2] }
  | _ => none }
def FnExactJonesInnerWrongFalsely : Prop := fnExactJonesInnerRow.holds Try.pinned (OpenSpec.ofChange fnExactJonesInnerWrong)

/-- 'laws.FnExactJonesWide': WHATEVER THE INPUT: true; the input reads as it did. -/
def fnExactJonesWideSpec : ChangeSpec := { name := "fnExactJonesWide", fn := fun _ => fun
  | [d] => { results := [.lit (.bool true)], args := [d] }
  | _ => none }
def fnExactJonesWideRow : OpenClaim := { program := "ytclicagbilcekaa", sum := "63898bc47e5e7324beed2020d6d2182ff3509afd543f061916fe1b9c2ee7d16d", func := "loop.example/polarisedlight/laws.FnExactJonesWide", spec := "fnExactJonesWide", apart := false }
def FnExactJonesWideSaid : Prop := fnExactJonesWideRow.holds Try.pinned (OpenSpec.ofChange fnExactJonesWideSpec)

/-- ITS FALSE NEIGHBOUR: 'it returns false'. Refute it at one input. -/
def fnExactJonesWideWrong : ChangeSpec := { name := "fnExactJonesWide", fn := fun _ => fun
  | [d] => { results := [.lit (.bool false)], args := [d] }
  | _ => none }
def FnExactJonesWideWrongFalsely : Prop := fnExactJonesWideRow.holds Try.pinned (OpenSpec.ofChange fnExactJonesWideWrong)

/-- 'laws.FnExactJonesFits': WHATEVER THE INPUT: true; the input reads as it did. -/
def fnExactJonesFitsSpec : ChangeSpec := { name := "fnExactJonesFits", fn := fun _ => fun
  | [d] => { results := [.lit (.bool true)], args := [d] }
  | _ => none }
def fnExactJonesFitsRow : OpenClaim := { program := "ytclicagbilcekaa", sum := "63898bc47e5e7324beed2020d6d2182ff3509afd543f061916fe1b9c2ee7d16d", func := "loop.example/polarisedlight/laws.FnExactJonesFits", spec := "fnExactJonesFits", apart := false }
def FnExactJonesFitsSaid : Prop := fnExactJonesFitsRow.holds Try.pinned (OpenSpec.ofChange fnExactJonesFitsSpec)

/-- ITS FALSE NEIGHBOUR: 'it returns false'. Refute it at one input. -/
def fnExactJonesFitsWrong : ChangeSpec := { name := "fnExactJonesFits", fn := fun _ => fun
  | [d] => { results := [.lit (.bool false)], args := [d] }
  | _ => none }
def FnExactJonesFitsWrongFalsely : Prop := fnExactJonesFitsRow.holds Try.pinned (OpenSpec.ofChange fnExactJonesFitsWrong)

/- THE SECOND FORM. 'bulk': how many values and letters a reading holds, each counted each time it is reached (what is shared counts as often as it is met; a slice's spare places count too). A statement '..UptoSaid' is the law's where the arguments, and the package variables that the reading takes, are together of bulk at most 1048576: NARROWER than '..Said'. Prove '..Said' where nothing that the law and all that it calls make is longer than what came in: it says more and counts as full. Else prove '..UptoSaid'. A law counts once. -/
mutual
def uptoBulk {H : Type} : DataW H → Nat
  | .lit (.string bytes) => bytes.length + 1
  | .lit _ => 1
  | .nil => 1
  | .ptr d => uptoBulk d + 1
  | .slice elems spare => uptoBulkAll elems + uptoBulkAll spare + 1
  | .agg parts => uptoBulkAll parts + 1
  | .iface _ d => uptoBulk d + 1
  | .map entries => uptoBulkEntries entries + 1
  | .held _ => 1
def uptoBulkAll {H : Type} : List (DataW H) → Nat
  | [] => 0
  | d :: r => uptoBulk d + uptoBulkAll r
def uptoBulkEntries {H : Type} : List (Lit × DataW H) → Nat
  | [] => 0
  | x :: r => uptoBulkEntry x + uptoBulkEntries r
def uptoBulkEntry {H : Type} : Lit × DataW H → Nat
  | (.string bytes, d) => bytes.length + uptoBulk d + 1
  | (_, d) => uptoBulk d + 1
 end
def uptoSmall : (H : Type) → List (DataW H) → Bool := fun _ ds => decide (uptoBulkAll ds ≤ 1048576)
def OpenSpec.upto (s : _root_.Go.ChangeSpec) : _root_.Go.OpenSpec := { _root_.Go.OpenSpec.ofChange s with cond := some uptoSmall }

/-- 'laws.FnExactJonesPower', WHERE WHAT IT READS IS OF BULK AT MOST 1048576: true; the input reads as it did. -/
def fnExactJonesPowerUptoRow : OpenClaim := { program := "ytclicagbilcekaa", sum := "63898bc47e5e7324beed2020d6d2182ff3509afd543f061916fe1b9c2ee7d16d", func := "loop.example/polarisedlight/laws.FnExactJonesPower", spec := "fnExactJonesPower", apart := false, narrowed := true }
def FnExactJonesPowerUptoSaid : Prop := fnExactJonesPowerUptoRow.holds Try.pinned (OpenSpec.upto fnExactJonesPowerSpec)

/-- 'laws.FnExactJonesInner', WHERE WHAT IT READS IS OF BULK AT MOST 1048576: true; the input reads as it did. -/
def fnExactJonesInnerUptoRow : OpenClaim := { program := "ytclicagbilcekaa", sum := "63898bc47e5e7324beed2020d6d2182ff3509afd543f061916fe1b9c2ee7d16d", func := "loop.example/polarisedlight/laws.FnExactJonesInner", spec := "fnExactJonesInner", apart := false, narrowed := true }
def FnExactJonesInnerUptoSaid : Prop := fnExactJonesInnerUptoRow.holds Try.pinned (OpenSpec.upto fnExactJonesInnerSpec)

/-- 'laws.FnExactJonesWide', WHERE WHAT IT READS IS OF BULK AT MOST 1048576: true; the input reads as it did. -/
def fnExactJonesWideUptoRow : OpenClaim := { program := "ytclicagbilcekaa", sum := "63898bc47e5e7324beed2020d6d2182ff3509afd543f061916fe1b9c2ee7d16d", func := "loop.example/polarisedlight/laws.FnExactJonesWide", spec := "fnExactJonesWide", apart := false, narrowed := true }
def FnExactJonesWideUptoSaid : Prop := fnExactJonesWideUptoRow.holds Try.pinned (OpenSpec.upto fnExactJonesWideSpec)

/-- 'laws.FnExactJonesFits', WHERE WHAT IT READS IS OF BULK AT MOST 1048576: true; the input reads as it did. -/
def fnExactJonesFitsUptoRow : OpenClaim := { program := "ytclicagbilcekaa", sum := "63898bc47e5e7324beed2020d6d2182ff3509afd543f061916fe1b9c2ee7d16d", func := "loop.example/polarisedlight/laws.FnExactJonesFits", spec := "fnExactJonesFits", apart := false, narrowed := true }
def FnExactJonesFitsUptoSaid : Prop := fnExactJonesFitsUptoRow.holds Try.pinned (OpenSpec.upto fnExactJonesFitsSpec)

end Rows
end Go.Proofs.Ytclicagbilcekaa
