/-
  No cell of these rows narrows 'for every input' (looked for: loops, veiled, ifaces, maps, wideKeys, modest, calm, conditions, laid).
  DERIVED. THE GIVEN ROWS OF THIS SEAT. 6 by the template 'for every input the law returns true; each argument reads behind the call as it read before'; 0 by the template 'total and deterministic' (their statements: YtfoafahmjlagcaaTotals.lean).
  GIVEN WITH THE SEED: the statements are not yours to turn. If you find one false, say at which input.
  Laid BY PROGRAM, IN A SANDBOX (cutbox-rows.mjs): the forced cells as the released guide's own fill.sh prints them over the translation bade0aa6d98c465a… (all of the seat's roots in one cut). By AI agents, Wed Nov 11 2026. No macro, syntax, notation, axiom, sorry.
-/
import Derived.Test.YtfoafahmjlagcaaChecked
import GoSem.Claim
import GoSem.ClaimJoined
import GoSem.ClaimMapViews
import Derived.JoinedTies
import Derived.KernelRfl
namespace Go.Proofs.Ytfoafahmjlagcaa
/- THE CELL 'sum', in the pinned program and in every row, IS THE sha256 OF THE DUMP (.gsa) THAT YtfoafahmjlagcaaProg.lean LOADS. Nothing in Lean hashes anything: it is a label: what it is worth is what the hold of that sum in a sandbox is worth. -/
noncomputable def Try.pinned : Pinned := { name := "ytfoafahmjlagcaa", sum := "bade0aa6d98c465ad58357e24ca9ba2b6aaf41e10dbb9619646e75b4d6e084c8", checked := Try.checked }
namespace Rows
def none {H : Type} : Left H := { results := [], args := [] }

/-- 'laws.FnMake': WHATEVER THE INPUT: true; the input reads as it did. -/
def fnMakeSpec : ChangeSpec := { name := "fnMake", fn := fun _ => fun
  | [d] => { results := [.lit (.bool true)], args := [d] }
  | _ => none }
def fnMakeRow : OpenClaim := { program := "ytfoafahmjlagcaa", sum := "bade0aa6d98c465ad58357e24ca9ba2b6aaf41e10dbb9619646e75b4d6e084c8", func := "loop.example/polarisedlight/laws.FnMake", spec := "fnMake", apart := false }
def FnMakeSaid : Prop := fnMakeRow.holds Try.pinned (OpenSpec.ofChange fnMakeSpec)

/-- ITS FALSE NEIGHBOUR: 'it returns false'. Refute it at one input. -/
def fnMakeWrong : ChangeSpec := { name := "fnMake", fn := fun _ => fun
  | [d] => { results := [.lit (.bool false)], args := [d] }
  | _ => none }
def FnMakeWrongFalsely : Prop := fnMakeRow.holds Try.pinned (OpenSpec.ofChange fnMakeWrong)

/-- 'laws.FnFrac': WHATEVER THE INPUT: true; the input reads as it did. -/
def fnFracSpec : ChangeSpec := { name := "fnFrac", fn := fun _ => fun
  | [d] => { results := [.lit (.bool true)], args := [d] }
  | _ => none }
def fnFracRow : OpenClaim := { program := "ytfoafahmjlagcaa", sum := "bade0aa6d98c465ad58357e24ca9ba2b6aaf41e10dbb9619646e75b4d6e084c8", func := "loop.example/polarisedlight/laws.FnFrac", spec := "fnFrac", apart := false }
def FnFracSaid : Prop := fnFracRow.holds Try.pinned (OpenSpec.ofChange fnFracSpec)

/-- ITS FALSE NEIGHBOUR: 'it returns false'. Refute it at one input. -/
def fnFracWrong : ChangeSpec := { name := "fnFrac", fn := fun _ => fun
  | [d] => { results := [.lit (.bool false)], args := [d] }
  | _ => none }
def FnFracWrongFalsely : Prop := fnFracRow.holds Try.pinned (OpenSpec.ofChange fnFracWrong)

/-- 'laws.FnMirror': WHATEVER THE INPUT: true; the input reads as it did. -/
def fnMirrorSpec : ChangeSpec := { name := "fnMirror", fn := fun _ => fun
  | [d] => { results := [.lit (.bool true)], args := [d] }
  | _ => none }
def fnMirrorRow : OpenClaim := { program := "ytfoafahmjlagcaa", sum := "bade0aa6d98c465ad58357e24ca9ba2b6aaf41e10dbb9619646e75b4d6e084c8", func := "loop.example/polarisedlight/laws.FnMirror", spec := "fnMirror", apart := false }
def FnMirrorSaid : Prop := fnMirrorRow.holds Try.pinned (OpenSpec.ofChange fnMirrorSpec)

/-- ITS FALSE NEIGHBOUR: 'it returns false'. Refute it at one input. -/
def fnMirrorWrong : ChangeSpec := { name := "fnMirror", fn := fun _ => fun
  | [d] => { results := [.lit (.bool false)], args := [d] }
  | _ => none }
def FnMirrorWrongFalsely : Prop := fnMirrorRow.holds Try.pinned (OpenSpec.ofChange fnMirrorWrong)

/-- 'laws.FnAdd': WHATEVER THE INPUT: true; the input reads as it did. -/
def fnAddSpec : ChangeSpec := { name := "fnAdd", fn := fun _ => fun
  | [d] => { results := [.lit (.bool true)], args := [d] }
  | _ => none }
def fnAddRow : OpenClaim := { program := "ytfoafahmjlagcaa", sum := "bade0aa6d98c465ad58357e24ca9ba2b6aaf41e10dbb9619646e75b4d6e084c8", func := "loop.example/polarisedlight/laws.FnAdd", spec := "fnAdd", apart := false }
def FnAddSaid : Prop := fnAddRow.holds Try.pinned (OpenSpec.ofChange fnAddSpec)

/-- ITS FALSE NEIGHBOUR: 'it returns false'. Refute it at one input. -/
def fnAddWrong : ChangeSpec := { name := "fnAdd", fn := fun _ => fun
  | [d] => { results := [.lit (.bool false)], args := [d] }
  | _ => none }
def FnAddWrongFalsely : Prop := fnAddRow.holds Try.pinned (OpenSpec.ofChange fnAddWrong)

/-- 'laws.FnLess': WHATEVER THE INPUT: true; the input reads as it did. -/
def fnLessSpec : ChangeSpec := { name := "fnLess", fn := fun _ => fun
  | [d] => { results := [.lit (.bool true)], args := [d] }
  | _ => none }
def fnLessRow : OpenClaim := { program := "ytfoafahmjlagcaa", sum := "bade0aa6d98c465ad58357e24ca9ba2b6aaf41e10dbb9619646e75b4d6e084c8", func := "loop.example/polarisedlight/laws.FnLess", spec := "fnLess", apart := false }
def FnLessSaid : Prop := fnLessRow.holds Try.pinned (OpenSpec.ofChange fnLessSpec)

/-- ITS FALSE NEIGHBOUR: 'it returns false'. Refute it at one input. -/
def fnLessWrong : ChangeSpec := { name := "fnLess", fn := fun _ => fun
  | [d] => { results := [.lit (.bool false)], args := [d] }
  | _ => none }
def FnLessWrongFalsely : Prop := fnLessRow.holds Try.pinned (OpenSpec.ofChange fnLessWrong)

/-- 'laws.FnPower': WHATEVER THE INPUT: true; the input reads as it did. -/
def fnPowerSpec : ChangeSpec := { name := "fnPower", fn := fun _ => fun
  | [d] => { results := [.lit (.bool true)], args := [d] }
  | _ => none }
def fnPowerRow : OpenClaim := { program := "ytfoafahmjlagcaa", sum := "bade0aa6d98c465ad58357e24ca9ba2b6aaf41e10dbb9619646e75b4d6e084c8", func := "loop.example/polarisedlight/laws.FnPower", spec := "fnPower", apart := false }
def FnPowerSaid : Prop := fnPowerRow.holds Try.pinned (OpenSpec.ofChange fnPowerSpec)

/-- ITS FALSE NEIGHBOUR: 'it returns false'. Refute it at one input. -/
def fnPowerWrong : ChangeSpec := { name := "fnPower", fn := fun _ => fun
  | [d] => { results := [.lit (.bool false)], args := [d] }
  | _ => none }
def FnPowerWrongFalsely : Prop := fnPowerRow.holds Try.pinned (OpenSpec.ofChange fnPowerWrong)

/- THE SECOND FORM. 'bulk': how many values and letters a reading holds, each counted each time it is reached (what is shared counts as often as it is met; a slice's spare places count too). A statement '..UptoSaid' is the law's where the arguments, and the package variables that the reading takes, are together of bulk at most 1048576: NARROWER than '..Said'. Prove '..Said' where nothing that the law and all that it calls make is longer than what came in: it says more and counts as full. Else prove '..UptoSaid'. A law counts once. -/
mutual
def uptoBulk {H : Type} : DataW H → Nat
  | .lit (.string bytes) => bytes.length + 1
  | .lit _ => 1
  | .nil => 1
  | .ptr d => uptoBulk d + 1
  | .slice elems spare => uptoBulkAll elems + uptoBulkAll spare + 1
  | .agg parts => uptoBulkAll parts + 1
  | .iface _ d => uptoBulk d + 1
  | .map entries => uptoBulkEntries entries + 1
  | .held _ => 1
def uptoBulkAll {H : Type} : List (DataW H) → Nat
  | [] => 0
  | d :: r => uptoBulk d + uptoBulkAll r
def uptoBulkEntries {H : Type} : List (Lit × DataW H) → Nat
  | [] => 0
  | x :: r => uptoBulkEntry x + uptoBulkEntries r
def uptoBulkEntry {H : Type} : Lit × DataW H → Nat
  | (.string bytes, d) => bytes.length + uptoBulk d + 1
  | (_, d) => uptoBulk d + 1
 end
def uptoSmall : (H : Type) → List (DataW H) → Bool := fun _ ds => decide (uptoBulkAll ds ≤ 1048576)
def OpenSpec.upto (s : _root_.Go.ChangeSpec) : _root_.Go.OpenSpec := { _root_.Go.OpenSpec.ofChange s with cond := some uptoSmall }

/-- 'laws.FnMake', WHERE WHAT IT READS IS OF BULK AT MOST 1048576: true; the input reads as it did. -/
def fnMakeUptoRow : OpenClaim := { program := "ytfoafahmjlagcaa", sum := "bade0aa6d98c465ad58357e24ca9ba2b6aaf41e10dbb9619646e75b4d6e084c8", func := "loop.example/polarisedlight/laws.FnMake", spec := "fnMake", apart := false, narrowed := true }
def FnMakeUptoSaid : Prop := fnMakeUptoRow.holds Try.pinned (OpenSpec.upto fnMakeSpec)

/-- 'laws.FnFrac', WHERE WHAT IT READS IS OF BULK AT MOST 1048576: true; the input reads as it did. -/
def fnFracUptoRow : OpenClaim := { program := "ytfoafahmjlagcaa", sum := "bade0aa6d98c465ad58357e24ca9ba2b6aaf41e10dbb9619646e75b4d6e084c8", func := "loop.example/polarisedlight/laws.FnFrac", spec := "fnFrac", apart := false, narrowed := true }
def FnFracUptoSaid : Prop := fnFracUptoRow.holds Try.pinned (OpenSpec.upto fnFracSpec)

/-- 'laws.FnMirror', WHERE WHAT IT READS IS OF BULK AT MOST 1048576: true; the input reads as it did. -/
def fnMirrorUptoRow : OpenClaim := { program := "ytfoafahmjlagcaa", sum := "bade0aa6d98c465ad58357e24ca9ba2b6aaf41e10dbb9619646e75b4d6e084c8", func := "loop.example/polarisedlight/laws.FnMirror", spec := "fnMirror", apart := false, narrowed := true }
def FnMirrorUptoSaid : Prop := fnMirrorUptoRow.holds Try.pinned (OpenSpec.upto fnMirrorSpec)

/-- 'laws.FnAdd', WHERE WHAT IT READS IS OF BULK AT MOST 1048576: true; the input reads as it did. -/
def fnAddUptoRow : OpenClaim := { program := "ytfoafahmjlagcaa", sum := "bade0aa6d98c465ad58357e24ca9ba2b6aaf41e10dbb9619646e75b4d6e084c8", func := "loop.example/polarisedlight/laws.FnAdd", spec := "fnAdd", apart := false, narrowed := true }
def FnAddUptoSaid : Prop := fnAddUptoRow.holds Try.pinned (OpenSpec.upto fnAddSpec)

/-- 'laws.FnLess', WHERE WHAT IT READS IS OF BULK AT MOST 1048576: true; the input reads as it did. -/
def fnLessUptoRow : OpenClaim := { program := "ytfoafahmjlagcaa", sum := "bade0aa6d98c465ad58357e24ca9ba2b6aaf41e10dbb9619646e75b4d6e084c8", func := "loop.example/polarisedlight/laws.FnLess", spec := "fnLess", apart := false, narrowed := true }
def FnLessUptoSaid : Prop := fnLessUptoRow.holds Try.pinned (OpenSpec.upto fnLessSpec)

/-- 'laws.FnPower', WHERE WHAT IT READS IS OF BULK AT MOST 1048576: true; the input reads as it did. -/
def fnPowerUptoRow : OpenClaim := { program := "ytfoafahmjlagcaa", sum := "bade0aa6d98c465ad58357e24ca9ba2b6aaf41e10dbb9619646e75b4d6e084c8", func := "loop.example/polarisedlight/laws.FnPower", spec := "fnPower", apart := false, narrowed := true }
def FnPowerUptoSaid : Prop := fnPowerUptoRow.holds Try.pinned (OpenSpec.upto fnPowerSpec)

end Rows
end Go.Proofs.Ytfoafahmjlagcaa
