/-
  No cell of these rows narrows 'for every input' (looked for: loops, veiled, ifaces, maps, wideKeys, modest, calm, conditions, laid).
  DERIVED. THE GIVEN ROWS OF THIS SEAT. 10 by the template 'for every input the law returns true; each argument reads behind the call as it read before'; 0 by the template 'total and deterministic' (their statements: YtlnbapakpfnbdaaTotals.lean).
  GIVEN WITH THE SEED: the statements are not yours to turn. If you find one false, say at which input.
  Laid BY PROGRAM, IN A SANDBOX (cutbox-rows.mjs): the forced cells as the released guide's own fill.sh prints them over the translation 740600d12970bee6… (all of the seat's roots in one cut). By AI agents, Wed Nov 11 2026. No macro, syntax, notation, axiom, sorry.
-/
import Derived.Test.YtlnbapakpfnbdaaChecked
import GoSem.Claim
import GoSem.ClaimJoined
import GoSem.ClaimMapViews
import Derived.JoinedTies
import Derived.KernelRfl
namespace Go.Proofs.Ytlnbapakpfnbdaa
/- THE CELL 'sum', in the pinned program and in every row, IS THE sha256 OF THE DUMP (.gsa) THAT YtlnbapakpfnbdaaProg.lean LOADS. Nothing in Lean hashes anything: it is a label: what it is worth is what the hold of that sum in a sandbox is worth. -/
noncomputable def Try.pinned : Pinned := { name := "ytlnbapakpfnbdaa", sum := "740600d12970bee622e7c4df902cfabef4e68576f4aaf4fbb8b7db2650393ee1", checked := Try.checked }
namespace Rows
def none {H : Type} : Left H := { results := [], args := [] }

/-- 'laws.FnExactFracValid': WHATEVER THE INPUT: true; the input reads as it did. -/
def fnExactFracValidSpec : ChangeSpec := { name := "fnExactFracValid", fn := fun _ => fun
  | [d] => { results := [.lit (.bool true)], args := [d] }
  | _ => none }
def fnExactFracValidRow : OpenClaim := { program := "ytlnbapakpfnbdaa", sum := "740600d12970bee622e7c4df902cfabef4e68576f4aaf4fbb8b7db2650393ee1", func := "loop.example/polarisedlight/laws.FnExactFracValid", spec := "fnExactFracValid", apart := false }
def FnExactFracValidSaid : Prop := fnExactFracValidRow.holds Try.pinned (OpenSpec.ofChange fnExactFracValidSpec)

/-- ITS FALSE NEIGHBOUR: 'it returns false'. Refute it at one input. -/
def fnExactFracValidWrong : ChangeSpec := { name := "fnExactFracValid", fn := fun _ => fun
  | [d] => { results := [.lit (.bool false)], args := [d] }
  | _ => none }
def FnExactFracValidWrongFalsely : Prop := fnExactFracValidRow.holds Try.pinned (OpenSpec.ofChange fnExactFracValidWrong)

/-- 'laws.FnExactFracMake': WHATEVER THE INPUT: true; the input reads as it did. -/
def fnExactFracMakeSpec : ChangeSpec := { name := "fnExactFracMake", fn := fun _ => fun
  | [d1, d2, d3] => { results := [.lit (.bool true)], args := [d1, d2, d3] }
  | _ => none }
def fnExactFracMakeRow : OpenClaim := { program := "ytlnbapakpfnbdaa", sum := "740600d12970bee622e7c4df902cfabef4e68576f4aaf4fbb8b7db2650393ee1", func := "loop.example/polarisedlight/laws.FnExactFracMake", spec := "fnExactFracMake", apart := false }
def FnExactFracMakeSaid : Prop := fnExactFracMakeRow.holds Try.pinned (OpenSpec.ofChange fnExactFracMakeSpec)

/-- ITS FALSE NEIGHBOUR: 'it returns false'. Refute it at one input. -/
def fnExactFracMakeWrong : ChangeSpec := { name := "fnExactFracMake", fn := fun _ => fun
  | [d1, d2, d3] => { results := [.lit (.bool false)], args := [d1, d2, d3] }
  | _ => none }
def FnExactFracMakeWrongFalsely : Prop := fnExactFracMakeRow.holds Try.pinned (OpenSpec.ofChange fnExactFracMakeWrong)

/-- 'laws.FnExactFracMirror': WHATEVER THE INPUT: true; the input reads as it did. -/
def fnExactFracMirrorSpec : ChangeSpec := { name := "fnExactFracMirror", fn := fun _ => fun
  | [d] => { results := [.lit (.bool true)], args := [d] }
  | _ => none }
def fnExactFracMirrorRow : OpenClaim := { program := "ytlnbapakpfnbdaa", sum := "740600d12970bee622e7c4df902cfabef4e68576f4aaf4fbb8b7db2650393ee1", func := "loop.example/polarisedlight/laws.FnExactFracMirror", spec := "fnExactFracMirror", apart := false }
def FnExactFracMirrorSaid : Prop := fnExactFracMirrorRow.holds Try.pinned (OpenSpec.ofChange fnExactFracMirrorSpec)

/-- ITS FALSE NEIGHBOUR: 'it returns false'. Refute it at one input. -/
def fnExactFracMirrorWrong : ChangeSpec := { name := "fnExactFracMirror", fn := fun _ => fun
  | [d] => { results := [.lit (.bool false)], args := [d] }
  | _ => none }
def FnExactFracMirrorWrongFalsely : Prop := fnExactFracMirrorRow.holds Try.pinned (OpenSpec.ofChange fnExactFracMirrorWrong)

/-- 'laws.FnExactFracAdd': WHATEVER THE INPUT: true; the input reads as it did. -/
def fnExactFracAddSpec : ChangeSpec := { name := "fnExactFracAdd", fn := fun _ => fun
  | [d1, d2] => { results := [.lit (.bool true)], args := [d1, d2] }
  | _ => none }
def fnExactFracAddRow : OpenClaim := { program := "ytlnbapakpfnbdaa", sum := "740600d12970bee622e7c4df902cfabef4e68576f4aaf4fbb8b7db2650393ee1", func := "loop.example/polarisedlight/laws.FnExactFracAdd", spec := "fnExactFracAdd", apart := false }
def FnExactFracAddSaid : Prop := fnExactFracAddRow.holds Try.pinned (OpenSpec.ofChange fnExactFracAddSpec)

/-- ITS FALSE NEIGHBOUR: 'it returns false'. Refute it at one input. -/
def fnExactFracAddWrong : ChangeSpec := { name := "fnExactFracAdd", fn := fun _ => fun
  | [d1, d2] => { results := [.lit (.bool false)], args := [d1, d2] }
  | _ => none }
def FnExactFracAddWrongFalsely : Prop := fnExactFracAddRow.holds Try.pinned (OpenSpec.ofChange fnExactFracAddWrong)

/-- 'laws.FnExactFracLess': WHATEVER THE INPUT: true; the input reads as it did. -/
def fnExactFracLessSpec : ChangeSpec := { name := "fnExactFracLess", fn := fun _ => fun
  | [d1, d2] => { results := [.lit (.bool true)], args := [d1, d2] }
  | _ => none }
def fnExactFracLessRow : OpenClaim := { program := "ytlnbapakpfnbdaa", sum := "740600d12970bee622e7c4df902cfabef4e68576f4aaf4fbb8b7db2650393ee1", func := "loop.example/polarisedlight/laws.FnExactFracLess", spec := "fnExactFracLess", apart := false }
def FnExactFracLessSaid : Prop := fnExactFracLessRow.holds Try.pinned (OpenSpec.ofChange fnExactFracLessSpec)

/-- ITS FALSE NEIGHBOUR: 'it returns false'. Refute it at one input. -/
def fnExactFracLessWrong : ChangeSpec := { name := "fnExactFracLess", fn := fun _ => fun
  | [d1, d2] => { results := [.lit (.bool false)], args := [d1, d2] }
  | _ => none }
def FnExactFracLessWrongFalsely : Prop := fnExactFracLessRow.holds Try.pinned (OpenSpec.ofChange fnExactFracLessWrong)

/-- 'laws.FnExactFracTimes': WHATEVER THE INPUT: true; the input reads as it did. -/
def fnExactFracTimesSpec : ChangeSpec := { name := "fnExactFracTimes", fn := fun _ => fun
  | [d1, d2] => { results := [.lit (.bool true)], args := [d1, d2] }
  | _ => none }
def fnExactFracTimesRow : OpenClaim := { program := "ytlnbapakpfnbdaa", sum := "740600d12970bee622e7c4df902cfabef4e68576f4aaf4fbb8b7db2650393ee1", func := "loop.example/polarisedlight/laws.FnExactFracTimes", spec := "fnExactFracTimes", apart := false }
def FnExactFracTimesSaid : Prop := fnExactFracTimesRow.holds Try.pinned (OpenSpec.ofChange fnExactFracTimesSpec)

/-- ITS FALSE NEIGHBOUR: 'it returns false'. Refute it at one input. -/
def fnExactFracTimesWrong : ChangeSpec := { name := "fnExactFracTimes", fn := fun _ => fun
  | [d1, d2] => { results := [.lit (.bool false)], args := [d1, d2] }
  | _ => none }
def FnExactFracTimesWrongFalsely : Prop := fnExactFracTimesRow.holds Try.pinned (OpenSpec.ofChange fnExactFracTimesWrong)

/-- 'laws.FnExactFracPower': WHATEVER THE INPUT: true; the input reads as it did. -/
def fnExactFracPowerSpec : ChangeSpec := { name := "fnExactFracPower", fn := fun _ => fun
  | [d] => { results := [.lit (.bool true)], args := [d] }
  | _ => none }
def fnExactFracPowerRow : OpenClaim := { program := "ytlnbapakpfnbdaa", sum := "740600d12970bee622e7c4df902cfabef4e68576f4aaf4fbb8b7db2650393ee1", func := "loop.example/polarisedlight/laws.FnExactFracPower", spec := "fnExactFracPower", apart := false }
def FnExactFracPowerSaid : Prop := fnExactFracPowerRow.holds Try.pinned (OpenSpec.ofChange fnExactFracPowerSpec)

/-- ITS FALSE NEIGHBOUR: 'it returns false'. Refute it at one input. -/
def fnExactFracPowerWrong : ChangeSpec := { name := "fnExactFracPower", fn := fun _ => fun
  | [d] => { results := [.lit (.bool false)], args := [d] }
  | _ => none }
def FnExactFracPowerWrongFalsely : Prop := fnExactFracPowerRow.holds Try.pinned (OpenSpec.ofChange fnExactFracPowerWrong)

/-- 'laws.FnExactFracCompare': WHATEVER THE INPUT: true; the input reads as it did. -/
def fnExactFracCompareSpec : ChangeSpec := { name := "fnExactFracCompare", fn := fun _ => fun
  | [d1, d2] => { results := [.lit (.bool true)], args := [d1, d2] }
  | _ => none }
def fnExactFracCompareRow : OpenClaim := { program := "ytlnbapakpfnbdaa", sum := "740600d12970bee622e7c4df902cfabef4e68576f4aaf4fbb8b7db2650393ee1", func := "loop.example/polarisedlight/laws.FnExactFracCompare", spec := "fnExactFracCompare", apart := false }
def FnExactFracCompareSaid : Prop := fnExactFracCompareRow.holds Try.pinned (OpenSpec.ofChange fnExactFracCompareSpec)

/-- ITS FALSE NEIGHBOUR: 'it returns false'. Refute it at one input. -/
def fnExactFracCompareWrong : ChangeSpec := { name := "fnExactFracCompare", fn := fun _ => fun
  | [d1, d2] => { results := [.lit (.bool false)], args := [d1, d2] }
  | _ => none }
def FnExactFracCompareWrongFalsely : Prop := fnExactFracCompareRow.holds Try.pinned (OpenSpec.ofChange fnExactFracCompareWrong)

/-- 'laws.FnExactFracWide': WHATEVER THE INPUT: true; the input reads as it did. -/
def fnExactFracWideSpec : ChangeSpec := { name := "fnExactFracWide", fn := fun _ => fun
  | [d] => { results := [.lit (.bool true)], args := [d] }
  | _ => none }
def fnExactFracWideRow : OpenClaim := { program := "ytlnbapakpfnbdaa", sum := "740600d12970bee622e7c4df902cfabef4e68576f4aaf4fbb8b7db2650393ee1", func := "loop.example/polarisedlight/laws.FnExactFracWide", spec := "fnExactFracWide", apart := false }
def FnExactFracWideSaid : Prop := fnExactFracWideRow.holds Try.pinned (OpenSpec.ofChange fnExactFracWideSpec)

/-- ITS FALSE NEIGHBOUR: 'it returns false'. Refute it at one input. -/
def fnExactFracWideWrong : ChangeSpec := { name := "fnExactFracWide", fn := fun _ => fun
  | [d] => { results := [.lit (.bool false)], args := [d] }
  | _ => none }
def FnExactFracWideWrongFalsely : Prop := fnExactFracWideRow.holds Try.pinned (OpenSpec.ofChange fnExactFracWideWrong)

/-- 'laws.FnExactFracSingle': WHATEVER THE INPUT: true; the input reads as it did. -/
def fnExactFracSingleSpec : ChangeSpec := { name := "fnExactFracSingle", fn := fun _ => fun
  | [d] => { results := [.lit (.bool true)], args := [d] }
  | _ => none }
def fnExactFracSingleRow : OpenClaim := { program := "ytlnbapakpfnbdaa", sum := "740600d12970bee622e7c4df902cfabef4e68576f4aaf4fbb8b7db2650393ee1", func := "loop.example/polarisedlight/laws.FnExactFracSingle", spec := "fnExactFracSingle", apart := false }
def FnExactFracSingleSaid : Prop := fnExactFracSingleRow.holds Try.pinned (OpenSpec.ofChange fnExactFracSingleSpec)

/-- ITS FALSE NEIGHBOUR: 'it returns false'. Refute it at one input. -/
def fnExactFracSingleWrong : ChangeSpec := { name := "fnExactFracSingle", fn := fun _ => fun
  | [d] => { results := [.lit (.bool false)], args := [d] }
  | _ => none }
def FnExactFracSingleWrongFalsely : Prop := fnExactFracSingleRow.holds Try.pinned (OpenSpec.ofChange fnExactFracSingleWrong)

/- THE SECOND FORM. 'bulk': how many values and letters a reading holds, each counted each time it is reached (what is shared counts as often as it is met; a slice's spare places count too). A statement '..UptoSaid' is the law's where the arguments, and the package variables that the reading takes, are together of bulk at most 1048576: NARROWER than '..Said'. Prove '..Said' where nothing that the law and all that it calls make is longer than what came in: it says more and counts as full. Else prove '..UptoSaid'. A law counts once. -/
mutual
def uptoBulk {H : Type} : DataW H → Nat
  | .lit (.string bytes) => bytes.length + 1
  | .lit _ => 1
  | .nil => 1
  | .ptr d => uptoBulk d + 1
  | .slice elems spare => uptoBulkAll elems + uptoBulkAll spare + 1
  | .agg parts => uptoBulkAll parts + 1
  | .iface _ d => uptoBulk d + 1
  | .map entries => uptoBulkEntries entries + 1
  | .held _ => 1
def uptoBulkAll {H : Type} : List (DataW H) → Nat
  | [] => 0
  | d :: r => uptoBulk d + uptoBulkAll r
def uptoBulkEntries {H : Type} : List (Lit × DataW H) → Nat
  | [] => 0
  | x :: r => uptoBulkEntry x + uptoBulkEntries r
def uptoBulkEntry {H : Type} : Lit × DataW H → Nat
  | (.string bytes, d) => bytes.length + uptoBulk d + 1
  | (_, d) => uptoBulk d + 1
 end
def uptoSmall : (H : Type) → List (DataW H) → Bool := fun _ ds => decide (uptoBulkAll ds ≤ 1048576)
def OpenSpec.upto (s : _root_.Go.ChangeSpec) : _root_.Go.OpenSpec := { _root_.Go.OpenSpec.ofChange s with cond := some uptoSmall }

/-- 'laws.FnExactFracValid', WHERE WHAT IT READS IS OF BULK AT MOST 1048576: true; the input reads as it did. -/
def fnExactFracValidUptoRow : OpenClaim := { program := "ytlnbapakpfnbdaa", sum := "740600d12970bee622e7c4df902cfabef4e68576f4aaf4fbb8b7db2650393ee1", func := "loop.example/polarisedlight/laws.FnExactFracValid", spec := "fnExactFracValid", apart := false, narrowed := true }
def FnExactFracValidUptoSaid : Prop := fnExactFracValidUptoRow.holds Try.pinned (OpenSpec.upto fnExactFracValidSpec)

/-- 'laws.FnExactFracMake', WHERE WHAT IT READS IS OF BULK AT MOST 1048576: true; the input reads as it did. -/
def fnExactFracMakeUptoRow : OpenClaim := { program := "ytlnbapakpfnbdaa", sum := "740600d12970bee622e7c4df902cfabef4e68576f4aaf4fbb8b7db2650393ee1", func := "loop.example/polarisedlight/laws.FnExactFracMake", spec := "fnExactFracMake", apart := false, narrowed := true }
def FnExactFracMakeUptoSaid : Prop := fnExactFracMakeUptoRow.holds Try.pinned (OpenSpec.upto fnExactFracMakeSpec)

/-- 'laws.FnExactFracMirror', WHERE WHAT IT READS IS OF BULK AT MOST 1048576: true; the input reads as it did. -/
def fnExactFracMirrorUptoRow : OpenClaim := { program := "ytlnbapakpfnbdaa", sum := "740600d12970bee622e7c4df902cfabef4e68576f4aaf4fbb8b7db2650393ee1", func := "loop.example/polarisedlight/laws.FnExactFracMirror", spec := "fnExactFracMirror", apart := false, narrowed := true }
def FnExactFracMirrorUptoSaid : Prop := fnExactFracMirrorUptoRow.holds Try.pinned (OpenSpec.upto fnExactFracMirrorSpec)

/-- 'laws.FnExactFracAdd', WHERE WHAT IT READS IS OF BULK AT MOST 1048576: true; the input reads as it did. -/
def fnExactFracAddUptoRow : OpenClaim := { program := "ytlnbapakpfnbdaa", sum := "740600d12970bee622e7c4df902cfabef4e68576f4aaf4fbb8b7db2650393ee1", func := "loop.example/polarisedlight/laws.FnExactFracAdd", spec := "fnExactFracAdd", apart := false, narrowed := true }
def FnExactFracAddUptoSaid : Prop := fnExactFracAddUptoRow.holds Try.pinned (OpenSpec.upto fnExactFracAddSpec)

/-- 'laws.FnExactFracLess', WHERE WHAT IT READS IS OF BULK AT MOST 1048576: true; the input reads as it did. -/
def fnExactFracLessUptoRow : OpenClaim := { program := "ytlnbapakpfnbdaa", sum := "740600d12970bee622e7c4df902cfabef4e68576f4aaf4fbb8b7db2650393ee1", func := "loop.example/polarisedlight/laws.FnExactFracLess", spec := "fnExactFracLess", apart := false, narrowed := true }
def FnExactFracLessUptoSaid : Prop := fnExactFracLessUptoRow.holds Try.pinned (OpenSpec.upto fnExactFracLessSpec)

/-- 'laws.FnExactFracTimes', WHERE WHAT IT READS IS OF BULK AT MOST 1048576: true; the input reads as it did. -/
def fnExactFracTimesUptoRow : OpenClaim := { program := "ytlnbapakpfnbdaa", sum := "740600d12970bee622e7c4df902cfabef4e68576f4aaf4fbb8b7db2650393ee1", func := "loop.example/polarisedlight/laws.FnExactFracTimes", spec := "fnExactFracTimes", apart := false, narrowed := true }
def FnExactFracTimesUptoSaid : Prop := fnExactFracTimesUptoRow.holds Try.pinned (OpenSpec.upto fnExactFracTimesSpec)

/-- 'laws.FnExactFracPower', WHERE WHAT IT READS IS OF BULK AT MOST 1048576: true; the input reads as it did. -/
def fnExactFracPowerUptoRow : OpenClaim := { program := "ytlnbapakpfnbdaa", sum := "740600d12970bee622e7c4df902cfabef4e68576f4aaf4fbb8b7db2650393ee1", func := "loop.example/polarisedlight/laws.FnExactFracPower", spec := "fnExactFracPower", apart := false, narrowed := true }
def FnExactFracPowerUptoSaid : Prop := fnExactFracPowerUptoRow.holds Try.pinned (OpenSpec.upto fnExactFracPowerSpec)

/-- 'laws.FnExactFracCompare', WHERE WHAT IT READS IS OF BULK AT MOST 1048576: true; the input reads as it did. -/
def fnExactFracCompareUptoRow : OpenClaim := { program := "ytlnbapakpfnbdaa", sum := "740600d12970bee622e7c4df902cfabef4e68576f4aaf4fbb8b7db2650393ee1", func := "loop.example/polarisedlight/laws.FnExactFracCompare", spec := "fnExactFracCompare", apart := false, narrowed := true }
def FnExactFracCompareUptoSaid : Prop := fnExactFracCompareUptoRow.holds Try.pinned (OpenSpec.upto fnExactFracCompareSpec)

/-- 'laws.FnExactFracWide', WHERE WHAT IT READS IS OF BULK AT MOST 1048576: true; the input reads as it did. -/
def fnExactFracWideUptoRow : OpenClaim := { program := "ytlnbapakpfnbdaa", sum := "740600d12970bee622e7c4df902cfabef4e68576f4aaf4fbb8b7db2650393ee1", func := "loop.example/polarisedlight/laws.FnExactFracWide", spec := "fnExactFracWide", apart := false, narrowed := true }
def FnExactFracWideUptoSaid : Prop := fnExactFracWideUptoRow.holds Try.pinned (OpenSpec.upto fnExactFracWideSpec)

/-- 'laws.FnExactFracSingle', WHERE WHAT IT READS IS OF BULK AT MOST 1048576: true; the input reads as it did. -/
def fnExactFracSingleUptoRow : OpenClaim := { program := "ytlnbapakpfnbdaa", sum := "740600d12970bee622e7c4df902cfabef4e68576f4aaf4fbb8b7db2650393ee1", func := "loop.example/polarisedlight/laws.FnExactFracSingle", spec := "fnExactFracSingle", apart := false, narrowed := true }
def FnExactFracSingleUptoSaid : Prop := fnExactFracSingleUptoRow.holds Try.pinned (OpenSpec.upto fnExactFracSingleSpec)

end Rows
end Go.Proofs.Ytlnbapakpfnbdaa
