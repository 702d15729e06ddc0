/-
  No cell of these rows narrows 'for every input' (looked for: loops, veiled, ifaces, maps, wideKeys, modest, calm, conditions, laid).
  DERIVED. THE GIVEN ROWS OF THIS SEAT. 5 by the template 'for every input the law returns true; each argument reads behind the call as it read before'; 0 by the template 'total and deterministic' (their statements: YtfiabpbfhldcnaaTotals.lean).
  GIVEN WITH THE SEED: the statements are not yours to turn. If you find one false, say at which input.
  Laid BY PROGRAM, IN A SANDBOX (cutbox-rows.mjs): the forced cells as the released guide's own fill.sh prints them over the translation d6e9141a7deab4a6… (all of the seat's roots in one cut). By AI agents, Wed Nov 11 2026. No macro, syntax, notation, axiom, sorry.
-/
import Derived.Test.YtfiabpbfhldcnaaChecked
import GoSem.Claim
import GoSem.ClaimJoined
import GoSem.ClaimMapViews
import Derived.JoinedTies
import Derived.KernelRfl
namespace Go.Proofs.Ytfiabpbfhldcnaa
/- THE CELL 'sum', in the pinned program and in every row, IS THE sha256 OF THE DUMP (.gsa) THAT YtfiabpbfhldcnaaProg.lean LOADS. Nothing in Lean hashes anything: it is a label: what it is worth is what the hold of that sum in a sandbox is worth. -/
noncomputable def Try.pinned : Pinned := { name := "ytfiabpbfhldcnaa", sum := "d6e9141a7deab4a684f80ab5a6ebf70bf1bb1e50ec9394f897e9ed5b1bbb5d8f", checked := Try.checked }
namespace Rows
def none {H : Type} : Left H := { results := [], args := [] }

/-- 'laws.FnExactJonesValid': WHATEVER THE INPUT: true; the input reads as it did. -/
def fnExactJonesValidSpec : ChangeSpec := { name := "fnExactJonesValid", fn := fun _ => fun
  | [d] => { results := [.lit (.bool true)], args := [d] }
  | _ => none }
def fnExactJonesValidRow : OpenClaim := { program := "ytfiabpbfhldcnaa", sum := "d6e9141a7deab4a684f80ab5a6ebf70bf1bb1e50ec9394f897e9ed5b1bbb5d8f", func := "loop.example/polarisedlight/laws.FnExactJonesValid", spec := "fnExactJonesValid", apart := false }
def FnExactJonesValidSaid : Prop := fnExactJonesValidRow.holds Try.pinned (OpenSpec.ofChange fnExactJonesValidSpec)

/-- ITS FALSE NEIGHBOUR: 'it returns false'. Refute it at one input. -/
def fnExactJonesValidWrong : ChangeSpec := { name := "fnExactJonesValid", fn := fun _ => fun
  | [d] => { results := [.lit (.bool false)], args := [d] }
  | _ => none }
def FnExactJonesValidWrongFalsely : Prop := fnExactJonesValidRow.holds Try.pinned (OpenSpec.ofChange fnExactJonesValidWrong)

/-- 'laws.FnExactJonesAdd': WHATEVER THE INPUT: true; the input reads as it did. -/
def fnExactJonesAddSpec : ChangeSpec := { name := "fnExactJonesAdd", fn := fun _ => fun
  | [d1, d2] => { results := [.lit (.bool true)], args := [d1, d2] }
  | _ => none }
def fnExactJonesAddRow : OpenClaim := { program := "ytfiabpbfhldcnaa", sum := "d6e9141a7deab4a684f80ab5a6ebf70bf1bb1e50ec9394f897e9ed5b1bbb5d8f", func := "loop.example/polarisedlight/laws.FnExactJonesAdd", spec := "fnExactJonesAdd", apart := false }
def FnExactJonesAddSaid : Prop := fnExactJonesAddRow.holds Try.pinned (OpenSpec.ofChange fnExactJonesAddSpec)

/-- ITS FALSE NEIGHBOUR: 'it returns false'. Refute it at one input. -/
def fnExactJonesAddWrong : ChangeSpec := { name := "fnExactJonesAdd", fn := fun _ => fun
  | [d1, d2] => { results := [.lit (.bool false)], args := [d1, d2] }
  | _ => none }
def FnExactJonesAddWrongFalsely : Prop := fnExactJonesAddRow.holds Try.pinned (OpenSpec.ofChange fnExactJonesAddWrong)

/-- 'laws.FnExactJonesTimes': WHATEVER THE INPUT: true; the input reads as it did. -/
def fnExactJonesTimesSpec : ChangeSpec := { name := "fnExactJonesTimes", fn := fun _ => fun
  | [d1, d2] => { results := [.lit (.bool true)], args := [d1, d2] }
  | _ => none }
def fnExactJonesTimesRow : OpenClaim := { program := "ytfiabpbfhldcnaa", sum := "d6e9141a7deab4a684f80ab5a6ebf70bf1bb1e50ec9394f897e9ed5b1bbb5d8f", func := "loop.example/polarisedlight/laws.FnExactJonesTimes", spec := "fnExactJonesTimes", apart := false }
def FnExactJonesTimesSaid : Prop := fnExactJonesTimesRow.holds Try.pinned (OpenSpec.ofChange fnExactJonesTimesSpec)

/-- ITS FALSE NEIGHBOUR: 'it returns false'. Refute it at one input. -/
def fnExactJonesTimesWrong : ChangeSpec := { name := "fnExactJonesTimes", fn := fun _ => fun
  | [d1, d2] => { results := [.lit (.bool false)], args := [d1, d2] }
  | _ => none }
def FnExactJonesTimesWrongFalsely : Prop := fnExactJonesTimesRow.holds Try.pinned (OpenSpec.ofChange fnExactJonesTimesWrong)

/-- 'laws.FnExactJonesMirror': WHATEVER THE INPUT: true; the input reads as it did. -/
def fnExactJonesMirrorSpec : ChangeSpec := { name := "fnExactJonesMirror", fn := fun _ => fun
  | [d] => { results := [.lit (.bool true)], args := [d] }
  | _ => none }
def fnExactJonesMirrorRow : OpenClaim := { program := "ytfiabpbfhldcnaa", sum := "d6e9141a7deab4a684f80ab5a6ebf70bf1bb1e50ec9394f897e9ed5b1bbb5d8f", func := "loop.example/polarisedlight/laws.FnExactJonesMirror", spec := "fnExactJonesMirror", apart := false }
def FnExactJonesMirrorSaid : Prop := fnExactJonesMirrorRow.holds Try.pinned (OpenSpec.ofChange fnExactJonesMirrorSpec)

/-- ITS FALSE NEIGHBOUR: 'it returns false'. Refute it at one input. -/
def fnExactJonesMirrorWrong : ChangeSpec := { name := "fnExactJonesMirror", fn := fun _ => fun
  | [d] => { results := [.lit (.bool false)], args := [d] }
  | _ => none }
def FnExactJonesMirrorWrongFalsely : Prop := fnExactJonesMirrorRow.holds Try.pinned (OpenSpec.ofChange fnExactJonesMirrorWrong)

/-- 'laws.FnExactJonesCross': WHATEVER THE INPUT: true; the input reads as it did. -/
def fnExactJonesCrossSpec : ChangeSpec := { name := "fnExactJonesCross", fn := fun _ => fun
  | [d] => { results := [.lit (.bool true)], args := [d] }
  | _ => none }
def fnExactJonesCrossRow : OpenClaim := { program := "ytfiabpbfhldcnaa", sum := "d6e9141a7deab4a684f80ab5a6ebf70bf1bb1e50ec9394f897e9ed5b1bbb5d8f", func := "loop.example/polarisedlight/laws.FnExactJonesCross", spec := "fnExactJonesCross", apart := false }
def FnExactJonesCrossSaid : Prop := fnExactJonesCrossRow.holds Try.pinned (OpenSpec.ofChange fnExactJonesCrossSpec)

/-- ITS FALSE NEIGHBOUR: 'it returns false'. Refute it at one input. -/
def fnExactJonesCrossWrong : ChangeSpec := { name := "fnExactJonesCross", fn := fun _ => fun
  | [d] => { results := [.lit (.bool false)], args := [d] }
  | _ => none }
def FnExactJonesCrossWrongFalsely : Prop := fnExactJonesCrossRow.holds Try.pinned (OpenSpec.ofChange fnExactJonesCrossWrong)

/- THE SECOND FORM. 'bulk': how many values and letters a reading holds, each counted each time it is reached (what is shared counts as often as it is met; a slice's spare places count too). A statement '..UptoSaid' is the law's where the arguments, and the package variables that the reading takes, are together of bulk at most 1048576: NARROWER than '..Said'. Prove '..Said' where nothing that the law and all that it calls make is longer than what came in: it says more and counts as full. Else prove '..UptoSaid'. A law counts once. -/
mutual
def uptoBulk {H : Type} : DataW H → Nat
  | .lit (.string bytes) => bytes.length + 1
  | .lit _ => 1
  | .nil => 1
  | .ptr d => uptoBulk d + 1
  | .slice elems spare => uptoBulkAll elems + uptoBulkAll spare + 1
  | .agg parts => uptoBulkAll parts + 1
  | .iface _ d => uptoBulk d + 1
  | .map entries => uptoBulkEntries entries + 1
  | .held _ => 1
def uptoBulkAll {H : Type} : List (DataW H) → Nat
  | [] => 0
  | d :: r => uptoBulk d + uptoBulkAll r
def uptoBulkEntries {H : Type} : List (Lit × DataW H) → Nat
  | [] => 0
  | x :: r => uptoBulkEntry x + uptoBulkEntries r
def uptoBulkEntry {H : Type} : Lit × DataW H → Nat
  | (.string bytes, d) => bytes.length + uptoBulk d + 1
  | (_, d) => uptoBulk d + 1
 end
def uptoSmall : (H : Type) → List (DataW H) → Bool := fun _ ds => decide (uptoBulkAll ds ≤ 1048576)
def OpenSpec.upto (s : _root_.Go.ChangeSpec) : _root_.Go.OpenSpec := { _root_.Go.OpenSpec.ofChange s with cond := some uptoSmall }

/-- 'laws.FnExactJonesValid', WHERE WHAT IT READS IS OF BULK AT MOST 1048576: true; the input reads as it did. -/
def fnExactJonesValidUptoRow : OpenClaim := { program := "ytfiabpbfhldcnaa", sum := "d6e9141a7deab4a684f80ab5a6ebf70bf1bb1e50ec9394f897e9ed5b1bbb5d8f", func := "loop.example/polarisedlight/laws.FnExactJonesValid", spec := "fnExactJonesValid", apart := false, narrowed := true }
def FnExactJonesValidUptoSaid : Prop := fnExactJonesValidUptoRow.holds Try.pinned (OpenSpec.upto fnExactJonesValidSpec)

/-- 'laws.FnExactJonesAdd', WHERE WHAT IT READS IS OF BULK AT MOST 1048576: true; the input reads as it did. -/
def fnExactJonesAddUptoRow : OpenClaim := { program := "ytfiabpbfhldcnaa", sum := "d6e9141a7deab4a684f80ab5a6ebf70bf1bb1e50ec9394f897e9ed5b1bbb5d8f", func := "loop.example/polarisedlight/laws.FnExactJonesAdd", spec := "fnExactJonesAdd", apart := false, narrowed := true }
def FnExactJonesAddUptoSaid : Prop := fnExactJonesAddUptoRow.holds Try.pinned (OpenSpec.upto fnExactJonesAddSpec)

/-- 'laws.FnExactJonesTimes', WHERE WHAT IT READS IS OF BULK AT MOST 1048576: true; the input reads as it did. -/
def fnExactJonesTimesUptoRow : OpenClaim := { program := "ytfiabpbfhldcnaa", sum := "d6e9141a7deab4a684f80ab5a6ebf70bf1bb1e50ec9394f897e9ed5b1bbb5d8f", func := "loop.example/polarisedlight/laws.FnExactJonesTimes", spec := "fnExactJonesTimes", apart := false, narrowed := true }
def FnExactJonesTimesUptoSaid : Prop := fnExactJonesTimesUptoRow.holds Try.pinned (OpenSpec.upto fnExactJonesTimesSpec)

/-- 'laws.FnExactJonesMirror', WHERE WHAT IT READS IS OF BULK AT MOST 1048576: true; the input reads as it did. -/
def fnExactJonesMirrorUptoRow : OpenClaim := { program := "ytfiabpbfhldcnaa", sum := "d6e9141a7deab4a684f80ab5a6ebf70bf1bb1e50ec9394f897e9ed5b1bbb5d8f", func := "loop.example/polarisedlight/laws.FnExactJonesMirror", spec := "fnExactJonesMirror", apart := false, narrowed := true }
def FnExactJonesMirrorUptoSaid : Prop := fnExactJonesMirrorUptoRow.holds Try.pinned (OpenSpec.upto fnExactJonesMirrorSpec)

/-- 'laws.FnExactJonesCross', WHERE WHAT IT READS IS OF BULK AT MOST 1048576: true; the input reads as it did. -/
def fnExactJonesCrossUptoRow : OpenClaim := { program := "ytfiabpbfhldcnaa", sum := "d6e9141a7deab4a684f80ab5a6ebf70bf1bb1e50ec9394f897e9ed5b1bbb5d8f", func := "loop.example/polarisedlight/laws.FnExactJonesCross", spec := "fnExactJonesCross", apart := false, narrowed := true }
def FnExactJonesCrossUptoSaid : Prop := fnExactJonesCrossUptoRow.holds Try.pinned (OpenSpec.upto fnExactJonesCrossSpec)

end Rows
end Go.Proofs.Ytfiabpbfhldcnaa
