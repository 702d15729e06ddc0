/-
  No cell of these rows narrows 'for every input' (looked for: loops, veiled, ifaces, maps, wideKeys, modest, calm, conditions, laid).
  DERIVED. THE GIVEN ROWS OF THIS SEAT. 6 by the template 'for every input the law returns true; each argument reads behind the call as it read before'; 0 by the template 'total and deterministic' (their statements: YtanodgboimjmoaaTotals.lean).
  GIVEN WITH THE SEED: the statements are not yours to turn. If you find one false, say at which input.
  Laid BY PROGRAM, IN A SANDBOX (cutbox-rows.mjs): the forced cells as the released guide's own fill.sh prints them over the translation 45116cdd7f72180c… (all of the seat's roots in one cut). By AI agents, Wed Nov 11 2026. No macro, syntax, notation, axiom, sorry.
-/
import Derived.Test.YtanodgboimjmoaaChecked
import GoSem.Claim
import GoSem.ClaimJoined
import GoSem.ClaimMapViews
import Derived.JoinedTies
import Derived.KernelRfl
namespace Go.Proofs.Ytanodgboimjmoaa
/- THE CELL 'sum', in the pinned program and in every row, IS THE sha256 OF THE DUMP (.gsa) THAT YtanodgboimjmoaaProg.lean LOADS. Nothing in Lean hashes anything: it is a label: what it is worth is what the hold of that sum in a sandbox is worth. -/
noncomputable def Try.pinned : Pinned := { name := "ytanodgboimjmoaa", sum := "45116cdd7f72180c2340ba268fc536a08918d1bdb0cfa6c5f7ac95f0d8604e71", checked := Try.checked }
namespace Rows
def none {H : Type} : Left H := { results := [], args := [] }

/-- 'laws.FnWideSame': WHATEVER THE INPUT: true; the input reads as it did. -/
def fnWideSameSpec : ChangeSpec := { name := "fnWideSame", fn := fun _ => fun
  | [d] => { results := [.lit (.bool true)], args := [d] }
  | _ => none }
def fnWideSameRow : OpenClaim := { program := "ytanodgboimjmoaa", sum := "45116cdd7f72180c2340ba268fc536a08918d1bdb0cfa6c5f7ac95f0d8604e71", func := "loop.example/polarisedlight/laws.FnWideSame", spec := "fnWideSame", apart := false }
def FnWideSameSaid : Prop := fnWideSameRow.holds Try.pinned (OpenSpec.ofChange fnWideSameSpec)

/-- ITS FALSE NEIGHBOUR: 'it returns false'. Refute it at one input. -/
def fnWideSameWrong : ChangeSpec := { name := "fnWideSame", fn := fun _ => fun
  | [d] => { results := [.lit (.bool false)], args := [d] }
  | _ => none }
def FnWideSameWrongFalsely : Prop := fnWideSameRow.holds Try.pinned (OpenSpec.ofChange fnWideSameWrong)

/-- 'laws.FnSigned': WHATEVER THE INPUT: true; the input reads as it did. -/
def fnSignedSpec : ChangeSpec := { name := "fnSigned", fn := fun _ => fun
  | [d] => { results := [.lit (.bool true)], args := [d] }
  | _ => none }
def fnSignedRow : OpenClaim := { program := "ytanodgboimjmoaa", sum := "45116cdd7f72180c2340ba268fc536a08918d1bdb0cfa6c5f7ac95f0d8604e71", func := "loop.example/polarisedlight/laws.FnSigned", spec := "fnSigned", apart := false }
def FnSignedSaid : Prop := fnSignedRow.holds Try.pinned (OpenSpec.ofChange fnSignedSpec)

/-- ITS FALSE NEIGHBOUR: 'it returns false'. Refute it at one input. -/
def fnSignedWrong : ChangeSpec := { name := "fnSigned", fn := fun _ => fun
  | [d] => { results := [.lit (.bool false)], args := [d] }
  | _ => none }
def FnSignedWrongFalsely : Prop := fnSignedRow.holds Try.pinned (OpenSpec.ofChange fnSignedWrong)

/-- 'laws.FnWideMirror': WHATEVER THE INPUT: true; the input reads as it did. -/
def fnWideMirrorSpec : ChangeSpec := { name := "fnWideMirror", fn := fun _ => fun
  | [d] => { results := [.lit (.bool true)], args := [d] }
  | _ => none }
def fnWideMirrorRow : OpenClaim := { program := "ytanodgboimjmoaa", sum := "45116cdd7f72180c2340ba268fc536a08918d1bdb0cfa6c5f7ac95f0d8604e71", func := "loop.example/polarisedlight/laws.FnWideMirror", spec := "fnWideMirror", apart := false }
def FnWideMirrorSaid : Prop := fnWideMirrorRow.holds Try.pinned (OpenSpec.ofChange fnWideMirrorSpec)

/-- ITS FALSE NEIGHBOUR: 'it returns false'. Refute it at one input. -/
def fnWideMirrorWrong : ChangeSpec := { name := "fnWideMirror", fn := fun _ => fun
  | [d] => { results := [.lit (.bool false)], args := [d] }
  | _ => none }
def FnWideMirrorWrongFalsely : Prop := fnWideMirrorRow.holds Try.pinned (OpenSpec.ofChange fnWideMirrorWrong)

/-- 'laws.FnUnlike': WHATEVER THE INPUT: true; the input reads as it did. -/
def fnUnlikeSpec : ChangeSpec := { name := "fnUnlike", fn := fun _ => fun
  | [d] => { results := [.lit (.bool true)], args := [d] }
  | _ => none }
def fnUnlikeRow : OpenClaim := { program := "ytanodgboimjmoaa", sum := "45116cdd7f72180c2340ba268fc536a08918d1bdb0cfa6c5f7ac95f0d8604e71", func := "loop.example/polarisedlight/laws.FnUnlike", spec := "fnUnlike", apart := false }
def FnUnlikeSaid : Prop := fnUnlikeRow.holds Try.pinned (OpenSpec.ofChange fnUnlikeSpec)

/-- ITS FALSE NEIGHBOUR: 'it returns false'. Refute it at one input. -/
def fnUnlikeWrong : ChangeSpec := { name := "fnUnlike", fn := fun _ => fun
  | [d] => { results := [.lit (.bool false)], args := [d] }
  | _ => none }
def FnUnlikeWrongFalsely : Prop := fnUnlikeRow.holds Try.pinned (OpenSpec.ofChange fnUnlikeWrong)

/-- 'laws.FnWidePower': WHATEVER THE INPUT: true; the input reads as it did. -/
def fnWidePowerSpec : ChangeSpec := { name := "fnWidePower", fn := fun _ => fun
  | [d] => { results := [.lit (.bool true)], args := [d] }
  | _ => none }
def fnWidePowerRow : OpenClaim := { program := "ytanodgboimjmoaa", sum := "45116cdd7f72180c2340ba268fc536a08918d1bdb0cfa6c5f7ac95f0d8604e71", func := "loop.example/polarisedlight/laws.FnWidePower", spec := "fnWidePower", apart := false }
def FnWidePowerSaid : Prop := fnWidePowerRow.holds Try.pinned (OpenSpec.ofChange fnWidePowerSpec)

/-- ITS FALSE NEIGHBOUR: 'it returns false'. Refute it at one input. -/
def fnWidePowerWrong : ChangeSpec := { name := "fnWidePower", fn := fun _ => fun
  | [d] => { results := [.lit (.bool false)], args := [d] }
  | _ => none }
def FnWidePowerWrongFalsely : Prop := fnWidePowerRow.holds Try.pinned (OpenSpec.ofChange fnWidePowerWrong)

/-- 'laws.FnWideOver': WHATEVER THE INPUT: true; the input reads as it did. -/
def fnWideOverSpec : ChangeSpec := { name := "fnWideOver", fn := fun _ => fun
  | [d] => { results := [.lit (.bool true)], args := [d] }
  | _ => none }
def fnWideOverRow : OpenClaim := { program := "ytanodgboimjmoaa", sum := "45116cdd7f72180c2340ba268fc536a08918d1bdb0cfa6c5f7ac95f0d8604e71", func := "loop.example/polarisedlight/laws.FnWideOver", spec := "fnWideOver", apart := false }
def FnWideOverSaid : Prop := fnWideOverRow.holds Try.pinned (OpenSpec.ofChange fnWideOverSpec)

/-- ITS FALSE NEIGHBOUR: 'it returns false'. Refute it at one input. -/
def fnWideOverWrong : ChangeSpec := { name := "fnWideOver", fn := fun _ => fun
  | [d] => { results := [.lit (.bool false)], args := [d] }
  | _ => none }
def FnWideOverWrongFalsely : Prop := fnWideOverRow.holds Try.pinned (OpenSpec.ofChange fnWideOverWrong)

/- THE SECOND FORM. 'bulk': how many values and letters a reading holds, each counted each time it is reached (what is shared counts as often as it is met; a slice's spare places count too). A statement '..UptoSaid' is the law's where the arguments, and the package variables that the reading takes, are together of bulk at most 1048576: NARROWER than '..Said'. Prove '..Said' where nothing that the law and all that it calls make is longer than what came in: it says more and counts as full. Else prove '..UptoSaid'. A law counts once. -/
mutual
def uptoBulk {H : Type} : DataW H → Nat
  | .lit (.string bytes) => bytes.length + 1
  | .lit _ => 1
  | .nil => 1
  | .ptr d => uptoBulk d + 1
  | .slice elems spare => uptoBulkAll elems + uptoBulkAll spare + 1
  | .agg parts => uptoBulkAll parts + 1
  | .iface _ d => uptoBulk d + 1
  | .map entries => uptoBulkEntries entries + 1
  | .held _ => 1
def uptoBulkAll {H : Type} : List (DataW H) → Nat
  | [] => 0
  | d :: r => uptoBulk d + uptoBulkAll r
def uptoBulkEntries {H : Type} : List (Lit × DataW H) → Nat
  | [] => 0
  | x :: r => uptoBulkEntry x + uptoBulkEntries r
def uptoBulkEntry {H : Type} : Lit × DataW H → Nat
  | (.string bytes, d) => bytes.length + uptoBulk d + 1
  | (_, d) => uptoBulk d + 1
 end
def uptoSmall : (H : Type) → List (DataW H) → Bool := fun _ ds => decide (uptoBulkAll ds ≤ 1048576)
def OpenSpec.upto (s : _root_.Go.ChangeSpec) : _root_.Go.OpenSpec := { _root_.Go.OpenSpec.ofChange s with cond := some uptoSmall }

/-- 'laws.FnWideSame', WHERE WHAT IT READS IS OF BULK AT MOST 1048576: true; the input reads as it did. -/
def fnWideSameUptoRow : OpenClaim := { program := "ytanodgboimjmoaa", sum := "45116cdd7f72180c2340ba268fc536a08918d1bdb0cfa6c5f7ac95f0d8604e71", func := "loop.example/polarisedlight/laws.FnWideSame", spec := "fnWideSame", apart := false, narrowed := true }
def FnWideSameUptoSaid : Prop := fnWideSameUptoRow.holds Try.pinned (OpenSpec.upto fnWideSameSpec)

/-- 'laws.FnSigned', WHERE WHAT IT READS IS OF BULK AT MOST 1048576: true; the input reads as it did. -/
def fnSignedUptoRow : OpenClaim := { program := "ytanodgboimjmoaa", sum := "45116cdd7f72180c2340ba268fc536a08918d1bdb0cfa6c5f7ac95f0d8604e71", func := "loop.example/polarisedlight/laws.FnSigned", spec := "fnSigned", apart := false, narrowed := true }
def FnSignedUptoSaid : Prop := fnSignedUptoRow.holds Try.pinned (OpenSpec.upto fnSignedSpec)

/-- 'laws.FnWideMirror', WHERE WHAT IT READS IS OF BULK AT MOST 1048576: true; the input reads as it did. -/
def fnWideMirrorUptoRow : OpenClaim := { program := "ytanodgboimjmoaa", sum := "45116cdd7f72180c2340ba268fc536a08918d1bdb0cfa6c5f7ac95f0d8604e71", func := "loop.example/polarisedlight/laws.FnWideMirror", spec := "fnWideMirror", apart := false, narrowed := true }
def FnWideMirrorUptoSaid : Prop := fnWideMirrorUptoRow.holds Try.pinned (OpenSpec.upto fnWideMirrorSpec)

/-- 'laws.FnUnlike', WHERE WHAT IT READS IS OF BULK AT MOST 1048576: true; the input reads as it did. -/
def fnUnlikeUptoRow : OpenClaim := { program := "ytanodgboimjmoaa", sum := "45116cdd7f72180c2340ba268fc536a08918d1bdb0cfa6c5f7ac95f0d8604e71", func := "loop.example/polarisedlight/laws.FnUnlike", spec := "fnUnlike", apart := false, narrowed := true }
def FnUnlikeUptoSaid : Prop := fnUnlikeUptoRow.holds Try.pinned (OpenSpec.upto fnUnlikeSpec)

/-- 'laws.FnWidePower', WHERE WHAT IT READS IS OF BULK AT MOST 1048576: true; the input reads as it did. -/
def fnWidePowerUptoRow : OpenClaim := { program := "ytanodgboimjmoaa", sum := "45116cdd7f72180c2340ba268fc536a08918d1bdb0cfa6c5f7ac95f0d8604e71", func := "loop.example/polarisedlight/laws.FnWidePower", spec := "fnWidePower", apart := false, narrowed := true }
def FnWidePowerUptoSaid : Prop := fnWidePowerUptoRow.holds Try.pinned (OpenSpec.upto fnWidePowerSpec)

/-- 'laws.FnWideOver', WHERE WHAT IT READS IS OF BULK AT MOST 1048576: true; the input reads as it did. -/
def fnWideOverUptoRow : OpenClaim := { program := "ytanodgboimjmoaa", sum := "45116cdd7f72180c2340ba268fc536a08918d1bdb0cfa6c5f7ac95f0d8604e71", func := "loop.example/polarisedlight/laws.FnWideOver", spec := "fnWideOver", apart := false, narrowed := true }
def FnWideOverUptoSaid : Prop := fnWideOverUptoRow.holds Try.pinned (OpenSpec.upto fnWideOverSpec)

end Rows
end Go.Proofs.Ytanodgboimjmoaa
