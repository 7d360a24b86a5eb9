/-
  No cell of these rows narrows 'for every input' (looked for: loops, veiled, ifaces, maps, wideKeys, modest, calm, conditions, laid).
  DERIVED. THE GIVEN ROWS OF THIS SEAT. 5 by the template 'for every input the law returns true; each argument reads behind the call as it read before'; 0 by the template 'total and deterministic' (their statements: YtgpkhbhihonglaaTotals.lean).
  GIVEN WITH THE SEED: the statements are not yours to turn. If you find one false, say at which input.
  Laid BY PROGRAM, IN A SANDBOX (cutbox-rows.mjs): the forced cells as the released guide's own fill.sh prints them over the translation f3d88076987914e5… (all of the seat's roots in one cut). By AI agents, Wed Nov 11 2026. No macro, syntax, notation, axiom, sorry.
-/
import Derived.Test.YtgpkhbhihonglaaChecked
import GoSem.Claim
import GoSem.ClaimJoined
import GoSem.ClaimMapViews
import Derived.JoinedTies
import Derived.KernelRfl
namespace Go.Proofs.Ytgpkhbhihonglaa
/- THE CELL 'sum', in the pinned program and in every row, IS THE sha256 OF THE DUMP (.gsa) THAT YtgpkhbhihonglaaProg.lean LOADS. Nothing in Lean hashes anything: it is a label: what it is worth is what the hold of that sum in a sandbox is worth. -/
noncomputable def Try.pinned : Pinned := { name := "ytgpkhbhihonglaa", sum := "f3d88076987914e5f570fcf5d4ffddc368c336a134c48740ea22a6739c42030e", checked := Try.checked }
namespace Rows
def none {H : Type} : Left H := { results := [], args := [] }

/-- 'laws.FnLength': WHATEVER THE INPUT: true; the input reads as it did. -/
def fnLengthSpec : ChangeSpec := { name := "fnLength", fn := fun _ => fun
  | [d] => { results := [.lit (.bool true)], args := [d] }
  | _ => none }
def fnLengthRow : OpenClaim := { program := "ytgpkhbhihonglaa", sum := "f3d88076987914e5f570fcf5d4ffddc368c336a134c48740ea22a6739c42030e", func := "loop.example/replayverifier/laws.FnLength", spec := "fnLength", apart := false }
def FnLengthSaid : Prop := fnLengthRow.holds Try.pinned (OpenSpec.ofChange fnLengthSpec)

/-- ITS FALSE NEIGHBOUR: 'it returns false'. Refute it at one input. -/
def fnLengthWrong : ChangeSpec := { name := "fnLength", fn := fun _ => fun
  | [d] => { results := [.lit (.bool false)], args := [d] }
  | _ => none }
def FnLengthWrongFalsely : Prop := fnLengthRow.holds Try.pinned (OpenSpec.ofChange fnLengthWrong)

/-- 'laws.FnLengthSide': WHATEVER THE INPUT: true; the input reads as it did. -/
def fnLengthSideSpec : ChangeSpec := { name := "fnLengthSide", fn := fun _ => fun
  | [d] => { results := [.lit (.bool true)], args := [d] }
  | _ => none }
def fnLengthSideRow : OpenClaim := { program := "ytgpkhbhihonglaa", sum := "f3d88076987914e5f570fcf5d4ffddc368c336a134c48740ea22a6739c42030e", func := "loop.example/replayverifier/laws.FnLengthSide", spec := "fnLengthSide", apart := false }
def FnLengthSideSaid : Prop := fnLengthSideRow.holds Try.pinned (OpenSpec.ofChange fnLengthSideSpec)

/-- ITS FALSE NEIGHBOUR: 'it returns false'. Refute it at one input. -/
def fnLengthSideWrong : ChangeSpec := { name := "fnLengthSide", fn := fun _ => fun
  | [d] => { results := [.lit (.bool false)], args := [d] }
  | _ => none }
def FnLengthSideWrongFalsely : Prop := fnLengthSideRow.holds Try.pinned (OpenSpec.ofChange fnLengthSideWrong)

/-- 'laws.FnLengthTurn': WHATEVER THE INPUT: true; the input reads as it did. -/
def fnLengthTurnSpec : ChangeSpec := { name := "fnLengthTurn", fn := fun _ => fun
  | [d] => { results := [.lit (.bool true)], args := [d] }
  | _ => none }
def fnLengthTurnRow : OpenClaim := { program := "ytgpkhbhihonglaa", sum := "f3d88076987914e5f570fcf5d4ffddc368c336a134c48740ea22a6739c42030e", func := "loop.example/replayverifier/laws.FnLengthTurn", spec := "fnLengthTurn", apart := false }
def FnLengthTurnSaid : Prop := fnLengthTurnRow.holds Try.pinned (OpenSpec.ofChange fnLengthTurnSpec)

/-- ITS FALSE NEIGHBOUR: 'it returns false'. Refute it at one input. -/
def fnLengthTurnWrong : ChangeSpec := { name := "fnLengthTurn", fn := fun _ => fun
  | [d] => { results := [.lit (.bool false)], args := [d] }
  | _ => none }
def FnLengthTurnWrongFalsely : Prop := fnLengthTurnRow.holds Try.pinned (OpenSpec.ofChange fnLengthTurnWrong)

/-- 'laws.FnLengthSum': WHATEVER THE INPUT: true; the input reads as it did. -/
def fnLengthSumSpec : ChangeSpec := { name := "fnLengthSum", fn := fun _ => fun
  | [d] => { results := [.lit (.bool true)], args := [d] }
  | _ => none }
def fnLengthSumRow : OpenClaim := { program := "ytgpkhbhihonglaa", sum := "f3d88076987914e5f570fcf5d4ffddc368c336a134c48740ea22a6739c42030e", func := "loop.example/replayverifier/laws.FnLengthSum", spec := "fnLengthSum", apart := false }
def FnLengthSumSaid : Prop := fnLengthSumRow.holds Try.pinned (OpenSpec.ofChange fnLengthSumSpec)

/-- ITS FALSE NEIGHBOUR: 'it returns false'. Refute it at one input. -/
def fnLengthSumWrong : ChangeSpec := { name := "fnLengthSum", fn := fun _ => fun
  | [d] => { results := [.lit (.bool false)], args := [d] }
  | _ => none }
def FnLengthSumWrongFalsely : Prop := fnLengthSumRow.holds Try.pinned (OpenSpec.ofChange fnLengthSumWrong)

/-- 'laws.FnDotRight': WHATEVER THE INPUT: true; the input reads as it did. -/
def fnDotRightSpec : ChangeSpec := { name := "fnDotRight", fn := fun _ => fun
  | [d] => { results := [.lit (.bool true)], args := [d] }
  | _ => none }
def fnDotRightRow : OpenClaim := { program := "ytgpkhbhihonglaa", sum := "f3d88076987914e5f570fcf5d4ffddc368c336a134c48740ea22a6739c42030e", func := "loop.example/replayverifier/laws.FnDotRight", spec := "fnDotRight", apart := false }
def FnDotRightSaid : Prop := fnDotRightRow.holds Try.pinned (OpenSpec.ofChange fnDotRightSpec)

/-- ITS FALSE NEIGHBOUR: 'it returns false'. Refute it at one input. -/
def fnDotRightWrong : ChangeSpec := { name := "fnDotRight", fn := fun _ => fun
  | [d] => { results := [.lit (.bool false)], args := [d] }
  | _ => none }
def FnDotRightWrongFalsely : Prop := fnDotRightRow.holds Try.pinned (OpenSpec.ofChange fnDotRightWrong)

/- THE SECOND FORM. 'bulk': how many values and letters a reading holds, each counted each time it is reached (what is shared counts as often as it is met; a slice's spare places count too). A statement '..UptoSaid' is the law's where the arguments, and the package variables that the reading takes, are together of bulk at most 1048576: NARROWER than '..Said'. Prove '..Said' where nothing that the law and all that it calls make is longer than what came in: it says more and counts as full. Else prove '..UptoSaid'. A law counts once. -/
mutual
def uptoBulk {H : Type} : DataW H → Nat
  | .lit (.string bytes) => bytes.length + 1
  | .lit _ => 1
  | .nil => 1
  | .ptr d => uptoBulk d + 1
  | .slice elems spare => uptoBulkAll elems + uptoBulkAll spare + 1
  | .agg parts => uptoBulkAll parts + 1
  | .iface _ d => uptoBulk d + 1
  | .map entries => uptoBulkEntries entries + 1
  | .held _ => 1
def uptoBulkAll {H : Type} : List (DataW H) → Nat
  | [] => 0
  | d :: r => uptoBulk d + uptoBulkAll r
def uptoBulkEntries {H : Type} : List (Lit × DataW H) → Nat
  | [] => 0
  | x :: r => uptoBulkEntry x + uptoBulkEntries r
def uptoBulkEntry {H : Type} : Lit × DataW H → Nat
  | (.string bytes, d) => bytes.length + uptoBulk d + 1
  | (_, d) => uptoBulk d + 1
 end
def uptoSmall : (H : Type) → List (DataW H) → Bool := fun _ ds => decide (uptoBulkAll ds ≤ 1048576)
def OpenSpec.upto (s : _root_.Go.ChangeSpec) : _root_.Go.OpenSpec := { _root_.Go.OpenSpec.ofChange s with cond := some uptoSmall }

/-- 'laws.FnLength', WHERE WHAT IT READS IS OF BULK AT MOST 1048576: true; the input reads as it did. -/
def fnLengthUptoRow : OpenClaim := { program := "ytgpkhbhihonglaa", sum := "f3d88076987914e5f570fcf5d4ffddc368c336a134c48740ea22a6739c42030e", func := "loop.example/replayverifier/laws.FnLength", spec := "fnLength", apart := false, narrowed := true }
def FnLengthUptoSaid : Prop := fnLengthUptoRow.holds Try.pinned (OpenSpec.upto fnLengthSpec)

/-- 'laws.FnLengthSide', WHERE WHAT IT READS IS OF BULK AT MOST 1048576: true; the input reads as it did. -/
def fnLengthSideUptoRow : OpenClaim := { program := "ytgpkhbhihonglaa", sum := "f3d88076987914e5f570fcf5d4ffddc368c336a134c48740ea22a6739c42030e", func := "loop.example/replayverifier/laws.FnLengthSide", spec := "fnLengthSide", apart := false, narrowed := true }
def FnLengthSideUptoSaid : Prop := fnLengthSideUptoRow.holds Try.pinned (OpenSpec.upto fnLengthSideSpec)

/-- 'laws.FnLengthTurn', WHERE WHAT IT READS IS OF BULK AT MOST 1048576: true; the input reads as it did. -/
def fnLengthTurnUptoRow : OpenClaim := { program := "ytgpkhbhihonglaa", sum := "f3d88076987914e5f570fcf5d4ffddc368c336a134c48740ea22a6739c42030e", func := "loop.example/replayverifier/laws.FnLengthTurn", spec := "fnLengthTurn", apart := false, narrowed := true }
def FnLengthTurnUptoSaid : Prop := fnLengthTurnUptoRow.holds Try.pinned (OpenSpec.upto fnLengthTurnSpec)

/-- 'laws.FnLengthSum', WHERE WHAT IT READS IS OF BULK AT MOST 1048576: true; the input reads as it did. -/
def fnLengthSumUptoRow : OpenClaim := { program := "ytgpkhbhihonglaa", sum := "f3d88076987914e5f570fcf5d4ffddc368c336a134c48740ea22a6739c42030e", func := "loop.example/replayverifier/laws.FnLengthSum", spec := "fnLengthSum", apart := false, narrowed := true }
def FnLengthSumUptoSaid : Prop := fnLengthSumUptoRow.holds Try.pinned (OpenSpec.upto fnLengthSumSpec)

/-- 'laws.FnDotRight', WHERE WHAT IT READS IS OF BULK AT MOST 1048576: true; the input reads as it did. -/
def fnDotRightUptoRow : OpenClaim := { program := "ytgpkhbhihonglaa", sum := "f3d88076987914e5f570fcf5d4ffddc368c336a134c48740ea22a6739c42030e", func := "loop.example/replayverifier/laws.FnDotRight", spec := "fnDotRight", apart := false, narrowed := true }
def FnDotRightUptoSaid : Prop := fnDotRightUptoRow.holds Try.pinned (OpenSpec.upto fnDotRightSpec)

end Rows
end Go.Proofs.Ytgpkhbhihonglaa
