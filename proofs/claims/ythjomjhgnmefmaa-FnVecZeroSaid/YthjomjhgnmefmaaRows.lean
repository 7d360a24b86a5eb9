/-
  No cell of these rows narrows 'for every input' (looked for: loops, veiled, ifaces, maps, wideKeys, modest, calm, conditions, laid).
  DERIVED. THE GIVEN ROWS OF THIS SEAT. 7 by the template 'for every input the law returns true; each argument reads behind the call as it read before'; 0 by the template 'total and deterministic' (their statements: YthjomjhgnmefmaaTotals.lean).
  GIVEN WITH THE SEED: the statements are not yours to turn. If you find one false, say at which input.
  Laid BY PROGRAM, IN A SANDBOX (cutbox-rows.mjs): the forced cells as the released guide's own fill.sh prints them over the translation af8a9bd603b64962… (all of the seat's roots in one cut). By AI agents, Wed Nov 11 2026. No macro, syntax, notation, axiom, sorry.
-/
import Derived.Test.YthjomjhgnmefmaaChecked
import GoSem.Claim
import GoSem.ClaimJoined
import GoSem.ClaimMapViews
import Derived.JoinedTies
import Derived.KernelRfl
namespace Go.Proofs.Ythjomjhgnmefmaa
/- THE CELL 'sum', in the pinned program and in every row, IS THE sha256 OF THE DUMP (.gsa) THAT YthjomjhgnmefmaaProg.lean LOADS. Nothing in Lean hashes anything: it is a label: what it is worth is what the hold of that sum in a sandbox is worth. -/
noncomputable def Try.pinned : Pinned := { name := "ythjomjhgnmefmaa", sum := "af8a9bd603b64962afbe1e94b3fe8c6c8e97a83c965f1ac83c8d0360b2718fb7", checked := Try.checked }
namespace Rows
def none {H : Type} : Left H := { results := [], args := [] }

/-- 'laws.FnScaleOne': WHATEVER THE INPUT: true; the input reads as it did. -/
def fnScaleOneSpec : ChangeSpec := { name := "fnScaleOne", fn := fun _ => fun
  | [d] => { results := [.lit (.bool true)], args := [d] }
  | _ => none }
def fnScaleOneRow : OpenClaim := { program := "ythjomjhgnmefmaa", sum := "af8a9bd603b64962afbe1e94b3fe8c6c8e97a83c965f1ac83c8d0360b2718fb7", func := "loop.example/replayverifier/laws.FnScaleOne", spec := "fnScaleOne", apart := false }
def FnScaleOneSaid : Prop := fnScaleOneRow.holds Try.pinned (OpenSpec.ofChange fnScaleOneSpec)

/-- ITS FALSE NEIGHBOUR: 'it returns false'. Refute it at one input. -/
def fnScaleOneWrong : ChangeSpec := { name := "fnScaleOne", fn := fun _ => fun
  | [d] => { results := [.lit (.bool false)], args := [d] }
  | _ => none }
def FnScaleOneWrongFalsely : Prop := fnScaleOneRow.holds Try.pinned (OpenSpec.ofChange fnScaleOneWrong)

/-- 'laws.FnScale': WHATEVER THE INPUT: true; the input reads as it did. -/
def fnScaleSpec : ChangeSpec := { name := "fnScale", fn := fun _ => fun
  | [d] => { results := [.lit (.bool true)], args := [d] }
  | _ => none }
def fnScaleRow : OpenClaim := { program := "ythjomjhgnmefmaa", sum := "af8a9bd603b64962afbe1e94b3fe8c6c8e97a83c965f1ac83c8d0360b2718fb7", func := "loop.example/replayverifier/laws.FnScale", spec := "fnScale", apart := false }
def FnScaleSaid : Prop := fnScaleRow.holds Try.pinned (OpenSpec.ofChange fnScaleSpec)

/-- ITS FALSE NEIGHBOUR: 'it returns false'. Refute it at one input. -/
def fnScaleWrong : ChangeSpec := { name := "fnScale", fn := fun _ => fun
  | [d] => { results := [.lit (.bool false)], args := [d] }
  | _ => none }
def FnScaleWrongFalsely : Prop := fnScaleRow.holds Try.pinned (OpenSpec.ofChange fnScaleWrong)

/-- 'laws.FnDot': WHATEVER THE INPUT: true; the input reads as it did. -/
def fnDotSpec : ChangeSpec := { name := "fnDot", fn := fun _ => fun
  | [d] => { results := [.lit (.bool true)], args := [d] }
  | _ => none }
def fnDotRow : OpenClaim := { program := "ythjomjhgnmefmaa", sum := "af8a9bd603b64962afbe1e94b3fe8c6c8e97a83c965f1ac83c8d0360b2718fb7", func := "loop.example/replayverifier/laws.FnDot", spec := "fnDot", apart := false }
def FnDotSaid : Prop := fnDotRow.holds Try.pinned (OpenSpec.ofChange fnDotSpec)

/-- ITS FALSE NEIGHBOUR: 'it returns false'. Refute it at one input. -/
def fnDotWrong : ChangeSpec := { name := "fnDot", fn := fun _ => fun
  | [d] => { results := [.lit (.bool false)], args := [d] }
  | _ => none }
def FnDotWrongFalsely : Prop := fnDotRow.holds Try.pinned (OpenSpec.ofChange fnDotWrong)

/-- 'laws.FnDotSelf': WHATEVER THE INPUT: true; the input reads as it did. -/
def fnDotSelfSpec : ChangeSpec := { name := "fnDotSelf", fn := fun _ => fun
  | [d] => { results := [.lit (.bool true)], args := [d] }
  | _ => none }
def fnDotSelfRow : OpenClaim := { program := "ythjomjhgnmefmaa", sum := "af8a9bd603b64962afbe1e94b3fe8c6c8e97a83c965f1ac83c8d0360b2718fb7", func := "loop.example/replayverifier/laws.FnDotSelf", spec := "fnDotSelf", apart := false }
def FnDotSelfSaid : Prop := fnDotSelfRow.holds Try.pinned (OpenSpec.ofChange fnDotSelfSpec)

/-- ITS FALSE NEIGHBOUR: 'it returns false'. Refute it at one input. -/
def fnDotSelfWrong : ChangeSpec := { name := "fnDotSelf", fn := fun _ => fun
  | [d] => { results := [.lit (.bool false)], args := [d] }
  | _ => none }
def FnDotSelfWrongFalsely : Prop := fnDotSelfRow.holds Try.pinned (OpenSpec.ofChange fnDotSelfWrong)

/-- 'laws.FnVecAdd': WHATEVER THE INPUT: true; the input reads as it did. -/
def fnVecAddSpec : ChangeSpec := { name := "fnVecAdd", fn := fun _ => fun
  | [d] => { results := [.lit (.bool true)], args := [d] }
  | _ => none }
def fnVecAddRow : OpenClaim := { program := "ythjomjhgnmefmaa", sum := "af8a9bd603b64962afbe1e94b3fe8c6c8e97a83c965f1ac83c8d0360b2718fb7", func := "loop.example/replayverifier/laws.FnVecAdd", spec := "fnVecAdd", apart := false }
def FnVecAddSaid : Prop := fnVecAddRow.holds Try.pinned (OpenSpec.ofChange fnVecAddSpec)

/-- ITS FALSE NEIGHBOUR: 'it returns false'. Refute it at one input. -/
def fnVecAddWrong : ChangeSpec := { name := "fnVecAdd", fn := fun _ => fun
  | [d] => { results := [.lit (.bool false)], args := [d] }
  | _ => none }
def FnVecAddWrongFalsely : Prop := fnVecAddRow.holds Try.pinned (OpenSpec.ofChange fnVecAddWrong)

/-- 'laws.FnVecAddBack': WHATEVER THE INPUT: true; the input reads as it did. -/
def fnVecAddBackSpec : ChangeSpec := { name := "fnVecAddBack", fn := fun _ => fun
  | [d] => { results := [.lit (.bool true)], args := [d] }
  | _ => none }
def fnVecAddBackRow : OpenClaim := { program := "ythjomjhgnmefmaa", sum := "af8a9bd603b64962afbe1e94b3fe8c6c8e97a83c965f1ac83c8d0360b2718fb7", func := "loop.example/replayverifier/laws.FnVecAddBack", spec := "fnVecAddBack", apart := false }
def FnVecAddBackSaid : Prop := fnVecAddBackRow.holds Try.pinned (OpenSpec.ofChange fnVecAddBackSpec)

/-- ITS FALSE NEIGHBOUR: 'it returns false'. Refute it at one input. -/
def fnVecAddBackWrong : ChangeSpec := { name := "fnVecAddBack", fn := fun _ => fun
  | [d] => { results := [.lit (.bool false)], args := [d] }
  | _ => none }
def FnVecAddBackWrongFalsely : Prop := fnVecAddBackRow.holds Try.pinned (OpenSpec.ofChange fnVecAddBackWrong)

/-- 'laws.FnVecZero': WHATEVER THE INPUT: true; the input reads as it did. -/
def fnVecZeroSpec : ChangeSpec := { name := "fnVecZero", fn := fun _ => fun
  | [d] => { results := [.lit (.bool true)], args := [d] }
  | _ => none }
def fnVecZeroRow : OpenClaim := { program := "ythjomjhgnmefmaa", sum := "af8a9bd603b64962afbe1e94b3fe8c6c8e97a83c965f1ac83c8d0360b2718fb7", func := "loop.example/replayverifier/laws.FnVecZero", spec := "fnVecZero", apart := false }
def FnVecZeroSaid : Prop := fnVecZeroRow.holds Try.pinned (OpenSpec.ofChange fnVecZeroSpec)

/-- ITS FALSE NEIGHBOUR: 'it returns false'. Refute it at one input. -/
def fnVecZeroWrong : ChangeSpec := { name := "fnVecZero", fn := fun _ => fun
  | [d] => { results := [.lit (.bool false)], args := [d] }
  | _ => none }
def FnVecZeroWrongFalsely : Prop := fnVecZeroRow.holds Try.pinned (OpenSpec.ofChange fnVecZeroWrong)

/- THE SECOND FORM. 'bulk': how many values and letters a reading holds, each counted each time it is reached (what is shared counts as often as it is met; a slice's spare places count too). A statement '..UptoSaid' is the law's where the arguments, and the package variables that the reading takes, are together of bulk at most 1048576: NARROWER than '..Said'. Prove '..Said' where nothing that the law and all that it calls make is longer than what came in: it says more and counts as full. Else prove '..UptoSaid'. A law counts once. -/
mutual
def uptoBulk {H : Type} : DataW H → Nat
  | .lit (.string bytes) => bytes.length + 1
  | .lit _ => 1
  | .nil => 1
  | .ptr d => uptoBulk d + 1
  | .slice elems spare => uptoBulkAll elems + uptoBulkAll spare + 1
  | .agg parts => uptoBulkAll parts + 1
  | .iface _ d => uptoBulk d + 1
  | .map entries => uptoBulkEntries entries + 1
  | .held _ => 1
def uptoBulkAll {H : Type} : List (DataW H) → Nat
  | [] => 0
  | d :: r => uptoBulk d + uptoBulkAll r
def uptoBulkEntries {H : Type} : List (Lit × DataW H) → Nat
  | [] => 0
  | x :: r => uptoBulkEntry x + uptoBulkEntries r
def uptoBulkEntry {H : Type} : Lit × DataW H → Nat
  | (.string bytes, d) => bytes.length + uptoBulk d + 1
  | (_, d) => uptoBulk d + 1
 end
def uptoSmall : (H : Type) → List (DataW H) → Bool := fun _ ds => decide (uptoBulkAll ds ≤ 1048576)
def OpenSpec.upto (s : _root_.Go.ChangeSpec) : _root_.Go.OpenSpec := { _root_.Go.OpenSpec.ofChange s with cond := some uptoSmall }

/-- 'laws.FnScaleOne', WHERE WHAT IT READS IS OF BULK AT MOST 1048576: true; the input reads as it did. -/
def fnScaleOneUptoRow : OpenClaim := { program := "ythjomjhgnmefmaa", sum := "af8a9bd603b64962afbe1e94b3fe8c6c8e97a83c965f1ac83c8d0360b2718fb7", func := "loop.example/replayverifier/laws.FnScaleOne", spec := "fnScaleOne", apart := false, narrowed := true }
def FnScaleOneUptoSaid : Prop := fnScaleOneUptoRow.holds Try.pinned (OpenSpec.upto fnScaleOneSpec)

/-- 'laws.FnScale', WHERE WHAT IT READS IS OF BULK AT MOST 1048576: true; the input reads as it did. -/
def fnScaleUptoRow : OpenClaim := { program := "ythjomjhgnmefmaa", sum := "af8a9bd603b64962afbe1e94b3fe8c6c8e97a83c965f1ac83c8d0360b2718fb7", func := "loop.example/replayverifier/laws.FnScale", spec := "fnScale", apart := false, narrowed := true }
def FnScaleUptoSaid : Prop := fnScaleUptoRow.holds Try.pinned (OpenSpec.upto fnScaleSpec)

/-- 'laws.FnDot', WHERE WHAT IT READS IS OF BULK AT MOST 1048576: true; the input reads as it did. -/
def fnDotUptoRow : OpenClaim := { program := "ythjomjhgnmefmaa", sum := "af8a9bd603b64962afbe1e94b3fe8c6c8e97a83c965f1ac83c8d0360b2718fb7", func := "loop.example/replayverifier/laws.FnDot", spec := "fnDot", apart := false, narrowed := true }
def FnDotUptoSaid : Prop := fnDotUptoRow.holds Try.pinned (OpenSpec.upto fnDotSpec)

/-- 'laws.FnDotSelf', WHERE WHAT IT READS IS OF BULK AT MOST 1048576: true; the input reads as it did. -/
def fnDotSelfUptoRow : OpenClaim := { program := "ythjomjhgnmefmaa", sum := "af8a9bd603b64962afbe1e94b3fe8c6c8e97a83c965f1ac83c8d0360b2718fb7", func := "loop.example/replayverifier/laws.FnDotSelf", spec := "fnDotSelf", apart := false, narrowed := true }
def FnDotSelfUptoSaid : Prop := fnDotSelfUptoRow.holds Try.pinned (OpenSpec.upto fnDotSelfSpec)

/-- 'laws.FnVecAdd', WHERE WHAT IT READS IS OF BULK AT MOST 1048576: true; the input reads as it did. -/
def fnVecAddUptoRow : OpenClaim := { program := "ythjomjhgnmefmaa", sum := "af8a9bd603b64962afbe1e94b3fe8c6c8e97a83c965f1ac83c8d0360b2718fb7", func := "loop.example/replayverifier/laws.FnVecAdd", spec := "fnVecAdd", apart := false, narrowed := true }
def FnVecAddUptoSaid : Prop := fnVecAddUptoRow.holds Try.pinned (OpenSpec.upto fnVecAddSpec)

/-- 'laws.FnVecAddBack', WHERE WHAT IT READS IS OF BULK AT MOST 1048576: true; the input reads as it did. -/
def fnVecAddBackUptoRow : OpenClaim := { program := "ythjomjhgnmefmaa", sum := "af8a9bd603b64962afbe1e94b3fe8c6c8e97a83c965f1ac83c8d0360b2718fb7", func := "loop.example/replayverifier/laws.FnVecAddBack", spec := "fnVecAddBack", apart := false, narrowed := true }
def FnVecAddBackUptoSaid : Prop := fnVecAddBackUptoRow.holds Try.pinned (OpenSpec.upto fnVecAddBackSpec)

/-- 'laws.FnVecZero', WHERE WHAT IT READS IS OF BULK AT MOST 1048576: true; the input reads as it did. -/
def fnVecZeroUptoRow : OpenClaim := { program := "ythjomjhgnmefmaa", sum := "af8a9bd603b64962afbe1e94b3fe8c6c8e97a83c965f1ac83c8d0360b2718fb7", func := "loop.example/replayverifier/laws.FnVecZero", spec := "fnVecZero", apart := false, narrowed := true }
def FnVecZeroUptoSaid : Prop := fnVecZeroUptoRow.holds Try.pinned (OpenSpec.upto fnVecZeroSpec)

end Rows
end Go.Proofs.Ythjomjhgnmefmaa
