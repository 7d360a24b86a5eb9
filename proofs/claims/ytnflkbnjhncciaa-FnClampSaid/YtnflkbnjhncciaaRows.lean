/-
  No cell of these rows narrows 'for every input' (looked for: loops, veiled, ifaces, maps, wideKeys, modest, calm, conditions, laid).
  DERIVED. THE GIVEN ROWS OF THIS SEAT. 6 by the template 'for every input the law returns true; each argument reads behind the call as it read before'; 0 by the template 'total and deterministic' (their statements: YtnflkbnjhncciaaTotals.lean).
  GIVEN WITH THE SEED: the statements are not yours to turn. If you find one false, say at which input.
  Laid BY PROGRAM, IN A SANDBOX (cutbox-rows.mjs): the forced cells as the released guide's own fill.sh prints them over the translation 9719f5d07d250541… (all of the seat's roots in one cut). By AI agents, Wed Nov 11 2026. No macro, syntax, notation, axiom, sorry.
-/
import Derived.Test.YtnflkbnjhncciaaChecked
import GoSem.Claim
import GoSem.ClaimJoined
import GoSem.ClaimMapViews
import Derived.JoinedTies
import Derived.KernelRfl
namespace Go.Proofs.Ytnflkbnjhncciaa
/- THE CELL 'sum', in the pinned program and in every row, IS THE sha256 OF THE DUMP (.gsa) THAT YtnflkbnjhncciaaProg.lean LOADS. Nothing in Lean hashes anything: it is a label: what it is worth is what the hold of that sum in a sandbox is worth. -/
noncomputable def Try.pinned : Pinned := { name := "ytnflkbnjhncciaa", sum := "9719f5d07d25054116cdb5f853d338172b9deb96cacab91cba3abb2809eacf3b", checked := Try.checked }
namespace Rows
def none {H : Type} : Left H := { results := [], args := [] }

/-- 'laws.FnExactVecAdd': WHATEVER THE INPUT: true; the input reads as it did. -/
def fnExactVecAddSpec : ChangeSpec := { name := "fnExactVecAdd", fn := fun _ => fun
  | [d1, d2] => { results := [.lit (.bool true)], args := [d1, d2] }
  | _ => none }
def fnExactVecAddRow : OpenClaim := { program := "ytnflkbnjhncciaa", sum := "9719f5d07d25054116cdb5f853d338172b9deb96cacab91cba3abb2809eacf3b", func := "loop.example/replayverifier/laws.FnExactVecAdd", spec := "fnExactVecAdd", apart := false }
def FnExactVecAddSaid : Prop := fnExactVecAddRow.holds Try.pinned (OpenSpec.ofChange fnExactVecAddSpec)

/-- ITS FALSE NEIGHBOUR: 'it returns false'. Refute it at one input. -/
def fnExactVecAddWrong : ChangeSpec := { name := "fnExactVecAdd", fn := fun _ => fun
  | [d1, d2] => { results := [.lit (.bool false)], args := [d1, d2] }
  | _ => none }
def FnExactVecAddWrongFalsely : Prop := fnExactVecAddRow.holds Try.pinned (OpenSpec.ofChange fnExactVecAddWrong)

/-- 'laws.FnExactVecLength': WHATEVER THE INPUT: true; the input reads as it did. -/
def fnExactVecLengthSpec : ChangeSpec := { name := "fnExactVecLength", fn := fun _ => fun
  | [d] => { results := [.lit (.bool true)], args := [d] }
  | _ => none }
def fnExactVecLengthRow : OpenClaim := { program := "ytnflkbnjhncciaa", sum := "9719f5d07d25054116cdb5f853d338172b9deb96cacab91cba3abb2809eacf3b", func := "loop.example/replayverifier/laws.FnExactVecLength", spec := "fnExactVecLength", apart := false }
def FnExactVecLengthSaid : Prop := fnExactVecLengthRow.holds Try.pinned (OpenSpec.ofChange fnExactVecLengthSpec)

/-- ITS FALSE NEIGHBOUR: 'it returns false'. Refute it at one input. -/
def fnExactVecLengthWrong : ChangeSpec := { name := "fnExactVecLength", fn := fun _ => fun
  | [d] => { results := [.lit (.bool false)], args := [d] }
  | _ => none }
def FnExactVecLengthWrongFalsely : Prop := fnExactVecLengthRow.holds Try.pinned (OpenSpec.ofChange fnExactVecLengthWrong)

/-- 'laws.FnClampTwice': WHATEVER THE INPUT: true; the input reads as it did. -/
def fnClampTwiceSpec : ChangeSpec := { name := "fnClampTwice", fn := fun _ => fun
  | [d] => { results := [.lit (.bool true)], args := [d] }
  | _ => none }
def fnClampTwiceRow : OpenClaim := { program := "ytnflkbnjhncciaa", sum := "9719f5d07d25054116cdb5f853d338172b9deb96cacab91cba3abb2809eacf3b", func := "loop.example/replayverifier/laws.FnClampTwice", spec := "fnClampTwice", apart := false }
def FnClampTwiceSaid : Prop := fnClampTwiceRow.holds Try.pinned (OpenSpec.ofChange fnClampTwiceSpec)

/-- ITS FALSE NEIGHBOUR: 'it returns false'. Refute it at one input. -/
def fnClampTwiceWrong : ChangeSpec := { name := "fnClampTwice", fn := fun _ => fun
  | [d] => { results := [.lit (.bool false)], args := [d] }
  | _ => none }
def FnClampTwiceWrongFalsely : Prop := fnClampTwiceRow.holds Try.pinned (OpenSpec.ofChange fnClampTwiceWrong)

/-- 'laws.FnExactVecScale': WHATEVER THE INPUT: true; the input reads as it did. -/
def fnExactVecScaleSpec : ChangeSpec := { name := "fnExactVecScale", fn := fun _ => fun
  | [d1, d2] => { results := [.lit (.bool true)], args := [d1, d2] }
  | _ => none }
def fnExactVecScaleRow : OpenClaim := { program := "ytnflkbnjhncciaa", sum := "9719f5d07d25054116cdb5f853d338172b9deb96cacab91cba3abb2809eacf3b", func := "loop.example/replayverifier/laws.FnExactVecScale", spec := "fnExactVecScale", apart := false }
def FnExactVecScaleSaid : Prop := fnExactVecScaleRow.holds Try.pinned (OpenSpec.ofChange fnExactVecScaleSpec)

/-- ITS FALSE NEIGHBOUR: 'it returns false'. Refute it at one input. -/
def fnExactVecScaleWrong : ChangeSpec := { name := "fnExactVecScale", fn := fun _ => fun
  | [d1, d2] => { results := [.lit (.bool false)], args := [d1, d2] }
  | _ => none }
def FnExactVecScaleWrongFalsely : Prop := fnExactVecScaleRow.holds Try.pinned (OpenSpec.ofChange fnExactVecScaleWrong)

/-- 'laws.FnExactVecClamp': WHATEVER THE INPUT: true; the input reads as it did. -/
def fnExactVecClampSpec : ChangeSpec := { name := "fnExactVecClamp", fn := fun _ => fun
  | [d1, d2] => { results := [.lit (.bool true)], args := [d1, d2] }
  | _ => none }
def fnExactVecClampRow : OpenClaim := { program := "ytnflkbnjhncciaa", sum := "9719f5d07d25054116cdb5f853d338172b9deb96cacab91cba3abb2809eacf3b", func := "loop.example/replayverifier/laws.FnExactVecClamp", spec := "fnExactVecClamp", apart := false }
def FnExactVecClampSaid : Prop := fnExactVecClampRow.holds Try.pinned (OpenSpec.ofChange fnExactVecClampSpec)

/-- ITS FALSE NEIGHBOUR: 'it returns false'. Refute it at one input. -/
def fnExactVecClampWrong : ChangeSpec := { name := "fnExactVecClamp", fn := fun _ => fun
  | [d1, d2] => { results := [.lit (.bool false)], args := [d1, d2] }
  | _ => none }
def FnExactVecClampWrongFalsely : Prop := fnExactVecClampRow.holds Try.pinned (OpenSpec.ofChange fnExactVecClampWrong)

/-- 'laws.FnClamp': WHATEVER THE INPUT: true; the input reads as it did. -/
def fnClampSpec : ChangeSpec := { name := "fnClamp", fn := fun _ => fun
  | [d] => { results := [.lit (.bool true)], args := [d] }
  | _ => none }
def fnClampRow : OpenClaim := { program := "ytnflkbnjhncciaa", sum := "9719f5d07d25054116cdb5f853d338172b9deb96cacab91cba3abb2809eacf3b", func := "loop.example/replayverifier/laws.FnClamp", spec := "fnClamp", apart := false }
def FnClampSaid : Prop := fnClampRow.holds Try.pinned (OpenSpec.ofChange fnClampSpec)

/-- ITS FALSE NEIGHBOUR: 'it returns false'. Refute it at one input. -/
def fnClampWrong : ChangeSpec := { name := "fnClamp", fn := fun _ => fun
  | [d] => { results := [.lit (.bool false)], args := [d] }
  | _ => none }
def FnClampWrongFalsely : Prop := fnClampRow.holds Try.pinned (OpenSpec.ofChange fnClampWrong)

/- THE SECOND FORM. 'bulk': how many values and letters a reading holds, each counted each time it is reached (what is shared counts as often as it is met; a slice's spare places count too). A statement '..UptoSaid' is the law's where the arguments, and the package variables that the reading takes, are together of bulk at most 1048576: NARROWER than '..Said'. Prove '..Said' where nothing that the law and all that it calls make is longer than what came in: it says more and counts as full. Else prove '..UptoSaid'. A law counts once. -/
mutual
def uptoBulk {H : Type} : DataW H → Nat
  | .lit (.string bytes) => bytes.length + 1
  | .lit _ => 1
  | .nil => 1
  | .ptr d => uptoBulk d + 1
  | .slice elems spare => uptoBulkAll elems + uptoBulkAll spare + 1
  | .agg parts => uptoBulkAll parts + 1
  | .iface _ d => uptoBulk d + 1
  | .map entries => uptoBulkEntries entries + 1
  | .held _ => 1
def uptoBulkAll {H : Type} : List (DataW H) → Nat
  | [] => 0
  | d :: r => uptoBulk d + uptoBulkAll r
def uptoBulkEntries {H : Type} : List (Lit × DataW H) → Nat
  | [] => 0
  | x :: r => uptoBulkEntry x + uptoBulkEntries r
def uptoBulkEntry {H : Type} : Lit × DataW H → Nat
  | (.string bytes, d) => bytes.length + uptoBulk d + 1
  | (_, d) => uptoBulk d + 1
 end
def uptoSmall : (H : Type) → List (DataW H) → Bool := fun _ ds => decide (uptoBulkAll ds ≤ 1048576)
def OpenSpec.upto (s : _root_.Go.ChangeSpec) : _root_.Go.OpenSpec := { _root_.Go.OpenSpec.ofChange s with cond := some uptoSmall }

/-- 'laws.FnExactVecAdd', WHERE WHAT IT READS IS OF BULK AT MOST 1048576: true; the input reads as it did. -/
def fnExactVecAddUptoRow : OpenClaim := { program := "ytnflkbnjhncciaa", sum := "9719f5d07d25054116cdb5f853d338172b9deb96cacab91cba3abb2809eacf3b", func := "loop.example/replayverifier/laws.FnExactVecAdd", spec := "fnExactVecAdd", apart := false, narrowed := true }
def FnExactVecAddUptoSaid : Prop := fnExactVecAddUptoRow.holds Try.pinned (OpenSpec.upto fnExactVecAddSpec)

/-- 'laws.FnExactVecLength', WHERE WHAT IT READS IS OF BULK AT MOST 1048576: true; the input reads as it did. -/
def fnExactVecLengthUptoRow : OpenClaim := { program := "ytnflkbnjhncciaa", sum := "9719f5d07d25054116cdb5f853d338172b9deb96cacab91cba3abb2809eacf3b", func := "loop.example/replayverifier/laws.FnExactVecLength", spec := "fnExactVecLength", apart := false, narrowed := true }
def FnExactVecLengthUptoSaid : Prop := fnExactVecLengthUptoRow.holds Try.pinned (OpenSpec.upto fnExactVecLengthSpec)

/-- 'laws.FnClampTwice', WHERE WHAT IT READS IS OF BULK AT MOST 1048576: true; the input reads as it did. -/
def fnClampTwiceUptoRow : OpenClaim := { program := "ytnflkbnjhncciaa", sum := "9719f5d07d25054116cdb5f853d338172b9deb96cacab91cba3abb2809eacf3b", func := "loop.example/replayverifier/laws.FnClampTwice", spec := "fnClampTwice", apart := false, narrowed := true }
def FnClampTwiceUptoSaid : Prop := fnClampTwiceUptoRow.holds Try.pinned (OpenSpec.upto fnClampTwiceSpec)

/-- 'laws.FnExactVecScale', WHERE WHAT IT READS IS OF BULK AT MOST 1048576: true; the input reads as it did. -/
def fnExactVecScaleUptoRow : OpenClaim := { program := "ytnflkbnjhncciaa", sum := "9719f5d07d25054116cdb5f853d338172b9deb96cacab91cba3abb2809eacf3b", func := "loop.example/replayverifier/laws.FnExactVecScale", spec := "fnExactVecScale", apart := false, narrowed := true }
def FnExactVecScaleUptoSaid : Prop := fnExactVecScaleUptoRow.holds Try.pinned (OpenSpec.upto fnExactVecScaleSpec)

/-- 'laws.FnExactVecClamp', WHERE WHAT IT READS IS OF BULK AT MOST 1048576: true; the input reads as it did. -/
def fnExactVecClampUptoRow : OpenClaim := { program := "ytnflkbnjhncciaa", sum := "9719f5d07d25054116cdb5f853d338172b9deb96cacab91cba3abb2809eacf3b", func := "loop.example/replayverifier/laws.FnExactVecClamp", spec := "fnExactVecClamp", apart := false, narrowed := true }
def FnExactVecClampUptoSaid : Prop := fnExactVecClampUptoRow.holds Try.pinned (OpenSpec.upto fnExactVecClampSpec)

/-- 'laws.FnClamp', WHERE WHAT IT READS IS OF BULK AT MOST 1048576: true; the input reads as it did. -/
def fnClampUptoRow : OpenClaim := { program := "ytnflkbnjhncciaa", sum := "9719f5d07d25054116cdb5f853d338172b9deb96cacab91cba3abb2809eacf3b", func := "loop.example/replayverifier/laws.FnClamp", spec := "fnClamp", apart := false, narrowed := true }
def FnClampUptoSaid : Prop := fnClampUptoRow.holds Try.pinned (OpenSpec.upto fnClampSpec)

end Rows
end Go.Proofs.Ytnflkbnjhncciaa
