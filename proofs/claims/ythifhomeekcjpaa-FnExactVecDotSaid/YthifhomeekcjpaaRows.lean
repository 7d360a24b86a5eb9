/-
  No cell of these rows narrows 'for every input' (looked for: loops, veiled, ifaces, maps, wideKeys, modest, calm, conditions, laid).
  DERIVED. THE GIVEN ROWS OF THIS SEAT. 12 by the template 'for every input the law returns true; each argument reads behind the call as it read before'; 0 by the template 'total and deterministic' (their statements: YthifhomeekcjpaaTotals.lean).
  GIVEN WITH THE SEED: the statements are not yours to turn. If you find one false, say at which input.
  Laid BY PROGRAM, IN A SANDBOX (cutbox-rows.mjs): the forced cells as the released guide's own fill.sh prints them over the translation ef6f3e841b8ae506… (all of the seat's roots in one cut). By AI agents, Wed Nov 11 2026. No macro, syntax, notation, axiom, sorry.
-/
import Derived.Test.YthifhomeekcjpaaChecked
import GoSem.Claim
import GoSem.ClaimJoined
import GoSem.ClaimMapViews
import Derived.JoinedTies
import Derived.KernelRfl
namespace Go.Proofs.Ythifhomeekcjpaa
/- THE CELL 'sum', in the pinned program and in every row, IS THE sha256 OF THE DUMP (.gsa) THAT YthifhomeekcjpaaProg.lean LOADS. Nothing in Lean hashes anything: it is a label: what it is worth is what the hold of that sum in a sandbox is worth. -/
noncomputable def Try.pinned : Pinned := { name := "ythifhomeekcjpaa", sum := "ef6f3e841b8ae50655d91e10a8c1033bc3ca06a04486978e1584c04575aacf46", checked := Try.checked }
namespace Rows
def none {H : Type} : Left H := { results := [], args := [] }

/-- 'laws.FnExactConstants': WHATEVER THE INPUT: true; the input reads as it did. -/
def fnExactConstantsSpec : ChangeSpec := { name := "fnExactConstants", fn := fun _ => fun
  | [] => { results := [.lit (.bool true)], args := [] }
  | _ => none }
def fnExactConstantsRow : OpenClaim := { program := "ythifhomeekcjpaa", sum := "ef6f3e841b8ae50655d91e10a8c1033bc3ca06a04486978e1584c04575aacf46", func := "loop.example/replayverifier/laws.FnExactConstants", spec := "fnExactConstants", apart := false }
def FnExactConstantsSaid : Prop := fnExactConstantsRow.holds Try.pinned (OpenSpec.ofChange fnExactConstantsSpec)

/-- ITS FALSE NEIGHBOUR: 'it returns false'. Refute it at one input. -/
def fnExactConstantsWrong : ChangeSpec := { name := "fnExactConstants", fn := fun _ => fun
  | [] => { results := [.lit (.bool false)], args := [] }
  | _ => none }
def FnExactConstantsWrongFalsely : Prop := fnExactConstantsRow.holds Try.pinned (OpenSpec.ofChange fnExactConstantsWrong)

/-- 'laws.FnExactFixOk': WHATEVER THE INPUT: true; the input reads as it did. -/
def fnExactFixOkSpec : ChangeSpec := { name := "fnExactFixOk", fn := fun _ => fun
  | [d] => { results := [.lit (.bool true)], args := [d] }
  | _ => none }
def fnExactFixOkRow : OpenClaim := { program := "ythifhomeekcjpaa", sum := "ef6f3e841b8ae50655d91e10a8c1033bc3ca06a04486978e1584c04575aacf46", func := "loop.example/replayverifier/laws.FnExactFixOk", spec := "fnExactFixOk", apart := false }
def FnExactFixOkSaid : Prop := fnExactFixOkRow.holds Try.pinned (OpenSpec.ofChange fnExactFixOkSpec)

/-- ITS FALSE NEIGHBOUR: 'it returns false'. Refute it at one input. -/
def fnExactFixOkWrong : ChangeSpec := { name := "fnExactFixOk", fn := fun _ => fun
  | [d] => { results := [.lit (.bool false)], args := [d] }
  | _ => none }
def FnExactFixOkWrongFalsely : Prop := fnExactFixOkRow.holds Try.pinned (OpenSpec.ofChange fnExactFixOkWrong)

/-- 'laws.FnExactVecOk': WHATEVER THE INPUT: true; the input reads as it did. -/
def fnExactVecOkSpec : ChangeSpec := { name := "fnExactVecOk", fn := fun _ => fun
  | [d] => { results := [.lit (.bool true)], args := [d] }
  | _ => none }
def fnExactVecOkRow : OpenClaim := { program := "ythifhomeekcjpaa", sum := "ef6f3e841b8ae50655d91e10a8c1033bc3ca06a04486978e1584c04575aacf46", func := "loop.example/replayverifier/laws.FnExactVecOk", spec := "fnExactVecOk", apart := false }
def FnExactVecOkSaid : Prop := fnExactVecOkRow.holds Try.pinned (OpenSpec.ofChange fnExactVecOkSpec)

/-- ITS FALSE NEIGHBOUR: 'it returns false'. Refute it at one input. -/
def fnExactVecOkWrong : ChangeSpec := { name := "fnExactVecOk", fn := fun _ => fun
  | [d] => { results := [.lit (.bool false)], args := [d] }
  | _ => none }
def FnExactVecOkWrongFalsely : Prop := fnExactVecOkRow.holds Try.pinned (OpenSpec.ofChange fnExactVecOkWrong)

/-- 'laws.FnExactFixAdd': WHATEVER THE INPUT: true; the input reads as it did. -/
def fnExactFixAddSpec : ChangeSpec := { name := "fnExactFixAdd", fn := fun _ => fun
  | [d1, d2] => { results := [.lit (.bool true)], args := [d1, d2] }
  | _ => none }
def fnExactFixAddRow : OpenClaim := { program := "ythifhomeekcjpaa", sum := "ef6f3e841b8ae50655d91e10a8c1033bc3ca06a04486978e1584c04575aacf46", func := "loop.example/replayverifier/laws.FnExactFixAdd", spec := "fnExactFixAdd", apart := false }
def FnExactFixAddSaid : Prop := fnExactFixAddRow.holds Try.pinned (OpenSpec.ofChange fnExactFixAddSpec)

/-- ITS FALSE NEIGHBOUR: 'it returns false'. Refute it at one input. -/
def fnExactFixAddWrong : ChangeSpec := { name := "fnExactFixAdd", fn := fun _ => fun
  | [d1, d2] => { results := [.lit (.bool false)], args := [d1, d2] }
  | _ => none }
def FnExactFixAddWrongFalsely : Prop := fnExactFixAddRow.holds Try.pinned (OpenSpec.ofChange fnExactFixAddWrong)

/-- 'laws.FnExactBoxValid': WHATEVER THE INPUT: true; the input reads as it did. -/
def fnExactBoxValidSpec : ChangeSpec := { name := "fnExactBoxValid", fn := fun _ => fun
  | [d] => { results := [.lit (.bool true)], args := [d] }
  | _ => none }
def fnExactBoxValidRow : OpenClaim := { program := "ythifhomeekcjpaa", sum := "ef6f3e841b8ae50655d91e10a8c1033bc3ca06a04486978e1584c04575aacf46", func := "loop.example/replayverifier/laws.FnExactBoxValid", spec := "fnExactBoxValid", apart := false }
def FnExactBoxValidSaid : Prop := fnExactBoxValidRow.holds Try.pinned (OpenSpec.ofChange fnExactBoxValidSpec)

/-- ITS FALSE NEIGHBOUR: 'it returns false'. Refute it at one input. -/
def fnExactBoxValidWrong : ChangeSpec := { name := "fnExactBoxValid", fn := fun _ => fun
  | [d] => { results := [.lit (.bool false)], args := [d] }
  | _ => none }
def FnExactBoxValidWrongFalsely : Prop := fnExactBoxValidRow.holds Try.pinned (OpenSpec.ofChange fnExactBoxValidWrong)

/-- 'laws.FnExactVecDot': WHATEVER THE INPUT: true; the input reads as it did. -/
def fnExactVecDotSpec : ChangeSpec := { name := "fnExactVecDot", fn := fun _ => fun
  | [d1, d2] => { results := [.lit (.bool true)], args := [d1, d2] }
  | _ => none }
def fnExactVecDotRow : OpenClaim := { program := "ythifhomeekcjpaa", sum := "ef6f3e841b8ae50655d91e10a8c1033bc3ca06a04486978e1584c04575aacf46", func := "loop.example/replayverifier/laws.FnExactVecDot", spec := "fnExactVecDot", apart := false }
def FnExactVecDotSaid : Prop := fnExactVecDotRow.holds Try.pinned (OpenSpec.ofChange fnExactVecDotSpec)

/-- ITS FALSE NEIGHBOUR: 'it returns false'. Refute it at one input. -/
def fnExactVecDotWrong : ChangeSpec := { name := "fnExactVecDot", fn := fun _ => fun
  | [d1, d2] => { results := [.lit (.bool false)], args := [d1, d2] }
  | _ => none }
def FnExactVecDotWrongFalsely : Prop := fnExactVecDotRow.holds Try.pinned (OpenSpec.ofChange fnExactVecDotWrong)

/-- 'laws.FnExactFixMul': WHATEVER THE INPUT: true; the input reads as it did. -/
def fnExactFixMulSpec : ChangeSpec := { name := "fnExactFixMul", fn := fun _ => fun
  | [d1, d2] => { results := [.lit (.bool true)], args := [d1, d2] }
  | _ => none }
def fnExactFixMulRow : OpenClaim := { program := "ythifhomeekcjpaa", sum := "ef6f3e841b8ae50655d91e10a8c1033bc3ca06a04486978e1584c04575aacf46", func := "loop.example/replayverifier/laws.FnExactFixMul", spec := "fnExactFixMul", apart := false }
def FnExactFixMulSaid : Prop := fnExactFixMulRow.holds Try.pinned (OpenSpec.ofChange fnExactFixMulSpec)

/-- ITS FALSE NEIGHBOUR: 'it returns false'. Refute it at one input. -/
def fnExactFixMulWrong : ChangeSpec := { name := "fnExactFixMul", fn := fun _ => fun
  | [d1, d2] => { results := [.lit (.bool false)], args := [d1, d2] }
  | _ => none }
def FnExactFixMulWrongFalsely : Prop := fnExactFixMulRow.holds Try.pinned (OpenSpec.ofChange fnExactFixMulWrong)

/-- 'laws.FnClampSide': WHATEVER THE INPUT: true; the input reads as it did. -/
def fnClampSideSpec : ChangeSpec := { name := "fnClampSide", fn := fun _ => fun
  | [d] => { results := [.lit (.bool true)], args := [d] }
  | _ => none }
def fnClampSideRow : OpenClaim := { program := "ythifhomeekcjpaa", sum := "ef6f3e841b8ae50655d91e10a8c1033bc3ca06a04486978e1584c04575aacf46", func := "loop.example/replayverifier/laws.FnClampSide", spec := "fnClampSide", apart := false }
def FnClampSideSaid : Prop := fnClampSideRow.holds Try.pinned (OpenSpec.ofChange fnClampSideSpec)

/-- ITS FALSE NEIGHBOUR: 'it returns false'. Refute it at one input. -/
def fnClampSideWrong : ChangeSpec := { name := "fnClampSide", fn := fun _ => fun
  | [d] => { results := [.lit (.bool false)], args := [d] }
  | _ => none }
def FnClampSideWrongFalsely : Prop := fnClampSideRow.holds Try.pinned (OpenSpec.ofChange fnClampSideWrong)

/-- 'laws.FnFixOk': WHATEVER THE INPUT: true; the input reads as it did. -/
def fnFixOkSpec : ChangeSpec := { name := "fnFixOk", fn := fun _ => fun
  | [d] => { results := [.lit (.bool true)], args := [d] }
  | _ => none }
def fnFixOkRow : OpenClaim := { program := "ythifhomeekcjpaa", sum := "ef6f3e841b8ae50655d91e10a8c1033bc3ca06a04486978e1584c04575aacf46", func := "loop.example/replayverifier/laws.FnFixOk", spec := "fnFixOk", apart := false }
def FnFixOkSaid : Prop := fnFixOkRow.holds Try.pinned (OpenSpec.ofChange fnFixOkSpec)

/-- ITS FALSE NEIGHBOUR: 'it returns false'. Refute it at one input. -/
def fnFixOkWrong : ChangeSpec := { name := "fnFixOk", fn := fun _ => fun
  | [d] => { results := [.lit (.bool false)], args := [d] }
  | _ => none }
def FnFixOkWrongFalsely : Prop := fnFixOkRow.holds Try.pinned (OpenSpec.ofChange fnFixOkWrong)

/-- 'laws.FnExactFixSqrt': WHATEVER THE INPUT: true; the input reads as it did. -/
def fnExactFixSqrtSpec : ChangeSpec := { name := "fnExactFixSqrt", fn := fun _ => fun
  | [d] => { results := [.lit (.bool true)], args := [d] }
  | _ => none }
def fnExactFixSqrtRow : OpenClaim := { program := "ythifhomeekcjpaa", sum := "ef6f3e841b8ae50655d91e10a8c1033bc3ca06a04486978e1584c04575aacf46", func := "loop.example/replayverifier/laws.FnExactFixSqrt", spec := "fnExactFixSqrt", apart := false }
def FnExactFixSqrtSaid : Prop := fnExactFixSqrtRow.holds Try.pinned (OpenSpec.ofChange fnExactFixSqrtSpec)

/-- ITS FALSE NEIGHBOUR: 'it returns false'. Refute it at one input. -/
def fnExactFixSqrtWrong : ChangeSpec := { name := "fnExactFixSqrt", fn := fun _ => fun
  | [d] => { results := [.lit (.bool false)], args := [d] }
  | _ => none }
def FnExactFixSqrtWrongFalsely : Prop := fnExactFixSqrtRow.holds Try.pinned (OpenSpec.ofChange fnExactFixSqrtWrong)

/-- 'laws.FnExactFixDiv': WHATEVER THE INPUT: true; the input reads as it did. -/
def fnExactFixDivSpec : ChangeSpec := { name := "fnExactFixDiv", fn := fun _ => fun
  | [d1, d2] => { results := [.lit (.bool true)], args := [d1, d2] }
  | _ => none }
def fnExactFixDivRow : OpenClaim := { program := "ythifhomeekcjpaa", sum := "ef6f3e841b8ae50655d91e10a8c1033bc3ca06a04486978e1584c04575aacf46", func := "loop.example/replayverifier/laws.FnExactFixDiv", spec := "fnExactFixDiv", apart := false }
def FnExactFixDivSaid : Prop := fnExactFixDivRow.holds Try.pinned (OpenSpec.ofChange fnExactFixDivSpec)

/-- ITS FALSE NEIGHBOUR: 'it returns false'. Refute it at one input. -/
def fnExactFixDivWrong : ChangeSpec := { name := "fnExactFixDiv", fn := fun _ => fun
  | [d1, d2] => { results := [.lit (.bool false)], args := [d1, d2] }
  | _ => none }
def FnExactFixDivWrongFalsely : Prop := fnExactFixDivRow.holds Try.pinned (OpenSpec.ofChange fnExactFixDivWrong)

/-- 'laws.FnExactVecDirection': WHATEVER THE INPUT: true; the input reads as it did. -/
def fnExactVecDirectionSpec : ChangeSpec := { name := "fnExactVecDirection", fn := fun _ => fun
  | [d] => { results := [.lit (.bool true)], args := [d] }
  | _ => none }
def fnExactVecDirectionRow : OpenClaim := { program := "ythifhomeekcjpaa", sum := "ef6f3e841b8ae50655d91e10a8c1033bc3ca06a04486978e1584c04575aacf46", func := "loop.example/replayverifier/laws.FnExactVecDirection", spec := "fnExactVecDirection", unfollowed := true, recurses := true, apart := false }
def FnExactVecDirectionSaid : Prop := fnExactVecDirectionRow.holds Try.pinned (OpenSpec.ofChange fnExactVecDirectionSpec)

/-- ITS FALSE NEIGHBOUR: 'it returns false'. Refute it at one input. -/
def fnExactVecDirectionWrong : ChangeSpec := { name := "fnExactVecDirection", fn := fun _ => fun
  | [d] => { results := [.lit (.bool false)], args := [d] }
  | _ => none }
def FnExactVecDirectionWrongFalsely : Prop := fnExactVecDirectionRow.holds Try.pinned (OpenSpec.ofChange fnExactVecDirectionWrong)

/- THE SECOND FORM. 'bulk': how many values and letters a reading holds, each counted each time it is reached (what is shared counts as often as it is met; a slice's spare places count too). A statement '..UptoSaid' is the law's where the arguments, and the package variables that the reading takes, are together of bulk at most 1048576: NARROWER than '..Said'. Prove '..Said' where nothing that the law and all that it calls make is longer than what came in: it says more and counts as full. Else prove '..UptoSaid'. A law counts once. -/
mutual
def uptoBulk {H : Type} : DataW H → Nat
  | .lit (.string bytes) => bytes.length + 1
  | .lit _ => 1
  | .nil => 1
  | .ptr d => uptoBulk d + 1
  | .slice elems spare => uptoBulkAll elems + uptoBulkAll spare + 1
  | .agg parts => uptoBulkAll parts + 1
  | .iface _ d => uptoBulk d + 1
  | .map entries => uptoBulkEntries entries + 1
  | .held _ => 1
def uptoBulkAll {H : Type} : List (DataW H) → Nat
  | [] => 0
  | d :: r => uptoBulk d + uptoBulkAll r
def uptoBulkEntries {H : Type} : List (Lit × DataW H) → Nat
  | [] => 0
  | x :: r => uptoBulkEntry x + uptoBulkEntries r
def uptoBulkEntry {H : Type} : Lit × DataW H → Nat
  | (.string bytes, d) => bytes.length + uptoBulk d + 1
  | (_, d) => uptoBulk d + 1
 end
def uptoSmall : (H : Type) → List (DataW H) → Bool := fun _ ds => decide (uptoBulkAll ds ≤ 1048576)
def OpenSpec.upto (s : _root_.Go.ChangeSpec) : _root_.Go.OpenSpec := { _root_.Go.OpenSpec.ofChange s with cond := some uptoSmall }

/-- 'laws.FnExactConstants', WHERE WHAT IT READS IS OF BULK AT MOST 1048576: true; the input reads as it did. -/
def fnExactConstantsUptoRow : OpenClaim := { program := "ythifhomeekcjpaa", sum := "ef6f3e841b8ae50655d91e10a8c1033bc3ca06a04486978e1584c04575aacf46", func := "loop.example/replayverifier/laws.FnExactConstants", spec := "fnExactConstants", apart := false, narrowed := true }
def FnExactConstantsUptoSaid : Prop := fnExactConstantsUptoRow.holds Try.pinned (OpenSpec.upto fnExactConstantsSpec)

/-- 'laws.FnExactFixOk', WHERE WHAT IT READS IS OF BULK AT MOST 1048576: true; the input reads as it did. -/
def fnExactFixOkUptoRow : OpenClaim := { program := "ythifhomeekcjpaa", sum := "ef6f3e841b8ae50655d91e10a8c1033bc3ca06a04486978e1584c04575aacf46", func := "loop.example/replayverifier/laws.FnExactFixOk", spec := "fnExactFixOk", apart := false, narrowed := true }
def FnExactFixOkUptoSaid : Prop := fnExactFixOkUptoRow.holds Try.pinned (OpenSpec.upto fnExactFixOkSpec)

/-- 'laws.FnExactVecOk', WHERE WHAT IT READS IS OF BULK AT MOST 1048576: true; the input reads as it did. -/
def fnExactVecOkUptoRow : OpenClaim := { program := "ythifhomeekcjpaa", sum := "ef6f3e841b8ae50655d91e10a8c1033bc3ca06a04486978e1584c04575aacf46", func := "loop.example/replayverifier/laws.FnExactVecOk", spec := "fnExactVecOk", apart := false, narrowed := true }
def FnExactVecOkUptoSaid : Prop := fnExactVecOkUptoRow.holds Try.pinned (OpenSpec.upto fnExactVecOkSpec)

/-- 'laws.FnExactFixAdd', WHERE WHAT IT READS IS OF BULK AT MOST 1048576: true; the input reads as it did. -/
def fnExactFixAddUptoRow : OpenClaim := { program := "ythifhomeekcjpaa", sum := "ef6f3e841b8ae50655d91e10a8c1033bc3ca06a04486978e1584c04575aacf46", func := "loop.example/replayverifier/laws.FnExactFixAdd", spec := "fnExactFixAdd", apart := false, narrowed := true }
def FnExactFixAddUptoSaid : Prop := fnExactFixAddUptoRow.holds Try.pinned (OpenSpec.upto fnExactFixAddSpec)

/-- 'laws.FnExactBoxValid', WHERE WHAT IT READS IS OF BULK AT MOST 1048576: true; the input reads as it did. -/
def fnExactBoxValidUptoRow : OpenClaim := { program := "ythifhomeekcjpaa", sum := "ef6f3e841b8ae50655d91e10a8c1033bc3ca06a04486978e1584c04575aacf46", func := "loop.example/replayverifier/laws.FnExactBoxValid", spec := "fnExactBoxValid", apart := false, narrowed := true }
def FnExactBoxValidUptoSaid : Prop := fnExactBoxValidUptoRow.holds Try.pinned (OpenSpec.upto fnExactBoxValidSpec)

/-- 'laws.FnExactVecDot', WHERE WHAT IT READS IS OF BULK AT MOST 1048576: true; the input reads as it did. -/
def fnExactVecDotUptoRow : OpenClaim := { program := "ythifhomeekcjpaa", sum := "ef6f3e841b8ae50655d91e10a8c1033bc3ca06a04486978e1584c04575aacf46", func := "loop.example/replayverifier/laws.FnExactVecDot", spec := "fnExactVecDot", apart := false, narrowed := true }
def FnExactVecDotUptoSaid : Prop := fnExactVecDotUptoRow.holds Try.pinned (OpenSpec.upto fnExactVecDotSpec)

/-- 'laws.FnExactFixMul', WHERE WHAT IT READS IS OF BULK AT MOST 1048576: true; the input reads as it did. -/
def fnExactFixMulUptoRow : OpenClaim := { program := "ythifhomeekcjpaa", sum := "ef6f3e841b8ae50655d91e10a8c1033bc3ca06a04486978e1584c04575aacf46", func := "loop.example/replayverifier/laws.FnExactFixMul", spec := "fnExactFixMul", apart := false, narrowed := true }
def FnExactFixMulUptoSaid : Prop := fnExactFixMulUptoRow.holds Try.pinned (OpenSpec.upto fnExactFixMulSpec)

/-- 'laws.FnClampSide', WHERE WHAT IT READS IS OF BULK AT MOST 1048576: true; the input reads as it did. -/
def fnClampSideUptoRow : OpenClaim := { program := "ythifhomeekcjpaa", sum := "ef6f3e841b8ae50655d91e10a8c1033bc3ca06a04486978e1584c04575aacf46", func := "loop.example/replayverifier/laws.FnClampSide", spec := "fnClampSide", apart := false, narrowed := true }
def FnClampSideUptoSaid : Prop := fnClampSideUptoRow.holds Try.pinned (OpenSpec.upto fnClampSideSpec)

/-- 'laws.FnFixOk', WHERE WHAT IT READS IS OF BULK AT MOST 1048576: true; the input reads as it did. -/
def fnFixOkUptoRow : OpenClaim := { program := "ythifhomeekcjpaa", sum := "ef6f3e841b8ae50655d91e10a8c1033bc3ca06a04486978e1584c04575aacf46", func := "loop.example/replayverifier/laws.FnFixOk", spec := "fnFixOk", apart := false, narrowed := true }
def FnFixOkUptoSaid : Prop := fnFixOkUptoRow.holds Try.pinned (OpenSpec.upto fnFixOkSpec)

/-- 'laws.FnExactFixSqrt', WHERE WHAT IT READS IS OF BULK AT MOST 1048576: true; the input reads as it did. -/
def fnExactFixSqrtUptoRow : OpenClaim := { program := "ythifhomeekcjpaa", sum := "ef6f3e841b8ae50655d91e10a8c1033bc3ca06a04486978e1584c04575aacf46", func := "loop.example/replayverifier/laws.FnExactFixSqrt", spec := "fnExactFixSqrt", apart := false, narrowed := true }
def FnExactFixSqrtUptoSaid : Prop := fnExactFixSqrtUptoRow.holds Try.pinned (OpenSpec.upto fnExactFixSqrtSpec)

/-- 'laws.FnExactFixDiv', WHERE WHAT IT READS IS OF BULK AT MOST 1048576: true; the input reads as it did. -/
def fnExactFixDivUptoRow : OpenClaim := { program := "ythifhomeekcjpaa", sum := "ef6f3e841b8ae50655d91e10a8c1033bc3ca06a04486978e1584c04575aacf46", func := "loop.example/replayverifier/laws.FnExactFixDiv", spec := "fnExactFixDiv", apart := false, narrowed := true }
def FnExactFixDivUptoSaid : Prop := fnExactFixDivUptoRow.holds Try.pinned (OpenSpec.upto fnExactFixDivSpec)

/-- 'laws.FnExactVecDirection', WHERE WHAT IT READS IS OF BULK AT MOST 1048576: true; the input reads as it did. -/
def fnExactVecDirectionUptoRow : OpenClaim := { program := "ythifhomeekcjpaa", sum := "ef6f3e841b8ae50655d91e10a8c1033bc3ca06a04486978e1584c04575aacf46", func := "loop.example/replayverifier/laws.FnExactVecDirection", spec := "fnExactVecDirection", unfollowed := true, recurses := true, apart := false, narrowed := true }
def FnExactVecDirectionUptoSaid : Prop := fnExactVecDirectionUptoRow.holds Try.pinned (OpenSpec.upto fnExactVecDirectionSpec)

end Rows
end Go.Proofs.Ythifhomeekcjpaa
