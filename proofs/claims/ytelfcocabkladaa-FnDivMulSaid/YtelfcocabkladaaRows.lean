/-
  No cell of these rows narrows 'for every input' (looked for: loops, veiled, ifaces, maps, wideKeys, modest, calm, conditions, laid).
  DERIVED. THE GIVEN ROWS OF THIS SEAT. 15 by the template 'for every input the law returns true; each argument reads behind the call as it read before'; 0 by the template 'total and deterministic' (their statements: YtelfcocabkladaaTotals.lean).
  GIVEN WITH THE SEED: the statements are not yours to turn. If you find one false, say at which input.
  Laid BY PROGRAM, IN A SANDBOX (cutbox-rows.mjs): the forced cells as the released guide's own fill.sh prints them over the translation 10d0302b70928ac4… (all of the seat's roots in one cut). By AI agents, Wed Nov 11 2026. No macro, syntax, notation, axiom, sorry.
-/
import Derived.Test.YtelfcocabkladaaChecked
import GoSem.Claim
import GoSem.ClaimJoined
import GoSem.ClaimMapViews
import Derived.JoinedTies
import Derived.KernelRfl
namespace Go.Proofs.Ytelfcocabkladaa
/- THE CELL 'sum', in the pinned program and in every row, IS THE sha256 OF THE DUMP (.gsa) THAT YtelfcocabkladaaProg.lean LOADS. Nothing in Lean hashes anything: it is a label: what it is worth is what the hold of that sum in a sandbox is worth. -/
noncomputable def Try.pinned : Pinned := { name := "ytelfcocabkladaa", sum := "10d0302b70928ac4a3d33168d1c86dad7d8c8952d843a8c2c2dab4006c92b508", checked := Try.checked }
namespace Rows
def none {H : Type} : Left H := { results := [], args := [] }

/-- 'laws.FnAddBack': WHATEVER THE INPUT: true; the input reads as it did. -/
def fnAddBackSpec : ChangeSpec := { name := "fnAddBack", fn := fun _ => fun
  | [d] => { results := [.lit (.bool true)], args := [d] }
  | _ => none }
def fnAddBackRow : OpenClaim := { program := "ytelfcocabkladaa", sum := "10d0302b70928ac4a3d33168d1c86dad7d8c8952d843a8c2c2dab4006c92b508", func := "loop.example/replayverifier/laws.FnAddBack", spec := "fnAddBack", apart := false }
def FnAddBackSaid : Prop := fnAddBackRow.holds Try.pinned (OpenSpec.ofChange fnAddBackSpec)

/-- ITS FALSE NEIGHBOUR: 'it returns false'. Refute it at one input. -/
def fnAddBackWrong : ChangeSpec := { name := "fnAddBack", fn := fun _ => fun
  | [d] => { results := [.lit (.bool false)], args := [d] }
  | _ => none }
def FnAddBackWrongFalsely : Prop := fnAddBackRow.holds Try.pinned (OpenSpec.ofChange fnAddBackWrong)

/-- 'laws.FnAddMore': WHATEVER THE INPUT: true; the input reads as it did. -/
def fnAddMoreSpec : ChangeSpec := { name := "fnAddMore", fn := fun _ => fun
  | [d1, d2] => { results := [.lit (.bool true)], args := [d1, d2] }
  | _ => none }
def fnAddMoreRow : OpenClaim := { program := "ytelfcocabkladaa", sum := "10d0302b70928ac4a3d33168d1c86dad7d8c8952d843a8c2c2dab4006c92b508", func := "loop.example/replayverifier/laws.FnAddMore", spec := "fnAddMore", apart := false }
def FnAddMoreSaid : Prop := fnAddMoreRow.holds Try.pinned (OpenSpec.ofChange fnAddMoreSpec)

/-- ITS FALSE NEIGHBOUR: 'it returns false'. Refute it at one input. -/
def fnAddMoreWrong : ChangeSpec := { name := "fnAddMore", fn := fun _ => fun
  | [d1, d2] => { results := [.lit (.bool false)], args := [d1, d2] }
  | _ => none }
def FnAddMoreWrongFalsely : Prop := fnAddMoreRow.holds Try.pinned (OpenSpec.ofChange fnAddMoreWrong)

/-- 'laws.FnAddOrder': WHATEVER THE INPUT: true; the input reads as it did. -/
def fnAddOrderSpec : ChangeSpec := { name := "fnAddOrder", fn := fun _ => fun
  | [d] => { results := [.lit (.bool true)], args := [d] }
  | _ => none }
def fnAddOrderRow : OpenClaim := { program := "ytelfcocabkladaa", sum := "10d0302b70928ac4a3d33168d1c86dad7d8c8952d843a8c2c2dab4006c92b508", func := "loop.example/replayverifier/laws.FnAddOrder", spec := "fnAddOrder", apart := false }
def FnAddOrderSaid : Prop := fnAddOrderRow.holds Try.pinned (OpenSpec.ofChange fnAddOrderSpec)

/-- ITS FALSE NEIGHBOUR: 'it returns false'. Refute it at one input. -/
def fnAddOrderWrong : ChangeSpec := { name := "fnAddOrder", fn := fun _ => fun
  | [d] => { results := [.lit (.bool false)], args := [d] }
  | _ => none }
def FnAddOrderWrongFalsely : Prop := fnAddOrderRow.holds Try.pinned (OpenSpec.ofChange fnAddOrderWrong)

/-- 'laws.FnAdd': WHATEVER THE INPUT: true; the input reads as it did. -/
def fnAddSpec : ChangeSpec := { name := "fnAdd", fn := fun _ => fun
  | [d] => { results := [.lit (.bool true)], args := [d] }
  | _ => none }
def fnAddRow : OpenClaim := { program := "ytelfcocabkladaa", sum := "10d0302b70928ac4a3d33168d1c86dad7d8c8952d843a8c2c2dab4006c92b508", func := "loop.example/replayverifier/laws.FnAdd", spec := "fnAdd", apart := false }
def FnAddSaid : Prop := fnAddRow.holds Try.pinned (OpenSpec.ofChange fnAddSpec)

/-- ITS FALSE NEIGHBOUR: 'it returns false'. Refute it at one input. -/
def fnAddWrong : ChangeSpec := { name := "fnAdd", fn := fun _ => fun
  | [d] => { results := [.lit (.bool false)], args := [d] }
  | _ => none }
def FnAddWrongFalsely : Prop := fnAddRow.holds Try.pinned (OpenSpec.ofChange fnAddWrong)

/-- 'laws.FnMul': WHATEVER THE INPUT: true; the input reads as it did. -/
def fnMulSpec : ChangeSpec := { name := "fnMul", fn := fun _ => fun
  | [d] => { results := [.lit (.bool true)], args := [d] }
  | _ => none }
def fnMulRow : OpenClaim := { program := "ytelfcocabkladaa", sum := "10d0302b70928ac4a3d33168d1c86dad7d8c8952d843a8c2c2dab4006c92b508", func := "loop.example/replayverifier/laws.FnMul", spec := "fnMul", apart := false }
def FnMulSaid : Prop := fnMulRow.holds Try.pinned (OpenSpec.ofChange fnMulSpec)

/-- ITS FALSE NEIGHBOUR: 'it returns false'. Refute it at one input. -/
def fnMulWrong : ChangeSpec := { name := "fnMul", fn := fun _ => fun
  | [d] => { results := [.lit (.bool false)], args := [d] }
  | _ => none }
def FnMulWrongFalsely : Prop := fnMulRow.holds Try.pinned (OpenSpec.ofChange fnMulWrong)

/-- 'laws.FnMulMore': WHATEVER THE INPUT: true; the input reads as it did. -/
def fnMulMoreSpec : ChangeSpec := { name := "fnMulMore", fn := fun _ => fun
  | [d1, d2] => { results := [.lit (.bool true)], args := [d1, d2] }
  | _ => none }
def fnMulMoreRow : OpenClaim := { program := "ytelfcocabkladaa", sum := "10d0302b70928ac4a3d33168d1c86dad7d8c8952d843a8c2c2dab4006c92b508", func := "loop.example/replayverifier/laws.FnMulMore", spec := "fnMulMore", apart := false }
def FnMulMoreSaid : Prop := fnMulMoreRow.holds Try.pinned (OpenSpec.ofChange fnMulMoreSpec)

/-- ITS FALSE NEIGHBOUR: 'it returns false'. Refute it at one input. -/
def fnMulMoreWrong : ChangeSpec := { name := "fnMulMore", fn := fun _ => fun
  | [d1, d2] => { results := [.lit (.bool false)], args := [d1, d2] }
  | _ => none }
def FnMulMoreWrongFalsely : Prop := fnMulMoreRow.holds Try.pinned (OpenSpec.ofChange fnMulMoreWrong)

/-- 'laws.FnMulOrder': WHATEVER THE INPUT: true; the input reads as it did. -/
def fnMulOrderSpec : ChangeSpec := { name := "fnMulOrder", fn := fun _ => fun
  | [d] => { results := [.lit (.bool true)], args := [d] }
  | _ => none }
def fnMulOrderRow : OpenClaim := { program := "ytelfcocabkladaa", sum := "10d0302b70928ac4a3d33168d1c86dad7d8c8952d843a8c2c2dab4006c92b508", func := "loop.example/replayverifier/laws.FnMulOrder", spec := "fnMulOrder", apart := false }
def FnMulOrderSaid : Prop := fnMulOrderRow.holds Try.pinned (OpenSpec.ofChange fnMulOrderSpec)

/-- ITS FALSE NEIGHBOUR: 'it returns false'. Refute it at one input. -/
def fnMulOrderWrong : ChangeSpec := { name := "fnMulOrder", fn := fun _ => fun
  | [d] => { results := [.lit (.bool false)], args := [d] }
  | _ => none }
def FnMulOrderWrongFalsely : Prop := fnMulOrderRow.holds Try.pinned (OpenSpec.ofChange fnMulOrderWrong)

/-- 'laws.FnMulZero': WHATEVER THE INPUT: true; the input reads as it did. -/
def fnMulZeroSpec : ChangeSpec := { name := "fnMulZero", fn := fun _ => fun
  | [d] => { results := [.lit (.bool true)], args := [d] }
  | _ => none }
def fnMulZeroRow : OpenClaim := { program := "ytelfcocabkladaa", sum := "10d0302b70928ac4a3d33168d1c86dad7d8c8952d843a8c2c2dab4006c92b508", func := "loop.example/replayverifier/laws.FnMulZero", spec := "fnMulZero", apart := false }
def FnMulZeroSaid : Prop := fnMulZeroRow.holds Try.pinned (OpenSpec.ofChange fnMulZeroSpec)

/-- ITS FALSE NEIGHBOUR: 'it returns false'. Refute it at one input. -/
def fnMulZeroWrong : ChangeSpec := { name := "fnMulZero", fn := fun _ => fun
  | [d] => { results := [.lit (.bool false)], args := [d] }
  | _ => none }
def FnMulZeroWrongFalsely : Prop := fnMulZeroRow.holds Try.pinned (OpenSpec.ofChange fnMulZeroWrong)

/-- 'laws.FnSqrt': WHATEVER THE INPUT: true; the input reads as it did. -/
def fnSqrtSpec : ChangeSpec := { name := "fnSqrt", fn := fun _ => fun
  | [d] => { results := [.lit (.bool true)], args := [d] }
  | _ => none }
def fnSqrtRow : OpenClaim := { program := "ytelfcocabkladaa", sum := "10d0302b70928ac4a3d33168d1c86dad7d8c8952d843a8c2c2dab4006c92b508", func := "loop.example/replayverifier/laws.FnSqrt", spec := "fnSqrt", apart := false }
def FnSqrtSaid : Prop := fnSqrtRow.holds Try.pinned (OpenSpec.ofChange fnSqrtSpec)

/-- ITS FALSE NEIGHBOUR: 'it returns false'. Refute it at one input. -/
def fnSqrtWrong : ChangeSpec := { name := "fnSqrt", fn := fun _ => fun
  | [d] => { results := [.lit (.bool false)], args := [d] }
  | _ => none }
def FnSqrtWrongFalsely : Prop := fnSqrtRow.holds Try.pinned (OpenSpec.ofChange fnSqrtWrong)

/-- 'laws.FnSqrtMore': WHATEVER THE INPUT: true; the input reads as it did. -/
def fnSqrtMoreSpec : ChangeSpec := { name := "fnSqrtMore", fn := fun _ => fun
  | [d1, d2] => { results := [.lit (.bool true)], args := [d1, d2] }
  | _ => none }
def fnSqrtMoreRow : OpenClaim := { program := "ytelfcocabkladaa", sum := "10d0302b70928ac4a3d33168d1c86dad7d8c8952d843a8c2c2dab4006c92b508", func := "loop.example/replayverifier/laws.FnSqrtMore", spec := "fnSqrtMore", apart := false }
def FnSqrtMoreSaid : Prop := fnSqrtMoreRow.holds Try.pinned (OpenSpec.ofChange fnSqrtMoreSpec)

/-- ITS FALSE NEIGHBOUR: 'it returns false'. Refute it at one input. -/
def fnSqrtMoreWrong : ChangeSpec := { name := "fnSqrtMore", fn := fun _ => fun
  | [d1, d2] => { results := [.lit (.bool false)], args := [d1, d2] }
  | _ => none }
def FnSqrtMoreWrongFalsely : Prop := fnSqrtMoreRow.holds Try.pinned (OpenSpec.ofChange fnSqrtMoreWrong)

/-- 'laws.FnDiv': WHATEVER THE INPUT: true; the input reads as it did. -/
def fnDivSpec : ChangeSpec := { name := "fnDiv", fn := fun _ => fun
  | [d] => { results := [.lit (.bool true)], args := [d] }
  | _ => none }
def fnDivRow : OpenClaim := { program := "ytelfcocabkladaa", sum := "10d0302b70928ac4a3d33168d1c86dad7d8c8952d843a8c2c2dab4006c92b508", func := "loop.example/replayverifier/laws.FnDiv", spec := "fnDiv", apart := false }
def FnDivSaid : Prop := fnDivRow.holds Try.pinned (OpenSpec.ofChange fnDivSpec)

/-- ITS FALSE NEIGHBOUR: 'it returns false'. Refute it at one input. -/
def fnDivWrong : ChangeSpec := { name := "fnDiv", fn := fun _ => fun
  | [d] => { results := [.lit (.bool false)], args := [d] }
  | _ => none }
def FnDivWrongFalsely : Prop := fnDivRow.holds Try.pinned (OpenSpec.ofChange fnDivWrong)

/-- 'laws.FnDivOne': WHATEVER THE INPUT: true; the input reads as it did. -/
def fnDivOneSpec : ChangeSpec := { name := "fnDivOne", fn := fun _ => fun
  | [d] => { results := [.lit (.bool true)], args := [d] }
  | _ => none }
def fnDivOneRow : OpenClaim := { program := "ytelfcocabkladaa", sum := "10d0302b70928ac4a3d33168d1c86dad7d8c8952d843a8c2c2dab4006c92b508", func := "loop.example/replayverifier/laws.FnDivOne", spec := "fnDivOne", apart := false }
def FnDivOneSaid : Prop := fnDivOneRow.holds Try.pinned (OpenSpec.ofChange fnDivOneSpec)

/-- ITS FALSE NEIGHBOUR: 'it returns false'. Refute it at one input. -/
def fnDivOneWrong : ChangeSpec := { name := "fnDivOne", fn := fun _ => fun
  | [d] => { results := [.lit (.bool false)], args := [d] }
  | _ => none }
def FnDivOneWrongFalsely : Prop := fnDivOneRow.holds Try.pinned (OpenSpec.ofChange fnDivOneWrong)

/-- 'laws.FnDivZero': WHATEVER THE INPUT: true; the input reads as it did. -/
def fnDivZeroSpec : ChangeSpec := { name := "fnDivZero", fn := fun _ => fun
  | [d] => { results := [.lit (.bool true)], args := [d] }
  | _ => none }
def fnDivZeroRow : OpenClaim := { program := "ytelfcocabkladaa", sum := "10d0302b70928ac4a3d33168d1c86dad7d8c8952d843a8c2c2dab4006c92b508", func := "loop.example/replayverifier/laws.FnDivZero", spec := "fnDivZero", apart := false }
def FnDivZeroSaid : Prop := fnDivZeroRow.holds Try.pinned (OpenSpec.ofChange fnDivZeroSpec)

/-- ITS FALSE NEIGHBOUR: 'it returns false'. Refute it at one input. -/
def fnDivZeroWrong : ChangeSpec := { name := "fnDivZero", fn := fun _ => fun
  | [d] => { results := [.lit (.bool false)], args := [d] }
  | _ => none }
def FnDivZeroWrongFalsely : Prop := fnDivZeroRow.holds Try.pinned (OpenSpec.ofChange fnDivZeroWrong)

/-- 'laws.FnDivMul': WHATEVER THE INPUT: true; the input reads as it did. -/
def fnDivMulSpec : ChangeSpec := { name := "fnDivMul", fn := fun _ => fun
  | [d] => { results := [.lit (.bool true)], args := [d] }
  | _ => none }
def fnDivMulRow : OpenClaim := { program := "ytelfcocabkladaa", sum := "10d0302b70928ac4a3d33168d1c86dad7d8c8952d843a8c2c2dab4006c92b508", func := "loop.example/replayverifier/laws.FnDivMul", spec := "fnDivMul", apart := false }
def FnDivMulSaid : Prop := fnDivMulRow.holds Try.pinned (OpenSpec.ofChange fnDivMulSpec)

/-- ITS FALSE NEIGHBOUR: 'it returns false'. Refute it at one input. -/
def fnDivMulWrong : ChangeSpec := { name := "fnDivMul", fn := fun _ => fun
  | [d] => { results := [.lit (.bool false)], args := [d] }
  | _ => none }
def FnDivMulWrongFalsely : Prop := fnDivMulRow.holds Try.pinned (OpenSpec.ofChange fnDivMulWrong)

/-- 'laws.FnSqrtSquare': WHATEVER THE INPUT: true; the input reads as it did. -/
def fnSqrtSquareSpec : ChangeSpec := { name := "fnSqrtSquare", fn := fun _ => fun
  | [d1, d2] => { results := [.lit (.bool true)], args := [d1, d2] }
  | _ => none }
def fnSqrtSquareRow : OpenClaim := { program := "ytelfcocabkladaa", sum := "10d0302b70928ac4a3d33168d1c86dad7d8c8952d843a8c2c2dab4006c92b508", func := "loop.example/replayverifier/laws.FnSqrtSquare", spec := "fnSqrtSquare", apart := false }
def FnSqrtSquareSaid : Prop := fnSqrtSquareRow.holds Try.pinned (OpenSpec.ofChange fnSqrtSquareSpec)

/-- ITS FALSE NEIGHBOUR: 'it returns false'. Refute it at one input. -/
def fnSqrtSquareWrong : ChangeSpec := { name := "fnSqrtSquare", fn := fun _ => fun
  | [d1, d2] => { results := [.lit (.bool false)], args := [d1, d2] }
  | _ => none }
def FnSqrtSquareWrongFalsely : Prop := fnSqrtSquareRow.holds Try.pinned (OpenSpec.ofChange fnSqrtSquareWrong)

/- THE SECOND FORM. 'bulk': how many values and letters a reading holds, each counted each time it is reached (what is shared counts as often as it is met; a slice's spare places count too). A statement '..UptoSaid' is the law's where the arguments, and the package variables that the reading takes, are together of bulk at most 1048576: NARROWER than '..Said'. Prove '..Said' where nothing that the law and all that it calls make is longer than what came in: it says more and counts as full. Else prove '..UptoSaid'. A law counts once. -/
mutual
def uptoBulk {H : Type} : DataW H → Nat
  | .lit (.string bytes) => bytes.length + 1
  | .lit _ => 1
  | .nil => 1
  | .ptr d => uptoBulk d + 1
  | .slice elems spare => uptoBulkAll elems + uptoBulkAll spare + 1
  | .agg parts => uptoBulkAll parts + 1
  | .iface _ d => uptoBulk d + 1
  | .map entries => uptoBulkEntries entries + 1
  | .held _ => 1
def uptoBulkAll {H : Type} : List (DataW H) → Nat
  | [] => 0
  | d :: r => uptoBulk d + uptoBulkAll r
def uptoBulkEntries {H : Type} : List (Lit × DataW H) → Nat
  | [] => 0
  | x :: r => uptoBulkEntry x + uptoBulkEntries r
def uptoBulkEntry {H : Type} : Lit × DataW H → Nat
  | (.string bytes, d) => bytes.length + uptoBulk d + 1
  | (_, d) => uptoBulk d + 1
 end
def uptoSmall : (H : Type) → List (DataW H) → Bool := fun _ ds => decide (uptoBulkAll ds ≤ 1048576)
def OpenSpec.upto (s : _root_.Go.ChangeSpec) : _root_.Go.OpenSpec := { _root_.Go.OpenSpec.ofChange s with cond := some uptoSmall }

/-- 'laws.FnAddBack', WHERE WHAT IT READS IS OF BULK AT MOST 1048576: true; the input reads as it did. -/
def fnAddBackUptoRow : OpenClaim := { program := "ytelfcocabkladaa", sum := "10d0302b70928ac4a3d33168d1c86dad7d8c8952d843a8c2c2dab4006c92b508", func := "loop.example/replayverifier/laws.FnAddBack", spec := "fnAddBack", apart := false, narrowed := true }
def FnAddBackUptoSaid : Prop := fnAddBackUptoRow.holds Try.pinned (OpenSpec.upto fnAddBackSpec)

/-- 'laws.FnAddMore', WHERE WHAT IT READS IS OF BULK AT MOST 1048576: true; the input reads as it did. -/
def fnAddMoreUptoRow : OpenClaim := { program := "ytelfcocabkladaa", sum := "10d0302b70928ac4a3d33168d1c86dad7d8c8952d843a8c2c2dab4006c92b508", func := "loop.example/replayverifier/laws.FnAddMore", spec := "fnAddMore", apart := false, narrowed := true }
def FnAddMoreUptoSaid : Prop := fnAddMoreUptoRow.holds Try.pinned (OpenSpec.upto fnAddMoreSpec)

/-- 'laws.FnAddOrder', WHERE WHAT IT READS IS OF BULK AT MOST 1048576: true; the input reads as it did. -/
def fnAddOrderUptoRow : OpenClaim := { program := "ytelfcocabkladaa", sum := "10d0302b70928ac4a3d33168d1c86dad7d8c8952d843a8c2c2dab4006c92b508", func := "loop.example/replayverifier/laws.FnAddOrder", spec := "fnAddOrder", apart := false, narrowed := true }
def FnAddOrderUptoSaid : Prop := fnAddOrderUptoRow.holds Try.pinned (OpenSpec.upto fnAddOrderSpec)

/-- 'laws.FnAdd', WHERE WHAT IT READS IS OF BULK AT MOST 1048576: true; the input reads as it did. -/
def fnAddUptoRow : OpenClaim := { program := "ytelfcocabkladaa", sum := "10d0302b70928ac4a3d33168d1c86dad7d8c8952d843a8c2c2dab4006c92b508", func := "loop.example/replayverifier/laws.FnAdd", spec := "fnAdd", apart := false, narrowed := true }
def FnAddUptoSaid : Prop := fnAddUptoRow.holds Try.pinned (OpenSpec.upto fnAddSpec)

/-- 'laws.FnMul', WHERE WHAT IT READS IS OF BULK AT MOST 1048576: true; the input reads as it did. -/
def fnMulUptoRow : OpenClaim := { program := "ytelfcocabkladaa", sum := "10d0302b70928ac4a3d33168d1c86dad7d8c8952d843a8c2c2dab4006c92b508", func := "loop.example/replayverifier/laws.FnMul", spec := "fnMul", apart := false, narrowed := true }
def FnMulUptoSaid : Prop := fnMulUptoRow.holds Try.pinned (OpenSpec.upto fnMulSpec)

/-- 'laws.FnMulMore', WHERE WHAT IT READS IS OF BULK AT MOST 1048576: true; the input reads as it did. -/
def fnMulMoreUptoRow : OpenClaim := { program := "ytelfcocabkladaa", sum := "10d0302b70928ac4a3d33168d1c86dad7d8c8952d843a8c2c2dab4006c92b508", func := "loop.example/replayverifier/laws.FnMulMore", spec := "fnMulMore", apart := false, narrowed := true }
def FnMulMoreUptoSaid : Prop := fnMulMoreUptoRow.holds Try.pinned (OpenSpec.upto fnMulMoreSpec)

/-- 'laws.FnMulOrder', WHERE WHAT IT READS IS OF BULK AT MOST 1048576: true; the input reads as it did. -/
def fnMulOrderUptoRow : OpenClaim := { program := "ytelfcocabkladaa", sum := "10d0302b70928ac4a3d33168d1c86dad7d8c8952d843a8c2c2dab4006c92b508", func := "loop.example/replayverifier/laws.FnMulOrder", spec := "fnMulOrder", apart := false, narrowed := true }
def FnMulOrderUptoSaid : Prop := fnMulOrderUptoRow.holds Try.pinned (OpenSpec.upto fnMulOrderSpec)

/-- 'laws.FnMulZero', WHERE WHAT IT READS IS OF BULK AT MOST 1048576: true; the input reads as it did. -/
def fnMulZeroUptoRow : OpenClaim := { program := "ytelfcocabkladaa", sum := "10d0302b70928ac4a3d33168d1c86dad7d8c8952d843a8c2c2dab4006c92b508", func := "loop.example/replayverifier/laws.FnMulZero", spec := "fnMulZero", apart := false, narrowed := true }
def FnMulZeroUptoSaid : Prop := fnMulZeroUptoRow.holds Try.pinned (OpenSpec.upto fnMulZeroSpec)

/-- 'laws.FnSqrt', WHERE WHAT IT READS IS OF BULK AT MOST 1048576: true; the input reads as it did. -/
def fnSqrtUptoRow : OpenClaim := { program := "ytelfcocabkladaa", sum := "10d0302b70928ac4a3d33168d1c86dad7d8c8952d843a8c2c2dab4006c92b508", func := "loop.example/replayverifier/laws.FnSqrt", spec := "fnSqrt", apart := false, narrowed := true }
def FnSqrtUptoSaid : Prop := fnSqrtUptoRow.holds Try.pinned (OpenSpec.upto fnSqrtSpec)

/-- 'laws.FnSqrtMore', WHERE WHAT IT READS IS OF BULK AT MOST 1048576: true; the input reads as it did. -/
def fnSqrtMoreUptoRow : OpenClaim := { program := "ytelfcocabkladaa", sum := "10d0302b70928ac4a3d33168d1c86dad7d8c8952d843a8c2c2dab4006c92b508", func := "loop.example/replayverifier/laws.FnSqrtMore", spec := "fnSqrtMore", apart := false, narrowed := true }
def FnSqrtMoreUptoSaid : Prop := fnSqrtMoreUptoRow.holds Try.pinned (OpenSpec.upto fnSqrtMoreSpec)

/-- 'laws.FnDiv', WHERE WHAT IT READS IS OF BULK AT MOST 1048576: true; the input reads as it did. -/
def fnDivUptoRow : OpenClaim := { program := "ytelfcocabkladaa", sum := "10d0302b70928ac4a3d33168d1c86dad7d8c8952d843a8c2c2dab4006c92b508", func := "loop.example/replayverifier/laws.FnDiv", spec := "fnDiv", apart := false, narrowed := true }
def FnDivUptoSaid : Prop := fnDivUptoRow.holds Try.pinned (OpenSpec.upto fnDivSpec)

/-- 'laws.FnDivOne', WHERE WHAT IT READS IS OF BULK AT MOST 1048576: true; the input reads as it did. -/
def fnDivOneUptoRow : OpenClaim := { program := "ytelfcocabkladaa", sum := "10d0302b70928ac4a3d33168d1c86dad7d8c8952d843a8c2c2dab4006c92b508", func := "loop.example/replayverifier/laws.FnDivOne", spec := "fnDivOne", apart := false, narrowed := true }
def FnDivOneUptoSaid : Prop := fnDivOneUptoRow.holds Try.pinned (OpenSpec.upto fnDivOneSpec)

/-- 'laws.FnDivZero', WHERE WHAT IT READS IS OF BULK AT MOST 1048576: true; the input reads as it did. -/
def fnDivZeroUptoRow : OpenClaim := { program := "ytelfcocabkladaa", sum := "10d0302b70928ac4a3d33168d1c86dad7d8c8952d843a8c2c2dab4006c92b508", func := "loop.example/replayverifier/laws.FnDivZero", spec := "fnDivZero", apart := false, narrowed := true }
def FnDivZeroUptoSaid : Prop := fnDivZeroUptoRow.holds Try.pinned (OpenSpec.upto fnDivZeroSpec)

/-- 'laws.FnDivMul', WHERE WHAT IT READS IS OF BULK AT MOST 1048576: true; the input reads as it did. -/
def fnDivMulUptoRow : OpenClaim := { program := "ytelfcocabkladaa", sum := "10d0302b70928ac4a3d33168d1c86dad7d8c8952d843a8c2c2dab4006c92b508", func := "loop.example/replayverifier/laws.FnDivMul", spec := "fnDivMul", apart := false, narrowed := true }
def FnDivMulUptoSaid : Prop := fnDivMulUptoRow.holds Try.pinned (OpenSpec.upto fnDivMulSpec)

/-- 'laws.FnSqrtSquare', WHERE WHAT IT READS IS OF BULK AT MOST 1048576: true; the input reads as it did. -/
def fnSqrtSquareUptoRow : OpenClaim := { program := "ytelfcocabkladaa", sum := "10d0302b70928ac4a3d33168d1c86dad7d8c8952d843a8c2c2dab4006c92b508", func := "loop.example/replayverifier/laws.FnSqrtSquare", spec := "fnSqrtSquare", apart := false, narrowed := true }
def FnSqrtSquareUptoSaid : Prop := fnSqrtSquareUptoRow.holds Try.pinned (OpenSpec.upto fnSqrtSquareSpec)

end Rows
end Go.Proofs.Ytelfcocabkladaa
