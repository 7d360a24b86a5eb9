/-
  No cell of these rows narrows 'for every input' (looked for: loops, veiled, ifaces, maps, wideKeys, modest, calm, conditions, laid).
  DERIVED. THE GIVEN ROWS OF THIS SEAT. 5 by the template 'for every input the law returns true; each argument reads behind the call as it read before'; 0 by the template 'total and deterministic' (their statements: YtheoabiohidadaaTotals.lean).
  GIVEN WITH THE SEED: the statements are not yours to turn. If you find one false, say at which input.
  Laid BY PROGRAM, IN A SANDBOX (cutbox-rows.mjs): the forced cells as the released guide's own fill.sh prints them over the translation 241b2c74e93715fb… (all of the seat's roots in one cut). By AI agents, Wed Nov 11 2026. No macro, syntax, notation, axiom, sorry.
-/
import Derived.Test.YtheoabiohidadaaChecked
import GoSem.Claim
import GoSem.ClaimJoined
import GoSem.ClaimMapViews
import Derived.JoinedTies
import Derived.KernelRfl
namespace Go.Proofs.Ytheoabiohidadaa
/- THE CELL 'sum', in the pinned program and in every row, IS THE sha256 OF THE DUMP (.gsa) THAT YtheoabiohidadaaProg.lean LOADS. Nothing in Lean hashes anything: it is a label: what it is worth is what the hold of that sum in a sandbox is worth. -/
noncomputable def Try.pinned : Pinned := { name := "ytheoabiohidadaa", sum := "241b2c74e93715fbcb13b96016b2c02e59889190130583fa1fc97604891ff8c5", checked := Try.checked }
namespace Rows
def none {H : Type} : Left H := { results := [], args := [] }

/-- 'laws.FnExactVecDirection': WHATEVER THE INPUT: true; the input reads as it did. -/
def fnExactVecDirectionSpec : ChangeSpec := { name := "fnExactVecDirection", fn := fun _ => fun
  | [d] => { results := [.lit (.bool true)], args := [d] }
  | _ => none }
def fnExactVecDirectionRow : OpenClaim := { program := "ytheoabiohidadaa", sum := "241b2c74e93715fbcb13b96016b2c02e59889190130583fa1fc97604891ff8c5", func := "loop.example/replayverifier/laws.FnExactVecDirection", spec := "fnExactVecDirection", unfollowed := true, recurses := true, apart := false }
def FnExactVecDirectionSaid : Prop := fnExactVecDirectionRow.holds Try.pinned (OpenSpec.ofChange fnExactVecDirectionSpec)

/-- ITS FALSE NEIGHBOUR: 'it returns false'. Refute it at one input. -/
def fnExactVecDirectionWrong : ChangeSpec := { name := "fnExactVecDirection", fn := fun _ => fun
  | [d] => { results := [.lit (.bool false)], args := [d] }
  | _ => none }
def FnExactVecDirectionWrongFalsely : Prop := fnExactVecDirectionRow.holds Try.pinned (OpenSpec.ofChange fnExactVecDirectionWrong)

/-- 'laws.FnExactVecAdd': WHATEVER THE INPUT: true; the input reads as it did. -/
def fnExactVecAddSpec : ChangeSpec := { name := "fnExactVecAdd", fn := fun _ => fun
  | [d1, d2] => { results := [.lit (.bool true)], args := [d1, d2] }
  | _ => none }
def fnExactVecAddRow : OpenClaim := { program := "ytheoabiohidadaa", sum := "241b2c74e93715fbcb13b96016b2c02e59889190130583fa1fc97604891ff8c5", func := "loop.example/replayverifier/laws.FnExactVecAdd", spec := "fnExactVecAdd", apart := false }
def FnExactVecAddSaid : Prop := fnExactVecAddRow.holds Try.pinned (OpenSpec.ofChange fnExactVecAddSpec)

/-- ITS FALSE NEIGHBOUR: 'it returns false'. Refute it at one input. -/
def fnExactVecAddWrong : ChangeSpec := { name := "fnExactVecAdd", fn := fun _ => fun
  | [d1, d2] => { results := [.lit (.bool false)], args := [d1, d2] }
  | _ => none }
def FnExactVecAddWrongFalsely : Prop := fnExactVecAddRow.holds Try.pinned (OpenSpec.ofChange fnExactVecAddWrong)

/-- 'laws.FnDirectionAll': WHATEVER THE INPUT: true; the input reads as it did. -/
def fnDirectionAllSpec : ChangeSpec := { name := "fnDirectionAll", fn := fun _ => fun
  | [d1, d2] => { results := [.lit (.bool true)], args := [d1, d2] }
  | _ => none }
def fnDirectionAllRow : OpenClaim := { program := "ytheoabiohidadaa", sum := "241b2c74e93715fbcb13b96016b2c02e59889190130583fa1fc97604891ff8c5", func := "loop.example/replayverifier/laws.FnDirectionAll", spec := "fnDirectionAll", unfollowed := true, recurses := true, apart := false }
def FnDirectionAllSaid : Prop := fnDirectionAllRow.holds Try.pinned (OpenSpec.ofChange fnDirectionAllSpec)

/-- ITS FALSE NEIGHBOUR: 'it returns false'. Refute it at one input. -/
def fnDirectionAllWrong : ChangeSpec := { name := "fnDirectionAll", fn := fun _ => fun
  | [d1, d2] => { results := [.lit (.bool false)], args := [d1, d2] }
  | _ => none }
def FnDirectionAllWrongFalsely : Prop := fnDirectionAllRow.holds Try.pinned (OpenSpec.ofChange fnDirectionAllWrong)

/-- 'laws.FnDirectionTurn': WHATEVER THE INPUT: true; the input reads as it did. -/
def fnDirectionTurnSpec : ChangeSpec := { name := "fnDirectionTurn", fn := fun _ => fun
  | [d] => { results := [.lit (.bool true)], args := [d] }
  | _ => none }
def fnDirectionTurnRow : OpenClaim := { program := "ytheoabiohidadaa", sum := "241b2c74e93715fbcb13b96016b2c02e59889190130583fa1fc97604891ff8c5", func := "loop.example/replayverifier/laws.FnDirectionTurn", spec := "fnDirectionTurn", unfollowed := true, recurses := true, apart := false }
def FnDirectionTurnSaid : Prop := fnDirectionTurnRow.holds Try.pinned (OpenSpec.ofChange fnDirectionTurnSpec)

/-- ITS FALSE NEIGHBOUR: 'it returns false'. Refute it at one input. -/
def fnDirectionTurnWrong : ChangeSpec := { name := "fnDirectionTurn", fn := fun _ => fun
  | [d] => { results := [.lit (.bool false)], args := [d] }
  | _ => none }
def FnDirectionTurnWrongFalsely : Prop := fnDirectionTurnRow.holds Try.pinned (OpenSpec.ofChange fnDirectionTurnWrong)

/-- 'laws.FnDirection': WHATEVER THE INPUT: true; the input reads as it did. -/
def fnDirectionSpec : ChangeSpec := { name := "fnDirection", fn := fun _ => fun
  | [d] => { results := [.lit (.bool true)], args := [d] }
  | _ => none }
def fnDirectionRow : OpenClaim := { program := "ytheoabiohidadaa", sum := "241b2c74e93715fbcb13b96016b2c02e59889190130583fa1fc97604891ff8c5", func := "loop.example/replayverifier/laws.FnDirection", spec := "fnDirection", unfollowed := true, recurses := true, apart := false }
def FnDirectionSaid : Prop := fnDirectionRow.holds Try.pinned (OpenSpec.ofChange fnDirectionSpec)

/-- ITS FALSE NEIGHBOUR: 'it returns false'. Refute it at one input. -/
def fnDirectionWrong : ChangeSpec := { name := "fnDirection", fn := fun _ => fun
  | [d] => { results := [.lit (.bool false)], args := [d] }
  | _ => none }
def FnDirectionWrongFalsely : Prop := fnDirectionRow.holds Try.pinned (OpenSpec.ofChange fnDirectionWrong)

/- THE SECOND FORM. 'bulk': how many values and letters a reading holds, each counted each time it is reached (what is shared counts as often as it is met; a slice's spare places count too). A statement '..UptoSaid' is the law's where the arguments, and the package variables that the reading takes, are together of bulk at most 1048576: NARROWER than '..Said'. Prove '..Said' where nothing that the law and all that it calls make is longer than what came in: it says more and counts as full. Else prove '..UptoSaid'. A law counts once. -/
mutual
def uptoBulk {H : Type} : DataW H → Nat
  | .lit (.string bytes) => bytes.length + 1
  | .lit _ => 1
  | .nil => 1
  | .ptr d => uptoBulk d + 1
  | .slice elems spare => uptoBulkAll elems + uptoBulkAll spare + 1
  | .agg parts => uptoBulkAll parts + 1
  | .iface _ d => uptoBulk d + 1
  | .map entries => uptoBulkEntries entries + 1
  | .held _ => 1
def uptoBulkAll {H : Type} : List (DataW H) → Nat
  | [] => 0
  | d :: r => uptoBulk d + uptoBulkAll r
def uptoBulkEntries {H : Type} : List (Lit × DataW H) → Nat
  | [] => 0
  | x :: r => uptoBulkEntry x + uptoBulkEntries r
def uptoBulkEntry {H : Type} : Lit × DataW H → Nat
  | (.string bytes, d) => bytes.length + uptoBulk d + 1
  | (_, d) => uptoBulk d + 1
 end
def uptoSmall : (H : Type) → List (DataW H) → Bool := fun _ ds => decide (uptoBulkAll ds ≤ 1048576)
def OpenSpec.upto (s : _root_.Go.ChangeSpec) : _root_.Go.OpenSpec := { _root_.Go.OpenSpec.ofChange s with cond := some uptoSmall }

/-- 'laws.FnExactVecDirection', WHERE WHAT IT READS IS OF BULK AT MOST 1048576: true; the input reads as it did. -/
def fnExactVecDirectionUptoRow : OpenClaim := { program := "ytheoabiohidadaa", sum := "241b2c74e93715fbcb13b96016b2c02e59889190130583fa1fc97604891ff8c5", func := "loop.example/replayverifier/laws.FnExactVecDirection", spec := "fnExactVecDirection", unfollowed := true, recurses := true, apart := false, narrowed := true }
def FnExactVecDirectionUptoSaid : Prop := fnExactVecDirectionUptoRow.holds Try.pinned (OpenSpec.upto fnExactVecDirectionSpec)

/-- 'laws.FnExactVecAdd', WHERE WHAT IT READS IS OF BULK AT MOST 1048576: true; the input reads as it did. -/
def fnExactVecAddUptoRow : OpenClaim := { program := "ytheoabiohidadaa", sum := "241b2c74e93715fbcb13b96016b2c02e59889190130583fa1fc97604891ff8c5", func := "loop.example/replayverifier/laws.FnExactVecAdd", spec := "fnExactVecAdd", apart := false, narrowed := true }
def FnExactVecAddUptoSaid : Prop := fnExactVecAddUptoRow.holds Try.pinned (OpenSpec.upto fnExactVecAddSpec)

/-- 'laws.FnDirectionAll', WHERE WHAT IT READS IS OF BULK AT MOST 1048576: true; the input reads as it did. -/
def fnDirectionAllUptoRow : OpenClaim := { program := "ytheoabiohidadaa", sum := "241b2c74e93715fbcb13b96016b2c02e59889190130583fa1fc97604891ff8c5", func := "loop.example/replayverifier/laws.FnDirectionAll", spec := "fnDirectionAll", unfollowed := true, recurses := true, apart := false, narrowed := true }
def FnDirectionAllUptoSaid : Prop := fnDirectionAllUptoRow.holds Try.pinned (OpenSpec.upto fnDirectionAllSpec)

/-- 'laws.FnDirectionTurn', WHERE WHAT IT READS IS OF BULK AT MOST 1048576: true; the input reads as it did. -/
def fnDirectionTurnUptoRow : OpenClaim := { program := "ytheoabiohidadaa", sum := "241b2c74e93715fbcb13b96016b2c02e59889190130583fa1fc97604891ff8c5", func := "loop.example/replayverifier/laws.FnDirectionTurn", spec := "fnDirectionTurn", unfollowed := true, recurses := true, apart := false, narrowed := true }
def FnDirectionTurnUptoSaid : Prop := fnDirectionTurnUptoRow.holds Try.pinned (OpenSpec.upto fnDirectionTurnSpec)

/-- 'laws.FnDirection', WHERE WHAT IT READS IS OF BULK AT MOST 1048576: true; the input reads as it did. -/
def fnDirectionUptoRow : OpenClaim := { program := "ytheoabiohidadaa", sum := "241b2c74e93715fbcb13b96016b2c02e59889190130583fa1fc97604891ff8c5", func := "loop.example/replayverifier/laws.FnDirection", spec := "fnDirection", unfollowed := true, recurses := true, apart := false, narrowed := true }
def FnDirectionUptoSaid : Prop := fnDirectionUptoRow.holds Try.pinned (OpenSpec.upto fnDirectionSpec)

end Rows
end Go.Proofs.Ytheoabiohidadaa
