/-
  No cell of these rows narrows 'for every input' (looked for: loops, veiled, ifaces, maps, wideKeys, modest, calm, conditions, laid).
  DERIVED. THE GIVEN ROWS OF THIS SEAT. 6 by the template 'for every input the law returns true; each argument reads behind the call as it read before'; 0 by the template 'total and deterministic' (their statements: YtkimbehlicnppaaTotals.lean).
  GIVEN WITH THE SEED: the statements are not yours to turn. If you find one false, say at which input.
  Laid BY PROGRAM, IN A SANDBOX (cutbox-rows.mjs): the forced cells as the released guide's own fill.sh prints them over the translation 90ce5ff042ffe297… (all of the seat's roots in one cut). By AI agents, Wed Nov 11 2026. No macro, syntax, notation, axiom, sorry.
-/
import Derived.Test.YtkimbehlicnppaaChecked
import GoSem.Claim
import GoSem.ClaimJoined
import GoSem.ClaimMapViews
import Derived.JoinedTies
import Derived.KernelRfl
namespace Go.Proofs.Ytkimbehlicnppaa
/- THE CELL 'sum', in the pinned program and in every row, IS THE sha256 OF THE DUMP (.gsa) THAT YtkimbehlicnppaaProg.lean LOADS. Nothing in Lean hashes anything: it is a label: what it is worth is what the hold of that sum in a sandbox is worth. -/
noncomputable def Try.pinned : Pinned := { name := "ytkimbehlicnppaa", sum := "90ce5ff042ffe297a12ce0d7502a0ba3cbbcc989162d6bb4b010da427705af60", checked := Try.checked }
namespace Rows
def none {H : Type} : Left H := { results := [], args := [] }

/-- 'laws.FnBoxHasSides': WHATEVER THE INPUT: true; the input reads as it did. -/
def fnBoxHasSidesSpec : ChangeSpec := { name := "fnBoxHasSides", fn := fun _ => fun
  | [d] => { results := [.lit (.bool true)], args := [d] }
  | _ => none }
def fnBoxHasSidesRow : OpenClaim := { program := "ytkimbehlicnppaa", sum := "90ce5ff042ffe297a12ce0d7502a0ba3cbbcc989162d6bb4b010da427705af60", func := "loop.example/replayverifier/laws.FnBoxHasSides", spec := "fnBoxHasSides", apart := false }
def FnBoxHasSidesSaid : Prop := fnBoxHasSidesRow.holds Try.pinned (OpenSpec.ofChange fnBoxHasSidesSpec)

/-- ITS FALSE NEIGHBOUR: 'it returns false'. Refute it at one input. -/
def fnBoxHasSidesWrong : ChangeSpec := { name := "fnBoxHasSides", fn := fun _ => fun
  | [d] => { results := [.lit (.bool false)], args := [d] }
  | _ => none }
def FnBoxHasSidesWrongFalsely : Prop := fnBoxHasSidesRow.holds Try.pinned (OpenSpec.ofChange fnBoxHasSidesWrong)

/-- 'laws.FnTouchesNear': WHATEVER THE INPUT: true; the input reads as it did. -/
def fnTouchesNearSpec : ChangeSpec := { name := "fnTouchesNear", fn := fun _ => fun
  | [d1, d2] => { results := [.lit (.bool true)], args := [d1, d2] }
  | _ => none }
def fnTouchesNearRow : OpenClaim := { program := "ytkimbehlicnppaa", sum := "90ce5ff042ffe297a12ce0d7502a0ba3cbbcc989162d6bb4b010da427705af60", func := "loop.example/replayverifier/laws.FnTouchesNear", spec := "fnTouchesNear", apart := false }
def FnTouchesNearSaid : Prop := fnTouchesNearRow.holds Try.pinned (OpenSpec.ofChange fnTouchesNearSpec)

/-- ITS FALSE NEIGHBOUR: 'it returns false'. Refute it at one input. -/
def fnTouchesNearWrong : ChangeSpec := { name := "fnTouchesNear", fn := fun _ => fun
  | [d1, d2] => { results := [.lit (.bool false)], args := [d1, d2] }
  | _ => none }
def FnTouchesNearWrongFalsely : Prop := fnTouchesNearRow.holds Try.pinned (OpenSpec.ofChange fnTouchesNearWrong)

/-- 'laws.FnNearestTwice': WHATEVER THE INPUT: true; the input reads as it did. -/
def fnNearestTwiceSpec : ChangeSpec := { name := "fnNearestTwice", fn := fun _ => fun
  | [d] => { results := [.lit (.bool true)], args := [d] }
  | _ => none }
def fnNearestTwiceRow : OpenClaim := { program := "ytkimbehlicnppaa", sum := "90ce5ff042ffe297a12ce0d7502a0ba3cbbcc989162d6bb4b010da427705af60", func := "loop.example/replayverifier/laws.FnNearestTwice", spec := "fnNearestTwice", apart := false }
def FnNearestTwiceSaid : Prop := fnNearestTwiceRow.holds Try.pinned (OpenSpec.ofChange fnNearestTwiceSpec)

/-- ITS FALSE NEIGHBOUR: 'it returns false'. Refute it at one input. -/
def fnNearestTwiceWrong : ChangeSpec := { name := "fnNearestTwice", fn := fun _ => fun
  | [d] => { results := [.lit (.bool false)], args := [d] }
  | _ => none }
def FnNearestTwiceWrongFalsely : Prop := fnNearestTwiceRow.holds Try.pinned (OpenSpec.ofChange fnNearestTwiceWrong)

/-- 'laws.FnNearestAny': WHATEVER THE INPUT: true; the input reads as it did. -/
def fnNearestAnySpec : ChangeSpec := { name := "fnNearestAny", fn := fun _ => fun
  | [d1, d2] => { results := [.lit (.bool true)], args := [d1, d2] }
  | _ => none }
def fnNearestAnyRow : OpenClaim := { program := "ytkimbehlicnppaa", sum := "90ce5ff042ffe297a12ce0d7502a0ba3cbbcc989162d6bb4b010da427705af60", func := "loop.example/replayverifier/laws.FnNearestAny", spec := "fnNearestAny", apart := false }
def FnNearestAnySaid : Prop := fnNearestAnyRow.holds Try.pinned (OpenSpec.ofChange fnNearestAnySpec)

/-- ITS FALSE NEIGHBOUR: 'it returns false'. Refute it at one input. -/
def fnNearestAnyWrong : ChangeSpec := { name := "fnNearestAny", fn := fun _ => fun
  | [d1, d2] => { results := [.lit (.bool false)], args := [d1, d2] }
  | _ => none }
def FnNearestAnyWrongFalsely : Prop := fnNearestAnyRow.holds Try.pinned (OpenSpec.ofChange fnNearestAnyWrong)

/-- 'laws.FnTouchesMore': WHATEVER THE INPUT: true; the input reads as it did. -/
def fnTouchesMoreSpec : ChangeSpec := { name := "fnTouchesMore", fn := fun _ => fun
  | [d1, d2] => { results := [.lit (.bool true)], args := [d1, d2] }
  | _ => none }
def fnTouchesMoreRow : OpenClaim := { program := "ytkimbehlicnppaa", sum := "90ce5ff042ffe297a12ce0d7502a0ba3cbbcc989162d6bb4b010da427705af60", func := "loop.example/replayverifier/laws.FnTouchesMore", spec := "fnTouchesMore", apart := false }
def FnTouchesMoreSaid : Prop := fnTouchesMoreRow.holds Try.pinned (OpenSpec.ofChange fnTouchesMoreSpec)

/-- ITS FALSE NEIGHBOUR: 'it returns false'. Refute it at one input. -/
def fnTouchesMoreWrong : ChangeSpec := { name := "fnTouchesMore", fn := fun _ => fun
  | [d1, d2] => { results := [.lit (.bool false)], args := [d1, d2] }
  | _ => none }
def FnTouchesMoreWrongFalsely : Prop := fnTouchesMoreRow.holds Try.pinned (OpenSpec.ofChange fnTouchesMoreWrong)

/-- 'laws.FnMeetNone': WHATEVER THE INPUT: true; the input reads as it did. -/
def fnMeetNoneSpec : ChangeSpec := { name := "fnMeetNone", fn := fun _ => fun
  | [d] => { results := [.lit (.bool true)], args := [d] }
  | _ => none }
def fnMeetNoneRow : OpenClaim := { program := "ytkimbehlicnppaa", sum := "90ce5ff042ffe297a12ce0d7502a0ba3cbbcc989162d6bb4b010da427705af60", func := "loop.example/replayverifier/laws.FnMeetNone", spec := "fnMeetNone", apart := false }
def FnMeetNoneSaid : Prop := fnMeetNoneRow.holds Try.pinned (OpenSpec.ofChange fnMeetNoneSpec)

/-- ITS FALSE NEIGHBOUR: 'it returns false'. Refute it at one input. -/
def fnMeetNoneWrong : ChangeSpec := { name := "fnMeetNone", fn := fun _ => fun
  | [d] => { results := [.lit (.bool false)], args := [d] }
  | _ => none }
def FnMeetNoneWrongFalsely : Prop := fnMeetNoneRow.holds Try.pinned (OpenSpec.ofChange fnMeetNoneWrong)

/- THE SECOND FORM. 'bulk': how many values and letters a reading holds, each counted each time it is reached (what is shared counts as often as it is met; a slice's spare places count too). A statement '..UptoSaid' is the law's where the arguments, and the package variables that the reading takes, are together of bulk at most 1048576: NARROWER than '..Said'. Prove '..Said' where nothing that the law and all that it calls make is longer than what came in: it says more and counts as full. Else prove '..UptoSaid'. A law counts once. -/
mutual
def uptoBulk {H : Type} : DataW H → Nat
  | .lit (.string bytes) => bytes.length + 1
  | .lit _ => 1
  | .nil => 1
  | .ptr d => uptoBulk d + 1
  | .slice elems spare => uptoBulkAll elems + uptoBulkAll spare + 1
  | .agg parts => uptoBulkAll parts + 1
  | .iface _ d => uptoBulk d + 1
  | .map entries => uptoBulkEntries entries + 1
  | .held _ => 1
def uptoBulkAll {H : Type} : List (DataW H) → Nat
  | [] => 0
  | d :: r => uptoBulk d + uptoBulkAll r
def uptoBulkEntries {H : Type} : List (Lit × DataW H) → Nat
  | [] => 0
  | x :: r => uptoBulkEntry x + uptoBulkEntries r
def uptoBulkEntry {H : Type} : Lit × DataW H → Nat
  | (.string bytes, d) => bytes.length + uptoBulk d + 1
  | (_, d) => uptoBulk d + 1
 end
def uptoSmall : (H : Type) → List (DataW H) → Bool := fun _ ds => decide (uptoBulkAll ds ≤ 1048576)
def OpenSpec.upto (s : _root_.Go.ChangeSpec) : _root_.Go.OpenSpec := { _root_.Go.OpenSpec.ofChange s with cond := some uptoSmall }

/-- 'laws.FnBoxHasSides', WHERE WHAT IT READS IS OF BULK AT MOST 1048576: true; the input reads as it did. -/
def fnBoxHasSidesUptoRow : OpenClaim := { program := "ytkimbehlicnppaa", sum := "90ce5ff042ffe297a12ce0d7502a0ba3cbbcc989162d6bb4b010da427705af60", func := "loop.example/replayverifier/laws.FnBoxHasSides", spec := "fnBoxHasSides", apart := false, narrowed := true }
def FnBoxHasSidesUptoSaid : Prop := fnBoxHasSidesUptoRow.holds Try.pinned (OpenSpec.upto fnBoxHasSidesSpec)

/-- 'laws.FnTouchesNear', WHERE WHAT IT READS IS OF BULK AT MOST 1048576: true; the input reads as it did. -/
def fnTouchesNearUptoRow : OpenClaim := { program := "ytkimbehlicnppaa", sum := "90ce5ff042ffe297a12ce0d7502a0ba3cbbcc989162d6bb4b010da427705af60", func := "loop.example/replayverifier/laws.FnTouchesNear", spec := "fnTouchesNear", apart := false, narrowed := true }
def FnTouchesNearUptoSaid : Prop := fnTouchesNearUptoRow.holds Try.pinned (OpenSpec.upto fnTouchesNearSpec)

/-- 'laws.FnNearestTwice', WHERE WHAT IT READS IS OF BULK AT MOST 1048576: true; the input reads as it did. -/
def fnNearestTwiceUptoRow : OpenClaim := { program := "ytkimbehlicnppaa", sum := "90ce5ff042ffe297a12ce0d7502a0ba3cbbcc989162d6bb4b010da427705af60", func := "loop.example/replayverifier/laws.FnNearestTwice", spec := "fnNearestTwice", apart := false, narrowed := true }
def FnNearestTwiceUptoSaid : Prop := fnNearestTwiceUptoRow.holds Try.pinned (OpenSpec.upto fnNearestTwiceSpec)

/-- 'laws.FnNearestAny', WHERE WHAT IT READS IS OF BULK AT MOST 1048576: true; the input reads as it did. -/
def fnNearestAnyUptoRow : OpenClaim := { program := "ytkimbehlicnppaa", sum := "90ce5ff042ffe297a12ce0d7502a0ba3cbbcc989162d6bb4b010da427705af60", func := "loop.example/replayverifier/laws.FnNearestAny", spec := "fnNearestAny", apart := false, narrowed := true }
def FnNearestAnyUptoSaid : Prop := fnNearestAnyUptoRow.holds Try.pinned (OpenSpec.upto fnNearestAnySpec)

/-- 'laws.FnTouchesMore', WHERE WHAT IT READS IS OF BULK AT MOST 1048576: true; the input reads as it did. -/
def fnTouchesMoreUptoRow : OpenClaim := { program := "ytkimbehlicnppaa", sum := "90ce5ff042ffe297a12ce0d7502a0ba3cbbcc989162d6bb4b010da427705af60", func := "loop.example/replayverifier/laws.FnTouchesMore", spec := "fnTouchesMore", apart := false, narrowed := true }
def FnTouchesMoreUptoSaid : Prop := fnTouchesMoreUptoRow.holds Try.pinned (OpenSpec.upto fnTouchesMoreSpec)

/-- 'laws.FnMeetNone', WHERE WHAT IT READS IS OF BULK AT MOST 1048576: true; the input reads as it did. -/
def fnMeetNoneUptoRow : OpenClaim := { program := "ytkimbehlicnppaa", sum := "90ce5ff042ffe297a12ce0d7502a0ba3cbbcc989162d6bb4b010da427705af60", func := "loop.example/replayverifier/laws.FnMeetNone", spec := "fnMeetNone", apart := false, narrowed := true }
def FnMeetNoneUptoSaid : Prop := fnMeetNoneUptoRow.holds Try.pinned (OpenSpec.upto fnMeetNoneSpec)

end Rows
end Go.Proofs.Ytkimbehlicnppaa
