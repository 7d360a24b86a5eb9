/-
  No cell of these rows narrows 'for every input' (looked for: loops, veiled, ifaces, maps, wideKeys, modest, calm, conditions, laid).
  DERIVED. THE GIVEN ROWS OF THIS SEAT. 7 by the template 'for every input the law returns true; each argument reads behind the call as it read before'; 0 by the template 'total and deterministic' (their statements: YtjegojhlcmhaoaaTotals.lean).
  GIVEN WITH THE SEED: the statements are not yours to turn. If you find one false, say at which input.
  Laid BY PROGRAM, IN A SANDBOX (cutbox-rows.mjs): the forced cells as the released guide's own fill.sh prints them over the translation c45a5b7110fef51f… (all of the seat's roots in one cut). By AI agents, Wed Nov 11 2026. No macro, syntax, notation, axiom, sorry.
-/
import Derived.Test.YtjegojhlcmhaoaaChecked
import GoSem.Claim
import GoSem.ClaimJoined
import GoSem.ClaimMapViews
import Derived.JoinedTies
import Derived.KernelRfl
namespace Go.Proofs.Ytjegojhlcmhaoaa
/- THE CELL 'sum', in the pinned program and in every row, IS THE sha256 OF THE DUMP (.gsa) THAT YtjegojhlcmhaoaaProg.lean LOADS. Nothing in Lean hashes anything: it is a label: what it is worth is what the hold of that sum in a sandbox is worth. -/
noncomputable def Try.pinned : Pinned := { name := "ytjegojhlcmhaoaa", sum := "c45a5b7110fef51fd96b41c434466fcfefd586abc6721b16df2e17eb41ba99f6", checked := Try.checked }
namespace Rows
def none {H : Type} : Left H := { results := [], args := [] }

/-- 'laws.FnExactBoxHas': WHATEVER THE INPUT: true; the input reads as it did. -/
def fnExactBoxHasSpec : ChangeSpec := { name := "fnExactBoxHas", fn := fun _ => fun
  | [d1, d2] => { results := [.lit (.bool true)], args := [d1, d2] }
  | _ => none }
def fnExactBoxHasRow : OpenClaim := { program := "ytjegojhlcmhaoaa", sum := "c45a5b7110fef51fd96b41c434466fcfefd586abc6721b16df2e17eb41ba99f6", func := "loop.example/replayverifier/laws.FnExactBoxHas", spec := "fnExactBoxHas", apart := false }
def FnExactBoxHasSaid : Prop := fnExactBoxHasRow.holds Try.pinned (OpenSpec.ofChange fnExactBoxHasSpec)

/-- ITS FALSE NEIGHBOUR: 'it returns false'. Refute it at one input. -/
def fnExactBoxHasWrong : ChangeSpec := { name := "fnExactBoxHas", fn := fun _ => fun
  | [d1, d2] => { results := [.lit (.bool false)], args := [d1, d2] }
  | _ => none }
def FnExactBoxHasWrongFalsely : Prop := fnExactBoxHasRow.holds Try.pinned (OpenSpec.ofChange fnExactBoxHasWrong)

/-- 'laws.FnExactBoxTouches': WHATEVER THE INPUT: true; the input reads as it did. -/
def fnExactBoxTouchesSpec : ChangeSpec := { name := "fnExactBoxTouches", fn := fun _ => fun
  | [d1, d2, d3] => { results := [.lit (.bool true)], args := [d1, d2, d3] }
  | _ => none }
def fnExactBoxTouchesRow : OpenClaim := { program := "ytjegojhlcmhaoaa", sum := "c45a5b7110fef51fd96b41c434466fcfefd586abc6721b16df2e17eb41ba99f6", func := "loop.example/replayverifier/laws.FnExactBoxTouches", spec := "fnExactBoxTouches", apart := false }
def FnExactBoxTouchesSaid : Prop := fnExactBoxTouchesRow.holds Try.pinned (OpenSpec.ofChange fnExactBoxTouchesSpec)

/-- ITS FALSE NEIGHBOUR: 'it returns false'. Refute it at one input. -/
def fnExactBoxTouchesWrong : ChangeSpec := { name := "fnExactBoxTouches", fn := fun _ => fun
  | [d1, d2, d3] => { results := [.lit (.bool false)], args := [d1, d2, d3] }
  | _ => none }
def FnExactBoxTouchesWrongFalsely : Prop := fnExactBoxTouchesRow.holds Try.pinned (OpenSpec.ofChange fnExactBoxTouchesWrong)

/-- 'laws.FnBoxPoint': WHATEVER THE INPUT: true; the input reads as it did. -/
def fnBoxPointSpec : ChangeSpec := { name := "fnBoxPoint", fn := fun _ => fun
  | [d1, d2] => { results := [.lit (.bool true)], args := [d1, d2] }
  | _ => none }
def fnBoxPointRow : OpenClaim := { program := "ytjegojhlcmhaoaa", sum := "c45a5b7110fef51fd96b41c434466fcfefd586abc6721b16df2e17eb41ba99f6", func := "loop.example/replayverifier/laws.FnBoxPoint", spec := "fnBoxPoint", apart := false }
def FnBoxPointSaid : Prop := fnBoxPointRow.holds Try.pinned (OpenSpec.ofChange fnBoxPointSpec)

/-- ITS FALSE NEIGHBOUR: 'it returns false'. Refute it at one input. -/
def fnBoxPointWrong : ChangeSpec := { name := "fnBoxPoint", fn := fun _ => fun
  | [d1, d2] => { results := [.lit (.bool false)], args := [d1, d2] }
  | _ => none }
def FnBoxPointWrongFalsely : Prop := fnBoxPointRow.holds Try.pinned (OpenSpec.ofChange fnBoxPointWrong)

/-- 'laws.FnExactBoxNearest': WHATEVER THE INPUT: true; the input reads as it did. -/
def fnExactBoxNearestSpec : ChangeSpec := { name := "fnExactBoxNearest", fn := fun _ => fun
  | [d1, d2] => { results := [.lit (.bool true)], args := [d1, d2] }
  | _ => none }
def fnExactBoxNearestRow : OpenClaim := { program := "ytjegojhlcmhaoaa", sum := "c45a5b7110fef51fd96b41c434466fcfefd586abc6721b16df2e17eb41ba99f6", func := "loop.example/replayverifier/laws.FnExactBoxNearest", spec := "fnExactBoxNearest", apart := false }
def FnExactBoxNearestSaid : Prop := fnExactBoxNearestRow.holds Try.pinned (OpenSpec.ofChange fnExactBoxNearestSpec)

/-- ITS FALSE NEIGHBOUR: 'it returns false'. Refute it at one input. -/
def fnExactBoxNearestWrong : ChangeSpec := { name := "fnExactBoxNearest", fn := fun _ => fun
  | [d1, d2] => { results := [.lit (.bool false)], args := [d1, d2] }
  | _ => none }
def FnExactBoxNearestWrongFalsely : Prop := fnExactBoxNearestRow.holds Try.pinned (OpenSpec.ofChange fnExactBoxNearestWrong)

/-- 'laws.FnBoxHas': WHATEVER THE INPUT: true; the input reads as it did. -/
def fnBoxHasSpec : ChangeSpec := { name := "fnBoxHas", fn := fun _ => fun
  | [d] => { results := [.lit (.bool true)], args := [d] }
  | _ => none }
def fnBoxHasRow : OpenClaim := { program := "ytjegojhlcmhaoaa", sum := "c45a5b7110fef51fd96b41c434466fcfefd586abc6721b16df2e17eb41ba99f6", func := "loop.example/replayverifier/laws.FnBoxHas", spec := "fnBoxHas", apart := false }
def FnBoxHasSaid : Prop := fnBoxHasRow.holds Try.pinned (OpenSpec.ofChange fnBoxHasSpec)

/-- ITS FALSE NEIGHBOUR: 'it returns false'. Refute it at one input. -/
def fnBoxHasWrong : ChangeSpec := { name := "fnBoxHas", fn := fun _ => fun
  | [d] => { results := [.lit (.bool false)], args := [d] }
  | _ => none }
def FnBoxHasWrongFalsely : Prop := fnBoxHasRow.holds Try.pinned (OpenSpec.ofChange fnBoxHasWrong)

/-- 'laws.FnExactBoxMeet': WHATEVER THE INPUT: true; the input reads as it did. -/
def fnExactBoxMeetSpec : ChangeSpec := { name := "fnExactBoxMeet", fn := fun _ => fun
  | [d1, d2] => { results := [.lit (.bool true)], args := [d1, d2] }
  | _ => none }
def fnExactBoxMeetRow : OpenClaim := { program := "ytjegojhlcmhaoaa", sum := "c45a5b7110fef51fd96b41c434466fcfefd586abc6721b16df2e17eb41ba99f6", func := "loop.example/replayverifier/laws.FnExactBoxMeet", spec := "fnExactBoxMeet", apart := false }
def FnExactBoxMeetSaid : Prop := fnExactBoxMeetRow.holds Try.pinned (OpenSpec.ofChange fnExactBoxMeetSpec)

/-- ITS FALSE NEIGHBOUR: 'it returns false'. Refute it at one input. -/
def fnExactBoxMeetWrong : ChangeSpec := { name := "fnExactBoxMeet", fn := fun _ => fun
  | [d1, d2] => { results := [.lit (.bool false)], args := [d1, d2] }
  | _ => none }
def FnExactBoxMeetWrongFalsely : Prop := fnExactBoxMeetRow.holds Try.pinned (OpenSpec.ofChange fnExactBoxMeetWrong)

/-- 'laws.FnMeetSelf': WHATEVER THE INPUT: true; the input reads as it did. -/
def fnMeetSelfSpec : ChangeSpec := { name := "fnMeetSelf", fn := fun _ => fun
  | [d] => { results := [.lit (.bool true)], args := [d] }
  | _ => none }
def fnMeetSelfRow : OpenClaim := { program := "ytjegojhlcmhaoaa", sum := "c45a5b7110fef51fd96b41c434466fcfefd586abc6721b16df2e17eb41ba99f6", func := "loop.example/replayverifier/laws.FnMeetSelf", spec := "fnMeetSelf", apart := false }
def FnMeetSelfSaid : Prop := fnMeetSelfRow.holds Try.pinned (OpenSpec.ofChange fnMeetSelfSpec)

/-- ITS FALSE NEIGHBOUR: 'it returns false'. Refute it at one input. -/
def fnMeetSelfWrong : ChangeSpec := { name := "fnMeetSelf", fn := fun _ => fun
  | [d] => { results := [.lit (.bool false)], args := [d] }
  | _ => none }
def FnMeetSelfWrongFalsely : Prop := fnMeetSelfRow.holds Try.pinned (OpenSpec.ofChange fnMeetSelfWrong)

/- THE SECOND FORM. 'bulk': how many values and letters a reading holds, each counted each time it is reached (what is shared counts as often as it is met; a slice's spare places count too). A statement '..UptoSaid' is the law's where the arguments, and the package variables that the reading takes, are together of bulk at most 1048576: NARROWER than '..Said'. Prove '..Said' where nothing that the law and all that it calls make is longer than what came in: it says more and counts as full. Else prove '..UptoSaid'. A law counts once. -/
mutual
def uptoBulk {H : Type} : DataW H → Nat
  | .lit (.string bytes) => bytes.length + 1
  | .lit _ => 1
  | .nil => 1
  | .ptr d => uptoBulk d + 1
  | .slice elems spare => uptoBulkAll elems + uptoBulkAll spare + 1
  | .agg parts => uptoBulkAll parts + 1
  | .iface _ d => uptoBulk d + 1
  | .map entries => uptoBulkEntries entries + 1
  | .held _ => 1
def uptoBulkAll {H : Type} : List (DataW H) → Nat
  | [] => 0
  | d :: r => uptoBulk d + uptoBulkAll r
def uptoBulkEntries {H : Type} : List (Lit × DataW H) → Nat
  | [] => 0
  | x :: r => uptoBulkEntry x + uptoBulkEntries r
def uptoBulkEntry {H : Type} : Lit × DataW H → Nat
  | (.string bytes, d) => bytes.length + uptoBulk d + 1
  | (_, d) => uptoBulk d + 1
 end
def uptoSmall : (H : Type) → List (DataW H) → Bool := fun _ ds => decide (uptoBulkAll ds ≤ 1048576)
def OpenSpec.upto (s : _root_.Go.ChangeSpec) : _root_.Go.OpenSpec := { _root_.Go.OpenSpec.ofChange s with cond := some uptoSmall }

/-- 'laws.FnExactBoxHas', WHERE WHAT IT READS IS OF BULK AT MOST 1048576: true; the input reads as it did. -/
def fnExactBoxHasUptoRow : OpenClaim := { program := "ytjegojhlcmhaoaa", sum := "c45a5b7110fef51fd96b41c434466fcfefd586abc6721b16df2e17eb41ba99f6", func := "loop.example/replayverifier/laws.FnExactBoxHas", spec := "fnExactBoxHas", apart := false, narrowed := true }
def FnExactBoxHasUptoSaid : Prop := fnExactBoxHasUptoRow.holds Try.pinned (OpenSpec.upto fnExactBoxHasSpec)

/-- 'laws.FnExactBoxTouches', WHERE WHAT IT READS IS OF BULK AT MOST 1048576: true; the input reads as it did. -/
def fnExactBoxTouchesUptoRow : OpenClaim := { program := "ytjegojhlcmhaoaa", sum := "c45a5b7110fef51fd96b41c434466fcfefd586abc6721b16df2e17eb41ba99f6", func := "loop.example/replayverifier/laws.FnExactBoxTouches", spec := "fnExactBoxTouches", apart := false, narrowed := true }
def FnExactBoxTouchesUptoSaid : Prop := fnExactBoxTouchesUptoRow.holds Try.pinned (OpenSpec.upto fnExactBoxTouchesSpec)

/-- 'laws.FnBoxPoint', WHERE WHAT IT READS IS OF BULK AT MOST 1048576: true; the input reads as it did. -/
def fnBoxPointUptoRow : OpenClaim := { program := "ytjegojhlcmhaoaa", sum := "c45a5b7110fef51fd96b41c434466fcfefd586abc6721b16df2e17eb41ba99f6", func := "loop.example/replayverifier/laws.FnBoxPoint", spec := "fnBoxPoint", apart := false, narrowed := true }
def FnBoxPointUptoSaid : Prop := fnBoxPointUptoRow.holds Try.pinned (OpenSpec.upto fnBoxPointSpec)

/-- 'laws.FnExactBoxNearest', WHERE WHAT IT READS IS OF BULK AT MOST 1048576: true; the input reads as it did. -/
def fnExactBoxNearestUptoRow : OpenClaim := { program := "ytjegojhlcmhaoaa", sum := "c45a5b7110fef51fd96b41c434466fcfefd586abc6721b16df2e17eb41ba99f6", func := "loop.example/replayverifier/laws.FnExactBoxNearest", spec := "fnExactBoxNearest", apart := false, narrowed := true }
def FnExactBoxNearestUptoSaid : Prop := fnExactBoxNearestUptoRow.holds Try.pinned (OpenSpec.upto fnExactBoxNearestSpec)

/-- 'laws.FnBoxHas', WHERE WHAT IT READS IS OF BULK AT MOST 1048576: true; the input reads as it did. -/
def fnBoxHasUptoRow : OpenClaim := { program := "ytjegojhlcmhaoaa", sum := "c45a5b7110fef51fd96b41c434466fcfefd586abc6721b16df2e17eb41ba99f6", func := "loop.example/replayverifier/laws.FnBoxHas", spec := "fnBoxHas", apart := false, narrowed := true }
def FnBoxHasUptoSaid : Prop := fnBoxHasUptoRow.holds Try.pinned (OpenSpec.upto fnBoxHasSpec)

/-- 'laws.FnExactBoxMeet', WHERE WHAT IT READS IS OF BULK AT MOST 1048576: true; the input reads as it did. -/
def fnExactBoxMeetUptoRow : OpenClaim := { program := "ytjegojhlcmhaoaa", sum := "c45a5b7110fef51fd96b41c434466fcfefd586abc6721b16df2e17eb41ba99f6", func := "loop.example/replayverifier/laws.FnExactBoxMeet", spec := "fnExactBoxMeet", apart := false, narrowed := true }
def FnExactBoxMeetUptoSaid : Prop := fnExactBoxMeetUptoRow.holds Try.pinned (OpenSpec.upto fnExactBoxMeetSpec)

/-- 'laws.FnMeetSelf', WHERE WHAT IT READS IS OF BULK AT MOST 1048576: true; the input reads as it did. -/
def fnMeetSelfUptoRow : OpenClaim := { program := "ytjegojhlcmhaoaa", sum := "c45a5b7110fef51fd96b41c434466fcfefd586abc6721b16df2e17eb41ba99f6", func := "loop.example/replayverifier/laws.FnMeetSelf", spec := "fnMeetSelf", apart := false, narrowed := true }
def FnMeetSelfUptoSaid : Prop := fnMeetSelfUptoRow.holds Try.pinned (OpenSpec.upto fnMeetSelfSpec)

end Rows
end Go.Proofs.Ytjegojhlcmhaoaa
