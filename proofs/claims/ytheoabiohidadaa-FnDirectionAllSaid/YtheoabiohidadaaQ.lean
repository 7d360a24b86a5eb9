/-
  'Q w w'': w' is w with new blocks: nothing that was there has turned. What the contracts say of the world behind a call.
-/
import Derived.Test.YtheoabiohidadaaRows
import Derived.WalkKit
import Derived.WalkSpells
import Derived.Lib.Hide
import Derived.Deep.Draws
namespace Go.Proofs.Ytheoabiohidadaa
open Go.RowKit

def Q (w w' : World) : Prop := Below w.heap.size w w'
theorem Q.refl (w : World) : Q w w := Below.refl _ _
theorem Q.size {w w' : World} (h : Q w w') : w.heap.size ≤ w'.heap.size := Below.size h
theorem Q.trans {a b c : World} (h : Q a b) (k : Q b c) : Q a c := Below.trans h (Below.mono k h.size)
theorem Q.alloc {a w : World} (h : Q a w) (o : Obj) : Q a (w.alloc o) := Below.alloc h h.size o
theorem Q.drew {a w : World} (h : Q a w) : Q a w.drew := Below.drew h
theorem Q.drewN {a w : World} (h : Q a w) (n : Nat) : Q a (w.drewN n) := ⟨h.os, h.tape, h.output, (Q.size h : a.heap.size ≤ w.heap.size), h.block⟩
theorem Q.setCell {a w : World} (h : Q a w) {p : Addr} (hp : a.heap.size ≤ p.block) (u : Value) : Q a (w.setCell p u) := Below.setCell h hp u
theorem Q.cells {w w' : World} (h : Q w w') : (∀ b o, b < w.heap.size → w'.cell? ⟨b, o, none⟩ = w.cell? ⟨b, o, none⟩) ∧ (∀ b o, b < w.heap.size → w'.frozen? ⟨b, o, none⟩ = w.frozen? ⟨b, o, none⟩) :=
  ⟨fun b o hb => Below.cell (p := ⟨b, o, none⟩) h hb, fun b o hb => Below.frozen (p := ⟨b, o, none⟩) h hb⟩
theorem Q.of_eq {w w' : World} (h : w = w') : Q w w' := h ▸ Q.refl w
theorem Q.of_below {w w' : World} (h : Below w.heap.size w w') : Q w w' := h
theorem ret_of {a b : Value} (h : a = b) : Ending.returned a = Ending.returned b := by rw [h]
theorem quiet_left {P : Program} {f : FuncId} {args : Array Value} {w : World} {n : Nat} {v : Value}
    (h : Calls P f args (w.drewN n) fun e w' => e = .returned v ∧ w.drewN n = w') : Calls P f args (w.drewN n) fun e w'' => e = .returned v ∧ ∃ m, w'' = w.drewN m :=
  h.mono fun _ _ ⟨he, hm⟩ => ⟨he, n, hm.symm⟩
end Go.Proofs.Ytheoabiohidadaa
