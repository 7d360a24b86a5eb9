/-
  'Q' carries a cell that is there: for the regions that draw between loads and calls.
-/
import Derived.Test.YtakmeajdkcojoaaQ
import Derived.Deep.RegionHeld3
import Derived.Deep.DeepCutAuto
namespace Go.Proofs.Ytakmeajdkcojoaa
open Go.RowKit
theorem Q.cell1 {a w' : World} {p : Addr} {v : Value} (q : Q a w') (h : a.cell? p = some v) : w'.cell? p = some v :=
  (Below.cell (p := p) q (World.block_lt_of_cell? a _ h)).trans h
theorem cellA {a : World} {p : Addr} {v : Value} (o : Obj) (h : a.cell? p = some v) : (a.alloc o).cell? p = some v := Q.cell1 (Q.alloc (Q.refl _) o) h
theorem cellS {a : World} {p q : Addr} {u v : Value} (hne : p.block ≠ q.block) (h : a.cell? p = some v) : (a.setCell q u).cell? p = some v := (World.cell?_of_block (Below.heap_setCell _ _ _ _ hne)).trans h
theorem cellO {a : World} {p q : Addr} {u v : Value} (hne : p ≠ q) (h : a.cell? p = some v) : (a.setCell q u).cell? p = some v := (World.cell?_setCell_other _ _ _ _ (Ne.symm hne)).trans h
theorem cellD {a : World} {p : Addr} {v : Value} (h : a.cell? p = some v) : a.drew.cell? p = some v := h
theorem cellE {a : World} {p : Addr} {v : Value} (h : a.drew.cell? p = some v) : a.cell? p = some v := h
theorem Q.size1 {a w' : World} {n : Nat} (q : Q a w') (h : n < a.heap.size) : n < w'.heap.size := Nat.lt_of_lt_of_le h q.size
end Go.Proofs.Ytakmeajdkcojoaa
