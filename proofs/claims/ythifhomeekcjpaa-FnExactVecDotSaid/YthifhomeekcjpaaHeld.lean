/-
  'Q' carries a cell that is there: for the regions that draw between loads and calls.
-/
import Derived.Test.YthifhomeekcjpaaQ
import Derived.Deep.RegionHeld3
namespace Go.Proofs.Ythifhomeekcjpaa
open Go.RowKit
theorem Q.cell1 {a w' : World} {p : Addr} {v : Value} (q : Q a w') (h : a.cell? p = some v) : w'.cell? p = some v :=
  (Below.cell (p := p) q (World.block_lt_of_cell? a _ h)).trans h
theorem Q.size1 {a w' : World} {n : Nat} (q : Q a w') (h : n < a.heap.size) : n < w'.heap.size := Nat.lt_of_lt_of_le h q.size
end Go.Proofs.Ythifhomeekcjpaa
