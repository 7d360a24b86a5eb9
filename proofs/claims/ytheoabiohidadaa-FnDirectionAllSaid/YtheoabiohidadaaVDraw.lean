/-
  The contracts of the functions that draw vectors.
-/
import Derived.Test.YtheoabiohidadaaDraw
import Derived.RegionTactic
import Derived.Deep.RegionWith
import Derived.Deep.RegionHeld3
import Derived.Handy
namespace Go.Proofs.Ytheoabiohidadaa
open Go.RowKit

/-- A drawn vector. -/
def VecDrawn (w : World) (g : Nat) (sa : Option Addr) (len cap p : Nat) (e : Ending) (w' : World) : Prop :=
  ∃ (x y : Int) (p' : Nat), (Lit.int .i64 x).wf = true ∧ (Lit.int .i64 y).wf = true ∧ p' ≤ p + 8 ∧ e = .returned (.agg #[.int .i64 x, .int .i64 y]) ∧ Rd w' g sa len cap p' ∧ PQ g w w'
end Go.Proofs.Ytheoabiohidadaa
