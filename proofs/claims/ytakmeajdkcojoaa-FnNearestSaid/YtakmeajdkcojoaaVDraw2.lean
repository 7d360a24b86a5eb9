/-
  The contracts of the drawing functions of vectors.
-/
import Derived.Test.YtakmeajdkcojoaaVDraw
namespace Go.Proofs.Ytakmeajdkcojoaa
open Go.RowKit

/-- A row of bytes behind new blocks. -/
theorem IsRow.keep {w w' : World} {a : Option Addr} {l c : Nat} {z : List Int} (h : IsRow w a l c z) (q : Q w w') : IsRow w' a l c z := by
  rcases h with h | ⟨x, h1, h2, h3, h4, h5, h6⟩
  · exact Or.inl h
  · refine Or.inr ⟨x, h1, h2, h3, h4, fun i hi => ?_, h6⟩
    have hc := h5 i hi
    have hb := World.block_lt_of_cell? w _ hc
    exact (Below.cell (p := x.add i) q hb).trans hc
def DrawnV (w : World) (e : Ending) (w' : World) : Prop := ∃ x y : Int, (Lit.int .i64 x).wf = true ∧ (Lit.int .i64 y).wf = true ∧ e = .returned (.agg #[.int .i64 x, .int .i64 y]) ∧ Q w w'
def DrawnVV (w : World) (e : Ending) (w' : World) : Prop := ∃ a b c d : Int, (Lit.int .i64 a).wf = true ∧ (Lit.int .i64 b).wf = true ∧ (Lit.int .i64 c).wf = true ∧ (Lit.int .i64 d).wf = true ∧ e = .returned (.tuple #[.agg #[.int .i64 a, .int .i64 b], .agg #[.int .i64 c, .int .i64 d]]) ∧ Q w w'
def DrawnVI (w : World) (e : Ending) (w' : World) : Prop := ∃ a b c : Int, (Lit.int .i64 a).wf = true ∧ (Lit.int .i64 b).wf = true ∧ (Lit.int .i64 c).wf = true ∧ e = .returned (.tuple #[.agg #[.int .i64 a, .int .i64 b], .int .i64 c]) ∧ Q w w'
end Go.Proofs.Ytakmeajdkcojoaa
