/-
  The contracts of the drawing functions of vectors.
-/
import Derived.Test.YtheoabiohidadaaVDraw
namespace Go.Proofs.Ytheoabiohidadaa
open Go.RowKit

/-- A row of bytes behind new blocks. -/
theorem IsRow.keep {w w' : World} {a : Option Addr} {l c : Nat} {z : List Int} (h : IsRow w a l c z) (q : Q w w') : IsRow w' a l c z := by
  rcases h with h | ⟨x, h1, h2, h3, h4, h5, h6⟩
  · exact Or.inl h
  · refine Or.inr ⟨x, h1, h2, h3, h4, fun i hi => ?_, h6⟩
    have hc := h5 i hi
    have hb := World.block_lt_of_cell? w _ hc
    exact (Below.cell (p := x.add i) q hb).trans hc
def DrawnV (w : World) (e : Ending) (w' : World) : Prop := ∃ x y : Int, (Lit.int .i64 x).wf = true ∧ (Lit.int .i64 y).wf = true ∧ e = .returned (.agg #[.int .i64 x, .int .i64 y]) ∧ Q w w'
def DrawnVV (w : World) (e : Ending) (w' : World) : Prop := ∃ a b c d : Int, (Lit.int .i64 a).wf = true ∧ (Lit.int .i64 b).wf = true ∧ (Lit.int .i64 c).wf = true ∧ (Lit.int .i64 d).wf = true ∧ e = .returned (.tuple #[.agg #[.int .i64 a, .int .i64 b], .agg #[.int .i64 c, .int .i64 d]]) ∧ Q w w'
def DrawnVI (w : World) (e : Ending) (w' : World) : Prop := ∃ a b c : Int, (Lit.int .i64 a).wf = true ∧ (Lit.int .i64 b).wf = true ∧ (Lit.int .i64 c).wf = true ∧ e = .returned (.tuple #[.agg #[.int .i64 a, .int .i64 b], .int .i64 c]) ∧ Q w w'
set_option maxHeartbeats 400000 in
theorem drawVecDirection (a : Option Addr) (l c : Nat) (z : List Int) (w : World) (h : IsRow w a l c z) : Calls Try.prog 14 #[.slice a l c] w (Drawn1 w) := by
  go_enter Try.func14, Try.ntmps14
  go_wp2_with fail
  refine (l6Open_any _ _ _ z _ h).mono ?_
  rintro e w0 ⟨sa, len, cap, rfl, hr0, q0, hz0⟩
  go_wp2_with fail
  refine (pick_any 18 _ sa len cap 0 _ hr0 (by omega) (by omega)).mono ?_
  rintro e w1 ⟨v, v0, v1, rfl, hr1, k1, hz1⟩
  go_wp2
  go_ret
  exact ⟨v - 1, wf_i64 (by omega) (by omega), rfl, q0.of_pq (Nat.le_refl _) k1⟩
end Go.Proofs.Ytheoabiohidadaa
