/-
  The contracts of the drawing functions of vectors.
-/
import Derived.Test.YtjegojhlcmhaoaaVDraw
namespace Go.Proofs.Ytjegojhlcmhaoaa
open Go.RowKit

/-- A row of bytes behind new blocks. -/
theorem IsRow.keep {w w' : World} {a : Option Addr} {l c : Nat} {z : List Int} (h : IsRow w a l c z) (q : Q w w') : IsRow w' a l c z := by
  rcases h with h | ⟨x, h1, h2, h3, h4, h5, h6⟩
  · exact Or.inl h
  · refine Or.inr ⟨x, h1, h2, h3, h4, fun i hi => ?_, h6⟩
    have hc := h5 i hi
    have hb := World.block_lt_of_cell? w _ hc
    exact (Below.cell (p := x.add i) q hb).trans hc
def DrawnV (w : World) (e : Ending) (w' : World) : Prop := ∃ x y : Int, (Lit.int .i64 x).wf = true ∧ (Lit.int .i64 y).wf = true ∧ e = .returned (.agg #[.int .i64 x, .int .i64 y]) ∧ Q w w'
def DrawnVV (w : World) (e : Ending) (w' : World) : Prop := ∃ a b c d : Int, (Lit.int .i64 a).wf = true ∧ (Lit.int .i64 b).wf = true ∧ (Lit.int .i64 c).wf = true ∧ (Lit.int .i64 d).wf = true ∧ e = .returned (.tuple #[.agg #[.int .i64 a, .int .i64 b], .agg #[.int .i64 c, .int .i64 d]]) ∧ Q w w'
def DrawnVI (w : World) (e : Ending) (w' : World) : Prop := ∃ a b c : Int, (Lit.int .i64 a).wf = true ∧ (Lit.int .i64 b).wf = true ∧ (Lit.int .i64 c).wf = true ∧ e = .returned (.tuple #[.agg #[.int .i64 a, .int .i64 b], .int .i64 c]) ∧ Q w w'
set_option maxHeartbeats 400000 in
theorem drawVecOk (a : Option Addr) (l c : Nat) (z : List Int) (w : World) (h : IsRow w a l c z) : Calls Try.prog 16 #[.slice a l c] w (DrawnV w) := by
  go_enter Try.func16, Try.ntmps16
  go_wp2_with fail
  refine (l6Open_any _ _ _ z _ (h.keep ((Q.refl _).alloc _))).mono ?_
  rintro e w0 ⟨sa, len, cap, rfl, hr0, q0, hz0⟩
  simp only [World.size_alloc] at hr0 hz0
  have cq0 := fun o => (q0).cells.1 (w.heap.size) o (by first | omega | (simp; done) | (simp; omega)); have fq0 := fun o => (q0).cells.2 (w.heap.size) o (by first | omega | (simp; done) | (simp; omega))
  go_wp2_with fail
  refine (l91Vec_any (w.heap.size + 1) sa len cap 0 _ hr0 (by omega)).mono ?_
  rintro e w1 ⟨x, y, p1, wx, wy, hp1, rfl, hr1, k1⟩
  obtain ⟨ck1, fk1⟩ := (k1).blk (w.heap.size) (by first | omega | (simp; done) | (simp; omega)) (by first | omega | (simp; done) | (simp; omega))
  have hQ : Q w w1 := (((Q.refl w).alloc _).trans q0).of_pq (g := w.heap.size + 1) (by omega) k1
  go_wp2
  first | (refine bodyPost_ret (by simp [results, Try.results16, go_sem, *]; try rfl) rfl ?_) | (refine bodyPost_ret (by (try simp only [results, Try.results16]); go_simp; try rfl) rfl ?_)
  exact ⟨x, y, wx, wy, rfl, by (repeat' (first | exact Q.refl _ | assumption | refine Q.alloc ?_ _ | refine Q.drew ?_ | refine Q.drewN ?_ _ | refine Q.setCell ?_ ?_ _ | refine Q.trans ?_ (by assumption) | omega | (simp; done) | (simp; omega)))⟩
end Go.Proofs.Ytjegojhlcmhaoaa
