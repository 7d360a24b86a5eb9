/-
  The contracts of the functions that draw boxes with points, and two boxes.
-/
import Derived.Test.YtakmeajdkcojoaaBDraw
namespace Go.Proofs.Ytakmeajdkcojoaa
open Go.RowKit

/-- The block B holds two numbers, and may be written. -/
def Has2 (w : World) (B : Nat) (x y : Int) : Prop := w.cell? ⟨B, 0, none⟩ = some (.int .i64 x) ∧ w.cell? ⟨B, 1, none⟩ = some (.int .i64 y) ∧ ∀ o, w.frozen? ⟨B, o, none⟩ = false
/-- The block B holds four numbers, and may be written. -/
def Has4 (w : World) (B : Nat) (a b c d : Int) : Prop := w.cell? ⟨B, 0, none⟩ = some (.int .i64 a) ∧ w.cell? ⟨B, 1, none⟩ = some (.int .i64 b) ∧ w.cell? ⟨B, 2, none⟩ = some (.int .i64 c) ∧ w.cell? ⟨B, 3, none⟩ = some (.int .i64 d) ∧ ∀ o, w.frozen? ⟨B, o, none⟩ = false
theorem Has2.new (w : World) (x y : Int) (t : TypeId) : Has2 (w.alloc (.cells #[.int .i64 x, .int .i64 y] t)) w.heap.size x y := ⟨by go_simp, by go_simp, by intro o; go_simp⟩
theorem Has4.new (w : World) (a b c d : Int) (t : TypeId) : Has4 (w.alloc (.cells #[.int .i64 a, .int .i64 b, .int .i64 c, .int .i64 d] t)) w.heap.size a b c d := ⟨by go_simp, by go_simp, by go_simp, by go_simp, by intro o; go_simp⟩
theorem Has2.pq {g : Nat} {w w' : World} {B : Nat} {x y : Int} (h : Has2 w B x y) (k : PQ g w w') (hn : B ≠ g) : Has2 w' B x y :=
  ⟨PQ.cell1 k hn h.1, PQ.cell1 k hn h.2.1, fun o => (k.frozen (World.block_lt_of_cell? w _ h.1) hn o).trans (h.2.2 o)⟩
theorem Has4.pq {g : Nat} {w w' : World} {B : Nat} {a b c d : Int} (h : Has4 w B a b c d) (k : PQ g w w') (hn : B ≠ g) : Has4 w' B a b c d :=
  ⟨PQ.cell1 k hn h.1, PQ.cell1 k hn h.2.1, PQ.cell1 k hn h.2.2.1, PQ.cell1 k hn h.2.2.2.1, fun o => (k.frozen (World.block_lt_of_cell? w _ h.1) hn o).trans (h.2.2.2.2 o)⟩
theorem Has2.q {w w' : World} {B : Nat} {x y : Int} (h : Has2 w B x y) (k : Q w w') : Has2 w' B x y :=
  ⟨(k.cells.1 _ _ (World.block_lt_of_cell? w _ h.1)).trans h.1, (k.cells.1 _ _ (World.block_lt_of_cell? w _ h.1)).trans h.2.1, fun o => (k.cells.2 _ _ (World.block_lt_of_cell? w _ h.1)).trans (h.2.2 o)⟩
theorem Has4.q {w w' : World} {B : Nat} {a b c d : Int} (h : Has4 w B a b c d) (k : Q w w') : Has4 w' B a b c d :=
  ⟨(k.cells.1 _ _ (World.block_lt_of_cell? w _ h.1)).trans h.1, (k.cells.1 _ _ (World.block_lt_of_cell? w _ h.1)).trans h.2.1, (k.cells.1 _ _ (World.block_lt_of_cell? w _ h.1)).trans h.2.2.1, (k.cells.1 _ _ (World.block_lt_of_cell? w _ h.1)).trans h.2.2.2.1, fun o => (k.cells.2 _ _ (World.block_lt_of_cell? w _ h.1)).trans (h.2.2.2.2 o)⟩
/-- A drawn point. -/
def PtDrawn (w : World) (g : Nat) (sa : Option Addr) (len cap p : Nat) (e : Ending) (w' : World) : Prop :=
  ∃ (x y : Int) (p' : Nat), (Lit.int .i64 x).wf = true ∧ (Lit.int .i64 y).wf = true ∧ p' ≤ p + 12 ∧ e = .returned (.agg #[.int .i64 x, .int .i64 y]) ∧ Rd w' g sa len cap p' ∧ PQ g w w'

set_option maxHeartbeats 4000000 in
theorem l91Near_any (g : Nat) (sa : Option Addr) (len cap p : Nat) (w : World) (a b c d : Int) (hr : Rd w g sa len cap p) (hp : p ≤ 800) :
    Calls Try.prog 24 #[.pointer (some ⟨g, 0, none⟩), .agg #[.int .i64 a, .int .i64 b, .int .i64 c, .int .i64 d]] w (PtDrawn w g sa len cap p) := by
  have hlt := hr.lt
  have h4 := (Has4.new w a b c d 26).q ((Q.refl _).alloc (.cells #[.int .i64 0, .int .i64 0] 24))
  have h2 := Has2.new (w.alloc (.cells #[.int .i64 a, .int .i64 b, .int .i64 c, .int .i64 d] 26)) 0 0 24
  simp only [World.size_alloc] at h2
  have hA : PQ g w ((w.alloc (.cells #[.int .i64 a, .int .i64 b, .int .i64 c, .int .i64 d] 26)).alloc (.cells #[.int .i64 0, .int .i64 0] 24)) := ((PQ.refl g w).alloc _).alloc _
  have hrA := hr.keepQ (((Q.refl w).alloc (.cells #[.int .i64 a, .int .i64 b, .int .i64 c, .int .i64 d] 26)).alloc (.cells #[.int .i64 0, .int .i64 0] 24))
  go_enter Try.func24, Try.ntmps24
  go_wp2_with fail
  refine (pick_any 4 g sa len cap p _ hrA (by omega) (by omega)).mono ?_
  rintro e w1 ⟨v1, a1, b1, rfl, hr1, k1, z1⟩
  simp only [World.size_alloc] at z1
  have hk1 := hA.trans k1
  obtain ⟨r0, r1, r2, r3, r4⟩ := h4.pq k1 (by omega)
  have h2' := h2.pq k1 (by omega)
  clear h4 h2 hA hrA
  by_cases g1 : v1 = 0
  · subst g1
    go_wp2_with fail
    refine (l91Vec_any g sa len cap (p + 1) _ hr1 (by omega)).mono ?_
    rintro e w2 ⟨x, y, p2, wx, wy, hp2, rfl, hr2, k2⟩
    obtain ⟨t0, t1, t2⟩ := h2'.pq k2 (by omega)
    have hk2 := hk1.trans k2
    go_wp2
    first | (refine bodyPost_ret (by simp [results, Try.results24, go_sem, *]; try rfl) rfl ?_) | (refine bodyPost_ret (by (try simp only [results, Try.results24]); go_simp; try rfl) rfl ?_)
    exact ⟨_, _, _, wx, wy, by omega, rfl, hr.stores hr2 (by (repeat' (first | (with_reducible assumption) | (with_reducible exact PQ.refl _ _) | (with_reducible refine PQ.setCell ?_ (Or.inr ?_) _) | (with_reducible refine PQ.drew ?_) | (with_reducible refine PQ.drewN ?_ _) | (with_reducible refine PQ.alloc ?_ _) | (with_reducible refine PQ.trans ?_ (by assumption)) | (dsimp only; omega) | (simp; done) | (simp; omega)))) (by (repeat' (first | (with_reducible rfl) | (with_reducible refine (heap_setCell_ne ?_).trans ?_) | (with_reducible refine (Below.heap_alloc _ _ _ ?_).trans ?_) | (dsimp only; omega) | (simp; done) | (simp; omega)))), by (repeat' (first | (with_reducible assumption) | (with_reducible exact PQ.refl _ _) | (with_reducible refine PQ.setCell ?_ (Or.inr ?_) _) | (with_reducible refine PQ.drew ?_) | (with_reducible refine PQ.drewN ?_ _) | (with_reducible refine PQ.alloc ?_ _) | (with_reducible refine PQ.trans ?_ (by assumption)) | (dsimp only; omega) | (simp; done) | (simp; omega)))⟩
  · have g2 : (v1 == 0) = false := by simpa using g1
    obtain ⟨t0, t1, t2⟩ := h2'
    go_wp2_with fail
    go_region_held3 (fun w' => w'.cell? ⟨w.heap.size, 0, none⟩ = some (.int .i64 a) ∧ w'.cell? ⟨w.heap.size, 1, none⟩ = some (.int .i64 b) ∧ PQ g w w')
      ((go_split_ands; (repeat' (with_reducible apply And.intro)) <;> first | (with_reducible assumption) | ((repeat' (first | (with_reducible assumption) | (with_reducible exact cellE (by assumption)) | (with_reducible refine cellA _ ?_) | (with_reducible refine cellD ?_) | (with_reducible refine cellS (by first | (dsimp only; omega) | (simp; omega)) ?_) | (with_reducible refine cellO (by simp; done) ?_) | (with_reducible refine PQ.cell1 (by assumption) (by first | (dsimp only; omega) | (simp; omega)) ?_))); done) | ((repeat' (first | (with_reducible assumption) | (with_reducible exact PQ.refl _ _) | (with_reducible refine PQ.setCell ?_ (Or.inr ?_) _) | (with_reducible refine PQ.drew ?_) | (with_reducible refine PQ.drewN ?_ _) | (with_reducible refine PQ.alloc ?_ _) | (with_reducible refine PQ.trans ?_ (by assumption)) | (dsimp only; omega) | (simp; done) | (simp; omega))); done) | omega | (simp; omega)))
      (first | (go_split_ands; go_at_call 23; refine (pick_any 70 g sa len cap (p + 1) _ (by first | (with_reducible assumption) | (with_reducible exact Rd.keepQ (by assumption) ((Q.refl _).alloc _)) | (with_reducible exact Rd.keepQ (by assumption) (Q.refl _).drew) | (with_reducible exact Rd.keepQ (by assumption) (((Q.refl _).drew).alloc _)) | (with_reducible exact Rd.keepQ (by assumption) (((Q.refl _).alloc _).drew))) (by omega) (by omega)).mono ?_; rintro e w2 ⟨v2, a2, b2, rfl, hr2, kk2, zz2⟩; (try simp at zz2); have cf2 := (kk2).blk (w.heap.size + 1) (by first | omega | (simp; omega)) (by omega)) | (go_split_ands; go_at_call 23; refine (pick_any 70 g sa len cap (p + 1 + 1) _ (by first | (with_reducible assumption) | (with_reducible exact Rd.keepQ (by assumption) ((Q.refl _).alloc _)) | (with_reducible exact Rd.keepQ (by assumption) (Q.refl _).drew) | (with_reducible exact Rd.keepQ (by assumption) (((Q.refl _).drew).alloc _)) | (with_reducible exact Rd.keepQ (by assumption) (((Q.refl _).alloc _).drew))) (by omega) (by omega)).mono ?_; rintro e w3 ⟨v3, a3, b3, rfl, hr3, kk3, zz3⟩; (try simp at zz3); have cf3 := (kk3).blk (w.heap.size + 1) (by first | omega | (simp; omega)) (by omega)))
    all_goals
      go_split_ands
      go_wp2
      first | (refine bodyPost_ret (by simp [results, Try.results24, go_sem, *]; try rfl) rfl ?_) | (refine bodyPost_ret (by (try simp only [results, Try.results24]); go_simp; try rfl) rfl ?_)
      exact ⟨_, _, _, by first | exact wf_wrap _ _ | exact wrap64_wf _, by first | exact wf_wrap _ _ | exact wrap64_wf _, by omega, rfl, hr.stores hr3 (by (repeat' (first | (with_reducible assumption) | (with_reducible exact PQ.refl _ _) | (with_reducible refine PQ.setCell ?_ (Or.inr ?_) _) | (with_reducible refine PQ.drew ?_) | (with_reducible refine PQ.drewN ?_ _) | (with_reducible refine PQ.alloc ?_ _) | (with_reducible refine PQ.trans ?_ (by assumption)) | (dsimp only; omega) | (simp; done) | (simp; omega)))) (by (repeat' (first | (with_reducible rfl) | (with_reducible refine (heap_setCell_ne ?_).trans ?_) | (with_reducible refine (Below.heap_alloc _ _ _ ?_).trans ?_) | (dsimp only; omega) | (simp; done) | (simp; omega)))), by (repeat' (first | (with_reducible assumption) | (with_reducible exact PQ.refl _ _) | (with_reducible refine PQ.setCell ?_ (Or.inr ?_) _) | (with_reducible refine PQ.drew ?_) | (with_reducible refine PQ.drewN ?_ _) | (with_reducible refine PQ.alloc ?_ _) | (with_reducible refine PQ.trans ?_ (by assumption)) | (dsimp only; omega) | (simp; done) | (simp; omega)))⟩
set_option maxHeartbeats 4000000 in
theorem drawBoxHas (a : Option Addr) (l c : Nat) (z : List Int) (w : World) (h : IsRow w a l c z) : Calls Try.prog 14 #[.slice a l c] w (DrawnBV w) := by
  have h4 := (Has4.new w 0 0 0 0 26).q ((Q.refl _).alloc (.cells #[.int .i64 0, .int .i64 0] 24))
  have h2 := Has2.new (w.alloc (.cells #[.int .i64 0, .int .i64 0, .int .i64 0, .int .i64 0] 26)) 0 0 24
  simp only [World.size_alloc] at h2
  go_enter Try.func14, Try.ntmps14
  go_wp2_with fail
  refine (l6Open_any _ _ _ z _ (h.keep (((Q.refl _).alloc _).alloc _))).mono ?_
  rintro e w0 ⟨sa, len, cap, rfl, hr0, q0, hz0⟩
  simp only [World.size_alloc] at hr0 hz0
  have i4 := h4.q q0
  have i2 := h2.q q0
  clear h4 h2
  have hQ0 : Q w w0 := (((Q.refl w).alloc _).alloc _).trans q0
  clear q0
  go_wp2_with fail
  refine (l91Box_any (w.heap.size + 1 + 1) sa len cap 0 _ hr0 (by omega)).mono ?_
  rintro e w1 ⟨a, b, c, d, p1, wf, hp1, rfl, hr1, k1⟩
  have z1 := k1.size
  have hQ1 : Q w w1 := hQ0.of_pq (g := w.heap.size + 1 + 1) (by omega) k1
  have j4 := (i4.pq k1 (by omega)).q ((Q.refl w1).alloc (.cells #[.int .i64 a, .int .i64 b, .int .i64 c, .int .i64 d] 26))
  have j2 := (i2.pq k1 (by omega)).q ((Q.refl w1).alloc (.cells #[.int .i64 a, .int .i64 b, .int .i64 c, .int .i64 d] 26))
  have jB := Has4.new w1 a b c d 26
  have hrA := hr1.keepQ ((Q.refl w1).alloc (.cells #[.int .i64 a, .int .i64 b, .int .i64 c, .int .i64 d] 26))
  have hQA : Q w (w1.alloc (.cells #[.int .i64 a, .int .i64 b, .int .i64 c, .int .i64 d] 26)) := hQ1.alloc _
  have hsz : (w1.alloc (.cells #[.int .i64 a, .int .i64 b, .int .i64 c, .int .i64 d] 26)).heap.size = w1.heap.size + 1 := by simp
  clear i4 i2 k1 hr1
  go_wp2_with fail
  generalize (w1.alloc (.cells #[.int .i64 a, .int .i64 b, .int .i64 c, .int .i64 d] 26)) = W0 at *
  obtain ⟨u0, u1, u2, u3, u4⟩ := j4
  obtain ⟨s0, s1, s2⟩ := j2
  obtain ⟨m0, m1, m2, m3, m4⟩ := jB
  have n0 : w.heap.size < W0.heap.size := by omega
  have n1 : w.heap.size + 1 < W0.heap.size := by omega
  have n2 : w1.heap.size < W0.heap.size := by omega
  have n3 : ¬ w1.heap.size = w.heap.size := by omega
  have n4 : ¬ w1.heap.size = w.heap.size + 1 := by omega
  have hsZ := Lib.hid hsz
  clear hsz m4
  go_region_held3 (fun w' => w'.cell? ⟨w1.heap.size, 0, none⟩ = some (.int .i64 a) ∧ w'.cell? ⟨w1.heap.size, 1, none⟩ = some (.int .i64 b) ∧ w'.cell? ⟨w1.heap.size, 2, none⟩ = some (.int .i64 c) ∧ w'.cell? ⟨w1.heap.size, 3, none⟩ = some (.int .i64 d) ∧ Q w w')
    ((go_split_ands; (repeat' (with_reducible apply And.intro)) <;> first | (with_reducible assumption) | ((repeat' (first | (with_reducible assumption) | (with_reducible exact cellE (by assumption)) | (with_reducible refine cellA _ ?_) | (with_reducible refine cellD ?_) | (with_reducible refine cellS (by first | (dsimp only; omega) | (simp; omega)) ?_) | (with_reducible refine cellO (by simp; done) ?_) | (with_reducible refine PQ.cell1 (by assumption) (by first | (dsimp only; omega) | (simp; omega)) ?_))); done) | ((repeat' (first | (with_reducible exact Q.refl _) | (with_reducible assumption) | (with_reducible refine Q.setCell ?_ ?_ _) | (with_reducible refine Q.alloc ?_ _) | (with_reducible refine Q.drew ?_) | (with_reducible refine Q.drewN ?_ _) | (with_reducible refine Q.trans ?_ (by assumption)) | omega | (dsimp only; omega) | (simp; done) | (simp; omega))); done) | omega | (simp; omega)))
    ((go_split_ands; go_at_call 24; refine (l91Near_any (w.heap.size + 1 + 1) sa len cap p1 _ a b c d (by first | (with_reducible assumption) | (with_reducible exact Rd.keepQ (by assumption) ((Q.refl _).alloc _)) | (with_reducible exact Rd.keepQ (by assumption) (Q.refl _).drew) | (with_reducible exact Rd.keepQ (by assumption) (((Q.refl _).drew).alloc _)) | (with_reducible exact Rd.keepQ (by assumption) (((Q.refl _).alloc _).drew))) (by omega)).mono ?_; rintro e w2 ⟨x, y, p2, wx, wy, hp2, rfl, hr2, k2⟩; have cf0 := (k2).blk (w.heap.size) (by first | omega | (simp; omega)) (by omega); have cf1 := (k2).blk (w.heap.size + 1) (by first | omega | (simp; omega)) (by omega); have cf2 := (k2).blk (w1.heap.size) (by first | omega | (simp; omega)) (by omega); have hQ2 : Q w w2 := Q.of_pq (by assumption) (g := w.heap.size + 1 + 1) (by omega) k2))
  all_goals
    go_split_ands
    go_wp2
    first | (refine bodyPost_ret (by simp [results, Try.results14, go_sem, *]; try rfl) rfl ?_) | (refine bodyPost_ret (by (try simp only [results, Try.results14]); go_simp; try rfl) rfl ?_)
    exact ⟨_, _, _, _, _, _, wf, wx, wy, rfl, by (repeat' (first | (with_reducible exact Q.refl _) | (with_reducible assumption) | (with_reducible refine Q.setCell ?_ ?_ _) | (with_reducible refine Q.alloc ?_ _) | (with_reducible refine Q.drew ?_) | (with_reducible refine Q.drewN ?_ _) | (with_reducible refine Q.trans ?_ (by assumption)) | omega | (dsimp only; omega) | (simp; done) | (simp; omega)))⟩
set_option maxHeartbeats 1000000 in
theorem drawBoxNearest (a : Option Addr) (l c : Nat) (z : List Int) (w : World) (h : IsRow w a l c z) : Calls Try.prog 5 #[.slice a l c] w (DrawnBV w) := by
  have h4 := (Has4.new w 0 0 0 0 26).q ((Q.refl _).alloc (.cells #[.int .i64 0, .int .i64 0] 24))
  have h2 := Has2.new (w.alloc (.cells #[.int .i64 0, .int .i64 0, .int .i64 0, .int .i64 0] 26)) 0 0 24
  simp only [World.size_alloc] at h2
  go_enter Try.func5, Try.ntmps5
  go_wp2_with fail
  refine (drawBoxHas _ _ _ z _ (h.keep (((Q.refl _).alloc _).alloc _))).mono ?_
  rintro e w0 ⟨a, b, c, d, x, y, wf, wx, wy, rfl, q0⟩
  obtain ⟨u0, u1, u2, u3, u4⟩ := h4.q q0
  obtain ⟨s0, s1, s2⟩ := h2.q q0
  clear h4 h2
  have hQ0 : Q w w0 := (((Q.refl w).alloc _).alloc _).trans q0
  clear q0
  go_wp2
  first | (refine bodyPost_ret (by simp [results, Try.results5, go_sem, *]; try rfl) rfl ?_) | (refine bodyPost_ret (by (try simp only [results, Try.results5]); go_simp; try rfl) rfl ?_)
  exact ⟨_, _, _, _, _, _, wf, wx, wy, rfl, by (repeat' (first | (with_reducible exact Q.refl _) | (with_reducible assumption) | (with_reducible refine Q.setCell ?_ ?_ _) | (with_reducible refine Q.alloc ?_ _) | (with_reducible refine Q.drew ?_) | (with_reducible refine Q.drewN ?_ _) | (with_reducible refine Q.trans ?_ (by assumption)) | omega | (dsimp only; omega) | (simp; done) | (simp; omega)))⟩
end Go.Proofs.Ytakmeajdkcojoaa
