/-
  The contract of DrawBoxTouches.
-/
import Derived.Test.YtkimbehlicnppaaBDraw2
namespace Go.Proofs.Ytkimbehlicnppaa
open Go.RowKit

set_option maxHeartbeats 4000000 in
theorem drawBoxTouches (a : Option Addr) (l c : Nat) (z : List Int) (w : World) (h : IsRow w a l c z) : Calls Try.prog 19 #[.slice a l c] w (DrawnBVI w) := by
  have h4 := (Has4.new w 0 0 0 0 26).q ((Q.refl _).alloc (.cells #[.int .i64 0, .int .i64 0] 24))
  have h2 := Has2.new (w.alloc (.cells #[.int .i64 0, .int .i64 0, .int .i64 0, .int .i64 0] 26)) 0 0 24
  simp only [World.size_alloc] at h2
  go_enter Try.func19, Try.ntmps19
  go_wp2_with fail
  refine (l6Open_any _ _ _ z _ (h.keep (((Q.refl _).alloc _).alloc _))).mono ?_
  rintro e w0 ⟨sa, len, cap, rfl, hr0, q0, hz0⟩
  simp only [World.size_alloc] at hr0 hz0
  have i4 := h4.q q0
  have i2 := h2.q q0
  clear h4 h2
  have hQ0 : Q w w0 := (((Q.refl w).alloc _).alloc _).trans q0
  clear q0
  go_wp2_with fail
  refine (l91Box_any (w.heap.size + 1 + 1) sa len cap 0 _ hr0 (by omega)).mono ?_
  rintro e w1 ⟨a, b, c, d, p1, wf, hp1, rfl, hr1, k1⟩
  have z1 := k1.size
  have hQ1 : Q w w1 := hQ0.of_pq (g := w.heap.size + 1 + 1) (by omega) k1
  have j4 := (i4.pq k1 (by omega)).q ((Q.refl w1).alloc (.cells #[.int .i64 a, .int .i64 b, .int .i64 c, .int .i64 d] 26))
  have j2 := (i2.pq k1 (by omega)).q ((Q.refl w1).alloc (.cells #[.int .i64 a, .int .i64 b, .int .i64 c, .int .i64 d] 26))
  have jB := Has4.new w1 a b c d 26
  have hrA := hr1.keepQ ((Q.refl w1).alloc (.cells #[.int .i64 a, .int .i64 b, .int .i64 c, .int .i64 d] 26))
  have hQA : Q w (w1.alloc (.cells #[.int .i64 a, .int .i64 b, .int .i64 c, .int .i64 d] 26)) := hQ1.alloc _
  clear i4 i2 k1 hr1
  go_wp2_with fail
  refine (l91Near_any (w.heap.size + 1 + 1) sa len cap p1 _ a b c d hrA (by omega)).mono ?_
  rintro e w2 ⟨x, y, p2, wx, wy, hp2, rfl, hr2, k2⟩
  have z2 := k2.size
  simp only [World.size_alloc] at z2
  have hQ2 : Q w w2 := hQA.of_pq (g := w.heap.size + 1 + 1) (by omega) k2
  have l4 := (j4.pq k2 (by omega)).q ((Q.refl w2).alloc (.cells #[.int .i64 x, .int .i64 y] 24))
  have l2 := (j2.pq k2 (by omega)).q ((Q.refl w2).alloc (.cells #[.int .i64 x, .int .i64 y] 24))
  have lB := (jB.pq k2 (by omega)).q ((Q.refl w2).alloc (.cells #[.int .i64 x, .int .i64 y] 24))
  have lV := Has2.new w2 x y 24
  have hrB := hr2.keepQ ((Q.refl w2).alloc (.cells #[.int .i64 x, .int .i64 y] 24))
  have hQB : Q w (w2.alloc (.cells #[.int .i64 x, .int .i64 y] 24)) := hQ2.alloc _
  have hsz : (w2.alloc (.cells #[.int .i64 x, .int .i64 y] 24)).heap.size = w2.heap.size + 1 := by simp
  clear j4 j2 jB k2 hr2 hrA
  go_wp2_with fail
  generalize (w2.alloc (.cells #[.int .i64 x, .int .i64 y] 24)) = W0 at *
  obtain ⟨u0, u1, u2, u3, u4⟩ := l4
  obtain ⟨s0, s1, s2⟩ := l2
  obtain ⟨m0, m1, m2, m3, m4⟩ := lB
  obtain ⟨o0, o1, o2⟩ := lV
  have n0 : w.heap.size < W0.heap.size := by omega
  have n1 : w.heap.size + 1 < W0.heap.size := by omega
  have n2 : w1.heap.size < W0.heap.size := by omega
  have n2' : w2.heap.size < W0.heap.size := by omega
  have n3 : ¬ w1.heap.size = w.heap.size := by omega
  have n4 : ¬ w1.heap.size = w.heap.size + 1 := by omega
  have n5 : ¬ w2.heap.size = w.heap.size := by omega
  have n6 : ¬ w2.heap.size = w.heap.size + 1 := by omega
  have hsZ := Lib.hid hsz
  clear hsz m4 o2
  go_region_held3? (fun w' => w'.cell? ⟨w1.heap.size, 0, none⟩ = some (.int .i64 a) ∧ w'.cell? ⟨w1.heap.size, 1, none⟩ = some (.int .i64 b) ∧ w'.cell? ⟨w1.heap.size, 2, none⟩ = some (.int .i64 c) ∧ w'.cell? ⟨w1.heap.size, 3, none⟩ = some (.int .i64 d) ∧ w'.cell? ⟨w2.heap.size, 0, none⟩ = some (.int .i64 x) ∧ w'.cell? ⟨w2.heap.size, 1, none⟩ = some (.int .i64 y) ∧ Q w w')
    ((go_split_ands; (repeat' (with_reducible apply And.intro)) <;> first | (with_reducible assumption) | ((repeat' (first | (with_reducible assumption) | (with_reducible exact cellE (by assumption)) | (with_reducible refine cellA _ ?_) | (with_reducible refine cellD ?_) | (with_reducible refine cellS (by first | (dsimp only; omega) | (simp; omega)) ?_) | (with_reducible refine cellO (by simp; done) ?_) | (with_reducible refine PQ.cell1 (by assumption) (by first | (dsimp only; omega) | (simp; omega)) ?_))); done) | ((repeat' (first | (with_reducible exact Q.refl _) | (with_reducible assumption) | (with_reducible refine Q.setCell ?_ ?_ _) | (with_reducible refine Q.alloc ?_ _) | (with_reducible refine Q.drew ?_) | (with_reducible refine Q.drewN ?_ _) | (with_reducible refine Q.trans ?_ (by assumption)) | omega | (dsimp only; omega) | (simp; done) | (simp; omega))); done) | omega | (simp; omega)))
    (first | (go_split_ands; go_at_call_of 36 (Value.int .i64 30); refine (pick_any 30 (w.heap.size + 1 + 1) sa len cap p2 _ (by first | (with_reducible assumption) | (with_reducible exact Rd.keepQ (by assumption) ((Q.refl _).alloc _)) | (with_reducible exact Rd.keepQ (by assumption) (Q.refl _).drew) | (with_reducible exact Rd.keepQ (by assumption) (((Q.refl _).drew).alloc _)) | (with_reducible exact Rd.keepQ (by assumption) (((Q.refl _).alloc _).drew))) (by omega) (by omega)).mono ?_; rintro e w5 ⟨v5, a5, b5, rfl, hr5, kk5, zz5⟩; (try simp at zz5); have cf50 := (kk5).blk (w.heap.size) (by first | omega | (simp; omega)) (by omega); have cf51 := (kk5).blk (w.heap.size + 1) (by first | omega | (simp; omega)) (by omega); have hQ5 : Q w w5 := Q.of_pq (by with_reducible assumption) (g := w.heap.size + 1 + 1) (by omega) kk5) | (go_split_ands; go_at_call_of 36 (Value.int .i64 20); refine (pick_any 20 (w.heap.size + 1 + 1) sa len cap (p2 + 1) _ (by first | (with_reducible assumption) | (with_reducible exact Rd.keepQ (by assumption) ((Q.refl _).alloc _)) | (with_reducible exact Rd.keepQ (by assumption) (Q.refl _).drew) | (with_reducible exact Rd.keepQ (by assumption) (((Q.refl _).drew).alloc _)) | (with_reducible exact Rd.keepQ (by assumption) (((Q.refl _).alloc _).drew))) (by omega) (by omega)).mono ?_; rintro e w6 ⟨v6, a6, b6, rfl, hr6, kk6, zz6⟩; (try simp at zz6); have cf60 := (kk6).blk (w.heap.size) (by first | omega | (simp; omega)) (by omega); have cf61 := (kk6).blk (w.heap.size + 1) (by first | omega | (simp; omega)) (by omega); have hQ6 : Q w w6 := Q.of_pq (by with_reducible assumption) (g := w.heap.size + 1 + 1) (by omega) kk6))
  all_goals
    go_split_ands
    go_wp2
    first | (refine bodyPost_ret (by simp [results, Try.results19, go_sem, *]; try rfl) rfl ?_) | (refine bodyPost_ret (by (try simp only [results, Try.results19]); go_simp; try rfl) rfl ?_)
    exact ⟨_, _, _, _, _, _, _, wf, wx, wy, by first | exact wf_wrap _ _ | exact wrap64_wf _ | exact wf_i64 (by omega) (by omega), rfl, by (repeat' (first | (with_reducible exact Q.refl _) | (with_reducible assumption) | (with_reducible refine Q.setCell ?_ ?_ _) | (with_reducible refine Q.alloc ?_ _) | (with_reducible refine Q.drew ?_) | (with_reducible refine Q.drewN ?_ _) | (with_reducible refine Q.trans ?_ (by assumption)) | omega | (dsimp only; omega) | (simp; done) | (simp; omega)))⟩
end Go.Proofs.Ytkimbehlicnppaa
