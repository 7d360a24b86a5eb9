/-
  The contracts of BoxMeet: the program's and the reference's give the same.
-/
import Derived.Test.YtakmeajdkcojoaaBox2
namespace Go.Proofs.Ytakmeajdkcojoaa
open Go.RowKit

set_option maxHeartbeats 4000000 in
theorem boxMeetI (ax ay aX aY bx bq bX bY : Int) (w : World) :
    Calls Try.prog 11 #[.agg #[.int .i64 ax, .int .i64 ay, .int .i64 aX, .int .i64 aY], .agg #[.int .i64 bx, .int .i64 bq, .int .i64 bX, .int .i64 bY]] w fun e w' =>
      e = .returned (.tuple #[.agg #[.int .i64 (P.sel (P.meetB ax ay aX aY bx bq bX bY) (P.mx ax bx)), .int .i64 (P.sel (P.meetB ax ay aX aY bx bq bX bY) (P.mx ay bq)), .int .i64 (P.sel (P.meetB ax ay aX aY bx bq bX bY) (P.mn aX bX)), .int .i64 (P.sel (P.meetB ax ay aX aY bx bq bX bY) (P.mn aY bY))], .bool (P.meetB ax ay aX aY bx bq bX bY)]) ∧ Q w w' := by
  cases h1 : P.boxOk ax ay aX aY
  · have hv := Lib.hid (P.meetB_out1 (bx := bx) (bq := bq) (bX := bX) (bY := bY) h1)
    go_enter Try.func11, Try.ntmps11
    go_wp2_with fail
    refine (boxValidI _ _ _ _ _).mono ?_
    rintro e w1 ⟨rfl, q1⟩
    obtain ⟨c1, f1⟩ := q1.cells
    have s1 := q1.size
    (try simp at s1)
    (try have z1_0_0 : w.heap.size < w1.heap.size := (by omega))
    (try have z1_0_1 : w.heap.size + 1 < w1.heap.size := (by omega))
    (try have z1_0_2 : w.heap.size + 1 + 1 < w1.heap.size := (by omega))
    go_wp2
    first | (refine bodyPost_ret (by simp [results, Try.results11, go_sem, *]; try rfl) rfl ?_) | (refine bodyPost_ret (by (try simp only [results, Try.results11]); go_simp; try rfl) rfl ?_)
    exact ⟨by (rw [hv.out]; try rfl), by (repeat' (first | (with_reducible exact Q.refl _) | (with_reducible assumption) | (with_reducible refine Q.setCell ?_ ?_ _) | (with_reducible refine Q.alloc ?_ _) | (with_reducible refine Q.drew ?_) | (with_reducible refine Q.drewN ?_ _) | (with_reducible refine Q.trans ?_ (by assumption)) | omega | (dsimp only; omega) | (simp; done) | (simp; omega)))⟩
  · cases h2 : P.boxOk bx bq bX bY
    · have hv := Lib.hid (P.meetB_out2 (ax := ax) (ay := ay) (aX := aX) (aY := aY) h2)
      go_enter Try.func11, Try.ntmps11
      go_wp2_with fail
      refine (boxValidI _ _ _ _ _).mono ?_
      rintro e w1 ⟨rfl, q1⟩
      obtain ⟨c1, f1⟩ := q1.cells
      have s1 := q1.size
      (try simp at s1)
      (try have z1_0_0 : w.heap.size < w1.heap.size := (by omega))
      (try have z1_0_1 : w.heap.size + 1 < w1.heap.size := (by omega))
      (try have z1_0_2 : w.heap.size + 1 + 1 < w1.heap.size := (by omega))
      go_wp2_with fail
      refine (boxValidI _ _ _ _ _).mono ?_
      rintro e w2 ⟨rfl, q2⟩
      obtain ⟨c2, f2⟩ := q2.cells
      have s2 := q2.size
      (try simp at s2)
      (try have z2_0_0 : w.heap.size < w2.heap.size := (by omega))
      (try have z2_0_1 : w.heap.size + 1 < w2.heap.size := (by omega))
      (try have z2_0_2 : w.heap.size + 1 + 1 < w2.heap.size := (by omega))
      (try have z2_1_0 : w1.heap.size < w2.heap.size := (by omega))
      (try have z2_1_1 : w1.heap.size + 1 < w2.heap.size := (by omega))
      go_wp2
      first | (refine bodyPost_ret (by simp [results, Try.results11, go_sem, *]; try rfl) rfl ?_) | (refine bodyPost_ret (by (try simp only [results, Try.results11]); go_simp; try rfl) rfl ?_)
      exact ⟨by (rw [hv.out]; try rfl), by (repeat' (first | (with_reducible exact Q.refl _) | (with_reducible assumption) | (with_reducible refine Q.setCell ?_ ?_ _) | (with_reducible refine Q.alloc ?_ _) | (with_reducible refine Q.drew ?_) | (with_reducible refine Q.drewN ?_ _) | (with_reducible refine Q.trans ?_ (by assumption)) | omega | (dsimp only; omega) | (simp; done) | (simp; omega)))⟩
    · have hmx : ∀ (ts : Array TypeId) (t : TypeId) (k k' : IntKind) (x y : Int) (w : World), (Builtin.max_ ts t #[.int k x, .int k' y]).run Try.prog w = .ok (.int k (P.mx x y)) w := fun _ _ _ _ _ _ _ => run_max_int2 ..
      have hmn : ∀ (ts : Array TypeId) (t : TypeId) (k k' : IntKind) (x y : Int) (w : World), (Builtin.min_ ts t #[.int k x, .int k' y]).run Try.prog w = .ok (.int k (P.mn x y)) w := fun _ _ _ _ _ _ _ => run_min_int2 ..
      cases h3 : P.meetI ax ay aX aY bx bq bX bY
      · have hv := Lib.hid ((P.meetB_in h1 h2).trans h3)
        have h3' : P.boxOk (P.mx ax bx) (P.mx ay bq) (P.mn aX bX) (P.mn aY bY) = false := h3
        clear h3
        go_enter Try.func11, Try.ntmps11
        go_wp2_with fail
        refine (boxValidI _ _ _ _ _).mono ?_
        rintro e w1 ⟨rfl, q1⟩
        obtain ⟨c1, f1⟩ := q1.cells
        have s1 := q1.size
        (try simp at s1)
        (try have z1_0_0 : w.heap.size < w1.heap.size := (by omega))
        (try have z1_0_1 : w.heap.size + 1 < w1.heap.size := (by omega))
        (try have z1_0_2 : w.heap.size + 1 + 1 < w1.heap.size := (by omega))
        go_wp2_with fail
        refine (boxValidI _ _ _ _ _).mono ?_
        rintro e w2 ⟨rfl, q2⟩
        obtain ⟨c2, f2⟩ := q2.cells
        have s2 := q2.size
        (try simp at s2)
        (try have z2_0_0 : w.heap.size < w2.heap.size := (by omega))
        (try have z2_0_1 : w.heap.size + 1 < w2.heap.size := (by omega))
        (try have z2_0_2 : w.heap.size + 1 + 1 < w2.heap.size := (by omega))
        (try have z2_1_0 : w1.heap.size < w2.heap.size := (by omega))
        (try have z2_1_1 : w1.heap.size + 1 < w2.heap.size := (by omega))
        go_wp2_with fail
        refine (boxValidI _ _ _ _ _).mono ?_
        rintro e w3 ⟨rfl, q3⟩
        obtain ⟨c3, f3⟩ := q3.cells
        have s3 := q3.size
        (try simp at s3)
        (try have z3_0_0 : w.heap.size < w3.heap.size := (by omega))
        (try have z3_0_1 : w.heap.size + 1 < w3.heap.size := (by omega))
        (try have z3_0_2 : w.heap.size + 1 + 1 < w3.heap.size := (by omega))
        (try have z3_1_0 : w1.heap.size < w3.heap.size := (by omega))
        (try have z3_1_1 : w1.heap.size + 1 < w3.heap.size := (by omega))
        (try have z3_2_0 : w2.heap.size < w3.heap.size := (by omega))
        (try have z3_2_1 : w2.heap.size + 1 < w3.heap.size := (by omega))
        go_wp2
        first | (refine bodyPost_ret (by simp [results, Try.results11, go_sem, *]; try rfl) rfl ?_) | (refine bodyPost_ret (by (try simp only [results, Try.results11]); go_simp; try rfl) rfl ?_)
        exact ⟨by (rw [hv.out]; try rfl), by (repeat' (first | (with_reducible exact Q.refl _) | (with_reducible assumption) | (with_reducible refine Q.setCell ?_ ?_ _) | (with_reducible refine Q.alloc ?_ _) | (with_reducible refine Q.drew ?_) | (with_reducible refine Q.drewN ?_ _) | (with_reducible refine Q.trans ?_ (by assumption)) | omega | (dsimp only; omega) | (simp; done) | (simp; omega)))⟩
      · have hv := Lib.hid ((P.meetB_in h1 h2).trans h3)
        have h3' : P.boxOk (P.mx ax bx) (P.mx ay bq) (P.mn aX bX) (P.mn aY bY) = true := h3
        clear h3
        go_enter Try.func11, Try.ntmps11
        go_wp2_with fail
        refine (boxValidI _ _ _ _ _).mono ?_
        rintro e w1 ⟨rfl, q1⟩
        obtain ⟨c1, f1⟩ := q1.cells
        have s1 := q1.size
        (try simp at s1)
        (try have z1_0_0 : w.heap.size < w1.heap.size := (by omega))
        (try have z1_0_1 : w.heap.size + 1 < w1.heap.size := (by omega))
        (try have z1_0_2 : w.heap.size + 1 + 1 < w1.heap.size := (by omega))
        go_wp2_with fail
        refine (boxValidI _ _ _ _ _).mono ?_
        rintro e w2 ⟨rfl, q2⟩
        obtain ⟨c2, f2⟩ := q2.cells
        have s2 := q2.size
        (try simp at s2)
        (try have z2_0_0 : w.heap.size < w2.heap.size := (by omega))
        (try have z2_0_1 : w.heap.size + 1 < w2.heap.size := (by omega))
        (try have z2_0_2 : w.heap.size + 1 + 1 < w2.heap.size := (by omega))
        (try have z2_1_0 : w1.heap.size < w2.heap.size := (by omega))
        (try have z2_1_1 : w1.heap.size + 1 < w2.heap.size := (by omega))
        go_wp2_with fail
        refine (boxValidI _ _ _ _ _).mono ?_
        rintro e w3 ⟨rfl, q3⟩
        obtain ⟨c3, f3⟩ := q3.cells
        have s3 := q3.size
        (try simp at s3)
        (try have z3_0_0 : w.heap.size < w3.heap.size := (by omega))
        (try have z3_0_1 : w.heap.size + 1 < w3.heap.size := (by omega))
        (try have z3_0_2 : w.heap.size + 1 + 1 < w3.heap.size := (by omega))
        (try have z3_1_0 : w1.heap.size < w3.heap.size := (by omega))
        (try have z3_1_1 : w1.heap.size + 1 < w3.heap.size := (by omega))
        (try have z3_2_0 : w2.heap.size < w3.heap.size := (by omega))
        (try have z3_2_1 : w2.heap.size + 1 < w3.heap.size := (by omega))
        go_wp2
        first | (refine bodyPost_ret (by simp [results, Try.results11, go_sem, *]; try rfl) rfl ?_) | (refine bodyPost_ret (by (try simp only [results, Try.results11]); go_simp; try rfl) rfl ?_)
        exact ⟨by (rw [hv.out]; try rfl), by (repeat' (first | (with_reducible exact Q.refl _) | (with_reducible assumption) | (with_reducible refine Q.setCell ?_ ?_ _) | (with_reducible refine Q.alloc ?_ _) | (with_reducible refine Q.drew ?_) | (with_reducible refine Q.drewN ?_ _) | (with_reducible refine Q.trans ?_ (by assumption)) | omega | (dsimp only; omega) | (simp; done) | (simp; omega)))⟩
set_option maxHeartbeats 4000000 in
theorem boxMeetS (ax ay aX aY bx bq bX bY : Int) (w : World) :
    Calls Try.prog 12 #[.agg #[.int .i64 ax, .int .i64 ay, .int .i64 aX, .int .i64 aY], .agg #[.int .i64 bx, .int .i64 bq, .int .i64 bX, .int .i64 bY]] w fun e w' =>
      e = .returned (.tuple #[.agg #[.int .i64 (P.sel (P.meetB ax ay aX aY bx bq bX bY) (P.mx ax bx)), .int .i64 (P.sel (P.meetB ax ay aX aY bx bq bX bY) (P.mx ay bq)), .int .i64 (P.sel (P.meetB ax ay aX aY bx bq bX bY) (P.mn aX bX)), .int .i64 (P.sel (P.meetB ax ay aX aY bx bq bX bY) (P.mn aY bY))], .bool (P.meetB ax ay aX aY bx bq bX bY)]) ∧ Q w w' := by
  have hmx : ∀ (ts : Array TypeId) (t : TypeId) (k k' : IntKind) (x y : Int) (w : World), (Builtin.max_ ts t #[.int k x, .int k' y]).run Try.prog w = .ok (.int k (P.mx x y)) w := fun _ _ _ _ _ _ _ => run_max_int2 ..
  have hmn : ∀ (ts : Array TypeId) (t : TypeId) (k k' : IntKind) (x y : Int) (w : World), (Builtin.min_ ts t #[.int k x, .int k' y]).run Try.prog w = .ok (.int k (P.mn x y)) w := fun _ _ _ _ _ _ _ => run_min_int2 ..
  cases h1 : P.boxOk ax ay aX aY
  · have hv := Lib.hid (P.meetB_out1 (bx := bx) (bq := bq) (bX := bX) (bY := bY) h1)
    go_enter Try.func12, Try.ntmps12
    go_wp2_with fail
    refine (boxValidS _ _ _ _ _).mono ?_
    rintro e w1 ⟨rfl, q1⟩
    obtain ⟨c1, f1⟩ := q1.cells
    have s1 := q1.size
    (try simp at s1)
    (try have z1_0_0 : w.heap.size < w1.heap.size := (by omega))
    (try have z1_0_1 : w.heap.size + 1 < w1.heap.size := (by omega))
    (try have z1_0_2 : w.heap.size + 1 + 1 < w1.heap.size := (by omega))
    have y1 : w.heap.size + 1 + 1 + 1 < w1.heap.size := by omega
    go_wp2
    first | (refine bodyPost_ret (by simp [results, Try.results12, go_sem, *]; try rfl) rfl ?_) | (refine bodyPost_ret (by (try simp only [results, Try.results12]); go_simp; try rfl) rfl ?_)
    exact ⟨by (rw [hv.out]; try rfl), by (repeat' (first | (with_reducible exact Q.refl _) | (with_reducible assumption) | (with_reducible refine Q.setCell ?_ ?_ _) | (with_reducible refine Q.alloc ?_ _) | (with_reducible refine Q.drew ?_) | (with_reducible refine Q.drewN ?_ _) | (with_reducible refine Q.trans ?_ (by assumption)) | omega | (dsimp only; omega) | (simp; done) | (simp; omega)))⟩
  · cases h2 : P.boxOk bx bq bX bY
    · have hv := Lib.hid (P.meetB_out2 (ax := ax) (ay := ay) (aX := aX) (aY := aY) h2)
      go_enter Try.func12, Try.ntmps12
      go_wp2_with fail
      refine (boxValidS _ _ _ _ _).mono ?_
      rintro e w1 ⟨rfl, q1⟩
      obtain ⟨c1, f1⟩ := q1.cells
      have s1 := q1.size
      (try simp at s1)
      (try have z1_0_0 : w.heap.size < w1.heap.size := (by omega))
      (try have z1_0_1 : w.heap.size + 1 < w1.heap.size := (by omega))
      (try have z1_0_2 : w.heap.size + 1 + 1 < w1.heap.size := (by omega))
      have y1 : w.heap.size + 1 + 1 + 1 < w1.heap.size := by omega
      go_wp2_with fail
      refine (boxValidS _ _ _ _ _).mono ?_
      rintro e w2 ⟨rfl, q2⟩
      obtain ⟨c2, f2⟩ := q2.cells
      have s2 := q2.size
      (try simp at s2)
      (try have z2_0_0 : w.heap.size < w2.heap.size := (by omega))
      (try have z2_0_1 : w.heap.size + 1 < w2.heap.size := (by omega))
      (try have z2_0_2 : w.heap.size + 1 + 1 < w2.heap.size := (by omega))
      (try have z2_1_0 : w1.heap.size < w2.heap.size := (by omega))
      (try have z2_1_1 : w1.heap.size + 1 < w2.heap.size := (by omega))
      have y2 : w.heap.size + 1 + 1 + 1 < w2.heap.size := by omega
      go_wp2
      first | (refine bodyPost_ret (by simp [results, Try.results12, go_sem, *]; try rfl) rfl ?_) | (refine bodyPost_ret (by (try simp only [results, Try.results12]); go_simp; try rfl) rfl ?_)
      exact ⟨by (rw [hv.out]; try rfl), by (repeat' (first | (with_reducible exact Q.refl _) | (with_reducible assumption) | (with_reducible refine Q.setCell ?_ ?_ _) | (with_reducible refine Q.alloc ?_ _) | (with_reducible refine Q.drew ?_) | (with_reducible refine Q.drewN ?_ _) | (with_reducible refine Q.trans ?_ (by assumption)) | omega | (dsimp only; omega) | (simp; done) | (simp; omega)))⟩
    · cases h3 : P.meetI ax ay aX aY bx bq bX bY
      · have hv := Lib.hid ((P.meetB_in h1 h2).trans h3)
        have h3' : P.boxOk (P.mx ax bx) (P.mx ay bq) (P.mn aX bX) (P.mn aY bY) = false := h3
        clear h3
        go_enter Try.func12, Try.ntmps12
        go_wp2_with fail
        refine (boxValidS _ _ _ _ _).mono ?_
        rintro e w1 ⟨rfl, q1⟩
        obtain ⟨c1, f1⟩ := q1.cells
        have s1 := q1.size
        (try simp at s1)
        (try have z1_0_0 : w.heap.size < w1.heap.size := (by omega))
        (try have z1_0_1 : w.heap.size + 1 < w1.heap.size := (by omega))
        (try have z1_0_2 : w.heap.size + 1 + 1 < w1.heap.size := (by omega))
        have y1 : w.heap.size + 1 + 1 + 1 < w1.heap.size := by omega
        go_wp2_with fail
        refine (boxValidS _ _ _ _ _).mono ?_
        rintro e w2 ⟨rfl, q2⟩
        obtain ⟨c2, f2⟩ := q2.cells
        have s2 := q2.size
        (try simp at s2)
        (try have z2_0_0 : w.heap.size < w2.heap.size := (by omega))
        (try have z2_0_1 : w.heap.size + 1 < w2.heap.size := (by omega))
        (try have z2_0_2 : w.heap.size + 1 + 1 < w2.heap.size := (by omega))
        (try have z2_1_0 : w1.heap.size < w2.heap.size := (by omega))
        (try have z2_1_1 : w1.heap.size + 1 < w2.heap.size := (by omega))
        have y2 : w.heap.size + 1 + 1 + 1 < w2.heap.size := by omega
        go_wp2_with fail
        refine (boxValidS _ _ _ _ _).mono ?_
        rintro e w3 ⟨rfl, q3⟩
        obtain ⟨c3, f3⟩ := q3.cells
        have s3 := q3.size
        (try simp at s3)
        (try have z3_0_0 : w.heap.size < w3.heap.size := (by omega))
        (try have z3_0_1 : w.heap.size + 1 < w3.heap.size := (by omega))
        (try have z3_0_2 : w.heap.size + 1 + 1 < w3.heap.size := (by omega))
        (try have z3_1_0 : w1.heap.size < w3.heap.size := (by omega))
        (try have z3_1_1 : w1.heap.size + 1 < w3.heap.size := (by omega))
        (try have z3_2_0 : w2.heap.size < w3.heap.size := (by omega))
        (try have z3_2_1 : w2.heap.size + 1 < w3.heap.size := (by omega))
        have y3 : w.heap.size + 1 + 1 + 1 < w3.heap.size := by omega
        go_wp2
        first | (refine bodyPost_ret (by simp [results, Try.results12, go_sem, *]; try rfl) rfl ?_) | (refine bodyPost_ret (by (try simp only [results, Try.results12]); go_simp; try rfl) rfl ?_)
        exact ⟨by (rw [hv.out]; try rfl), by (repeat' (first | (with_reducible exact Q.refl _) | (with_reducible assumption) | (with_reducible refine Q.setCell ?_ ?_ _) | (with_reducible refine Q.alloc ?_ _) | (with_reducible refine Q.drew ?_) | (with_reducible refine Q.drewN ?_ _) | (with_reducible refine Q.trans ?_ (by assumption)) | omega | (dsimp only; omega) | (simp; done) | (simp; omega)))⟩
      · have hv := Lib.hid ((P.meetB_in h1 h2).trans h3)
        have h3' : P.boxOk (P.mx ax bx) (P.mx ay bq) (P.mn aX bX) (P.mn aY bY) = true := h3
        clear h3
        go_enter Try.func12, Try.ntmps12
        go_wp2_with fail
        refine (boxValidS _ _ _ _ _).mono ?_
        rintro e w1 ⟨rfl, q1⟩
        obtain ⟨c1, f1⟩ := q1.cells
        have s1 := q1.size
        (try simp at s1)
        (try have z1_0_0 : w.heap.size < w1.heap.size := (by omega))
        (try have z1_0_1 : w.heap.size + 1 < w1.heap.size := (by omega))
        (try have z1_0_2 : w.heap.size + 1 + 1 < w1.heap.size := (by omega))
        have y1 : w.heap.size + 1 + 1 + 1 < w1.heap.size := by omega
        go_wp2_with fail
        refine (boxValidS _ _ _ _ _).mono ?_
        rintro e w2 ⟨rfl, q2⟩
        obtain ⟨c2, f2⟩ := q2.cells
        have s2 := q2.size
        (try simp at s2)
        (try have z2_0_0 : w.heap.size < w2.heap.size := (by omega))
        (try have z2_0_1 : w.heap.size + 1 < w2.heap.size := (by omega))
        (try have z2_0_2 : w.heap.size + 1 + 1 < w2.heap.size := (by omega))
        (try have z2_1_0 : w1.heap.size < w2.heap.size := (by omega))
        (try have z2_1_1 : w1.heap.size + 1 < w2.heap.size := (by omega))
        have y2 : w.heap.size + 1 + 1 + 1 < w2.heap.size := by omega
        go_wp2_with fail
        refine (boxValidS _ _ _ _ _).mono ?_
        rintro e w3 ⟨rfl, q3⟩
        obtain ⟨c3, f3⟩ := q3.cells
        have s3 := q3.size
        (try simp at s3)
        (try have z3_0_0 : w.heap.size < w3.heap.size := (by omega))
        (try have z3_0_1 : w.heap.size + 1 < w3.heap.size := (by omega))
        (try have z3_0_2 : w.heap.size + 1 + 1 < w3.heap.size := (by omega))
        (try have z3_1_0 : w1.heap.size < w3.heap.size := (by omega))
        (try have z3_1_1 : w1.heap.size + 1 < w3.heap.size := (by omega))
        (try have z3_2_0 : w2.heap.size < w3.heap.size := (by omega))
        (try have z3_2_1 : w2.heap.size + 1 < w3.heap.size := (by omega))
        have y3 : w.heap.size + 1 + 1 + 1 < w3.heap.size := by omega
        go_wp2
        first | (refine bodyPost_ret (by simp [results, Try.results12, go_sem, *]; try rfl) rfl ?_) | (refine bodyPost_ret (by (try simp only [results, Try.results12]); go_simp; try rfl) rfl ?_)
        exact ⟨by (rw [hv.out]; try rfl), by (repeat' (first | (with_reducible exact Q.refl _) | (with_reducible assumption) | (with_reducible refine Q.setCell ?_ ?_ _) | (with_reducible refine Q.alloc ?_ _) | (with_reducible refine Q.drew ?_) | (with_reducible refine Q.drewN ?_ _) | (with_reducible refine Q.trans ?_ (by assumption)) | omega | (dsimp only; omega) | (simp; done) | (simp; omega)))⟩
end Go.Proofs.Ytakmeajdkcojoaa
