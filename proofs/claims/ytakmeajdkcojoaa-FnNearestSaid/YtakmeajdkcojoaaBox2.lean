/-
  The contracts of the functions on boxes, second part: points of a box, the nearest point, circles.
-/
import Derived.Test.YtakmeajdkcojoaaBox
namespace Go.Proofs.Ytakmeajdkcojoaa
open Go.RowKit

theorem ret_vec {a b a' b' : Int} (h : a = a') (h' : b = b') : Ending.returned (.agg #[.int .i64 a, .int .i64 b]) = Ending.returned (.agg #[.int .i64 a', .int .i64 b']) := by rw [h, h']

set_option maxHeartbeats 4000000 in
theorem nearestI (lx ly hx hy x y : Int) (w : World) (h1 : lx ≤ hx) (h2 : ly ≤ hy) :
    Calls Try.prog 16 #[.agg #[.int .i64 lx, .int .i64 ly, .int .i64 hx, .int .i64 hy], .agg #[.int .i64 x, .int .i64 y]] w fun e w' => e = .returned (.agg #[.int .i64 (P.near x lx hx), .int .i64 (P.near y ly hy)]) ∧ Q w w' := by
  obtain ⟨a1, a2, ex⟩ | ⟨a1, a2, ex⟩ | ⟨a1, a2, ex⟩ := P.near_cases h1 x <;> obtain ⟨b1, b2, ey⟩ | ⟨b1, b2, ey⟩ | ⟨b1, b2, ey⟩ := P.near_cases h2 y
  all_goals
    have EX := Lib.hid ex
    have EY := Lib.hid ey
    clear ex ey
    go_enter Try.func16, Try.ntmps16
    go_wp2_with fail
    refine (axes_any _ _ _ _ _).mono ?_
    rintro e w1 ⟨rfl, q1⟩
    obtain ⟨c1, f1⟩ := q1.cells
    have s1 := q1.size
    (try simp at s1)
    (try have z1_0_0 : w.heap.size < w1.heap.size := (by omega))
    (try have z1_0_1 : w.heap.size + 1 < w1.heap.size := (by omega))
    (try have z1_0_2 : w.heap.size + 1 + 1 < w1.heap.size := (by omega))
    go_wp2
    first | (refine bodyPost_ret (by simp [results, Try.results16, go_sem, *]; try rfl) rfl ?_) | (refine bodyPost_ret (by (try simp only [results, Try.results16]); go_simp; try rfl) rfl ?_)
    exact ⟨by (rw [EX.out, EY.out]; try rfl), by (repeat' (first | (with_reducible exact Q.refl _) | (with_reducible assumption) | (with_reducible refine Q.setCell ?_ ?_ _) | (with_reducible refine Q.alloc ?_ _) | (with_reducible refine Q.drew ?_) | (with_reducible refine Q.drewN ?_ _) | (with_reducible refine Q.trans ?_ (by assumption)) | omega | (dsimp only; omega) | (simp; done) | (simp; omega)))⟩
set_option maxHeartbeats 4000000 in
theorem nearestS (lx ly hx hy x y : Int) (w : World) (h1 : lx ≤ hx) (h2 : ly ≤ hy) :
    Calls Try.prog 19 #[.agg #[.int .i64 lx, .int .i64 ly, .int .i64 hx, .int .i64 hy], .agg #[.int .i64 x, .int .i64 y]] w fun e w' => e = .returned (.agg #[.int .i64 (P.near x lx hx), .int .i64 (P.near y ly hy)]) ∧ Q w w' := by
  obtain ⟨a1, a2, ex⟩ | ⟨a1, a2, ex⟩ | ⟨a1, a2, ex⟩ := P.near_cases h1 x <;> obtain ⟨b1, b2, ey⟩ | ⟨b1, b2, ey⟩ | ⟨b1, b2, ey⟩ := P.near_cases h2 y
  all_goals
    have EX := Lib.hid ex
    have EY := Lib.hid ey
    clear ex ey
    go_enter Try.func19, Try.ntmps19
    go_wp2
    all_goals
      first | (refine bodyPost_ret (by simp [results, Try.results19, go_sem, *]; try rfl) rfl ?_) | (refine bodyPost_ret (by (try simp only [results, Try.results19]); go_simp; try rfl) rfl ?_)
      have ex := EX.out
      have ey := EY.out
      exact ⟨ret_vec (by omega) (by omega), by (repeat' (first | (with_reducible exact Q.refl _) | (with_reducible assumption) | (with_reducible refine Q.setCell ?_ ?_ _) | (with_reducible refine Q.alloc ?_ _) | (with_reducible refine Q.drew ?_) | (with_reducible refine Q.drewN ?_ _) | (with_reducible refine Q.trans ?_ (by assumption)) | omega | (dsimp only; omega) | (simp; done) | (simp; omega)))⟩
set_option maxHeartbeats 2000000 in
theorem has_any (lx ly hx hy x y : Int) (w : World) (h1 : lx ≤ hx) (h2 : ly ≤ hy) :
    Calls Try.prog 20 #[.agg #[.int .i64 lx, .int .i64 ly, .int .i64 hx, .int .i64 hy], .agg #[.int .i64 x, .int .i64 y]] w fun e w' => e = .returned (.bool (P.hasI lx ly hx hy x y)) ∧ Q w w' := by
  cases h : P.inB x lx hx
  · have hv := Lib.hid (P.hasI_out (ly := ly) (hy := hy) (y := y) h)
    have e1 : (P.near x lx hx == x) = false := by
      rw [beq_eq_false_iff_ne]; intro k
      rw [P.near_eq_iff h1, ← P.inB_iff, h] at k; cases k
    clear h
    go_enter Try.func20, Try.ntmps20
    go_wp2_with fail
    go_region_with (first | (go_at_call 16; refine (nearestI _ _ _ _ _ _ _ h1 h2).mono ?_; rintro e w1 ⟨rfl, q1⟩; obtain ⟨c1, f1⟩ := q1.cells; have s1 := q1.size; (try simp at s1); (try have z10 : w.heap.size < w1.heap.size := (by omega)); (try have z11 : w.heap.size + 1 < w1.heap.size := (by omega)); (try have z12 : w.heap.size + 1 + 1 < w1.heap.size := (by omega)); (try have z13 : w.heap.size + 1 + 1 + 1 < w1.heap.size := (by omega))))
    all_goals
      go_wp2
      go_ret
      exact ⟨by rw [hv.out]; rfl, by (repeat' (first | (with_reducible exact Q.refl _) | (with_reducible assumption) | (with_reducible refine Q.setCell ?_ ?_ _) | (with_reducible refine Q.alloc ?_ _) | (with_reducible refine Q.drew ?_) | (with_reducible refine Q.drewN ?_ _) | (with_reducible refine Q.trans ?_ (by assumption)) | omega | (dsimp only; omega) | (simp; done) | (simp; omega)))⟩
  · have e1 : P.near x lx hx = x := (P.near_eq_iff h1).2 (P.inB_iff.1 h)
    have hv := Lib.hid (P.hasI_in (ly := ly) (hy := hy) (y := y) h)
    cases h' : P.inB y ly hy
    · have e2 : (P.near y ly hy == y) = false := by
        rw [beq_eq_false_iff_ne]; intro k
        rw [P.near_eq_iff h2, ← P.inB_iff, h'] at k; cases k
      have hv' := Lib.hid h'
      clear h h'
      go_enter Try.func20, Try.ntmps20
      go_wp2_with fail
      go_region_with (first | (go_at_call 16; refine (nearestI _ _ _ _ _ _ _ h1 h2).mono ?_; rintro e w1 ⟨rfl, q1⟩; obtain ⟨c1, f1⟩ := q1.cells; have s1 := q1.size; (try simp at s1); (try have z10 : w.heap.size < w1.heap.size := (by omega)); (try have z11 : w.heap.size + 1 < w1.heap.size := (by omega)); (try have z12 : w.heap.size + 1 + 1 < w1.heap.size := (by omega)); (try have z13 : w.heap.size + 1 + 1 + 1 < w1.heap.size := (by omega))))
      all_goals
        go_wp2
        go_ret
        exact ⟨by rw [hv.out, hv'.out]; rfl, by (repeat' (first | (with_reducible exact Q.refl _) | (with_reducible assumption) | (with_reducible refine Q.setCell ?_ ?_ _) | (with_reducible refine Q.alloc ?_ _) | (with_reducible refine Q.drew ?_) | (with_reducible refine Q.drewN ?_ _) | (with_reducible refine Q.trans ?_ (by assumption)) | omega | (dsimp only; omega) | (simp; done) | (simp; omega)))⟩
    · have e2 : P.near y ly hy = y := (P.near_eq_iff h2).2 (P.inB_iff.1 h')
      have hv' := Lib.hid h'
      clear h h'
      go_enter Try.func20, Try.ntmps20
      go_wp2_with fail
      go_region_with (first | (go_at_call 16; refine (nearestI _ _ _ _ _ _ _ h1 h2).mono ?_; rintro e w1 ⟨rfl, q1⟩; obtain ⟨c1, f1⟩ := q1.cells; have s1 := q1.size; (try simp at s1); (try have z10 : w.heap.size < w1.heap.size := (by omega)); (try have z11 : w.heap.size + 1 < w1.heap.size := (by omega)); (try have z12 : w.heap.size + 1 + 1 < w1.heap.size := (by omega)); (try have z13 : w.heap.size + 1 + 1 + 1 < w1.heap.size := (by omega))))
      all_goals
        go_wp2
        go_ret
        exact ⟨by rw [hv.out, hv'.out]; rfl, by (repeat' (first | (with_reducible exact Q.refl _) | (with_reducible assumption) | (with_reducible refine Q.setCell ?_ ?_ _) | (with_reducible refine Q.alloc ?_ _) | (with_reducible refine Q.drew ?_) | (with_reducible refine Q.drewN ?_ _) | (with_reducible refine Q.trans ?_ (by assumption)) | omega | (dsimp only; omega) | (simp; done) | (simp; omega)))⟩
set_option maxHeartbeats 1000000 in
theorem boxHasI (lx ly hx hy x y : Int) (w : World) :
    Calls Try.prog 9 #[.agg #[.int .i64 lx, .int .i64 ly, .int .i64 hx, .int .i64 hy], .agg #[.int .i64 x, .int .i64 y]] w fun e w' => e = .returned (.bool (P.hasB lx ly hx hy x y)) ∧ Q w w' := by
  cases h1 : P.boxOk lx ly hx hy
  · have hv := Lib.hid (P.hasB_out1 (x := x) (y := y) h1)
    go_enter Try.func9, Try.ntmps9
    go_wp2_with fail
    refine (boxValidI _ _ _ _ _).mono ?_
    rintro e w1 ⟨rfl, q1⟩
    obtain ⟨c1, f1⟩ := q1.cells
    have s1 := q1.size
    (try simp at s1)
    (try have z1_0_0 : w.heap.size < w1.heap.size := (by omega))
    (try have z1_0_1 : w.heap.size + 1 < w1.heap.size := (by omega))
    (try have z1_0_2 : w.heap.size + 1 + 1 < w1.heap.size := (by omega))
    go_wp2
    go_ret
    exact ⟨by rw [hv.out]; rfl, by (repeat' (first | (with_reducible exact Q.refl _) | (with_reducible assumption) | (with_reducible refine Q.setCell ?_ ?_ _) | (with_reducible refine Q.alloc ?_ _) | (with_reducible refine Q.drew ?_) | (with_reducible refine Q.drewN ?_ _) | (with_reducible refine Q.trans ?_ (by assumption)) | omega | (dsimp only; omega) | (simp; done) | (simp; omega)))⟩
  · cases h2 : P.vOk x y
    · have hv := Lib.hid (P.hasB_out2 (lx := lx) (ly := ly) (hx := hx) (hy := hy) h2)
      go_enter Try.func9, Try.ntmps9
      go_wp2_with fail
      refine (boxValidI _ _ _ _ _).mono ?_
      rintro e w1 ⟨rfl, q1⟩
      obtain ⟨c1, f1⟩ := q1.cells
      have s1 := q1.size
      (try simp at s1)
      (try have z1_0_0 : w.heap.size < w1.heap.size := (by omega))
      (try have z1_0_1 : w.heap.size + 1 < w1.heap.size := (by omega))
      (try have z1_0_2 : w.heap.size + 1 + 1 < w1.heap.size := (by omega))
      go_wp2_with fail
      refine (vecOkI _ _ _).mono ?_
      rintro e w2 ⟨rfl, q2⟩
      obtain ⟨c2, f2⟩ := q2.cells
      have s2 := q2.size
      (try simp at s2)
      (try have z2_0_0 : w.heap.size < w2.heap.size := (by omega))
      (try have z2_0_1 : w.heap.size + 1 < w2.heap.size := (by omega))
      (try have z2_0_2 : w.heap.size + 1 + 1 < w2.heap.size := (by omega))
      (try have z2_1_0 : w1.heap.size < w2.heap.size := (by omega))
      (try have z2_1_1 : w1.heap.size + 1 < w2.heap.size := (by omega))
      go_wp2
      go_ret
      exact ⟨by rw [hv.out]; rfl, by (repeat' (first | (with_reducible exact Q.refl _) | (with_reducible assumption) | (with_reducible refine Q.setCell ?_ ?_ _) | (with_reducible refine Q.alloc ?_ _) | (with_reducible refine Q.drew ?_) | (with_reducible refine Q.drewN ?_ _) | (with_reducible refine Q.trans ?_ (by assumption)) | omega | (dsimp only; omega) | (simp; done) | (simp; omega)))⟩
    · have hv := Lib.hid (P.hasB_in h1 h2)
      obtain ⟨_, b2, _, _, b5, _⟩ := P.boxOk_bd h1
      go_enter Try.func9, Try.ntmps9
      go_wp2_with fail
      refine (boxValidI _ _ _ _ _).mono ?_
      rintro e w1 ⟨rfl, q1⟩
      obtain ⟨c1, f1⟩ := q1.cells
      have s1 := q1.size
      (try simp at s1)
      (try have z1_0_0 : w.heap.size < w1.heap.size := (by omega))
      (try have z1_0_1 : w.heap.size + 1 < w1.heap.size := (by omega))
      (try have z1_0_2 : w.heap.size + 1 + 1 < w1.heap.size := (by omega))
      go_wp2_with fail
      refine (vecOkI _ _ _).mono ?_
      rintro e w2 ⟨rfl, q2⟩
      obtain ⟨c2, f2⟩ := q2.cells
      have s2 := q2.size
      (try simp at s2)
      (try have z2_0_0 : w.heap.size < w2.heap.size := (by omega))
      (try have z2_0_1 : w.heap.size + 1 < w2.heap.size := (by omega))
      (try have z2_0_2 : w.heap.size + 1 + 1 < w2.heap.size := (by omega))
      (try have z2_1_0 : w1.heap.size < w2.heap.size := (by omega))
      (try have z2_1_1 : w1.heap.size + 1 < w2.heap.size := (by omega))
      go_wp2_with fail
      refine (has_any _ _ _ _ _ _ _ b2 b5).mono ?_
      rintro e w3 ⟨rfl, q3⟩
      obtain ⟨c3, f3⟩ := q3.cells
      have s3 := q3.size
      (try simp at s3)
      (try have z3_0_0 : w.heap.size < w3.heap.size := (by omega))
      (try have z3_0_1 : w.heap.size + 1 < w3.heap.size := (by omega))
      (try have z3_0_2 : w.heap.size + 1 + 1 < w3.heap.size := (by omega))
      (try have z3_1_0 : w1.heap.size < w3.heap.size := (by omega))
      (try have z3_1_1 : w1.heap.size + 1 < w3.heap.size := (by omega))
      (try have z3_2_0 : w2.heap.size < w3.heap.size := (by omega))
      (try have z3_2_1 : w2.heap.size + 1 < w3.heap.size := (by omega))
      go_wp2
      go_ret
      exact ⟨by rw [hv.out]; rfl, by (repeat' (first | (with_reducible exact Q.refl _) | (with_reducible assumption) | (with_reducible refine Q.setCell ?_ ?_ _) | (with_reducible refine Q.alloc ?_ _) | (with_reducible refine Q.drew ?_) | (with_reducible refine Q.drewN ?_ _) | (with_reducible refine Q.trans ?_ (by assumption)) | omega | (dsimp only; omega) | (simp; done) | (simp; omega)))⟩
set_option maxHeartbeats 2000000 in
theorem boxNearestI (lx ly hx hy x y : Int) (w : World) :
    Calls Try.prog 6 #[.agg #[.int .i64 lx, .int .i64 ly, .int .i64 hx, .int .i64 hy], .agg #[.int .i64 x, .int .i64 y]] w fun e w' =>
      e = .returned (.tuple #[.agg #[.int .i64 (P.sel (P.nearB lx ly hx hy x y) (P.near x lx hx)), .int .i64 (P.sel (P.nearB lx ly hx hy x y) (P.near y ly hy))], .bool (P.nearB lx ly hx hy x y)]) ∧ Q w w' := by
  cases h1 : P.boxOk lx ly hx hy
  · have hv := Lib.hid (P.nearB_out1 (x := x) (y := y) h1)
    go_enter Try.func6, Try.ntmps6
    go_wp2_with fail
    refine (boxValidI _ _ _ _ _).mono ?_
    rintro e w1 ⟨rfl, q1⟩
    obtain ⟨c1, f1⟩ := q1.cells
    have s1 := q1.size
    (try simp at s1)
    (try have z1_0_0 : w.heap.size < w1.heap.size := (by omega))
    (try have z1_0_1 : w.heap.size + 1 < w1.heap.size := (by omega))
    (try have z1_0_2 : w.heap.size + 1 + 1 < w1.heap.size := (by omega))
    go_wp2
    first | (refine bodyPost_ret (by simp [results, Try.results6, go_sem, *]; try rfl) rfl ?_) | (refine bodyPost_ret (by (try simp only [results, Try.results6]); go_simp; try rfl) rfl ?_)
    exact ⟨by (rw [hv.out]; try rfl), by (repeat' (first | (with_reducible exact Q.refl _) | (with_reducible assumption) | (with_reducible refine Q.setCell ?_ ?_ _) | (with_reducible refine Q.alloc ?_ _) | (with_reducible refine Q.drew ?_) | (with_reducible refine Q.drewN ?_ _) | (with_reducible refine Q.trans ?_ (by assumption)) | omega | (dsimp only; omega) | (simp; done) | (simp; omega)))⟩
  · cases h2 : P.vOk x y
    · have hv := Lib.hid (P.nearB_out2 (lx := lx) (ly := ly) (hx := hx) (hy := hy) h2)
      go_enter Try.func6, Try.ntmps6
      go_wp2_with fail
      refine (boxValidI _ _ _ _ _).mono ?_
      rintro e w1 ⟨rfl, q1⟩
      obtain ⟨c1, f1⟩ := q1.cells
      have s1 := q1.size
      (try simp at s1)
      (try have z1_0_0 : w.heap.size < w1.heap.size := (by omega))
      (try have z1_0_1 : w.heap.size + 1 < w1.heap.size := (by omega))
      (try have z1_0_2 : w.heap.size + 1 + 1 < w1.heap.size := (by omega))
      go_wp2_with fail
      refine (vecOkI _ _ _).mono ?_
      rintro e w2 ⟨rfl, q2⟩
      obtain ⟨c2, f2⟩ := q2.cells
      have s2 := q2.size
      (try simp at s2)
      (try have z2_0_0 : w.heap.size < w2.heap.size := (by omega))
      (try have z2_0_1 : w.heap.size + 1 < w2.heap.size := (by omega))
      (try have z2_0_2 : w.heap.size + 1 + 1 < w2.heap.size := (by omega))
      (try have z2_1_0 : w1.heap.size < w2.heap.size := (by omega))
      (try have z2_1_1 : w1.heap.size + 1 < w2.heap.size := (by omega))
      go_wp2
      first | (refine bodyPost_ret (by simp [results, Try.results6, go_sem, *]; try rfl) rfl ?_) | (refine bodyPost_ret (by (try simp only [results, Try.results6]); go_simp; try rfl) rfl ?_)
      exact ⟨by (rw [hv.out]; try rfl), by (repeat' (first | (with_reducible exact Q.refl _) | (with_reducible assumption) | (with_reducible refine Q.setCell ?_ ?_ _) | (with_reducible refine Q.alloc ?_ _) | (with_reducible refine Q.drew ?_) | (with_reducible refine Q.drewN ?_ _) | (with_reducible refine Q.trans ?_ (by assumption)) | omega | (dsimp only; omega) | (simp; done) | (simp; omega)))⟩
    · have hv := Lib.hid (P.nearB_in h1 h2)
      obtain ⟨_, b2, _, _, b5, _⟩ := P.boxOk_bd h1
      go_enter Try.func6, Try.ntmps6
      go_wp2_with fail
      refine (boxValidI _ _ _ _ _).mono ?_
      rintro e w1 ⟨rfl, q1⟩
      obtain ⟨c1, f1⟩ := q1.cells
      have s1 := q1.size
      (try simp at s1)
      (try have z1_0_0 : w.heap.size < w1.heap.size := (by omega))
      (try have z1_0_1 : w.heap.size + 1 < w1.heap.size := (by omega))
      (try have z1_0_2 : w.heap.size + 1 + 1 < w1.heap.size := (by omega))
      go_wp2_with fail
      refine (vecOkI _ _ _).mono ?_
      rintro e w2 ⟨rfl, q2⟩
      obtain ⟨c2, f2⟩ := q2.cells
      have s2 := q2.size
      (try simp at s2)
      (try have z2_0_0 : w.heap.size < w2.heap.size := (by omega))
      (try have z2_0_1 : w.heap.size + 1 < w2.heap.size := (by omega))
      (try have z2_0_2 : w.heap.size + 1 + 1 < w2.heap.size := (by omega))
      (try have z2_1_0 : w1.heap.size < w2.heap.size := (by omega))
      (try have z2_1_1 : w1.heap.size + 1 < w2.heap.size := (by omega))
      go_wp2_with fail
      refine (nearestI _ _ _ _ _ _ _ b2 b5).mono ?_
      rintro e w3 ⟨rfl, q3⟩
      obtain ⟨c3, f3⟩ := q3.cells
      have s3 := q3.size
      (try simp at s3)
      (try have z3_0_0 : w.heap.size < w3.heap.size := (by omega))
      (try have z3_0_1 : w.heap.size + 1 < w3.heap.size := (by omega))
      (try have z3_0_2 : w.heap.size + 1 + 1 < w3.heap.size := (by omega))
      (try have z3_1_0 : w1.heap.size < w3.heap.size := (by omega))
      (try have z3_1_1 : w1.heap.size + 1 < w3.heap.size := (by omega))
      (try have z3_2_0 : w2.heap.size < w3.heap.size := (by omega))
      (try have z3_2_1 : w2.heap.size + 1 < w3.heap.size := (by omega))
      go_wp2
      first | (refine bodyPost_ret (by simp [results, Try.results6, go_sem, *]; try rfl) rfl ?_) | (refine bodyPost_ret (by (try simp only [results, Try.results6]); go_simp; try rfl) rfl ?_)
      exact ⟨by (rw [hv.out]; try rfl), by (repeat' (first | (with_reducible exact Q.refl _) | (with_reducible assumption) | (with_reducible refine Q.setCell ?_ ?_ _) | (with_reducible refine Q.alloc ?_ _) | (with_reducible refine Q.drew ?_) | (with_reducible refine Q.drewN ?_ _) | (with_reducible refine Q.trans ?_ (by assumption)) | omega | (dsimp only; omega) | (simp; done) | (simp; omega)))⟩
set_option maxHeartbeats 2000000 in
theorem boxNearestS (lx ly hx hy x y : Int) (w : World) :
    Calls Try.prog 7 #[.agg #[.int .i64 lx, .int .i64 ly, .int .i64 hx, .int .i64 hy], .agg #[.int .i64 x, .int .i64 y]] w fun e w' =>
      e = .returned (.tuple #[.agg #[.int .i64 (P.sel (P.nearB lx ly hx hy x y) (P.near x lx hx)), .int .i64 (P.sel (P.nearB lx ly hx hy x y) (P.near y ly hy))], .bool (P.nearB lx ly hx hy x y)]) ∧ Q w w' := by
  cases h1 : P.boxOk lx ly hx hy
  · have hv := Lib.hid (P.nearB_out1 (x := x) (y := y) h1)
    go_enter Try.func7, Try.ntmps7
    go_wp2_with fail
    refine (boxValidS _ _ _ _ _).mono ?_
    rintro e w1 ⟨rfl, q1⟩
    obtain ⟨c1, f1⟩ := q1.cells
    have s1 := q1.size
    (try simp at s1)
    (try have z1_0_0 : w.heap.size < w1.heap.size := (by omega))
    (try have z1_0_1 : w.heap.size + 1 < w1.heap.size := (by omega))
    (try have z1_0_2 : w.heap.size + 1 + 1 < w1.heap.size := (by omega))
    go_wp2
    first | (refine bodyPost_ret (by simp [results, Try.results7, go_sem, *]; try rfl) rfl ?_) | (refine bodyPost_ret (by (try simp only [results, Try.results7]); go_simp; try rfl) rfl ?_)
    exact ⟨by (rw [hv.out]; try rfl), by (repeat' (first | (with_reducible exact Q.refl _) | (with_reducible assumption) | (with_reducible refine Q.setCell ?_ ?_ _) | (with_reducible refine Q.alloc ?_ _) | (with_reducible refine Q.drew ?_) | (with_reducible refine Q.drewN ?_ _) | (with_reducible refine Q.trans ?_ (by assumption)) | omega | (dsimp only; omega) | (simp; done) | (simp; omega)))⟩
  · cases h2 : P.vOk x y
    · have hv := Lib.hid (P.nearB_out2 (lx := lx) (ly := ly) (hx := hx) (hy := hy) h2)
      go_enter Try.func7, Try.ntmps7
      go_wp2_with fail
      refine (boxValidS _ _ _ _ _).mono ?_
      rintro e w1 ⟨rfl, q1⟩
      obtain ⟨c1, f1⟩ := q1.cells
      have s1 := q1.size
      (try simp at s1)
      (try have z1_0_0 : w.heap.size < w1.heap.size := (by omega))
      (try have z1_0_1 : w.heap.size + 1 < w1.heap.size := (by omega))
      (try have z1_0_2 : w.heap.size + 1 + 1 < w1.heap.size := (by omega))
      go_wp2_with fail
      refine (vecOkS _ _ _).mono ?_
      rintro e w2 ⟨rfl, q2⟩
      obtain ⟨c2, f2⟩ := q2.cells
      have s2 := q2.size
      (try simp at s2)
      (try have z2_0_0 : w.heap.size < w2.heap.size := (by omega))
      (try have z2_0_1 : w.heap.size + 1 < w2.heap.size := (by omega))
      (try have z2_0_2 : w.heap.size + 1 + 1 < w2.heap.size := (by omega))
      (try have z2_1_0 : w1.heap.size < w2.heap.size := (by omega))
      (try have z2_1_1 : w1.heap.size + 1 < w2.heap.size := (by omega))
      go_wp2
      first | (refine bodyPost_ret (by simp [results, Try.results7, go_sem, *]; try rfl) rfl ?_) | (refine bodyPost_ret (by (try simp only [results, Try.results7]); go_simp; try rfl) rfl ?_)
      exact ⟨by (rw [hv.out]; try rfl), by (repeat' (first | (with_reducible exact Q.refl _) | (with_reducible assumption) | (with_reducible refine Q.setCell ?_ ?_ _) | (with_reducible refine Q.alloc ?_ _) | (with_reducible refine Q.drew ?_) | (with_reducible refine Q.drewN ?_ _) | (with_reducible refine Q.trans ?_ (by assumption)) | omega | (dsimp only; omega) | (simp; done) | (simp; omega)))⟩
    · have hv := Lib.hid (P.nearB_in h1 h2)
      obtain ⟨_, b2, _, _, b5, _⟩ := P.boxOk_bd h1
      go_enter Try.func7, Try.ntmps7
      go_wp2_with fail
      refine (boxValidS _ _ _ _ _).mono ?_
      rintro e w1 ⟨rfl, q1⟩
      obtain ⟨c1, f1⟩ := q1.cells
      have s1 := q1.size
      (try simp at s1)
      (try have z1_0_0 : w.heap.size < w1.heap.size := (by omega))
      (try have z1_0_1 : w.heap.size + 1 < w1.heap.size := (by omega))
      (try have z1_0_2 : w.heap.size + 1 + 1 < w1.heap.size := (by omega))
      go_wp2_with fail
      refine (vecOkS _ _ _).mono ?_
      rintro e w2 ⟨rfl, q2⟩
      obtain ⟨c2, f2⟩ := q2.cells
      have s2 := q2.size
      (try simp at s2)
      (try have z2_0_0 : w.heap.size < w2.heap.size := (by omega))
      (try have z2_0_1 : w.heap.size + 1 < w2.heap.size := (by omega))
      (try have z2_0_2 : w.heap.size + 1 + 1 < w2.heap.size := (by omega))
      (try have z2_1_0 : w1.heap.size < w2.heap.size := (by omega))
      (try have z2_1_1 : w1.heap.size + 1 < w2.heap.size := (by omega))
      go_wp2_with fail
      refine (nearestS _ _ _ _ _ _ _ b2 b5).mono ?_
      rintro e w3 ⟨rfl, q3⟩
      obtain ⟨c3, f3⟩ := q3.cells
      have s3 := q3.size
      (try simp at s3)
      (try have z3_0_0 : w.heap.size < w3.heap.size := (by omega))
      (try have z3_0_1 : w.heap.size + 1 < w3.heap.size := (by omega))
      (try have z3_0_2 : w.heap.size + 1 + 1 < w3.heap.size := (by omega))
      (try have z3_1_0 : w1.heap.size < w3.heap.size := (by omega))
      (try have z3_1_1 : w1.heap.size + 1 < w3.heap.size := (by omega))
      (try have z3_2_0 : w2.heap.size < w3.heap.size := (by omega))
      (try have z3_2_1 : w2.heap.size + 1 < w3.heap.size := (by omega))
      go_wp2
      first | (refine bodyPost_ret (by simp [results, Try.results7, go_sem, *]; try rfl) rfl ?_) | (refine bodyPost_ret (by (try simp only [results, Try.results7]); go_simp; try rfl) rfl ?_)
      exact ⟨by (rw [hv.out]; try rfl), by (repeat' (first | (with_reducible exact Q.refl _) | (with_reducible assumption) | (with_reducible refine Q.setCell ?_ ?_ _) | (with_reducible refine Q.alloc ?_ _) | (with_reducible refine Q.drew ?_) | (with_reducible refine Q.drewN ?_ _) | (with_reducible refine Q.trans ?_ (by assumption)) | omega | (dsimp only; omega) | (simp; done) | (simp; omega)))⟩
set_option maxHeartbeats 1000000 in
theorem size_any (x y u v : Int) (w : World) (h1 : P.vOk x y = true) (h2 : P.vOk u v = true) :
    Calls Try.prog 8 #[.agg #[.int .i64 x, .int .i64 y], .agg #[.int .i64 u, .int .i64 v]] w fun e w' => e = .returned (.int .i64 (P.dist x y u v)) ∧ Q w w' := by
  obtain ⟨a1, a2, a3, a4⟩ := P.vOk_iff.1 h1
  obtain ⟨b1, b2, b3, b4⟩ := P.vOk_iff.1 h2
  obtain ⟨d1, d2⟩ := P.dd_bd a1 a2 b1 b2
  obtain ⟨d3, d4⟩ := P.dd_bd a3 a4 b3 b4
  clear h1 h2
  go_enter Try.func8, Try.ntmps8
  go_wp2
  go_ret
  exact ⟨rfl, by (repeat' (first | (with_reducible exact Q.refl _) | (with_reducible assumption) | (with_reducible refine Q.setCell ?_ ?_ _) | (with_reducible refine Q.alloc ?_ _) | (with_reducible refine Q.drew ?_) | (with_reducible refine Q.drewN ?_ _) | (with_reducible refine Q.trans ?_ (by assumption)) | omega | (dsimp only; omega) | (simp; done) | (simp; omega)))⟩
end Go.Proofs.Ytakmeajdkcojoaa
