/-
  The contracts of the functions on boxes: the program's and the reference's give the same.
-/
import Derived.Test.YtakmeajdkcojoaaVec
import Derived.Test.YtakmeajdkcojoaaPlainB
namespace Go.Proofs.Ytakmeajdkcojoaa
open Go.RowKit

set_option maxHeartbeats 1000000 in
theorem boxValidS (lx ly hx hy : Int) (w : World) :
    Calls Try.prog 17 #[.agg #[.int .i64 lx, .int .i64 ly, .int .i64 hx, .int .i64 hy]] w fun e w' => e = .returned (.bool (P.boxOk lx ly hx hy)) ∧ Q w w' := by
  cases h1 : P.vOk lx ly
  · have hv := Lib.hid (P.boxOk_out1 (hx := hx) (hy := hy) h1)
    go_enter Try.func17, Try.ntmps17
    go_wp2_with fail
    refine (vecOkS _ _ _).mono ?_
    rintro e w1 ⟨rfl, q1⟩
    obtain ⟨c1, f1⟩ := q1.cells
    have s1 := q1.size
    (try simp at s1)
    (try have z1_0_0 : w.heap.size < w1.heap.size := (by omega))
    (try have z1_0_1 : w.heap.size + 1 < w1.heap.size := (by omega))
    (try have z1_0_2 : w.heap.size + 1 + 1 < w1.heap.size := (by omega))
    go_wp2
    go_ret
    exact ⟨by rw [hv.out]; rfl, by (repeat' (first | (with_reducible exact Q.refl _) | (with_reducible assumption) | (with_reducible refine Q.setCell ?_ ?_ _) | (with_reducible refine Q.alloc ?_ _) | (with_reducible refine Q.drew ?_) | (with_reducible refine Q.drewN ?_ _) | (with_reducible refine Q.trans ?_ (by assumption)) | omega | (dsimp only; omega) | (simp; done) | (simp; omega)))⟩
  · cases h2 : P.vOk hx hy
    · have hv := Lib.hid (P.boxOk_out2 (lx := lx) (ly := ly) h2)
      go_enter Try.func17, Try.ntmps17
      go_wp2_with fail
      refine (vecOkS _ _ _).mono ?_
      rintro e w1 ⟨rfl, q1⟩
      obtain ⟨c1, f1⟩ := q1.cells
      have s1 := q1.size
      (try simp at s1)
      (try have z1_0_0 : w.heap.size < w1.heap.size := (by omega))
      (try have z1_0_1 : w.heap.size + 1 < w1.heap.size := (by omega))
      (try have z1_0_2 : w.heap.size + 1 + 1 < w1.heap.size := (by omega))
      go_wp2_with fail
      refine (vecOkS _ _ _).mono ?_
      rintro e w2 ⟨rfl, q2⟩
      obtain ⟨c2, f2⟩ := q2.cells
      have s2 := q2.size
      (try simp at s2)
      (try have z2_0_0 : w.heap.size < w2.heap.size := (by omega))
      (try have z2_0_1 : w.heap.size + 1 < w2.heap.size := (by omega))
      (try have z2_0_2 : w.heap.size + 1 + 1 < w2.heap.size := (by omega))
      (try have z2_1_0 : w1.heap.size < w2.heap.size := (by omega))
      (try have z2_1_1 : w1.heap.size + 1 < w2.heap.size := (by omega))
      go_wp2
      go_ret
      exact ⟨by rw [hv.out]; rfl, by (repeat' (first | (with_reducible exact Q.refl _) | (with_reducible assumption) | (with_reducible refine Q.setCell ?_ ?_ _) | (with_reducible refine Q.alloc ?_ _) | (with_reducible refine Q.drew ?_) | (with_reducible refine Q.drewN ?_ _) | (with_reducible refine Q.trans ?_ (by assumption)) | omega | (dsimp only; omega) | (simp; done) | (simp; omega)))⟩
    · by_cases h3 : hx < lx
      · have hv := Lib.hid (P.boxOk_out3 (ly := ly) (hy := hy) h3)
        have hd : ¬ lx ≤ hx := by omega
        have hd' : decide (lx ≤ hx) = false := by simpa using hd
        go_enter Try.func17, Try.ntmps17
        go_wp2_with fail
        refine (vecOkS _ _ _).mono ?_
        rintro e w1 ⟨rfl, q1⟩
        obtain ⟨c1, f1⟩ := q1.cells
        have s1 := q1.size
        (try simp at s1)
        (try have z1_0_0 : w.heap.size < w1.heap.size := (by omega))
        (try have z1_0_1 : w.heap.size + 1 < w1.heap.size := (by omega))
        (try have z1_0_2 : w.heap.size + 1 + 1 < w1.heap.size := (by omega))
        go_wp2_with fail
        refine (vecOkS _ _ _).mono ?_
        rintro e w2 ⟨rfl, q2⟩
        obtain ⟨c2, f2⟩ := q2.cells
        have s2 := q2.size
        (try simp at s2)
        (try have z2_0_0 : w.heap.size < w2.heap.size := (by omega))
        (try have z2_0_1 : w.heap.size + 1 < w2.heap.size := (by omega))
        (try have z2_0_2 : w.heap.size + 1 + 1 < w2.heap.size := (by omega))
        (try have z2_1_0 : w1.heap.size < w2.heap.size := (by omega))
        (try have z2_1_1 : w1.heap.size + 1 < w2.heap.size := (by omega))
        go_wp2
        go_ret
        exact ⟨by rw [hv.out]; rfl, by (repeat' (first | (with_reducible exact Q.refl _) | (with_reducible assumption) | (with_reducible refine Q.setCell ?_ ?_ _) | (with_reducible refine Q.alloc ?_ _) | (with_reducible refine Q.drew ?_) | (with_reducible refine Q.drewN ?_ _) | (with_reducible refine Q.trans ?_ (by assumption)) | omega | (dsimp only; omega) | (simp; done) | (simp; omega)))⟩
      · have h3' : lx ≤ hx := by omega
        by_cases h4 : hy < ly
        · have hv := Lib.hid (P.boxOk_out4 (lx := lx) (hx := hx) h4)
          have hd : ¬ ly ≤ hy := by omega
          have hd' : decide (ly ≤ hy) = false := by simpa using hd
          go_enter Try.func17, Try.ntmps17
          go_wp2_with fail
          refine (vecOkS _ _ _).mono ?_
          rintro e w1 ⟨rfl, q1⟩
          obtain ⟨c1, f1⟩ := q1.cells
          have s1 := q1.size
          (try simp at s1)
          (try have z1_0_0 : w.heap.size < w1.heap.size := (by omega))
          (try have z1_0_1 : w.heap.size + 1 < w1.heap.size := (by omega))
          (try have z1_0_2 : w.heap.size + 1 + 1 < w1.heap.size := (by omega))
          go_wp2_with fail
          refine (vecOkS _ _ _).mono ?_
          rintro e w2 ⟨rfl, q2⟩
          obtain ⟨c2, f2⟩ := q2.cells
          have s2 := q2.size
          (try simp at s2)
          (try have z2_0_0 : w.heap.size < w2.heap.size := (by omega))
          (try have z2_0_1 : w.heap.size + 1 < w2.heap.size := (by omega))
          (try have z2_0_2 : w.heap.size + 1 + 1 < w2.heap.size := (by omega))
          (try have z2_1_0 : w1.heap.size < w2.heap.size := (by omega))
          (try have z2_1_1 : w1.heap.size + 1 < w2.heap.size := (by omega))
          go_wp2
          go_ret
          exact ⟨by rw [hv.out]; rfl, by (repeat' (first | (with_reducible exact Q.refl _) | (with_reducible assumption) | (with_reducible refine Q.setCell ?_ ?_ _) | (with_reducible refine Q.alloc ?_ _) | (with_reducible refine Q.drew ?_) | (with_reducible refine Q.drewN ?_ _) | (with_reducible refine Q.trans ?_ (by assumption)) | omega | (dsimp only; omega) | (simp; done) | (simp; omega)))⟩
        · have h4' : ly ≤ hy := by omega
          have hv := Lib.hid (P.boxOk_in h1 h2 h3' h4')
          go_enter Try.func17, Try.ntmps17
          go_wp2_with fail
          refine (vecOkS _ _ _).mono ?_
          rintro e w1 ⟨rfl, q1⟩
          obtain ⟨c1, f1⟩ := q1.cells
          have s1 := q1.size
          (try simp at s1)
          (try have z1_0_0 : w.heap.size < w1.heap.size := (by omega))
          (try have z1_0_1 : w.heap.size + 1 < w1.heap.size := (by omega))
          (try have z1_0_2 : w.heap.size + 1 + 1 < w1.heap.size := (by omega))
          go_wp2_with fail
          refine (vecOkS _ _ _).mono ?_
          rintro e w2 ⟨rfl, q2⟩
          obtain ⟨c2, f2⟩ := q2.cells
          have s2 := q2.size
          (try simp at s2)
          (try have z2_0_0 : w.heap.size < w2.heap.size := (by omega))
          (try have z2_0_1 : w.heap.size + 1 < w2.heap.size := (by omega))
          (try have z2_0_2 : w.heap.size + 1 + 1 < w2.heap.size := (by omega))
          (try have z2_1_0 : w1.heap.size < w2.heap.size := (by omega))
          (try have z2_1_1 : w1.heap.size + 1 < w2.heap.size := (by omega))
          go_wp2
          go_ret
          exact ⟨by rw [hv.out]; rfl, by (repeat' (first | (with_reducible exact Q.refl _) | (with_reducible assumption) | (with_reducible refine Q.setCell ?_ ?_ _) | (with_reducible refine Q.alloc ?_ _) | (with_reducible refine Q.drew ?_) | (with_reducible refine Q.drewN ?_ _) | (with_reducible refine Q.trans ?_ (by assumption)) | omega | (dsimp only; omega) | (simp; done) | (simp; omega)))⟩
set_option maxHeartbeats 1000000 in
theorem axes_any (lx ly hx hy : Int) (w : World) :
    Calls Try.prog 25 #[.agg #[.int .i64 lx, .int .i64 ly, .int .i64 hx, .int .i64 hy]] w fun e w' => e = .returned (.agg #[.int .i64 lx, .int .i64 hx, .int .i64 ly, .int .i64 hy]) ∧ Q w w' := by
  go_enter Try.func25, Try.ntmps25
  go_wp2
  first | (refine bodyPost_ret (by simp [results, Try.results25, go_sem, *]; try rfl) rfl ?_) | (refine bodyPost_ret (by (try simp only [results, Try.results25]); go_simp; try rfl) rfl ?_)
  exact ⟨rfl, by (repeat' (first | (with_reducible exact Q.refl _) | (with_reducible assumption) | (with_reducible refine Q.setCell ?_ ?_ _) | (with_reducible refine Q.alloc ?_ _) | (with_reducible refine Q.drew ?_) | (with_reducible refine Q.drewN ?_ _) | (with_reducible refine Q.trans ?_ (by assumption)) | omega | (dsimp only; omega) | (simp; done) | (simp; omega)))⟩
set_option maxHeartbeats 2000000 in
theorem boxValidI (lx ly hx hy : Int) (w : World) :
    Calls Try.prog 13 #[.agg #[.int .i64 lx, .int .i64 ly, .int .i64 hx, .int .i64 hy]] w fun e w' => e = .returned (.bool (P.boxOk lx ly hx hy)) ∧ Q w w' := by
  have i0 : ∀ w, (Instr.index 49 (.agg #[.int .i64 lx, .int .i64 hx, .int .i64 ly, .int .i64 hy]) (.int .i64 0)).run Try.prog w = .ok (.agg #[.int .i64 lx, .int .i64 hx]) w := fun _ => by kernel_rfl
  have i1 : ∀ w, (Instr.index 49 (.agg #[.int .i64 lx, .int .i64 hx, .int .i64 ly, .int .i64 hy]) (.int .i64 1)).run Try.prog w = .ok (.agg #[.int .i64 ly, .int .i64 hy]) w := fun _ => by kernel_rfl
  by_cases h3 : hx < lx
  · have hv := Lib.hid (P.boxOk_out3 (ly := ly) (hy := hy) h3)
    go_enter Try.func13, Try.ntmps13
    go_wp2_with fail
    refine (axes_any _ _ _ _ _).mono ?_
    rintro e w1 ⟨rfl, q1⟩
    obtain ⟨c1, f1⟩ := q1.cells
    have s1 := q1.size
    (try simp at s1)
    (try have z1_0_0 : w.heap.size < w1.heap.size := (by omega))
    (try have z1_0_1 : w.heap.size + 1 < w1.heap.size := (by omega))
    (try have z1_0_2 : w.heap.size + 1 + 1 < w1.heap.size := (by omega))
    have y1 : w.heap.size < w1.heap.size + 1 + 1 := by omega
    have y2 : w.heap.size < w1.heap.size + 2 := by omega
    go_wp2
    refine wp_loop_rounds 1 ?_
    rw [rounds_succ]
    go_wp2
    go_ret
    exact ⟨by rw [hv.out]; rfl, by (repeat' (first | (with_reducible exact Q.refl _) | (with_reducible assumption) | (with_reducible refine Q.setCell ?_ ?_ _) | (with_reducible refine Q.alloc ?_ _) | (with_reducible refine Q.drew ?_) | (with_reducible refine Q.drewN ?_ _) | (with_reducible refine Q.trans ?_ (by assumption)) | omega | (dsimp only; omega) | (simp; done) | (simp; omega)))⟩
  · have h3' : lx ≤ hx := by omega
    by_cases h4 : hy < ly
    · have hv := Lib.hid (P.boxOk_out4 (lx := lx) (hx := hx) h4)
      go_enter Try.func13, Try.ntmps13
      go_wp2_with fail
      refine (axes_any _ _ _ _ _).mono ?_
      rintro e w1 ⟨rfl, q1⟩
      obtain ⟨c1, f1⟩ := q1.cells
      have s1 := q1.size
      (try simp at s1)
      (try have z1_0_0 : w.heap.size < w1.heap.size := (by omega))
      (try have z1_0_1 : w.heap.size + 1 < w1.heap.size := (by omega))
      (try have z1_0_2 : w.heap.size + 1 + 1 < w1.heap.size := (by omega))
      have y1 : w.heap.size < w1.heap.size + 1 + 1 := by omega
      have y2 : w.heap.size < w1.heap.size + 2 := by omega
      go_wp2
      refine wp_loop_rounds 2 ?_
      rw [rounds_succ]
      go_wp2
      rw [rounds_succ]
      go_wp2
      go_ret
      exact ⟨by rw [hv.out]; rfl, by (repeat' (first | (with_reducible exact Q.refl _) | (with_reducible assumption) | (with_reducible refine Q.setCell ?_ ?_ _) | (with_reducible refine Q.alloc ?_ _) | (with_reducible refine Q.drew ?_) | (with_reducible refine Q.drewN ?_ _) | (with_reducible refine Q.trans ?_ (by assumption)) | omega | (dsimp only; omega) | (simp; done) | (simp; omega)))⟩
    · have h4' : ly ≤ hy := by omega
      cases h1 : P.vOk lx ly
      · have hv := Lib.hid (P.boxOk_out1 (hx := hx) (hy := hy) h1)
        go_enter Try.func13, Try.ntmps13
        go_wp2_with fail
        refine (axes_any _ _ _ _ _).mono ?_
        rintro e w1 ⟨rfl, q1⟩
        obtain ⟨c1, f1⟩ := q1.cells
        have s1 := q1.size
        (try simp at s1)
        (try have z1_0_0 : w.heap.size < w1.heap.size := (by omega))
        (try have z1_0_1 : w.heap.size + 1 < w1.heap.size := (by omega))
        (try have z1_0_2 : w.heap.size + 1 + 1 < w1.heap.size := (by omega))
        have y1 : w.heap.size < w1.heap.size + 1 + 1 := by omega
        have y2 : w.heap.size < w1.heap.size + 2 := by omega
        go_wp2
        refine wp_loop_rounds 3 ?_
        rw [rounds_succ]
        go_wp2
        rw [rounds_succ]
        go_wp2
        rw [rounds_succ]
        go_wp2_with fail
        refine (vecOkI _ _ _).mono ?_
        rintro e w2 ⟨rfl, q2⟩
        obtain ⟨c2, f2⟩ := q2.cells
        have s2 := q2.size
        (try simp at s2)
        (try have z2_0_0 : w.heap.size < w2.heap.size := (by omega))
        (try have z2_0_1 : w.heap.size + 1 < w2.heap.size := (by omega))
        (try have z2_0_2 : w.heap.size + 1 + 1 < w2.heap.size := (by omega))
        (try have z2_1_0 : w1.heap.size < w2.heap.size := (by omega))
        (try have z2_1_1 : w1.heap.size + 1 < w2.heap.size := (by omega))
        go_wp2
        go_ret
        exact ⟨by rw [hv.out]; rfl, by (repeat' (first | (with_reducible exact Q.refl _) | (with_reducible assumption) | (with_reducible refine Q.setCell ?_ ?_ _) | (with_reducible refine Q.alloc ?_ _) | (with_reducible refine Q.drew ?_) | (with_reducible refine Q.drewN ?_ _) | (with_reducible refine Q.trans ?_ (by assumption)) | omega | (dsimp only; omega) | (simp; done) | (simp; omega)))⟩
      · cases h2 : P.vOk hx hy
        · have hv := Lib.hid (P.boxOk_out2 (lx := lx) (ly := ly) h2)
          go_enter Try.func13, Try.ntmps13
          go_wp2_with fail
          refine (axes_any _ _ _ _ _).mono ?_
          rintro e w1 ⟨rfl, q1⟩
          obtain ⟨c1, f1⟩ := q1.cells
          have s1 := q1.size
          (try simp at s1)
          (try have z1_0_0 : w.heap.size < w1.heap.size := (by omega))
          (try have z1_0_1 : w.heap.size + 1 < w1.heap.size := (by omega))
          (try have z1_0_2 : w.heap.size + 1 + 1 < w1.heap.size := (by omega))
          have y1 : w.heap.size < w1.heap.size + 1 + 1 := by omega
          have y2 : w.heap.size < w1.heap.size + 2 := by omega
          go_wp2
          refine wp_loop_rounds 3 ?_
          rw [rounds_succ]
          go_wp2
          rw [rounds_succ]
          go_wp2
          rw [rounds_succ]
          go_wp2_with fail
          refine (vecOkI _ _ _).mono ?_
          rintro e w2 ⟨rfl, q2⟩
          obtain ⟨c2, f2⟩ := q2.cells
          have s2 := q2.size
          (try simp at s2)
          (try have z2_0_0 : w.heap.size < w2.heap.size := (by omega))
          (try have z2_0_1 : w.heap.size + 1 < w2.heap.size := (by omega))
          (try have z2_0_2 : w.heap.size + 1 + 1 < w2.heap.size := (by omega))
          (try have z2_1_0 : w1.heap.size < w2.heap.size := (by omega))
          (try have z2_1_1 : w1.heap.size + 1 < w2.heap.size := (by omega))
          go_wp2_with fail
          refine (vecOkI _ _ _).mono ?_
          rintro e w3 ⟨rfl, q3⟩
          obtain ⟨c3, f3⟩ := q3.cells
          have s3 := q3.size
          (try simp at s3)
          (try have z3_0_0 : w.heap.size < w3.heap.size := (by omega))
          (try have z3_0_1 : w.heap.size + 1 < w3.heap.size := (by omega))
          (try have z3_0_2 : w.heap.size + 1 + 1 < w3.heap.size := (by omega))
          (try have z3_1_0 : w1.heap.size < w3.heap.size := (by omega))
          (try have z3_1_1 : w1.heap.size + 1 < w3.heap.size := (by omega))
          (try have z3_2_0 : w2.heap.size < w3.heap.size := (by omega))
          (try have z3_2_1 : w2.heap.size + 1 < w3.heap.size := (by omega))
          go_wp2
          go_ret
          exact ⟨by rw [hv.out]; rfl, by (repeat' (first | (with_reducible exact Q.refl _) | (with_reducible assumption) | (with_reducible refine Q.setCell ?_ ?_ _) | (with_reducible refine Q.alloc ?_ _) | (with_reducible refine Q.drew ?_) | (with_reducible refine Q.drewN ?_ _) | (with_reducible refine Q.trans ?_ (by assumption)) | omega | (dsimp only; omega) | (simp; done) | (simp; omega)))⟩
        · have hv := Lib.hid (P.boxOk_in h1 h2 h3' h4')
          go_enter Try.func13, Try.ntmps13
          go_wp2_with fail
          refine (axes_any _ _ _ _ _).mono ?_
          rintro e w1 ⟨rfl, q1⟩
          obtain ⟨c1, f1⟩ := q1.cells
          have s1 := q1.size
          (try simp at s1)
          (try have z1_0_0 : w.heap.size < w1.heap.size := (by omega))
          (try have z1_0_1 : w.heap.size + 1 < w1.heap.size := (by omega))
          (try have z1_0_2 : w.heap.size + 1 + 1 < w1.heap.size := (by omega))
          have y1 : w.heap.size < w1.heap.size + 1 + 1 := by omega
          have y2 : w.heap.size < w1.heap.size + 2 := by omega
          go_wp2
          refine wp_loop_rounds 3 ?_
          rw [rounds_succ]
          go_wp2
          rw [rounds_succ]
          go_wp2
          rw [rounds_succ]
          go_wp2_with fail
          refine (vecOkI _ _ _).mono ?_
          rintro e w2 ⟨rfl, q2⟩
          obtain ⟨c2, f2⟩ := q2.cells
          have s2 := q2.size
          (try simp at s2)
          (try have z2_0_0 : w.heap.size < w2.heap.size := (by omega))
          (try have z2_0_1 : w.heap.size + 1 < w2.heap.size := (by omega))
          (try have z2_0_2 : w.heap.size + 1 + 1 < w2.heap.size := (by omega))
          (try have z2_1_0 : w1.heap.size < w2.heap.size := (by omega))
          (try have z2_1_1 : w1.heap.size + 1 < w2.heap.size := (by omega))
          go_wp2_with fail
          refine (vecOkI _ _ _).mono ?_
          rintro e w3 ⟨rfl, q3⟩
          obtain ⟨c3, f3⟩ := q3.cells
          have s3 := q3.size
          (try simp at s3)
          (try have z3_0_0 : w.heap.size < w3.heap.size := (by omega))
          (try have z3_0_1 : w.heap.size + 1 < w3.heap.size := (by omega))
          (try have z3_0_2 : w.heap.size + 1 + 1 < w3.heap.size := (by omega))
          (try have z3_1_0 : w1.heap.size < w3.heap.size := (by omega))
          (try have z3_1_1 : w1.heap.size + 1 < w3.heap.size := (by omega))
          (try have z3_2_0 : w2.heap.size < w3.heap.size := (by omega))
          (try have z3_2_1 : w2.heap.size + 1 < w3.heap.size := (by omega))
          go_wp2
          go_ret
          exact ⟨by rw [hv.out]; rfl, by (repeat' (first | (with_reducible exact Q.refl _) | (with_reducible assumption) | (with_reducible refine Q.setCell ?_ ?_ _) | (with_reducible refine Q.alloc ?_ _) | (with_reducible refine Q.drew ?_) | (with_reducible refine Q.drewN ?_ _) | (with_reducible refine Q.trans ?_ (by assumption)) | omega | (dsimp only; omega) | (simp; done) | (simp; omega)))⟩
end Go.Proofs.Ytakmeajdkcojoaa
