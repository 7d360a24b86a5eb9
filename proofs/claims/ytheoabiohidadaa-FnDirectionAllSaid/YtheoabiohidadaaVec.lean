/-
  The contracts of the functions on vectors: the program's and the reference's give the same.
-/
import Derived.Test.YtheoabiohidadaaFix
import Derived.RegionTactic
import Derived.Deep.RegionWith
import Derived.BigRegion
import Derived.ChangeAlike
import Derived.Deep.RegionHeld3
import Derived.Deep.QuietTactic
import Derived.BigQuiet
import Derived.IntWalk
namespace Go.Proofs.Ytheoabiohidadaa
open Go.RowKit

set_option maxHeartbeats 400000 in
theorem toVec_any (x y : Int) (w : World) :
    Calls Try.prog 12 #[.agg #[.int .i64 x, .int .i64 y]] w fun e w' => e = .returned (.agg #[.int .i64 x, .int .i64 y]) ∧ Q w w' := by
  go_enter Try.func12, Try.ntmps12
  go_wp2
  go_returns
  exact ⟨rfl, by (repeat' (first | exact Q.refl _ | assumption | refine Q.alloc ?_ _ | refine Q.drew ?_ | refine Q.drewN ?_ _ | refine Q.setCell ?_ ?_ _ | refine Q.trans ?_ (by assumption) | omega | (simp; done) | (simp; omega)))⟩
set_option maxHeartbeats 400000 in
theorem isCo_any (n : Int) (w : World) :
    Calls Try.prog 28 #[.int .i64 n] w fun e w' => e = .returned (.bool (P.inB n (-1000000) 1000000)) ∧ w = w' := by
  go_enter Try.func28, Try.ntmps28
  go_wp2_with (go_at_call 29; refine (inRange_any _ _ _ _).mono ?_; rintro e w' ⟨rfl, rfl⟩)
  go_ret
  exact ⟨rfl, rfl⟩
set_option maxHeartbeats 400000 in
theorem vecOkI (x y : Int) (w : World) :
    Calls Try.prog 21 #[.agg #[.int .i64 x, .int .i64 y]] w fun e w' => e = .returned (.bool (P.vOk x y)) ∧ Q w w' := by
  cases h : P.inB x (-1000000) 1000000
  · have hv := Lib.hid (P.vOk_out (y := y) h)
    go_enter Try.func21, Try.ntmps21
    go_wp2_with (go_at_call 28; refine (isCo_any _ _).mono ?_; rintro e w' ⟨rfl, rfl⟩)
    go_ret
    exact ⟨by (rw [hv.out]; try rfl), by (repeat' (first | exact Q.refl _ | assumption | refine Q.alloc ?_ _ | refine Q.drew ?_ | refine Q.drewN ?_ _ | refine Q.setCell ?_ ?_ _ | refine Q.trans ?_ (by assumption) | omega | (simp; done) | (simp; omega)))⟩
  · have hv := Lib.hid (P.vOk_in (y := y) h)
    go_enter Try.func21, Try.ntmps21
    go_wp2_with (go_at_call 28; refine (isCo_any _ _).mono ?_; rintro e w' ⟨rfl, rfl⟩)
    go_ret
    exact ⟨by (rw [hv.out]; try rfl), by (repeat' (first | exact Q.refl _ | assumption | refine Q.alloc ?_ _ | refine Q.drew ?_ | refine Q.drewN ?_ _ | refine Q.setCell ?_ ?_ _ | refine Q.trans ?_ (by assumption) | omega | (simp; done) | (simp; omega)))⟩
set_option maxHeartbeats 400000 in
theorem vecOkS (x y : Int) (w : World) :
    Calls Try.prog 19 #[.agg #[.int .i64 x, .int .i64 y]] w fun e w' => e = .returned (.bool (P.vOk x y)) ∧ Q w w' := by
  cases h : P.inB x (-1000000) 1000000
  · have hv := Lib.hid (P.vOk_out (y := y) h)
    go_enter Try.func19, Try.ntmps19
    go_wp2_with (go_at_call 16; refine (l6In_any _ _ _ _).mono ?_; rintro e w' ⟨rfl, rfl⟩)
    go_ret
    exact ⟨by (rw [hv.out]; try rfl), by (repeat' (first | exact Q.refl _ | assumption | refine Q.alloc ?_ _ | refine Q.drew ?_ | refine Q.drewN ?_ _ | refine Q.setCell ?_ ?_ _ | refine Q.trans ?_ (by assumption) | omega | (simp; done) | (simp; omega)))⟩
  · have hv := Lib.hid (P.vOk_in (y := y) h)
    go_enter Try.func19, Try.ntmps19
    go_wp2_with (go_at_call 16; refine (l6In_any _ _ _ _).mono ?_; rintro e w' ⟨rfl, rfl⟩)
    go_ret
    exact ⟨by (rw [hv.out]; try rfl), by (repeat' (first | exact Q.refl _ | assumption | refine Q.alloc ?_ _ | refine Q.drew ?_ | refine Q.drewN ?_ _ | refine Q.setCell ?_ ?_ _ | refine Q.trans ?_ (by assumption) | omega | (simp; done) | (simp; omega)))⟩
set_option maxHeartbeats 400000 in
theorem given_any (x y : Int) (w : World) :
    Calls Try.prog 22 #[.agg #[.int .i64 x, .int .i64 y]] w fun e w' => e = .returned (.tuple #[.agg #[.int .i64 (P.sel (P.vOk x y) x), .int .i64 (P.sel (P.vOk x y) y)], .bool (P.vOk x y)]) ∧ Q w w' := by
  cases h : P.vOk x y
  · go_enter Try.func22, Try.ntmps22
    go_wp2_with (go_at_call 21; refine (vecOkI _ _ _).mono ?_; rintro e w1 ⟨rfl, q1⟩; obtain ⟨c1, f1⟩ := q1.cells; have s1 := q1.size; (try simp at s1); (try have z10 : w.heap.size < w1.heap.size := (by omega)); (try have z11 : w.heap.size + 1 < w1.heap.size := (by omega)); (try have z12 : w.heap.size + 1 + 1 < w1.heap.size := (by omega)); (try have z13 : w.heap.size + 1 + 1 + 1 < w1.heap.size := (by omega)))
    first | (refine bodyPost_ret (by simp [results, Try.results22, go_sem, *]; try rfl) rfl ?_) | (refine bodyPost_ret (by (try simp only [results, Try.results22]); go_simp; try rfl) rfl ?_)
    exact ⟨rfl, by (repeat' (first | exact Q.refl _ | assumption | refine Q.alloc ?_ _ | refine Q.drew ?_ | refine Q.drewN ?_ _ | refine Q.setCell ?_ ?_ _ | refine Q.trans ?_ (by assumption) | omega | (simp; done) | (simp; omega)))⟩
  · go_enter Try.func22, Try.ntmps22
    go_wp2_with (go_at_call 21; refine (vecOkI _ _ _).mono ?_; rintro e w1 ⟨rfl, q1⟩; obtain ⟨c1, f1⟩ := q1.cells; have s1 := q1.size; (try simp at s1); (try have z10 : w.heap.size < w1.heap.size := (by omega)); (try have z11 : w.heap.size + 1 < w1.heap.size := (by omega)); (try have z12 : w.heap.size + 1 + 1 < w1.heap.size := (by omega)); (try have z13 : w.heap.size + 1 + 1 + 1 < w1.heap.size := (by omega)))
    first | (refine bodyPost_ret (by simp [results, Try.results22, go_sem, *]; try rfl) rfl ?_) | (refine bodyPost_ret (by (try simp only [results, Try.results22]); go_simp; try rfl) rfl ?_)
    exact ⟨rfl, by (repeat' (first | exact Q.refl _ | assumption | refine Q.alloc ?_ _ | refine Q.drew ?_ | refine Q.drewN ?_ _ | refine Q.setCell ?_ ?_ _ | refine Q.trans ?_ (by assumption) | omega | (simp; done) | (simp; omega)))⟩
set_option maxHeartbeats 400000 in
theorem l2Range_any (x y : Int) (w : World) :
    Calls Try.prog 20 #[.agg #[.int .i64 x, .int .i64 y]] w fun e w' => e = .returned (.tuple #[.agg #[.int .i64 (P.sel (P.vOk x y) x), .int .i64 (P.sel (P.vOk x y) y)], .bool (P.vOk x y)]) ∧ Q w w' := by
  cases h : P.vOk x y
  · go_enter Try.func20, Try.ntmps20
    go_wp2_with (go_at_call 19; refine (vecOkS _ _ _).mono ?_; rintro e w1 ⟨rfl, q1⟩; obtain ⟨c1, f1⟩ := q1.cells; have s1 := q1.size; (try simp at s1); (try have z10 : w.heap.size < w1.heap.size := (by omega)); (try have z11 : w.heap.size + 1 < w1.heap.size := (by omega)); (try have z12 : w.heap.size + 1 + 1 < w1.heap.size := (by omega)); (try have z13 : w.heap.size + 1 + 1 + 1 < w1.heap.size := (by omega)))
    first | (refine bodyPost_ret (by simp [results, Try.results20, go_sem, *]; try rfl) rfl ?_) | (refine bodyPost_ret (by (try simp only [results, Try.results20]); go_simp; try rfl) rfl ?_)
    exact ⟨rfl, by (repeat' (first | exact Q.refl _ | assumption | refine Q.alloc ?_ _ | refine Q.drew ?_ | refine Q.drewN ?_ _ | refine Q.setCell ?_ ?_ _ | refine Q.trans ?_ (by assumption) | omega | (simp; done) | (simp; omega)))⟩
  · go_enter Try.func20, Try.ntmps20
    go_wp2_with (go_at_call 19; refine (vecOkS _ _ _).mono ?_; rintro e w1 ⟨rfl, q1⟩; obtain ⟨c1, f1⟩ := q1.cells; have s1 := q1.size; (try simp at s1); (try have z10 : w.heap.size < w1.heap.size := (by omega)); (try have z11 : w.heap.size + 1 < w1.heap.size := (by omega)); (try have z12 : w.heap.size + 1 + 1 < w1.heap.size := (by omega)); (try have z13 : w.heap.size + 1 + 1 + 1 < w1.heap.size := (by omega)))
    first | (refine bodyPost_ret (by simp [results, Try.results20, go_sem, *]; try rfl) rfl ?_) | (refine bodyPost_ret (by (try simp only [results, Try.results20]); go_simp; try rfl) rfl ?_)
    exact ⟨rfl, by (repeat' (first | exact Q.refl _ | assumption | refine Q.alloc ?_ _ | refine Q.drew ?_ | refine Q.drewN ?_ _ | refine Q.setCell ?_ ?_ _ | refine Q.trans ?_ (by assumption) | omega | (simp; done) | (simp; omega)))⟩
set_option maxHeartbeats 400000 in
theorem vecAddI (ax ay bx bq : Int) (w : World) :
    Calls Try.prog 13 #[.agg #[.int .i64 ax, .int .i64 ay], .agg #[.int .i64 bx, .int .i64 bq]] w fun e w' =>
      e = .returned (.tuple #[.agg #[.int .i64 (P.sel (P.vaddB ax ay bx bq) (ax + bx)), .int .i64 (P.sel (P.vaddB ax ay bx bq) (ay + bq))], .bool (P.vaddB ax ay bx bq)]) ∧ Q w w' := by
  cases ha : P.vOk ax ay
  · have hk := Lib.hid (P.vaddB_out1 (bx := bx) (bq := bq) ha)
    go_enter Try.func13, Try.ntmps13
    go_wp2_with (go_at_call 21; refine (vecOkI _ _ _).mono ?_; rintro e w1 ⟨rfl, q1⟩; obtain ⟨c1, f1⟩ := q1.cells; have s1 := q1.size; (try simp at s1); (try have z10 : w.heap.size < w1.heap.size := (by omega)); (try have z11 : w.heap.size + 1 < w1.heap.size := (by omega)); (try have z12 : w.heap.size + 1 + 1 < w1.heap.size := (by omega)); (try have z13 : w.heap.size + 1 + 1 + 1 < w1.heap.size := (by omega)))
    first | (refine bodyPost_ret (by simp [results, Try.results13, go_sem, *]; try rfl) rfl ?_) | (refine bodyPost_ret (by (try simp only [results, Try.results13]); go_simp; try rfl) rfl ?_)
    exact ⟨by (rw [hk.out]; try rfl), by (repeat' (first | exact Q.refl _ | assumption | refine Q.alloc ?_ _ | refine Q.drew ?_ | refine Q.drewN ?_ _ | refine Q.setCell ?_ ?_ _ | refine Q.trans ?_ (by assumption) | omega | (simp; done) | (simp; omega)))⟩
  · cases hb : P.vOk bx bq
    · have hk := Lib.hid (P.vaddB_out2 (ax := ax) (ay := ay) hb)
      go_enter Try.func13, Try.ntmps13
      go_wp2_with (go_at_call 21; refine (vecOkI _ _ _).mono ?_; rintro e w1 ⟨rfl, q1⟩; obtain ⟨c1, f1⟩ := q1.cells; have s1 := q1.size; (try simp at s1); (try have z10 : w.heap.size < w1.heap.size := (by omega)); (try have z11 : w.heap.size + 1 < w1.heap.size := (by omega)); (try have z12 : w.heap.size + 1 + 1 < w1.heap.size := (by omega)); (try have z13 : w.heap.size + 1 + 1 + 1 < w1.heap.size := (by omega)))
      first | (refine bodyPost_ret (by simp [results, Try.results13, go_sem, *]; try rfl) rfl ?_) | (refine bodyPost_ret (by (try simp only [results, Try.results13]); go_simp; try rfl) rfl ?_)
      exact ⟨by (rw [hk.out]; try rfl), by (repeat' (first | exact Q.refl _ | assumption | refine Q.alloc ?_ _ | refine Q.drew ?_ | refine Q.drewN ?_ _ | refine Q.setCell ?_ ?_ _ | refine Q.trans ?_ (by assumption) | omega | (simp; done) | (simp; omega)))⟩
    · have hk := Lib.hid (P.vaddB_in ha hb)
      obtain ⟨a1, a2, a3, a4⟩ := P.vOk_iff.1 ha
      obtain ⟨b1, b2, b3, b4⟩ := P.vOk_iff.1 hb
      go_enter Try.func13, Try.ntmps13
      go_wp2_with (first | (go_at_call 21; refine (vecOkI _ _ _).mono ?_; rintro e w1 ⟨rfl, q1⟩; obtain ⟨c1, f1⟩ := q1.cells; have s1 := q1.size; (try simp at s1); (try have z10 : w.heap.size < w1.heap.size := (by omega)); (try have z11 : w.heap.size + 1 < w1.heap.size := (by omega)); (try have z12 : w.heap.size + 1 + 1 < w1.heap.size := (by omega)); (try have z13 : w.heap.size + 1 + 1 + 1 < w1.heap.size := (by omega))) | (go_at_call 22; refine (given_any _ _ _).mono ?_; rintro e w2 ⟨rfl, q2⟩; obtain ⟨c2, f2⟩ := q2.cells; have s2 := q2.size; (try simp at s2); (try have z20 : w.heap.size < w2.heap.size := (by omega)); (try have z21 : w.heap.size + 1 < w2.heap.size := (by omega)); (try have z22 : w.heap.size + 1 + 1 < w2.heap.size := (by omega)); (try have z23 : w.heap.size + 1 + 1 + 1 < w2.heap.size := (by omega))))
      first | (refine bodyPost_ret (by simp [results, Try.results13, go_sem, *]; try rfl) rfl ?_) | (refine bodyPost_ret (by (try simp only [results, Try.results13]); go_simp; try rfl) rfl ?_)
      exact ⟨by (rw [hk.out]; try rfl), by (repeat' (first | exact Q.refl _ | assumption | refine Q.alloc ?_ _ | refine Q.drew ?_ | refine Q.drewN ?_ _ | refine Q.setCell ?_ ?_ _ | refine Q.trans ?_ (by assumption) | omega | (simp; done) | (simp; omega)))⟩
set_option maxHeartbeats 400000 in
theorem vecAddS (ax ay bx bq : Int) (w : World) :
    Calls Try.prog 11 #[.agg #[.int .i64 ax, .int .i64 ay], .agg #[.int .i64 bx, .int .i64 bq]] w fun e w' =>
      e = .returned (.tuple #[.agg #[.int .i64 (P.sel (P.vaddB ax ay bx bq) (ax + bx)), .int .i64 (P.sel (P.vaddB ax ay bx bq) (ay + bq))], .bool (P.vaddB ax ay bx bq)]) ∧ Q w w' := by
  cases ha : P.vOk ax ay
  · have hk := Lib.hid (P.vaddB_out1 (bx := bx) (bq := bq) ha)
    go_enter Try.func11, Try.ntmps11
    go_wp2_with (go_at_call 19; refine (vecOkS _ _ _).mono ?_; rintro e w1 ⟨rfl, q1⟩; obtain ⟨c1, f1⟩ := q1.cells; have s1 := q1.size; (try simp at s1); (try have z10 : w.heap.size < w1.heap.size := (by omega)); (try have z11 : w.heap.size + 1 < w1.heap.size := (by omega)); (try have z12 : w.heap.size + 1 + 1 < w1.heap.size := (by omega)); (try have z13 : w.heap.size + 1 + 1 + 1 < w1.heap.size := (by omega)))
    first | (refine bodyPost_ret (by simp [results, Try.results11, go_sem, *]; try rfl) rfl ?_) | (refine bodyPost_ret (by (try simp only [results, Try.results11]); go_simp; try rfl) rfl ?_)
    exact ⟨by (rw [hk.out]; try rfl), by (repeat' (first | exact Q.refl _ | assumption | refine Q.alloc ?_ _ | refine Q.drew ?_ | refine Q.drewN ?_ _ | refine Q.setCell ?_ ?_ _ | refine Q.trans ?_ (by assumption) | omega | (simp; done) | (simp; omega)))⟩
  · cases hb : P.vOk bx bq
    · have hk := Lib.hid (P.vaddB_out2 (ax := ax) (ay := ay) hb)
      go_enter Try.func11, Try.ntmps11
      go_wp2_with (go_at_call 19; refine (vecOkS _ _ _).mono ?_; rintro e w1 ⟨rfl, q1⟩; obtain ⟨c1, f1⟩ := q1.cells; have s1 := q1.size; (try simp at s1); (try have z10 : w.heap.size < w1.heap.size := (by omega)); (try have z11 : w.heap.size + 1 < w1.heap.size := (by omega)); (try have z12 : w.heap.size + 1 + 1 < w1.heap.size := (by omega)); (try have z13 : w.heap.size + 1 + 1 + 1 < w1.heap.size := (by omega)))
      first | (refine bodyPost_ret (by simp [results, Try.results11, go_sem, *]; try rfl) rfl ?_) | (refine bodyPost_ret (by (try simp only [results, Try.results11]); go_simp; try rfl) rfl ?_)
      exact ⟨by (rw [hk.out]; try rfl), by (repeat' (first | exact Q.refl _ | assumption | refine Q.alloc ?_ _ | refine Q.drew ?_ | refine Q.drewN ?_ _ | refine Q.setCell ?_ ?_ _ | refine Q.trans ?_ (by assumption) | omega | (simp; done) | (simp; omega)))⟩
    · have hk := Lib.hid (P.vaddB_in ha hb)
      obtain ⟨a1, a2, a3, a4⟩ := P.vOk_iff.1 ha
      obtain ⟨b1, b2, b3, b4⟩ := P.vOk_iff.1 hb
      go_enter Try.func11, Try.ntmps11
      go_wp2_with (first | (go_at_call 19; refine (vecOkS _ _ _).mono ?_; rintro e w1 ⟨rfl, q1⟩; obtain ⟨c1, f1⟩ := q1.cells; have s1 := q1.size; (try simp at s1); (try have z10 : w.heap.size < w1.heap.size := (by omega)); (try have z11 : w.heap.size + 1 < w1.heap.size := (by omega)); (try have z12 : w.heap.size + 1 + 1 < w1.heap.size := (by omega)); (try have z13 : w.heap.size + 1 + 1 + 1 < w1.heap.size := (by omega))) | (go_at_call 20; refine (l2Range_any _ _ _).mono ?_; rintro e w2 ⟨rfl, q2⟩; obtain ⟨c2, f2⟩ := q2.cells; have s2 := q2.size; (try simp at s2); (try have z20 : w.heap.size < w2.heap.size := (by omega)); (try have z21 : w.heap.size + 1 < w2.heap.size := (by omega)); (try have z22 : w.heap.size + 1 + 1 < w2.heap.size := (by omega)); (try have z23 : w.heap.size + 1 + 1 + 1 < w2.heap.size := (by omega))))
      first | (refine bodyPost_ret (by simp [results, Try.results11, go_sem, *]; try rfl) rfl ?_) | (refine bodyPost_ret (by (try simp only [results, Try.results11]); go_simp; try rfl) rfl ?_)
      exact ⟨by (rw [hk.out]; try rfl), by (repeat' (first | exact Q.refl _ | assumption | refine Q.alloc ?_ _ | refine Q.drew ?_ | refine Q.drewN ?_ _ | refine Q.setCell ?_ ?_ _ | refine Q.trans ?_ (by assumption) | omega | (simp; done) | (simp; omega)))⟩
set_option maxHeartbeats 400000 in
theorem square_any (x y : Int) (w : World) (k1 : 0 ≤ x * x) (k2 : x * x ≤ 4000000000000) (k3 : 0 ≤ y * y) (k4 : y * y ≤ 4000000000000) :
    Calls Try.prog 26 #[.agg #[.int .i64 x, .int .i64 y]] w fun e w' => e = .returned (.int .i64 (x * x + y * y)) ∧ Q w w' := by
  go_enter Try.func26, Try.ntmps26
  go_wp2
  first | (refine bodyPost_ret (by simp [results, Try.results26, go_sem, *]; try rfl) rfl ?_) | (refine bodyPost_ret (by (try simp only [results, Try.results26]); go_simp; try rfl) rfl ?_)
  exact ⟨rfl, by (repeat' (first | exact Q.refl _ | assumption | refine Q.alloc ?_ _ | refine Q.drew ?_ | refine Q.drewN ?_ _ | refine Q.setCell ?_ ?_ _ | refine Q.trans ?_ (by assumption) | omega | (simp; done) | (simp; omega)))⟩
set_option maxHeartbeats 400000 in
theorem vecLengthI (x y : Int) (w : World) :
    Calls Try.prog 15 #[.agg #[.int .i64 x, .int .i64 y]] w fun e w' => e = .returned (.tuple #[.int .i64 (P.lenV x y), .bool (P.vOk x y)]) ∧ Q w w' := by
  cases hv : P.vOk x y
  · have hl : Hid (P.lenV x y = 0) := by show P.lenV x y = 0; simp [P.lenV, hv, P.sel_false]
    go_enter Try.func15, Try.ntmps15
    go_wp2_with (go_at_call 21; refine (vecOkI _ _ _).mono ?_; rintro e w1 ⟨rfl, q1⟩; obtain ⟨c1, f1⟩ := q1.cells; have s1 := q1.size; (try simp at s1); (try have z10 : w.heap.size < w1.heap.size := (by omega)); (try have z11 : w.heap.size + 1 < w1.heap.size := (by omega)); (try have z12 : w.heap.size + 1 + 1 < w1.heap.size := (by omega)); (try have z13 : w.heap.size + 1 + 1 + 1 < w1.heap.size := (by omega)))
    first | (refine bodyPost_ret (by simp [results, Try.results15, go_sem, *]; try rfl) rfl ?_) | (refine bodyPost_ret (by (try simp only [results, Try.results15]); go_simp; try rfl) rfl ?_)
    exact ⟨by (rw [hl.out]; try rfl), by (repeat' (first | exact Q.refl _ | assumption | refine Q.alloc ?_ _ | refine Q.drew ?_ | refine Q.drewN ?_ _ | refine Q.setCell ?_ ?_ _ | refine Q.trans ?_ (by assumption) | omega | (simp; done) | (simp; omega)))⟩
  · have hl : Hid (P.lenV x y = P.lenI x y) := by show P.lenV x y = P.lenI x y; simp [P.lenV, hv, P.sel_true]
    obtain ⟨a1, a2, a3, a4⟩ := P.vOk_iff.1 hv
    obtain ⟨k1, k2⟩ := P.ss_bd a1 a2
    obtain ⟨k3, k4⟩ := P.ss_bd a3 a4
    go_enter Try.func15, Try.ntmps15
    go_wp2_with (first | (go_at_call 21; refine (vecOkI _ _ _).mono ?_; rintro e w1 ⟨rfl, q1⟩; obtain ⟨c1, f1⟩ := q1.cells; have s1 := q1.size; (try simp at s1); (try have z10 : w.heap.size < w1.heap.size := (by omega)); (try have z11 : w.heap.size + 1 < w1.heap.size := (by omega)); (try have z12 : w.heap.size + 1 + 1 < w1.heap.size := (by omega)); (try have z13 : w.heap.size + 1 + 1 + 1 < w1.heap.size := (by omega))) | (go_at_call 26; refine (square_any _ _ _ k1 (by omega) k3 (by omega)).mono ?_; rintro e w2 ⟨rfl, q2⟩; obtain ⟨c2, f2⟩ := q2.cells; have s2 := q2.size; (try simp at s2); (try have z20 : w.heap.size < w2.heap.size := (by omega)); (try have z21 : w.heap.size + 1 < w2.heap.size := (by omega)); (try have z22 : w.heap.size + 1 + 1 < w2.heap.size := (by omega)); (try have z23 : w.heap.size + 1 + 1 + 1 < w2.heap.size := (by omega))) | (go_at_call 25; refine (root_any _ _ (by omega) (by omega)).mono ?_; rintro e w' ⟨rfl, rfl⟩))
    first | (refine bodyPost_ret (by simp [results, Try.results15, go_sem, *]; try rfl) rfl ?_) | (refine bodyPost_ret (by (try simp only [results, Try.results15]); go_simp; try rfl) rfl ?_)
    exact ⟨by (rw [hl.out]; try rfl), by (repeat' (first | exact Q.refl _ | assumption | refine Q.alloc ?_ _ | refine Q.drew ?_ | refine Q.drewN ?_ _ | refine Q.setCell ?_ ?_ _ | refine Q.trans ?_ (by assumption) | omega | (simp; done) | (simp; omega)))⟩
theorem vecLengthI' (x y : Int) (w : World) (hv : P.vOk x y = true) :
    Calls Try.prog 15 #[.agg #[.int .i64 x, .int .i64 y]] w fun e w' => e = .returned (.tuple #[.int .i64 (P.lenI x y), .bool true]) ∧ Q w w' :=
  (vecLengthI x y w).mono fun _ _ ⟨he, hq⟩ => ⟨by rw [he, hv, P.lenV, hv, P.sel_true], hq⟩
theorem vecLengthI0 (x y : Int) (w : World) (hv : P.vOk x y = false) :
    Calls Try.prog 15 #[.agg #[.int .i64 x, .int .i64 y]] w fun e w' => e = .returned (.tuple #[.int .i64 0, .bool false]) ∧ Q w w' :=
  (vecLengthI x y w).mono fun _ _ ⟨he, hq⟩ => ⟨by rw [he, hv, P.lenV, hv, P.sel_false], hq⟩
set_option maxHeartbeats 400000 in
/-- eqVec at two equal vectors. -/
theorem eqVec_same (x y : Int) (w : World) :
    Calls Try.prog 10 #[.agg #[.int .i64 x, .int .i64 y], .agg #[.int .i64 x, .int .i64 y]] w fun e w' => e = .returned (.bool true) ∧ Q w w' := by
  go_enter Try.func10, Try.ntmps10
  go_wp2
  go_ret
  exact ⟨rfl, by (repeat' (first | exact Q.refl _ | assumption | refine Q.alloc ?_ _ | refine Q.drew ?_ | refine Q.drewN ?_ _ | refine Q.setCell ?_ ?_ _ | refine Q.trans ?_ (by assumption) | omega | (simp; done) | (simp; omega)))⟩
end Go.Proofs.Ytheoabiohidadaa
