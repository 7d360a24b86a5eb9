/-
  The contracts of the functions on vectors: the program's and the reference's give the same.
-/
import Derived.Test.YthifhomeekcjpaaFix
import Derived.RegionTactic
import Derived.Deep.RegionWith
import Derived.BigRegion
import Derived.ChangeAlike
import Derived.Deep.RegionHeld3
import Derived.Deep.QuietTactic
import Derived.BigQuiet
import Derived.IntWalk
namespace Go.Proofs.Ythifhomeekcjpaa
open Go.RowKit

set_option maxHeartbeats 400000 in
theorem toVec_any (x y : Int) (w : World) :
    Calls Try.prog 18 #[.agg #[.int .i64 x, .int .i64 y]] w fun e w' => e = .returned (.agg #[.int .i64 x, .int .i64 y]) ∧ Q w w' := by
  go_enter Try.func18, Try.ntmps18
  go_wp2
  go_returns
  exact ⟨rfl, by (repeat' (first | exact Q.refl _ | assumption | refine Q.alloc ?_ _ | refine Q.drew ?_ | refine Q.drewN ?_ _ | refine Q.setCell ?_ ?_ _ | refine Q.trans ?_ (by assumption) | omega | (simp; done) | (simp; omega)))⟩
set_option maxHeartbeats 400000 in
theorem isCo_any (n : Int) (w : World) :
    Calls Try.prog 42 #[.int .i64 n] w fun e w' => e = .returned (.bool (P.inB n (-1000000) 1000000)) ∧ w = w' := by
  go_enter Try.func42, Try.ntmps42
  go_wp2_with (go_at_call 53; refine (inRange_any _ _ _ _).mono ?_; rintro e w' ⟨rfl, rfl⟩)
  go_ret
  exact ⟨rfl, rfl⟩
set_option maxHeartbeats 400000 in
theorem vecOkI (x y : Int) (w : World) :
    Calls Try.prog 19 #[.agg #[.int .i64 x, .int .i64 y]] w fun e w' => e = .returned (.bool (P.vOk x y)) ∧ Q w w' := by
  cases h : P.inB x (-1000000) 1000000
  · have hv := Lib.hid (P.vOk_out (y := y) h)
    go_enter Try.func19, Try.ntmps19
    go_wp2_with (go_at_call 42; refine (isCo_any _ _).mono ?_; rintro e w' ⟨rfl, rfl⟩)
    go_ret
    exact ⟨by (rw [hv.out]; try rfl), by (repeat' (first | exact Q.refl _ | assumption | refine Q.alloc ?_ _ | refine Q.drew ?_ | refine Q.drewN ?_ _ | refine Q.setCell ?_ ?_ _ | refine Q.trans ?_ (by assumption) | omega | (simp; done) | (simp; omega)))⟩
  · have hv := Lib.hid (P.vOk_in (y := y) h)
    go_enter Try.func19, Try.ntmps19
    go_wp2_with (go_at_call 42; refine (isCo_any _ _).mono ?_; rintro e w' ⟨rfl, rfl⟩)
    go_ret
    exact ⟨by (rw [hv.out]; try rfl), by (repeat' (first | exact Q.refl _ | assumption | refine Q.alloc ?_ _ | refine Q.drew ?_ | refine Q.drewN ?_ _ | refine Q.setCell ?_ ?_ _ | refine Q.trans ?_ (by assumption) | omega | (simp; done) | (simp; omega)))⟩
set_option maxHeartbeats 400000 in
theorem vecOkS (x y : Int) (w : World) :
    Calls Try.prog 17 #[.agg #[.int .i64 x, .int .i64 y]] w fun e w' => e = .returned (.bool (P.vOk x y)) ∧ Q w w' := by
  cases h : P.inB x (-1000000) 1000000
  · have hv := Lib.hid (P.vOk_out (y := y) h)
    go_enter Try.func17, Try.ntmps17
    go_wp2_with (go_at_call 40; refine (l6In_any _ _ _ _).mono ?_; rintro e w' ⟨rfl, rfl⟩)
    go_ret
    exact ⟨by (rw [hv.out]; try rfl), by (repeat' (first | exact Q.refl _ | assumption | refine Q.alloc ?_ _ | refine Q.drew ?_ | refine Q.drewN ?_ _ | refine Q.setCell ?_ ?_ _ | refine Q.trans ?_ (by assumption) | omega | (simp; done) | (simp; omega)))⟩
  · have hv := Lib.hid (P.vOk_in (y := y) h)
    go_enter Try.func17, Try.ntmps17
    go_wp2_with (go_at_call 40; refine (l6In_any _ _ _ _).mono ?_; rintro e w' ⟨rfl, rfl⟩)
    go_ret
    exact ⟨by (rw [hv.out]; try rfl), by (repeat' (first | exact Q.refl _ | assumption | refine Q.alloc ?_ _ | refine Q.drew ?_ | refine Q.drewN ?_ _ | refine Q.setCell ?_ ?_ _ | refine Q.trans ?_ (by assumption) | omega | (simp; done) | (simp; omega)))⟩
set_option maxHeartbeats 400000 in
theorem vecDotI (ax ay bx bq : Int) (w : World) :
    Calls Try.prog 26 #[.agg #[.int .i64 ax, .int .i64 ay], .agg #[.int .i64 bx, .int .i64 bq]] w fun e w' =>
      e = .returned (.tuple #[.int .i64 (P.vdotV ax ay bx bq), .bool (P.vdotB ax ay bx bq)]) ∧ Q w w' := by
  cases ha : P.vOk ax ay
  · have hk := Lib.hid (P.vdotB_out1 (bx := bx) (bq := bq) ha)
    have hv := Lib.hid (P.vdotV_out1 (bx := bx) (bq := bq) ha)
    go_enter Try.func26, Try.ntmps26
    go_wp2_with (go_at_call 19; refine (vecOkI _ _ _).mono ?_; rintro e w1 ⟨rfl, q1⟩; obtain ⟨c1, f1⟩ := q1.cells; have s1 := q1.size; (try simp at s1); (try have z10 : w.heap.size < w1.heap.size := (by omega)); (try have z11 : w.heap.size + 1 < w1.heap.size := (by omega)); (try have z12 : w.heap.size + 1 + 1 < w1.heap.size := (by omega)); (try have z13 : w.heap.size + 1 + 1 + 1 < w1.heap.size := (by omega)))
    first | (refine bodyPost_ret (by simp [results, Try.results26, go_sem, *]; try rfl) rfl ?_) | (refine bodyPost_ret (by (try simp only [results, Try.results26]); go_simp; try rfl) rfl ?_)
    exact ⟨by (rw [hv.out, hk.out]; try rfl), by (repeat' (first | exact Q.refl _ | assumption | refine Q.alloc ?_ _ | refine Q.drew ?_ | refine Q.drewN ?_ _ | refine Q.setCell ?_ ?_ _ | refine Q.trans ?_ (by assumption) | omega | (simp; done) | (simp; omega)))⟩
  · cases hb : P.vOk bx bq
    · have hk := Lib.hid (P.vdotB_out2 (ax := ax) (ay := ay) hb)
      have hv := Lib.hid (P.vdotV_out2 (ax := ax) (ay := ay) hb)
      go_enter Try.func26, Try.ntmps26
      go_wp2_with (go_at_call 19; refine (vecOkI _ _ _).mono ?_; rintro e w1 ⟨rfl, q1⟩; obtain ⟨c1, f1⟩ := q1.cells; have s1 := q1.size; (try simp at s1); (try have z10 : w.heap.size < w1.heap.size := (by omega)); (try have z11 : w.heap.size + 1 < w1.heap.size := (by omega)); (try have z12 : w.heap.size + 1 + 1 < w1.heap.size := (by omega)); (try have z13 : w.heap.size + 1 + 1 + 1 < w1.heap.size := (by omega)))
      first | (refine bodyPost_ret (by simp [results, Try.results26, go_sem, *]; try rfl) rfl ?_) | (refine bodyPost_ret (by (try simp only [results, Try.results26]); go_simp; try rfl) rfl ?_)
      exact ⟨by (rw [hv.out, hk.out]; try rfl), by (repeat' (first | exact Q.refl _ | assumption | refine Q.alloc ?_ _ | refine Q.drew ?_ | refine Q.drewN ?_ _ | refine Q.setCell ?_ ?_ _ | refine Q.trans ?_ (by assumption) | omega | (simp; done) | (simp; omega)))⟩
    · have hk := Lib.hid (P.vdotB_in ha hb)
      have hv := Lib.hid (P.vdotV_in ha hb)
      obtain ⟨a1, a2, a3, a4⟩ := P.vOk_iff.1 ha
      obtain ⟨b1, b2, b3, b4⟩ := P.vOk_iff.1 hb
      obtain ⟨k1, k2⟩ := P.cc_bd a1 a2 b1 b2
      obtain ⟨k3, k4⟩ := P.cc_bd a3 a4 b3 b4
      obtain ⟨k5, k6⟩ := P.tdiv_bd 1000 k1 k2
      obtain ⟨k7, k8⟩ := P.tdiv_bd 1000 k3 k4
      go_enter Try.func26, Try.ntmps26
      go_wp2_with (go_at_call 19; refine (vecOkI _ _ _).mono ?_; rintro e w1 ⟨rfl, q1⟩; obtain ⟨c1, f1⟩ := q1.cells; have s1 := q1.size; (try simp at s1); (try have z10 : w.heap.size < w1.heap.size := (by omega)); (try have z11 : w.heap.size + 1 < w1.heap.size := (by omega)); (try have z12 : w.heap.size + 1 + 1 < w1.heap.size := (by omega)); (try have z13 : w.heap.size + 1 + 1 + 1 < w1.heap.size := (by omega)))
      first | (refine bodyPost_ret (by simp [results, Try.results26, go_sem, *]; try rfl) rfl ?_) | (refine bodyPost_ret (by (try simp only [results, Try.results26]); go_simp; try rfl) rfl ?_)
      exact ⟨by (rw [hv.out, hk.out]; try rfl), by (repeat' (first | exact Q.refl _ | assumption | refine Q.alloc ?_ _ | refine Q.drew ?_ | refine Q.drewN ?_ _ | refine Q.setCell ?_ ?_ _ | refine Q.trans ?_ (by assumption) | omega | (simp; done) | (simp; omega)))⟩
set_option maxHeartbeats 400000 in
theorem square_any (x y : Int) (w : World) (k1 : 0 ≤ x * x) (k2 : x * x ≤ 4000000000000) (k3 : 0 ≤ y * y) (k4 : y * y ≤ 4000000000000) :
    Calls Try.prog 60 #[.agg #[.int .i64 x, .int .i64 y]] w fun e w' => e = .returned (.int .i64 (x * x + y * y)) ∧ Q w w' := by
  go_enter Try.func60, Try.ntmps60
  go_wp2
  first | (refine bodyPost_ret (by simp [results, Try.results60, go_sem, *]; try rfl) rfl ?_) | (refine bodyPost_ret (by (try simp only [results, Try.results60]); go_simp; try rfl) rfl ?_)
  exact ⟨rfl, by (repeat' (first | exact Q.refl _ | assumption | refine Q.alloc ?_ _ | refine Q.drew ?_ | refine Q.drewN ?_ _ | refine Q.setCell ?_ ?_ _ | refine Q.trans ?_ (by assumption) | omega | (simp; done) | (simp; omega)))⟩
set_option maxHeartbeats 400000 in
theorem l2Length_any (x y : Int) (w : World) (hv : P.vOk x y = true) :
    Calls Try.prog 61 #[.agg #[.int .i64 x, .int .i64 y]] w fun e w' => e = .returned (.int .i64 (P.lenI x y)) ∧ Q w w' := by
  obtain ⟨a1, a2, a3, a4⟩ := P.vOk_iff.1 hv
  obtain ⟨k1, k2⟩ := P.ss_bd a1 a2
  obtain ⟨k3, k4⟩ := P.ss_bd a3 a4
  clear hv
  go_enter Try.func61, Try.ntmps61
  go_wp2_with (go_at_call 56; refine (l1Sqrt_any _ _ (by omega) (by omega)).mono ?_; rintro e w' ⟨rfl, rfl⟩)
  first | (refine bodyPost_ret (by simp [results, Try.results61, go_sem, *]; try rfl) rfl ?_) | (refine bodyPost_ret (by (try simp only [results, Try.results61]); go_simp; try rfl) rfl ?_)
  exact ⟨rfl, by (repeat' (first | exact Q.refl _ | assumption | refine Q.alloc ?_ _ | refine Q.drew ?_ | refine Q.drewN ?_ _ | refine Q.setCell ?_ ?_ _ | refine Q.trans ?_ (by assumption) | omega | (simp; done) | (simp; omega)))⟩
set_option maxHeartbeats 400000 in
theorem vecLengthI (x y : Int) (w : World) :
    Calls Try.prog 52 #[.agg #[.int .i64 x, .int .i64 y]] w fun e w' => e = .returned (.tuple #[.int .i64 (P.lenV x y), .bool (P.vOk x y)]) ∧ Q w w' := by
  cases hv : P.vOk x y
  · have hl : Hid (P.lenV x y = 0) := by show P.lenV x y = 0; simp [P.lenV, hv, P.sel_false]
    go_enter Try.func52, Try.ntmps52
    go_wp2_with (go_at_call 19; refine (vecOkI _ _ _).mono ?_; rintro e w1 ⟨rfl, q1⟩; obtain ⟨c1, f1⟩ := q1.cells; have s1 := q1.size; (try simp at s1); (try have z10 : w.heap.size < w1.heap.size := (by omega)); (try have z11 : w.heap.size + 1 < w1.heap.size := (by omega)); (try have z12 : w.heap.size + 1 + 1 < w1.heap.size := (by omega)); (try have z13 : w.heap.size + 1 + 1 + 1 < w1.heap.size := (by omega)))
    first | (refine bodyPost_ret (by simp [results, Try.results52, go_sem, *]; try rfl) rfl ?_) | (refine bodyPost_ret (by (try simp only [results, Try.results52]); go_simp; try rfl) rfl ?_)
    exact ⟨by (rw [hl.out]; try rfl), by (repeat' (first | exact Q.refl _ | assumption | refine Q.alloc ?_ _ | refine Q.drew ?_ | refine Q.drewN ?_ _ | refine Q.setCell ?_ ?_ _ | refine Q.trans ?_ (by assumption) | omega | (simp; done) | (simp; omega)))⟩
  · have hl : Hid (P.lenV x y = P.lenI x y) := by show P.lenV x y = P.lenI x y; simp [P.lenV, hv, P.sel_true]
    obtain ⟨a1, a2, a3, a4⟩ := P.vOk_iff.1 hv
    obtain ⟨k1, k2⟩ := P.ss_bd a1 a2
    obtain ⟨k3, k4⟩ := P.ss_bd a3 a4
    go_enter Try.func52, Try.ntmps52
    go_wp2_with (first | (go_at_call 19; refine (vecOkI _ _ _).mono ?_; rintro e w1 ⟨rfl, q1⟩; obtain ⟨c1, f1⟩ := q1.cells; have s1 := q1.size; (try simp at s1); (try have z10 : w.heap.size < w1.heap.size := (by omega)); (try have z11 : w.heap.size + 1 < w1.heap.size := (by omega)); (try have z12 : w.heap.size + 1 + 1 < w1.heap.size := (by omega)); (try have z13 : w.heap.size + 1 + 1 + 1 < w1.heap.size := (by omega))) | (go_at_call 60; refine (square_any _ _ _ k1 (by omega) k3 (by omega)).mono ?_; rintro e w2 ⟨rfl, q2⟩; obtain ⟨c2, f2⟩ := q2.cells; have s2 := q2.size; (try simp at s2); (try have z20 : w.heap.size < w2.heap.size := (by omega)); (try have z21 : w.heap.size + 1 < w2.heap.size := (by omega)); (try have z22 : w.heap.size + 1 + 1 < w2.heap.size := (by omega)); (try have z23 : w.heap.size + 1 + 1 + 1 < w2.heap.size := (by omega))) | (go_at_call 57; refine (root_any _ _ (by omega) (by omega)).mono ?_; rintro e w' ⟨rfl, rfl⟩))
    first | (refine bodyPost_ret (by simp [results, Try.results52, go_sem, *]; try rfl) rfl ?_) | (refine bodyPost_ret (by (try simp only [results, Try.results52]); go_simp; try rfl) rfl ?_)
    exact ⟨by (rw [hl.out]; try rfl), by (repeat' (first | exact Q.refl _ | assumption | refine Q.alloc ?_ _ | refine Q.drew ?_ | refine Q.drewN ?_ _ | refine Q.setCell ?_ ?_ _ | refine Q.trans ?_ (by assumption) | omega | (simp; done) | (simp; omega)))⟩
set_option maxHeartbeats 400000 in
theorem l2Dot_any (ax ay bx bq : Int) (w : World) (ha : P.vOk ax ay = true) (hb : P.vOk bx bq = true) :
    Calls Try.prog 47 #[.agg #[.int .i64 ax, .int .i64 ay], .agg #[.int .i64 bx, .int .i64 bq]] w fun e w' => e = .returned (.int .i64 ((ax * bx).tdiv 1000 + (ay * bq).tdiv 1000)) ∧ Q w w' := by
  obtain ⟨a1, a2, a3, a4⟩ := P.vOk_iff.1 ha
  obtain ⟨b1, b2, b3, b4⟩ := P.vOk_iff.1 hb
  obtain ⟨k1, k2⟩ := P.cc_bd a1 a2 b1 b2
  obtain ⟨k3, k4⟩ := P.cc_bd a3 a4 b3 b4
  obtain ⟨k5, k6⟩ := P.tdiv_bd 1000 k1 k2
  obtain ⟨k7, k8⟩ := P.tdiv_bd 1000 k3 k4
  have hw : IntKind.i64.wrap ((ax * bx).tdiv 1000 + (ay * bq).tdiv 1000) = (ax * bx).tdiv 1000 + (ay * bq).tdiv 1000 := IntWalk.i64_in _ (by omega)
  clear ha hb
  go_enter Try.func47, Try.ntmps47
  go_wp2
  go_quiet ((go_at_call 48; exact quiet_left (l1Mul_any _ _ _ (by omega) (by omega))))
  go_wp2
  first | (refine bodyPost_ret (by simp [results, Try.results47, go_sem, *]; try rfl) rfl ?_) | (refine bodyPost_ret (by (try simp only [results, Try.results47]); go_simp; try rfl) rfl ?_)
  exact ⟨rfl, by (repeat' (first | exact Q.refl _ | assumption | refine Q.alloc ?_ _ | refine Q.drew ?_ | refine Q.drewN ?_ _ | refine Q.setCell ?_ ?_ _ | refine Q.trans ?_ (by assumption) | omega | (simp; done) | (simp; omega)))⟩
set_option maxHeartbeats 400000 in
theorem vecDotS (ax ay bx bq : Int) (w : World) :
    Calls Try.prog 25 #[.agg #[.int .i64 ax, .int .i64 ay], .agg #[.int .i64 bx, .int .i64 bq]] w fun e w' =>
      e = .returned (.tuple #[.int .i64 (P.vdotV ax ay bx bq), .bool (P.vdotB ax ay bx bq)]) ∧ Q w w' := by
  cases ha : P.vOk ax ay
  · have hk := Lib.hid (P.vdotB_out1 (bx := bx) (bq := bq) ha)
    have hv := Lib.hid (P.vdotV_out1 (bx := bx) (bq := bq) ha)
    go_enter Try.func25, Try.ntmps25
    go_wp2_with (go_at_call 17; refine (vecOkS _ _ _).mono ?_; rintro e w1 ⟨rfl, q1⟩; obtain ⟨c1, f1⟩ := q1.cells; have s1 := q1.size; (try simp at s1); (try have z10 : w.heap.size < w1.heap.size := (by omega)); (try have z11 : w.heap.size + 1 < w1.heap.size := (by omega)); (try have z12 : w.heap.size + 1 + 1 < w1.heap.size := (by omega)); (try have z13 : w.heap.size + 1 + 1 + 1 < w1.heap.size := (by omega)))
    first | (refine bodyPost_ret (by simp [results, Try.results25, go_sem, *]; try rfl) rfl ?_) | (refine bodyPost_ret (by (try simp only [results, Try.results25]); go_simp; try rfl) rfl ?_)
    exact ⟨by (rw [hv.out, hk.out]; try rfl), by (repeat' (first | exact Q.refl _ | assumption | refine Q.alloc ?_ _ | refine Q.drew ?_ | refine Q.drewN ?_ _ | refine Q.setCell ?_ ?_ _ | refine Q.trans ?_ (by assumption) | omega | (simp; done) | (simp; omega)))⟩
  · cases hb : P.vOk bx bq
    · have hk := Lib.hid (P.vdotB_out2 (ax := ax) (ay := ay) hb)
      have hv := Lib.hid (P.vdotV_out2 (ax := ax) (ay := ay) hb)
      go_enter Try.func25, Try.ntmps25
      go_wp2_with (go_at_call 17; refine (vecOkS _ _ _).mono ?_; rintro e w1 ⟨rfl, q1⟩; obtain ⟨c1, f1⟩ := q1.cells; have s1 := q1.size; (try simp at s1); (try have z10 : w.heap.size < w1.heap.size := (by omega)); (try have z11 : w.heap.size + 1 < w1.heap.size := (by omega)); (try have z12 : w.heap.size + 1 + 1 < w1.heap.size := (by omega)); (try have z13 : w.heap.size + 1 + 1 + 1 < w1.heap.size := (by omega)))
      first | (refine bodyPost_ret (by simp [results, Try.results25, go_sem, *]; try rfl) rfl ?_) | (refine bodyPost_ret (by (try simp only [results, Try.results25]); go_simp; try rfl) rfl ?_)
      exact ⟨by (rw [hv.out, hk.out]; try rfl), by (repeat' (first | exact Q.refl _ | assumption | refine Q.alloc ?_ _ | refine Q.drew ?_ | refine Q.drewN ?_ _ | refine Q.setCell ?_ ?_ _ | refine Q.trans ?_ (by assumption) | omega | (simp; done) | (simp; omega)))⟩
    · have hk := Lib.hid (P.vdotB_in ha hb)
      have hv := Lib.hid (P.vdotV_in ha hb)
      go_enter Try.func25, Try.ntmps25
      go_wp2_with (first | (go_at_call 17; refine (vecOkS _ _ _).mono ?_; rintro e w1 ⟨rfl, q1⟩; obtain ⟨c1, f1⟩ := q1.cells; have s1 := q1.size; (try simp at s1); (try have z10 : w.heap.size < w1.heap.size := (by omega)); (try have z11 : w.heap.size + 1 < w1.heap.size := (by omega)); (try have z12 : w.heap.size + 1 + 1 < w1.heap.size := (by omega)); (try have z13 : w.heap.size + 1 + 1 + 1 < w1.heap.size := (by omega))) | (go_at_call 47; refine (l2Dot_any _ _ _ _ _ ha hb).mono ?_; rintro e w2 ⟨rfl, q2⟩; obtain ⟨c2, f2⟩ := q2.cells; have s2 := q2.size; (try simp at s2); (try have z20 : w.heap.size < w2.heap.size := (by omega)); (try have z21 : w.heap.size + 1 < w2.heap.size := (by omega)); (try have z22 : w.heap.size + 1 + 1 < w2.heap.size := (by omega)); (try have z23 : w.heap.size + 1 + 1 + 1 < w2.heap.size := (by omega))))
      first | (refine bodyPost_ret (by simp [results, Try.results25, go_sem, *]; try rfl) rfl ?_) | (refine bodyPost_ret (by (try simp only [results, Try.results25]); go_simp; try rfl) rfl ?_)
      exact ⟨by (rw [hv.out, hk.out]; try rfl), by (repeat' (first | exact Q.refl _ | assumption | refine Q.alloc ?_ _ | refine Q.drew ?_ | refine Q.drewN ?_ _ | refine Q.setCell ?_ ?_ _ | refine Q.trans ?_ (by assumption) | omega | (simp; done) | (simp; omega)))⟩
theorem vecLengthI' (x y : Int) (w : World) (hv : P.vOk x y = true) :
    Calls Try.prog 52 #[.agg #[.int .i64 x, .int .i64 y]] w fun e w' => e = .returned (.tuple #[.int .i64 (P.lenI x y), .bool true]) ∧ Q w w' :=
  (vecLengthI x y w).mono fun _ _ ⟨he, hq⟩ => ⟨by rw [he, hv, P.lenV, hv, P.sel_true], hq⟩
theorem vecLengthI0 (x y : Int) (w : World) (hv : P.vOk x y = false) :
    Calls Try.prog 52 #[.agg #[.int .i64 x, .int .i64 y]] w fun e w' => e = .returned (.tuple #[.int .i64 0, .bool false]) ∧ Q w w' :=
  (vecLengthI x y w).mono fun _ _ ⟨he, hq⟩ => ⟨by rw [he, hv, P.lenV, hv, P.sel_false], hq⟩
set_option maxHeartbeats 400000 in
theorem vecClampI (x y m : Int) (w : World) :
    Calls Try.prog 30 #[.agg #[.int .i64 x, .int .i64 y], .int .i64 m] w fun e w' =>
      e = .returned (.tuple #[.agg #[.int .i64 (P.clampV x x y m), .int .i64 (P.clampV y x y m)], .bool (P.clampB x y m)]) ∧ Q w w' := by
  cases hv : P.vOk x y
  · have hk := Lib.hid (P.clampB_out1 (m := m) hv)
    go_enter Try.func30, Try.ntmps30
    go_wp2_with (go_at_call 52; refine (vecLengthI0 _ _ _ hv).mono ?_; rintro e w1 ⟨rfl, q1⟩; obtain ⟨c1, f1⟩ := q1.cells; have s1 := q1.size; (try simp at s1); (try have z10 : w.heap.size < w1.heap.size := (by omega)); (try have z11 : w.heap.size + 1 < w1.heap.size := (by omega)); (try have z12 : w.heap.size + 1 + 1 < w1.heap.size := (by omega)); (try have z13 : w.heap.size + 1 + 1 + 1 < w1.heap.size := (by omega)))
    first | (refine bodyPost_ret (by simp [results, Try.results30, go_sem, *]; try rfl) rfl ?_) | (refine bodyPost_ret (by (try simp only [results, Try.results30]); go_simp; try rfl) rfl ?_)
    exact ⟨by (rw [P.clampV, P.clampV, hk.out]; try rfl), by (repeat' (first | exact Q.refl _ | assumption | refine Q.alloc ?_ _ | refine Q.drew ?_ | refine Q.drewN ?_ _ | refine Q.setCell ?_ ?_ _ | refine Q.trans ?_ (by assumption) | omega | (simp; done) | (simp; omega)))⟩
  · cases hm : P.inB m 0 1000000
    · have hk := Lib.hid (P.clampB_out2 (x := x) (y := y) hm)
      go_enter Try.func30, Try.ntmps30
      go_wp2_with (first | (go_at_call 52; refine (vecLengthI' _ _ _ hv).mono ?_; rintro e w1 ⟨rfl, q1⟩; obtain ⟨c1, f1⟩ := q1.cells; have s1 := q1.size; (try simp at s1); (try have z10 : w.heap.size < w1.heap.size := (by omega)); (try have z11 : w.heap.size + 1 < w1.heap.size := (by omega)); (try have z12 : w.heap.size + 1 + 1 < w1.heap.size := (by omega)); (try have z13 : w.heap.size + 1 + 1 + 1 < w1.heap.size := (by omega))) | (go_at_call 53; refine (inRange_any _ _ _ _).mono ?_; rintro e w' ⟨rfl, rfl⟩))
      first | (refine bodyPost_ret (by simp [results, Try.results30, go_sem, *]; try rfl) rfl ?_) | (refine bodyPost_ret (by (try simp only [results, Try.results30]); go_simp; try rfl) rfl ?_)
      exact ⟨by (rw [P.clampV, P.clampV, hk.out]; try rfl), by (repeat' (first | exact Q.refl _ | assumption | refine Q.alloc ?_ _ | refine Q.drew ?_ | refine Q.drewN ?_ _ | refine Q.setCell ?_ ?_ _ | refine Q.trans ?_ (by assumption) | omega | (simp; done) | (simp; omega)))⟩
    · have hk := Lib.hid (P.clampB_in hv hm)
      by_cases hl : P.lenI x y ≤ m
      · have hx := Lib.hid (P.clampI_le (c := x) hl)
        have hy := Lib.hid (P.clampI_le (c := y) hl)
        go_enter Try.func30, Try.ntmps30
        go_wp2_with (first | (go_at_call 52; refine (vecLengthI' _ _ _ hv).mono ?_; rintro e w1 ⟨rfl, q1⟩; obtain ⟨c1, f1⟩ := q1.cells; have s1 := q1.size; (try simp at s1); (try have z10 : w.heap.size < w1.heap.size := (by omega)); (try have z11 : w.heap.size + 1 < w1.heap.size := (by omega)); (try have z12 : w.heap.size + 1 + 1 < w1.heap.size := (by omega)); (try have z13 : w.heap.size + 1 + 1 + 1 < w1.heap.size := (by omega))) | (go_at_call 53; refine (inRange_any _ _ _ _).mono ?_; rintro e w' ⟨rfl, rfl⟩))
        first | (refine bodyPost_ret (by simp [results, Try.results30, go_sem, *]; try rfl) rfl ?_) | (refine bodyPost_ret (by (try simp only [results, Try.results30]); go_simp; try rfl) rfl ?_)
        exact ⟨by (rw [P.clampV, P.clampV, hk.out, hx.out, hy.out]; try rfl), by (repeat' (first | exact Q.refl _ | assumption | refine Q.alloc ?_ _ | refine Q.drew ?_ | refine Q.drewN ?_ _ | refine Q.setCell ?_ ?_ _ | refine Q.trans ?_ (by assumption) | omega | (simp; done) | (simp; omega)))⟩
      · have hx := Lib.hid (P.clampI_gt (c := x) (Int.lt_of_not_ge hl))
        have hy := Lib.hid (P.clampI_gt (c := y) (Int.lt_of_not_ge hl))
        obtain ⟨m1, m2⟩ := P.inB_iff.1 hm
        obtain ⟨a1, a2, a3, a4⟩ := P.vOk_iff.1 hv
        obtain ⟨k1, k2⟩ := P.cc_bd a1 a2 (by omega) m2
        obtain ⟨k3, k4⟩ := P.cc_bd a3 a4 (by omega) m2
        have h0 : P.lenI x y ≠ 0 := by omega
        have h0' : (P.lenI x y == 0) = false := by simpa using h0
        obtain ⟨k5, k6⟩ := P.tdiv_bd (P.lenI x y) k1 k2
        obtain ⟨k7, k8⟩ := P.tdiv_bd (P.lenI x y) k3 k4
        have u1 : IntKind.i64.wrap (x * m) = x * m := IntWalk.i64_in _ (by omega)
        have u2 : IntKind.i64.wrap (y * m) = y * m := IntWalk.i64_in _ (by omega)
        have u3 : IntKind.i64.wrap ((x * m).tdiv (P.lenI x y)) = (x * m).tdiv (P.lenI x y) := IntWalk.i64_in _ (by omega)
        have u4 : IntKind.i64.wrap ((y * m).tdiv (P.lenI x y)) = (y * m).tdiv (P.lenI x y) := IntWalk.i64_in _ (by omega)
        go_enter Try.func30, Try.ntmps30
        go_wp2_with (first | (go_at_call 52; refine (vecLengthI' _ _ _ hv).mono ?_; rintro e w1 ⟨rfl, q1⟩; obtain ⟨c1, f1⟩ := q1.cells; have s1 := q1.size; (try simp at s1); (try have z10 : w.heap.size < w1.heap.size := (by omega)); (try have z11 : w.heap.size + 1 < w1.heap.size := (by omega)); (try have z12 : w.heap.size + 1 + 1 < w1.heap.size := (by omega)); (try have z13 : w.heap.size + 1 + 1 + 1 < w1.heap.size := (by omega))) | (go_at_call 53; refine (inRange_any _ _ _ _).mono ?_; rintro e w' ⟨rfl, rfl⟩))
        go_region
        go_wp2
        first | (refine bodyPost_ret (by simp [results, Try.results30, go_sem, *]; try rfl) rfl ?_) | (refine bodyPost_ret (by (try simp only [results, Try.results30]); go_simp; try rfl) rfl ?_)
        exact ⟨by (rw [P.clampV, P.clampV, hk.out, hx.out, hy.out]; try rfl), by (repeat' (first | exact Q.refl _ | assumption | refine Q.alloc ?_ _ | refine Q.drew ?_ | refine Q.drewN ?_ _ | refine Q.setCell ?_ ?_ _ | refine Q.trans ?_ (by assumption) | omega | (simp; done) | (simp; omega)))⟩
set_option maxHeartbeats 400000 in
theorem l2Clamp_any (x y m : Int) (w : World) (hv : P.vOk x y = true) (hm : P.inB m 0 1000000 = true) :
    Calls Try.prog 54 #[.agg #[.int .i64 x, .int .i64 y], .int .i64 m] w fun e w' => e = .returned (.agg #[.int .i64 (P.clampI x x y m), .int .i64 (P.clampI y x y m)]) ∧ Q w w' := by
  by_cases hl : P.lenI x y ≤ m
  · have hx := Lib.hid (P.clampI_le (c := x) hl)
    have hy := Lib.hid (P.clampI_le (c := y) hl)
    go_enter Try.func54, Try.ntmps54
    go_wp2_with (go_at_call 61; refine (l2Length_any _ _ _ hv).mono ?_; rintro e w1 ⟨rfl, q1⟩; obtain ⟨c1, f1⟩ := q1.cells; have s1 := q1.size; (try simp at s1); (try have z10 : w.heap.size < w1.heap.size := (by omega)); (try have z11 : w.heap.size + 1 < w1.heap.size := (by omega)); (try have z12 : w.heap.size + 1 + 1 < w1.heap.size := (by omega)); (try have z13 : w.heap.size + 1 + 1 + 1 < w1.heap.size := (by omega)))
    first | (refine bodyPost_ret (by simp [results, Try.results54, go_sem, *]; try rfl) rfl ?_) | (refine bodyPost_ret (by (try simp only [results, Try.results54]); go_simp; try rfl) rfl ?_)
    exact ⟨by (rw [hx.out, hy.out]; try rfl), by (repeat' (first | exact Q.refl _ | assumption | refine Q.alloc ?_ _ | refine Q.drew ?_ | refine Q.drewN ?_ _ | refine Q.setCell ?_ ?_ _ | refine Q.trans ?_ (by assumption) | omega | (simp; done) | (simp; omega)))⟩
  · have hx := Lib.hid (P.clampI_gt (c := x) (Int.lt_of_not_ge hl))
    have hy := Lib.hid (P.clampI_gt (c := y) (Int.lt_of_not_ge hl))
    obtain ⟨m1, m2⟩ := P.inB_iff.1 hm
    obtain ⟨a1, a2, a3, a4⟩ := P.vOk_iff.1 hv
    obtain ⟨k1, k2⟩ := P.cc_bd a1 a2 (by omega) m2
    obtain ⟨k3, k4⟩ := P.cc_bd a3 a4 (by omega) m2
    have h0 : P.lenI x y ≠ 0 := by omega
    have h0' : (P.lenI x y == 0) = false := by simpa using h0
    obtain ⟨k5, k6⟩ := P.tdiv_bd (P.lenI x y) k1 k2
    obtain ⟨k7, k8⟩ := P.tdiv_bd (P.lenI x y) k3 k4
    have u1 : IntKind.i64.wrap (x * m) = x * m := IntWalk.i64_in _ (by omega)
    have u2 : IntKind.i64.wrap (y * m) = y * m := IntWalk.i64_in _ (by omega)
    have u3 : IntKind.i64.wrap ((x * m).tdiv (P.lenI x y)) = (x * m).tdiv (P.lenI x y) := IntWalk.i64_in _ (by omega)
    have u4 : IntKind.i64.wrap ((y * m).tdiv (P.lenI x y)) = (y * m).tdiv (P.lenI x y) := IntWalk.i64_in _ (by omega)
    go_enter Try.func54, Try.ntmps54
    go_wp2_with (go_at_call 61; refine (l2Length_any _ _ _ hv).mono ?_; rintro e w1 ⟨rfl, q1⟩; obtain ⟨c1, f1⟩ := q1.cells; have s1 := q1.size; (try simp at s1); (try have z10 : w.heap.size < w1.heap.size := (by omega)); (try have z11 : w.heap.size + 1 < w1.heap.size := (by omega)); (try have z12 : w.heap.size + 1 + 1 < w1.heap.size := (by omega)); (try have z13 : w.heap.size + 1 + 1 + 1 < w1.heap.size := (by omega)))
    go_region
    go_wp2
    first | (refine bodyPost_ret (by simp [results, Try.results54, go_sem, *]; try rfl) rfl ?_) | (refine bodyPost_ret (by (try simp only [results, Try.results54]); go_simp; try rfl) rfl ?_)
    exact ⟨by (rw [hx.out, hy.out]; try rfl), by (repeat' (first | exact Q.refl _ | assumption | refine Q.alloc ?_ _ | refine Q.drew ?_ | refine Q.drewN ?_ _ | refine Q.setCell ?_ ?_ _ | refine Q.trans ?_ (by assumption) | omega | (simp; done) | (simp; omega)))⟩
set_option maxHeartbeats 400000 in
theorem vecClampS (x y m : Int) (w : World) :
    Calls Try.prog 31 #[.agg #[.int .i64 x, .int .i64 y], .int .i64 m] w fun e w' =>
      e = .returned (.tuple #[.agg #[.int .i64 (P.clampV x x y m), .int .i64 (P.clampV y x y m)], .bool (P.clampB x y m)]) ∧ Q w w' := by
  cases hv : P.vOk x y
  · have hk := Lib.hid (P.clampB_out1 (m := m) hv)
    go_enter Try.func31, Try.ntmps31
    go_wp2_with (go_at_call 17; refine (vecOkS _ _ _).mono ?_; rintro e w1 ⟨rfl, q1⟩; obtain ⟨c1, f1⟩ := q1.cells; have s1 := q1.size; (try simp at s1); (try have z10 : w.heap.size < w1.heap.size := (by omega)); (try have z11 : w.heap.size + 1 < w1.heap.size := (by omega)); (try have z12 : w.heap.size + 1 + 1 < w1.heap.size := (by omega)); (try have z13 : w.heap.size + 1 + 1 + 1 < w1.heap.size := (by omega)))
    first | (refine bodyPost_ret (by simp [results, Try.results31, go_sem, *]; try rfl) rfl ?_) | (refine bodyPost_ret (by (try simp only [results, Try.results31]); go_simp; try rfl) rfl ?_)
    exact ⟨by (rw [P.clampV, P.clampV, hk.out]; try rfl), by (repeat' (first | exact Q.refl _ | assumption | refine Q.alloc ?_ _ | refine Q.drew ?_ | refine Q.drewN ?_ _ | refine Q.setCell ?_ ?_ _ | refine Q.trans ?_ (by assumption) | omega | (simp; done) | (simp; omega)))⟩
  · cases hm : P.inB m 0 1000000
    · have hk := Lib.hid (P.clampB_out2 (x := x) (y := y) hm)
      go_enter Try.func31, Try.ntmps31
      go_wp2_with (first | (go_at_call 17; refine (vecOkS _ _ _).mono ?_; rintro e w1 ⟨rfl, q1⟩; obtain ⟨c1, f1⟩ := q1.cells; have s1 := q1.size; (try simp at s1); (try have z10 : w.heap.size < w1.heap.size := (by omega)); (try have z11 : w.heap.size + 1 < w1.heap.size := (by omega)); (try have z12 : w.heap.size + 1 + 1 < w1.heap.size := (by omega)); (try have z13 : w.heap.size + 1 + 1 + 1 < w1.heap.size := (by omega))) | (go_at_call 40; refine (l6In_any _ _ _ _).mono ?_; rintro e w' ⟨rfl, rfl⟩))
      first | (refine bodyPost_ret (by simp [results, Try.results31, go_sem, *]; try rfl) rfl ?_) | (refine bodyPost_ret (by (try simp only [results, Try.results31]); go_simp; try rfl) rfl ?_)
      exact ⟨by (rw [P.clampV, P.clampV, hk.out]; try rfl), by (repeat' (first | exact Q.refl _ | assumption | refine Q.alloc ?_ _ | refine Q.drew ?_ | refine Q.drewN ?_ _ | refine Q.setCell ?_ ?_ _ | refine Q.trans ?_ (by assumption) | omega | (simp; done) | (simp; omega)))⟩
    · have hk := Lib.hid (P.clampB_in hv hm)
      go_enter Try.func31, Try.ntmps31
      go_wp2_with (first | (go_at_call 17; refine (vecOkS _ _ _).mono ?_; rintro e w1 ⟨rfl, q1⟩; obtain ⟨c1, f1⟩ := q1.cells; have s1 := q1.size; (try simp at s1); (try have z10 : w.heap.size < w1.heap.size := (by omega)); (try have z11 : w.heap.size + 1 < w1.heap.size := (by omega)); (try have z12 : w.heap.size + 1 + 1 < w1.heap.size := (by omega)); (try have z13 : w.heap.size + 1 + 1 + 1 < w1.heap.size := (by omega))) | (go_at_call 40; refine (l6In_any _ _ _ _).mono ?_; rintro e w' ⟨rfl, rfl⟩) | (go_at_call 54; refine (l2Clamp_any _ _ _ _ hv hm).mono ?_; rintro e w2 ⟨rfl, q2⟩; obtain ⟨c2, f2⟩ := q2.cells; have s2 := q2.size; (try simp at s2); (try have z20 : w.heap.size < w2.heap.size := (by omega)); (try have z21 : w.heap.size + 1 < w2.heap.size := (by omega)); (try have z22 : w.heap.size + 1 + 1 < w2.heap.size := (by omega)); (try have z23 : w.heap.size + 1 + 1 + 1 < w2.heap.size := (by omega))))
      first | (refine bodyPost_ret (by simp [results, Try.results31, go_sem, *]; try rfl) rfl ?_) | (refine bodyPost_ret (by (try simp only [results, Try.results31]); go_simp; try rfl) rfl ?_)
      exact ⟨by (rw [P.clampV, P.clampV, hk.out]; try rfl), by (repeat' (first | exact Q.refl _ | assumption | refine Q.alloc ?_ _ | refine Q.drew ?_ | refine Q.drewN ?_ _ | refine Q.setCell ?_ ?_ _ | refine Q.trans ?_ (by assumption) | omega | (simp; done) | (simp; omega)))⟩
set_option maxHeartbeats 400000 in
/-- eqVec at two equal vectors. -/
theorem eqVec_same (x y : Int) (w : World) :
    Calls Try.prog 39 #[.agg #[.int .i64 x, .int .i64 y], .agg #[.int .i64 x, .int .i64 y]] w fun e w' => e = .returned (.bool true) ∧ Q w w' := by
  go_enter Try.func39, Try.ntmps39
  go_wp2
  go_ret
  exact ⟨rfl, by (repeat' (first | exact Q.refl _ | assumption | refine Q.alloc ?_ _ | refine Q.drew ?_ | refine Q.drewN ?_ _ | refine Q.setCell ?_ ?_ _ | refine Q.trans ?_ (by assumption) | omega | (simp; done) | (simp; omega)))⟩
end Go.Proofs.Ythifhomeekcjpaa
