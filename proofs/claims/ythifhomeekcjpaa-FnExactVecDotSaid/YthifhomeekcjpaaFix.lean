/-
  The contracts of the functions on fixed-point numbers: the program's and the reference's give the same.
-/
import Derived.Test.YthifhomeekcjpaaRows
import Derived.Test.YthifhomeekcjpaaPlain
import Derived.WalkKit
import Derived.WalkSpells
import Derived.WalkLawsBesides
import Derived.Lib.Hide
import Derived.Handy
import Derived.Test.YthifhomeekcjpaaQ
namespace Go.Proofs.Ythifhomeekcjpaa
open Go.RowKit

set_option maxHeartbeats 400000 in
theorem l6In_any (n lo hi : Int) (w : World) :
    Calls Try.prog 40 #[.int .i64 n, .int .i64 lo, .int .i64 hi] w fun e w' => e = .returned (.bool (P.inB n lo hi)) ∧ w = w' := by
  by_cases h1 : lo ≤ n
  · by_cases h2 : n ≤ hi
    · go_enter Try.func40, Try.ntmps40
      go_wp2
      go_ret
      exact ⟨by rw [P.inB_iff.2 ⟨h1, h2⟩]; rfl, rfl⟩
    · go_enter Try.func40, Try.ntmps40
      go_wp2
      go_ret
      exact ⟨by rw [P.inB_not.2 (by omega)]; rfl, rfl⟩
  · go_enter Try.func40, Try.ntmps40
    go_wp2
    go_ret
    exact ⟨by rw [P.inB_not.2 (by omega)]; rfl, rfl⟩
set_option maxHeartbeats 400000 in
theorem inRange_any (n lo hi : Int) (w : World) :
    Calls Try.prog 53 #[.int .i64 n, .int .i64 lo, .int .i64 hi] w fun e w' => e = .returned (.bool (P.inB n lo hi)) ∧ w = w' := by
  by_cases h1 : lo ≤ n
  · by_cases h2 : n ≤ hi
    · go_enter Try.func53, Try.ntmps53
      go_wp2
      go_ret
      exact ⟨by rw [P.inB_iff.2 ⟨h1, h2⟩]; rfl, rfl⟩
    · go_enter Try.func53, Try.ntmps53
      go_wp2
      go_ret
      exact ⟨by rw [P.inB_not.2 (by omega)]; rfl, rfl⟩
  · go_enter Try.func53, Try.ntmps53
    go_wp2
    go_ret
    exact ⟨by rw [P.inB_not.2 (by omega)]; rfl, rfl⟩
set_option maxHeartbeats 400000 in
theorem fok_any (n : Int) (w : World) :
    Calls Try.prog 41 #[.int .i64 n] w fun e w' => e = .returned (.bool (P.fixOk n)) ∧ w = w' := by
  by_cases h1 : -2000000000 ≤ n
  · by_cases h2 : n ≤ 2000000000
    · go_enter Try.func41, Try.ntmps41
      go_wp2
      go_ret
      exact ⟨by rw [P.fixOk_mk h1 h2]; rfl, rfl⟩
    · go_enter Try.func41, Try.ntmps41
      go_wp2
      go_ret
      exact ⟨by rw [P.fixOk_gt (by omega)]; rfl, rfl⟩
  · go_enter Try.func41, Try.ntmps41
    go_wp2
    go_ret
    exact ⟨by rw [P.fixOk_lt (by omega)]; rfl, rfl⟩
set_option maxHeartbeats 400000 in
theorem fixOkS (n : Int) (w : World) :
    Calls Try.prog 15 #[.int .i64 n] w fun e w' => e = .returned (.bool (P.fixOk n)) ∧ w = w' := by
  go_enter Try.func15, Try.ntmps15
  go_wp2_with (go_at_call 40; refine (l6In_any _ _ _ _).mono ?_; rintro e w' ⟨rfl, rfl⟩)
  go_ret
  exact ⟨rfl, rfl⟩
set_option maxHeartbeats 400000 in
theorem fixOkI (n : Int) (w : World) :
    Calls Try.prog 16 #[.int .i64 n] w fun e w' => e = .returned (.bool (P.fixOk n)) ∧ w = w' := by
  go_enter Try.func16, Try.ntmps16
  go_wp2_with (go_at_call 41; refine (fok_any _ _).mono ?_; rintro e w' ⟨rfl, rfl⟩)
  go_ret
  exact ⟨rfl, rfl⟩
set_option maxHeartbeats 400000 in
theorem limited_any (n : Int) (w : World) :
    Calls Try.prog 45 #[.int .i64 n] w fun e w' => e = .returned (.tuple #[.int .i64 (P.clampF n), .bool (P.fixOk n)]) ∧ w = w' := by
  by_cases h1 : n < -2000000000
  · have hc := Lib.hid (P.clampF_lt h1)
    go_enter Try.func45, Try.ntmps45
    go_wp2_with (go_at_call 41; refine (fok_any _ _).mono ?_; rintro e w' ⟨rfl, rfl⟩)
    go_ret2
    exact ⟨by rw [hc.out]; rfl, rfl⟩
  · by_cases h2 : 2000000000 < n
    · have hc := Lib.hid (P.clampF_gt h2)
      go_enter Try.func45, Try.ntmps45
      go_wp2_with (go_at_call 41; refine (fok_any _ _).mono ?_; rintro e w' ⟨rfl, rfl⟩)
      go_ret2
      exact ⟨by rw [hc.out]; rfl, rfl⟩
    · have hc := Lib.hid (P.clampF_in (n := n) (by omega) (by omega))
      go_enter Try.func45, Try.ntmps45
      go_wp2_with (go_at_call 41; refine (fok_any _ _).mono ?_; rintro e w' ⟨rfl, rfl⟩)
      go_ret2
      exact ⟨by rw [hc.out]; rfl, rfl⟩
set_option maxHeartbeats 400000 in
theorem l1Range_any (n : Int) (w : World) :
    Calls Try.prog 43 #[.int .i64 n] w fun e w' => e = .returned (.tuple #[.int .i64 (P.clampF n), .bool (P.fixOk n)]) ∧ w = w' := by
  by_cases h1 : n < -2000000000
  · have hc := Lib.hid (P.clampF_lt h1)
    go_enter Try.func43, Try.ntmps43
    go_wp2_with (go_at_call 15; refine (fixOkS _ _).mono ?_; rintro e w' ⟨rfl, rfl⟩)
    go_ret2
    exact ⟨by rw [hc.out]; rfl, rfl⟩
  · by_cases h2 : 2000000000 < n
    · have hc := Lib.hid (P.clampF_gt h2)
      go_enter Try.func43, Try.ntmps43
      go_wp2_with (go_at_call 15; refine (fixOkS _ _).mono ?_; rintro e w' ⟨rfl, rfl⟩)
      go_ret2
      exact ⟨by rw [hc.out]; rfl, rfl⟩
    · have hc := Lib.hid (P.clampF_in (n := n) (by omega) (by omega))
      go_enter Try.func43, Try.ntmps43
      go_wp2_with (go_at_call 15; refine (fixOkS _ _).mono ?_; rintro e w' ⟨rfl, rfl⟩)
      go_ret2
      exact ⟨by rw [hc.out]; rfl, rfl⟩
/-- areFixed at the slice of two numbers that its callers build. -/
theorem areFixed2 (a b : Int) (g : Nat) (w : World) (c0 : w.cell? ⟨g, 0, none⟩ = some (.int .i64 a)) (c1 : w.cell? ⟨g, 1, none⟩ = some (.int .i64 b)) :
    Calls Try.prog 44 #[.slice (some ⟨g, 0, none⟩) 2 2] w fun e w' => e = .returned (.bool (P.fixOk a && P.fixOk b)) ∧ w = w' := by
  cases ha : P.fixOk a
  · go_enter Try.func44, Try.ntmps44
    go_wp2
    refine wp_loop_rounds 1 ?_
    rw [rounds_succ]
    go_wp2_with (go_at_call 41; refine (fok_any _ _).mono ?_; rintro e w' ⟨rfl, rfl⟩)
    go_ret
    exact ⟨rfl, rfl⟩
  · cases hb : P.fixOk b
    · go_enter Try.func44, Try.ntmps44
      go_wp2
      refine wp_loop_rounds 2 ?_
      rw [rounds_succ]
      go_wp2_with (go_at_call 41; refine (fok_any _ _).mono ?_; rintro e w' ⟨rfl, rfl⟩)
      rw [rounds_succ]
      go_wp2_with (go_at_call 41; refine (fok_any _ _).mono ?_; rintro e w' ⟨rfl, rfl⟩)
      go_ret
      exact ⟨rfl, rfl⟩
    · go_enter Try.func44, Try.ntmps44
      go_wp2
      refine wp_loop_rounds 3 ?_
      rw [rounds_succ]
      go_wp2_with (go_at_call 41; refine (fok_any _ _).mono ?_; rintro e w' ⟨rfl, rfl⟩)
      rw [rounds_succ]
      go_wp2_with (go_at_call 41; refine (fok_any _ _).mono ?_; rintro e w' ⟨rfl, rfl⟩)
      rw [rounds_succ]
      go_wp2
      go_ret
      exact ⟨rfl, rfl⟩
set_option maxHeartbeats 400000 in
theorem fixAddI (a b : Int) (w : World) :
    Calls Try.prog 21 #[.int .i64 a, .int .i64 b] w fun e w' => e = .returned (.tuple #[.int .i64 (P.addV a b), .bool (P.addB a b)]) ∧ Q w w' := by
  cases ha : P.fixOk a
  · have hv := Lib.hid (P.addV_out1 (b := b) ha)
    have hk := Lib.hid (P.addB_out1 (b := b) ha)
    go_enter Try.func21, Try.ntmps21
    go_wp2_with (go_at_call 44; refine (areFixed2 a b _ _ (by go_simp) (by go_simp)).mono ?_; rintro e w' ⟨rfl, rfl⟩)
    go_ret2
    exact ⟨by rw [hv.out, hk.out]; rfl, Q.of_below (by go_grown)⟩
  · cases hb : P.fixOk b
    · have hv := Lib.hid (P.addV_out2 (a := a) hb)
      have hk := Lib.hid (P.addB_out2 (a := a) hb)
      go_enter Try.func21, Try.ntmps21
      go_wp2_with (go_at_call 44; refine (areFixed2 a b _ _ (by go_simp) (by go_simp)).mono ?_; rintro e w' ⟨rfl, rfl⟩)
      go_ret2
      exact ⟨by rw [hv.out, hk.out]; rfl, Q.of_below (by go_grown)⟩
    · have hv := Lib.hid (P.addV_in ha hb)
      have hk := Lib.hid (P.addB_in ha hb)
      obtain ⟨a1, a2⟩ := P.fixOk_iff.1 ha
      obtain ⟨b1, b2⟩ := P.fixOk_iff.1 hb
      go_enter Try.func21, Try.ntmps21
      go_wp2_with (first | (go_at_call 44; refine (areFixed2 a b _ _ (by go_simp) (by go_simp)).mono ?_; rintro e w' ⟨rfl, rfl⟩) | (go_at_call 45; refine (limited_any _ _).mono ?_; rintro e w' ⟨rfl, rfl⟩))
      go_ret2
      exact ⟨by rw [hv.out, hk.out]; rfl, Q.of_below (by go_grown)⟩
set_option maxHeartbeats 400000 in
theorem fixAddS (a b : Int) (w : World) :
    Calls Try.prog 20 #[.int .i64 a, .int .i64 b] w fun e w' => e = .returned (.tuple #[.int .i64 (P.addV a b), .bool (P.addB a b)]) ∧ w = w' := by
  cases ha : P.fixOk a
  · have hv := Lib.hid (P.addV_out1 (b := b) ha)
    have hk := Lib.hid (P.addB_out1 (b := b) ha)
    go_enter Try.func20, Try.ntmps20
    go_wp2_with (go_at_call 15; refine (fixOkS _ _).mono ?_; rintro e w' ⟨rfl, rfl⟩)
    go_ret2
    exact ⟨by rw [hv.out, hk.out]; rfl, rfl⟩
  · cases hb : P.fixOk b
    · have hv := Lib.hid (P.addV_out2 (a := a) hb)
      have hk := Lib.hid (P.addB_out2 (a := a) hb)
      go_enter Try.func20, Try.ntmps20
      go_wp2_with (go_at_call 15; refine (fixOkS _ _).mono ?_; rintro e w' ⟨rfl, rfl⟩)
      go_ret2
      exact ⟨by rw [hv.out, hk.out]; rfl, rfl⟩
    · have hv := Lib.hid (P.addV_in ha hb)
      have hk := Lib.hid (P.addB_in ha hb)
      obtain ⟨a1, a2⟩ := P.fixOk_iff.1 ha
      obtain ⟨b1, b2⟩ := P.fixOk_iff.1 hb
      go_enter Try.func20, Try.ntmps20
      go_wp2_with (first | (go_at_call 15; refine (fixOkS _ _).mono ?_; rintro e w' ⟨rfl, rfl⟩) | (go_at_call 43; refine (l1Range_any _ _).mono ?_; rintro e w' ⟨rfl, rfl⟩))
      go_ret2
      exact ⟨by rw [hv.out, hk.out]; rfl, rfl⟩
set_option maxHeartbeats 400000 in
theorem l1Mul_any (a b : Int) (w : World) (k1 : -4000000000000000000 ≤ a * b) (k2 : a * b ≤ 4000000000000000000) :
    Calls Try.prog 48 #[.int .i64 a, .int .i64 b] w fun e w' => e = .returned (.int .i64 ((a * b).tdiv 1000)) ∧ w = w' := by
  obtain ⟨k3, k4⟩ := P.tdiv_bd 1000 k1 k2
  go_enter Try.func48, Try.ntmps48
  go_wp2
  go_ret
  exact ⟨rfl, rfl⟩
set_option maxHeartbeats 400000 in
theorem fixMulI (a b : Int) (w : World) :
    Calls Try.prog 28 #[.int .i64 a, .int .i64 b] w fun e w' => e = .returned (.tuple #[.int .i64 (P.mulV a b), .bool (P.mulB a b)]) ∧ Q w w' := by
  cases ha : P.fixOk a
  · have hv := Lib.hid (P.mulV_out1 (b := b) ha)
    have hk := Lib.hid (P.mulB_out1 (b := b) ha)
    go_enter Try.func28, Try.ntmps28
    go_wp2_with (go_at_call 44; refine (areFixed2 a b _ _ (by go_simp) (by go_simp)).mono ?_; rintro e w' ⟨rfl, rfl⟩)
    go_ret2
    exact ⟨by rw [hv.out, hk.out]; rfl, Q.of_below (by go_grown)⟩
  · cases hb : P.fixOk b
    · have hv := Lib.hid (P.mulV_out2 (a := a) hb)
      have hk := Lib.hid (P.mulB_out2 (a := a) hb)
      go_enter Try.func28, Try.ntmps28
      go_wp2_with (go_at_call 44; refine (areFixed2 a b _ _ (by go_simp) (by go_simp)).mono ?_; rintro e w' ⟨rfl, rfl⟩)
      go_ret2
      exact ⟨by rw [hv.out, hk.out]; rfl, Q.of_below (by go_grown)⟩
    · have hv := Lib.hid (P.mulV_in ha hb)
      have hk := Lib.hid (P.mulB_in ha hb)
      obtain ⟨k1, k2⟩ := P.mul_bd ha hb
      obtain ⟨k3, k4⟩ := P.tdiv_bd 1000 k1 k2
      go_enter Try.func28, Try.ntmps28
      go_wp2_with (first | (go_at_call 44; refine (areFixed2 a b _ _ (by go_simp) (by go_simp)).mono ?_; rintro e w' ⟨rfl, rfl⟩) | (go_at_call 45; refine (limited_any _ _).mono ?_; rintro e w' ⟨rfl, rfl⟩))
      go_ret2
      exact ⟨by rw [hv.out, hk.out]; rfl, Q.of_below (by go_grown)⟩
set_option maxHeartbeats 400000 in
theorem fixMulS (a b : Int) (w : World) :
    Calls Try.prog 27 #[.int .i64 a, .int .i64 b] w fun e w' => e = .returned (.tuple #[.int .i64 (P.mulV a b), .bool (P.mulB a b)]) ∧ w = w' := by
  cases ha : P.fixOk a
  · have hv := Lib.hid (P.mulV_out1 (b := b) ha)
    have hk := Lib.hid (P.mulB_out1 (b := b) ha)
    go_enter Try.func27, Try.ntmps27
    go_wp2_with (go_at_call 15; refine (fixOkS _ _).mono ?_; rintro e w' ⟨rfl, rfl⟩)
    go_ret2
    exact ⟨by rw [hv.out, hk.out]; rfl, rfl⟩
  · cases hb : P.fixOk b
    · have hv := Lib.hid (P.mulV_out2 (a := a) hb)
      have hk := Lib.hid (P.mulB_out2 (a := a) hb)
      go_enter Try.func27, Try.ntmps27
      go_wp2_with (go_at_call 15; refine (fixOkS _ _).mono ?_; rintro e w' ⟨rfl, rfl⟩)
      go_ret2
      exact ⟨by rw [hv.out, hk.out]; rfl, rfl⟩
    · have hv := Lib.hid (P.mulV_in ha hb)
      have hk := Lib.hid (P.mulB_in ha hb)
      obtain ⟨k1, k2⟩ := P.mul_bd ha hb
      go_enter Try.func27, Try.ntmps27
      go_wp2_with (first | (go_at_call 15; refine (fixOkS _ _).mono ?_; rintro e w' ⟨rfl, rfl⟩) | (go_at_call 48; refine (l1Mul_any _ _ _ k1 k2).mono ?_; rintro e w' ⟨rfl, rfl⟩) | (go_at_call 43; refine (l1Range_any _ _).mono ?_; rintro e w' ⟨rfl, rfl⟩))
      go_ret2
      exact ⟨by rw [hv.out, hk.out]; rfl, rfl⟩
set_option maxHeartbeats 400000 in
theorem fixDivI (a b : Int) (w : World) :
    Calls Try.prog 36 #[.int .i64 a, .int .i64 b] w fun e w' => e = .returned (.tuple #[.int .i64 (P.divV a b), .bool (P.divB a b)]) ∧ Q w w' := by
  cases ha : P.fixOk a
  · have hv := Lib.hid (P.divV_out1 (b := b) ha)
    have hk := Lib.hid (P.divB_out1 (b := b) ha)
    go_enter Try.func36, Try.ntmps36
    go_wp2_with (go_at_call 44; refine (areFixed2 a b _ _ (by go_simp) (by go_simp)).mono ?_; rintro e w' ⟨rfl, rfl⟩)
    go_ret2
    exact ⟨by rw [hv.out, hk.out]; rfl, Q.of_below (by go_grown)⟩
  · cases hb : P.fixOk b
    · have hv := Lib.hid (P.divV_out2 (a := a) hb)
      have hk := Lib.hid (P.divB_out2 (a := a) hb)
      go_enter Try.func36, Try.ntmps36
      go_wp2_with (go_at_call 44; refine (areFixed2 a b _ _ (by go_simp) (by go_simp)).mono ?_; rintro e w' ⟨rfl, rfl⟩)
      go_ret2
      exact ⟨by rw [hv.out, hk.out]; rfl, Q.of_below (by go_grown)⟩
    · by_cases h0 : b = 0
      · subst h0
        have hk := Lib.hid (P.divB_zero a)
        by_cases h1 : 0 < a
        · have hv := Lib.hid (P.divV_pos ha h1)
          go_enter Try.func36, Try.ntmps36
          go_wp2_with (go_at_call 44; refine (areFixed2 a 0 _ _ (by go_simp) (by go_simp)).mono ?_; rintro e w' ⟨rfl, rfl⟩)
          go_ret2
          exact ⟨by rw [hv.out, hk.out]; rfl, Q.of_below (by go_grown)⟩
        · by_cases h2 : a < 0
          · have hv := Lib.hid (P.divV_neg ha h2)
            go_enter Try.func36, Try.ntmps36
            go_wp2_with (go_at_call 44; refine (areFixed2 a 0 _ _ (by go_simp) (by go_simp)).mono ?_; rintro e w' ⟨rfl, rfl⟩)
            go_ret2
            exact ⟨by rw [hv.out, hk.out]; rfl, Q.of_below (by go_grown)⟩
          · obtain rfl : a = 0 := by omega
            go_enter Try.func36, Try.ntmps36
            go_wp2_with (go_at_call 44; refine (areFixed2 0 0 _ _ (by go_simp) (by go_simp)).mono ?_; rintro e w' ⟨rfl, rfl⟩)
            go_ret2
            exact ⟨by rw [P.divV_zero, hk.out]; rfl, Q.of_below (by go_grown)⟩
      · have hv := Lib.hid (P.divV_in ha hb h0)
        have hk := Lib.hid (P.divB_in ha hb h0)
        obtain ⟨a1, a2⟩ := P.fixOk_iff.1 ha
        obtain ⟨k1, k2⟩ := P.tdiv_bd (a := a * 1000) (A := 2000000000000) b (by omega) (by omega)
        go_enter Try.func36, Try.ntmps36
        go_wp2_with (first | (go_at_call 44; refine (areFixed2 a b _ _ (by go_simp) (by go_simp)).mono ?_; rintro e w' ⟨rfl, rfl⟩) | (go_at_call 45; refine (limited_any _ _).mono ?_; rintro e w' ⟨rfl, rfl⟩))
        go_ret2
        exact ⟨by rw [hv.out, hk.out]; rfl, Q.of_below (by go_grown)⟩
set_option maxHeartbeats 400000 in
theorem fixDivS (a b : Int) (w : World) :
    Calls Try.prog 35 #[.int .i64 a, .int .i64 b] w fun e w' => e = .returned (.tuple #[.int .i64 (P.divV a b), .bool (P.divB a b)]) ∧ w = w' := by
  cases ha : P.fixOk a
  · have hv := Lib.hid (P.divV_out1 (b := b) ha)
    have hk := Lib.hid (P.divB_out1 (b := b) ha)
    go_enter Try.func35, Try.ntmps35
    go_wp2_with (go_at_call 15; refine (fixOkS _ _).mono ?_; rintro e w' ⟨rfl, rfl⟩)
    go_ret2
    exact ⟨by rw [hv.out, hk.out]; rfl, rfl⟩
  · cases hb : P.fixOk b
    · have hv := Lib.hid (P.divV_out2 (a := a) hb)
      have hk := Lib.hid (P.divB_out2 (a := a) hb)
      go_enter Try.func35, Try.ntmps35
      go_wp2_with (go_at_call 15; refine (fixOkS _ _).mono ?_; rintro e w' ⟨rfl, rfl⟩)
      go_ret2
      exact ⟨by rw [hv.out, hk.out]; rfl, rfl⟩
    · by_cases h0 : b = 0
      · subst h0
        have hk := Lib.hid (P.divB_zero a)
        by_cases h1 : 0 < a
        · have hv := Lib.hid (P.divV_pos ha h1)
          go_enter Try.func35, Try.ntmps35
          go_wp2_with (go_at_call 15; refine (fixOkS _ _).mono ?_; rintro e w' ⟨rfl, rfl⟩)
          go_ret2
          exact ⟨by rw [hv.out, hk.out]; rfl, rfl⟩
        · by_cases h2 : a < 0
          · have hv := Lib.hid (P.divV_neg ha h2)
            go_enter Try.func35, Try.ntmps35
            go_wp2_with (go_at_call 15; refine (fixOkS _ _).mono ?_; rintro e w' ⟨rfl, rfl⟩)
            go_ret2
            exact ⟨by rw [hv.out, hk.out]; rfl, rfl⟩
          · obtain rfl : a = 0 := by omega
            go_enter Try.func35, Try.ntmps35
            go_wp2_with (go_at_call 15; refine (fixOkS _ _).mono ?_; rintro e w' ⟨rfl, rfl⟩)
            go_ret2
            exact ⟨by rw [P.divV_zero, hk.out]; rfl, rfl⟩
      · have hv := Lib.hid (P.divV_in ha hb h0)
        have hk := Lib.hid (P.divB_in ha hb h0)
        obtain ⟨a1, a2⟩ := P.fixOk_iff.1 ha
        obtain ⟨k1, k2⟩ := P.tdiv_bd (a := a * 1000) (A := 2000000000000) b (by omega) (by omega)
        by_cases h3 : a = 0
        · subst h3
          clear hv hk k1 k2 a1 a2
          have hv : Hid (P.divV 0 b = P.clampF 0) := by show P.divV 0 b = P.clampF 0; rw [P.divV_in ha hb h0]; simp
          have hk : Hid (P.divB 0 b = true) := by show P.divB 0 b = true; rw [P.divB_in ha hb h0]; simpa using ha
          go_enter Try.func35, Try.ntmps35
          go_wp2_with (first | (go_at_call 15; refine (fixOkS _ _).mono ?_; rintro e w' ⟨rfl, rfl⟩) | (go_at_call 43; refine (l1Range_any _ _).mono ?_; rintro e w' ⟨rfl, rfl⟩))
          go_ret2
          exact ⟨by rw [hv.out, hk.out]; rfl, rfl⟩
        · go_enter Try.func35, Try.ntmps35
          go_wp2_with (first | (go_at_call 15; refine (fixOkS _ _).mono ?_; rintro e w' ⟨rfl, rfl⟩) | (go_at_call 43; refine (l1Range_any _ _).mono ?_; rintro e w' ⟨rfl, rfl⟩))
          go_ret2
          exact ⟨by rw [hv.out, hk.out]; rfl, rfl⟩
theorem root_any (n : Int) (w : World) (n0 : 0 ≤ n) (n1 : n ≤ 2000000000000) :
    Calls Try.prog 57 #[.int .i64 n] w fun e w' => e = .returned (.int .i64 (P.isq n)) ∧ w = w' := by
  go_enter Try.func57, Try.ntmps57
  go_wp2
  go_loop [3, 4] (fun l h => ∃ lo hi : Int, 0 ≤ lo ∧ lo < hi ∧ hi ≤ 2147483648 ∧ lo * lo ≤ n ∧ n < hi * hi ∧ l = .int .i64 lo ∧ h = .int .i64 hi) (fun l h => (intOf h - intOf l).toNat)
  case atStart => exact ⟨0, 2147483648, by omega, by omega, by omega, by omega, by omega, rfl, rfl⟩
  case round =>
    obtain ⟨lo, hi, g0, g1, g2, g3, g4, rfl, rfl⟩ := hrel
    by_cases hlt : lo + 1 < hi
    · obtain ⟨m0, m1⟩ := P.sq_bd (m := (lo + hi) / 2) (by omega) (by omega)
      by_cases hm : (lo + hi) / 2 * ((lo + hi) / 2) ≤ n
      · go_wp2
        go_round
        case rel => exact ⟨(lo + hi) / 2, hi, by omega, by omega, g2, hm, g4, rfl, rfl⟩
        case measure => simp [intOf]; omega
      · go_wp2
        go_round
        case rel => exact ⟨lo, (lo + hi) / 2, g0, by omega, by omega, g3, by omega, rfl, rfl⟩
        case measure => simp [intOf]; omega
    · obtain rfl : hi = lo + 1 := by omega
      have hu := Lib.hid (P.isq_unique g0 g3 g4)
      go_wp2
      go_ret
      exact ⟨by rw [← hu.out]; rfl, rfl⟩
theorem l1Sqrt_any (n : Int) (w : World) (n0 : 0 ≤ n) (n1 : n ≤ 2000000000000) :
    Calls Try.prog 56 #[.int .i64 n] w fun e w' => e = .returned (.int .i64 (P.isq n)) ∧ w = w' := by
  go_enter Try.func56, Try.ntmps56
  go_wp2
  go_loop [3, 4] (fun l h => ∃ lo hi : Int, 0 ≤ lo ∧ lo ≤ hi ∧ hi ≤ 2000000 ∧ lo * lo ≤ n ∧ n < (hi + 1) * (hi + 1) ∧ l = .int .i64 lo ∧ h = .int .i64 hi) (fun l h => (intOf h - intOf l).toNat)
  case atStart => exact ⟨0, 2000000, by omega, by omega, by omega, by omega, by omega, rfl, rfl⟩
  case round =>
    obtain ⟨lo, hi, g0, g1, g2, g3, g4, rfl, rfl⟩ := hrel
    by_cases hlt : lo < hi
    · obtain ⟨m0, m1⟩ := P.sq_bd (m := (lo + hi + 1) / 2) (by omega) (by omega)
      by_cases hm : (lo + hi + 1) / 2 * ((lo + hi + 1) / 2) ≤ n
      · go_wp2
        go_round
        case rel => exact ⟨(lo + hi + 1) / 2, hi, by omega, by omega, g2, hm, g4, rfl, rfl⟩
        case measure => simp [intOf]; omega
      · go_wp2
        go_round
        case rel => exact ⟨lo, (lo + hi + 1) / 2 - 1, g0, by omega, by omega, g3, by rw [Int.sub_add_cancel]; omega, rfl, rfl⟩
        case measure => simp [intOf]; omega
    · obtain rfl : hi = lo := by omega
      have hu := Lib.hid (P.isq_unique g0 g3 g4)
      go_wp2
      go_ret
      exact ⟨by rw [← hu.out]; rfl, rfl⟩
set_option maxHeartbeats 400000 in
theorem fixSqrtI (a : Int) (w : World) :
    Calls Try.prog 34 #[.int .i64 a] w fun e w' => e = .returned (.tuple #[.int .i64 (P.sqrtV a), .bool (P.sqrtB a)]) ∧ w = w' := by
  cases hs : P.sqrtB a
  · have hv := Lib.hid (P.sqrtV_out hs)
    have hn := P.sqrtB_not.1 hs
    cases ha : P.fixOk a
    · have HS := Lib.hid hs
      clear hs hn
      go_enter Try.func34, Try.ntmps34
      go_wp2_with (go_at_call 16; refine (fixOkI _ _).mono ?_; rintro e w' ⟨rfl, rfl⟩)
      go_ret2
      exact ⟨by rw [hv.out]; rfl, rfl⟩
    · obtain ⟨a1, a2⟩ := P.fixOk_iff.1 ha
      have hneg : a < 0 := by omega
      have HS := Lib.hid hs
      clear hs hn
      go_enter Try.func34, Try.ntmps34
      go_wp2_with (go_at_call 16; refine (fixOkI _ _).mono ?_; rintro e w' ⟨rfl, rfl⟩)
      go_ret2
      exact ⟨by rw [hv.out]; rfl, rfl⟩
  · have hv := Lib.hid (P.sqrtV_in hs)
    obtain ⟨a1, a2⟩ := P.sqrtB_iff.1 hs
    have ha : P.fixOk a = true := P.fixOk_mk (by omega) a2
    clear hs
    go_enter Try.func34, Try.ntmps34
    go_wp2_with (first | (go_at_call 16; refine (fixOkI _ _).mono ?_; rintro e w' ⟨rfl, rfl⟩) | (go_at_call 57; refine (root_any _ _ (by omega) (by omega)).mono ?_; rintro e w' ⟨rfl, rfl⟩))
    go_ret2
    exact ⟨by rw [hv.out]; rfl, rfl⟩
set_option maxHeartbeats 400000 in
theorem fixSqrtS (a : Int) (w : World) :
    Calls Try.prog 33 #[.int .i64 a] w fun e w' => e = .returned (.tuple #[.int .i64 (P.sqrtV a), .bool (P.sqrtB a)]) ∧ w = w' := by
  cases hs : P.sqrtB a
  · have hv := Lib.hid (P.sqrtV_out hs)
    have hn : P.inB a 0 2000000000 = false := P.inB_not.2 (P.sqrtB_not.1 hs)
    clear hs
    go_enter Try.func33, Try.ntmps33
    go_wp2_with (go_at_call 40; refine (l6In_any _ _ _ _).mono ?_; rintro e w' ⟨rfl, rfl⟩)
    go_ret2
    exact ⟨by rw [hv.out]; rfl, rfl⟩
  · have hv := Lib.hid (P.sqrtV_in hs)
    obtain ⟨a1, a2⟩ := P.sqrtB_iff.1 hs
    have hn : P.inB a 0 2000000000 = true := P.inB_iff.2 ⟨a1, a2⟩
    clear hs
    go_enter Try.func33, Try.ntmps33
    go_wp2_with (first | (go_at_call 40; refine (l6In_any _ _ _ _).mono ?_; rintro e w' ⟨rfl, rfl⟩) | (go_at_call 56; refine (l1Sqrt_any _ _ (by omega) (by omega)).mono ?_; rintro e w' ⟨rfl, rfl⟩))
    go_ret2
    exact ⟨by rw [hv.out]; rfl, rfl⟩
end Go.Proofs.Ythifhomeekcjpaa
