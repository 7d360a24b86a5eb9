/-
  The contracts of the functions on fixed-point numbers: the program's and the reference's give the same.
-/
import Derived.Test.YthjomjhgnmefmaaRows
import Derived.Test.YthjomjhgnmefmaaPlain
import Derived.WalkKit
import Derived.WalkSpells
import Derived.WalkLawsBesides
import Derived.Lib.Hide
import Derived.Handy
import Derived.Test.YthjomjhgnmefmaaQ
namespace Go.Proofs.Ythjomjhgnmefmaa
open Go.RowKit

set_option maxHeartbeats 400000 in
theorem l6In_any (n lo hi : Int) (w : World) :
    Calls Try.prog 27 #[.int .i64 n, .int .i64 lo, .int .i64 hi] w fun e w' => e = .returned (.bool (P.inB n lo hi)) ∧ w = w' := by
  by_cases h1 : lo ≤ n
  · by_cases h2 : n ≤ hi
    · go_enter Try.func27, Try.ntmps27
      go_wp2
      go_ret
      exact ⟨by rw [P.inB_iff.2 ⟨h1, h2⟩]; rfl, rfl⟩
    · go_enter Try.func27, Try.ntmps27
      go_wp2
      go_ret
      exact ⟨by rw [P.inB_not.2 (by omega)]; rfl, rfl⟩
  · go_enter Try.func27, Try.ntmps27
    go_wp2
    go_ret
    exact ⟨by rw [P.inB_not.2 (by omega)]; rfl, rfl⟩
set_option maxHeartbeats 400000 in
theorem inRange_any (n lo hi : Int) (w : World) :
    Calls Try.prog 40 #[.int .i64 n, .int .i64 lo, .int .i64 hi] w fun e w' => e = .returned (.bool (P.inB n lo hi)) ∧ w = w' := by
  by_cases h1 : lo ≤ n
  · by_cases h2 : n ≤ hi
    · go_enter Try.func40, Try.ntmps40
      go_wp2
      go_ret
      exact ⟨by rw [P.inB_iff.2 ⟨h1, h2⟩]; rfl, rfl⟩
    · go_enter Try.func40, Try.ntmps40
      go_wp2
      go_ret
      exact ⟨by rw [P.inB_not.2 (by omega)]; rfl, rfl⟩
  · go_enter Try.func40, Try.ntmps40
    go_wp2
    go_ret
    exact ⟨by rw [P.inB_not.2 (by omega)]; rfl, rfl⟩
set_option maxHeartbeats 400000 in
theorem fok_any (n : Int) (w : World) :
    Calls Try.prog 41 #[.int .i64 n] w fun e w' => e = .returned (.bool (P.fixOk n)) ∧ w = w' := by
  by_cases h1 : -2000000000 ≤ n
  · by_cases h2 : n ≤ 2000000000
    · go_enter Try.func41, Try.ntmps41
      go_wp2
      go_ret
      exact ⟨by rw [P.fixOk_mk h1 h2]; rfl, rfl⟩
    · go_enter Try.func41, Try.ntmps41
      go_wp2
      go_ret
      exact ⟨by rw [P.fixOk_gt (by omega)]; rfl, rfl⟩
  · go_enter Try.func41, Try.ntmps41
    go_wp2
    go_ret
    exact ⟨by rw [P.fixOk_lt (by omega)]; rfl, rfl⟩
set_option maxHeartbeats 400000 in
theorem fixOkS (n : Int) (w : World) :
    Calls Try.prog 31 #[.int .i64 n] w fun e w' => e = .returned (.bool (P.fixOk n)) ∧ w = w' := by
  go_enter Try.func31, Try.ntmps31
  go_wp2_with (go_at_call 27; refine (l6In_any _ _ _ _).mono ?_; rintro e w' ⟨rfl, rfl⟩)
  go_ret
  exact ⟨rfl, rfl⟩
set_option maxHeartbeats 400000 in
theorem fixOkI (n : Int) (w : World) :
    Calls Try.prog 28 #[.int .i64 n] w fun e w' => e = .returned (.bool (P.fixOk n)) ∧ w = w' := by
  go_enter Try.func28, Try.ntmps28
  go_wp2_with (go_at_call 41; refine (fok_any _ _).mono ?_; rintro e w' ⟨rfl, rfl⟩)
  go_ret
  exact ⟨rfl, rfl⟩
set_option maxHeartbeats 400000 in
theorem limited_any (n : Int) (w : World) :
    Calls Try.prog 35 #[.int .i64 n] w fun e w' => e = .returned (.tuple #[.int .i64 (P.clampF n), .bool (P.fixOk n)]) ∧ w = w' := by
  by_cases h1 : n < -2000000000
  · have hc := Lib.hid (P.clampF_lt h1)
    go_enter Try.func35, Try.ntmps35
    go_wp2_with (go_at_call 41; refine (fok_any _ _).mono ?_; rintro e w' ⟨rfl, rfl⟩)
    go_ret2
    exact ⟨by rw [hc.out]; rfl, rfl⟩
  · by_cases h2 : 2000000000 < n
    · have hc := Lib.hid (P.clampF_gt h2)
      go_enter Try.func35, Try.ntmps35
      go_wp2_with (go_at_call 41; refine (fok_any _ _).mono ?_; rintro e w' ⟨rfl, rfl⟩)
      go_ret2
      exact ⟨by rw [hc.out]; rfl, rfl⟩
    · have hc := Lib.hid (P.clampF_in (n := n) (by omega) (by omega))
      go_enter Try.func35, Try.ntmps35
      go_wp2_with (go_at_call 41; refine (fok_any _ _).mono ?_; rintro e w' ⟨rfl, rfl⟩)
      go_ret2
      exact ⟨by rw [hc.out]; rfl, rfl⟩
/-- areFixed at the slice of two numbers that its callers build. -/
theorem areFixed2 (a b : Int) (g : Nat) (w : World) (c0 : w.cell? ⟨g, 0, none⟩ = some (.int .i64 a)) (c1 : w.cell? ⟨g, 1, none⟩ = some (.int .i64 b)) :
    Calls Try.prog 34 #[.slice (some ⟨g, 0, none⟩) 2 2] w fun e w' => e = .returned (.bool (P.fixOk a && P.fixOk b)) ∧ w = w' := by
  cases ha : P.fixOk a
  · go_enter Try.func34, Try.ntmps34
    go_wp2
    refine wp_loop_rounds 1 ?_
    rw [rounds_succ]
    go_wp2_with (go_at_call 41; refine (fok_any _ _).mono ?_; rintro e w' ⟨rfl, rfl⟩)
    go_ret
    exact ⟨rfl, rfl⟩
  · cases hb : P.fixOk b
    · go_enter Try.func34, Try.ntmps34
      go_wp2
      refine wp_loop_rounds 2 ?_
      rw [rounds_succ]
      go_wp2_with (go_at_call 41; refine (fok_any _ _).mono ?_; rintro e w' ⟨rfl, rfl⟩)
      rw [rounds_succ]
      go_wp2_with (go_at_call 41; refine (fok_any _ _).mono ?_; rintro e w' ⟨rfl, rfl⟩)
      go_ret
      exact ⟨rfl, rfl⟩
    · go_enter Try.func34, Try.ntmps34
      go_wp2
      refine wp_loop_rounds 3 ?_
      rw [rounds_succ]
      go_wp2_with (go_at_call 41; refine (fok_any _ _).mono ?_; rintro e w' ⟨rfl, rfl⟩)
      rw [rounds_succ]
      go_wp2_with (go_at_call 41; refine (fok_any _ _).mono ?_; rintro e w' ⟨rfl, rfl⟩)
      rw [rounds_succ]
      go_wp2
      go_ret
      exact ⟨rfl, rfl⟩
set_option maxHeartbeats 400000 in
theorem l1Mul_any (a b : Int) (w : World) (k1 : -4000000000000000000 ≤ a * b) (k2 : a * b ≤ 4000000000000000000) :
    Calls Try.prog 42 #[.int .i64 a, .int .i64 b] w fun e w' => e = .returned (.int .i64 ((a * b).tdiv 1000)) ∧ w = w' := by
  obtain ⟨k3, k4⟩ := P.tdiv_bd 1000 k1 k2
  go_enter Try.func42, Try.ntmps42
  go_wp2
  go_ret
  exact ⟨rfl, rfl⟩
set_option maxHeartbeats 400000 in
theorem fixMulI (a b : Int) (w : World) :
    Calls Try.prog 16 #[.int .i64 a, .int .i64 b] w fun e w' => e = .returned (.tuple #[.int .i64 (P.mulV a b), .bool (P.mulB a b)]) ∧ Q w w' := by
  cases ha : P.fixOk a
  · have hv := Lib.hid (P.mulV_out1 (b := b) ha)
    have hk := Lib.hid (P.mulB_out1 (b := b) ha)
    go_enter Try.func16, Try.ntmps16
    go_wp2_with (go_at_call 34; refine (areFixed2 a b _ _ (by go_simp) (by go_simp)).mono ?_; rintro e w' ⟨rfl, rfl⟩)
    go_ret2
    exact ⟨by rw [hv.out, hk.out]; rfl, Q.of_below (by go_grown)⟩
  · cases hb : P.fixOk b
    · have hv := Lib.hid (P.mulV_out2 (a := a) hb)
      have hk := Lib.hid (P.mulB_out2 (a := a) hb)
      go_enter Try.func16, Try.ntmps16
      go_wp2_with (go_at_call 34; refine (areFixed2 a b _ _ (by go_simp) (by go_simp)).mono ?_; rintro e w' ⟨rfl, rfl⟩)
      go_ret2
      exact ⟨by rw [hv.out, hk.out]; rfl, Q.of_below (by go_grown)⟩
    · have hv := Lib.hid (P.mulV_in ha hb)
      have hk := Lib.hid (P.mulB_in ha hb)
      obtain ⟨k1, k2⟩ := P.mul_bd ha hb
      obtain ⟨k3, k4⟩ := P.tdiv_bd 1000 k1 k2
      go_enter Try.func16, Try.ntmps16
      go_wp2_with (first | (go_at_call 34; refine (areFixed2 a b _ _ (by go_simp) (by go_simp)).mono ?_; rintro e w' ⟨rfl, rfl⟩) | (go_at_call 35; refine (limited_any _ _).mono ?_; rintro e w' ⟨rfl, rfl⟩))
      go_ret2
      exact ⟨by rw [hv.out, hk.out]; rfl, Q.of_below (by go_grown)⟩
theorem root_any (n : Int) (w : World) (n0 : 0 ≤ n) (n1 : n ≤ 2000000000000) :
    Calls Try.prog 37 #[.int .i64 n] w fun e w' => e = .returned (.int .i64 (P.isq n)) ∧ w = w' := by
  go_enter Try.func37, Try.ntmps37
  go_wp2
  go_loop [3, 4] (fun l h => ∃ lo hi : Int, 0 ≤ lo ∧ lo < hi ∧ hi ≤ 2147483648 ∧ lo * lo ≤ n ∧ n < hi * hi ∧ l = .int .i64 lo ∧ h = .int .i64 hi) (fun l h => (intOf h - intOf l).toNat)
  case atStart => exact ⟨0, 2147483648, by omega, by omega, by omega, by omega, by omega, rfl, rfl⟩
  case round =>
    obtain ⟨lo, hi, g0, g1, g2, g3, g4, rfl, rfl⟩ := hrel
    by_cases hlt : lo + 1 < hi
    · obtain ⟨m0, m1⟩ := P.sq_bd (m := (lo + hi) / 2) (by omega) (by omega)
      by_cases hm : (lo + hi) / 2 * ((lo + hi) / 2) ≤ n
      · go_wp2
        go_round
        case rel => exact ⟨(lo + hi) / 2, hi, by omega, by omega, g2, hm, g4, rfl, rfl⟩
        case measure => simp [intOf]; omega
      · go_wp2
        go_round
        case rel => exact ⟨lo, (lo + hi) / 2, g0, by omega, by omega, g3, by omega, rfl, rfl⟩
        case measure => simp [intOf]; omega
    · obtain rfl : hi = lo + 1 := by omega
      have hu := Lib.hid (P.isq_unique g0 g3 g4)
      go_wp2
      go_ret
      exact ⟨by rw [← hu.out]; rfl, rfl⟩
end Go.Proofs.Ythjomjhgnmefmaa
