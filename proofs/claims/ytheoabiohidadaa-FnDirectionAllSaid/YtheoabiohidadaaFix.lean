/-
  The contracts of the functions on fixed-point numbers: the program's and the reference's give the same.
-/
import Derived.Test.YtheoabiohidadaaRows
import Derived.Test.YtheoabiohidadaaPlain
import Derived.WalkKit
import Derived.WalkSpells
import Derived.WalkLawsBesides
import Derived.Lib.Hide
import Derived.Handy
import Derived.Test.YtheoabiohidadaaQ
namespace Go.Proofs.Ytheoabiohidadaa
open Go.RowKit

set_option maxHeartbeats 400000 in
theorem l6In_any (n lo hi : Int) (w : World) :
    Calls Try.prog 16 #[.int .i64 n, .int .i64 lo, .int .i64 hi] w fun e w' => e = .returned (.bool (P.inB n lo hi)) ∧ w = w' := by
  by_cases h1 : lo ≤ n
  · by_cases h2 : n ≤ hi
    · go_enter Try.func16, Try.ntmps16
      go_wp2
      go_ret
      exact ⟨by rw [P.inB_iff.2 ⟨h1, h2⟩]; rfl, rfl⟩
    · go_enter Try.func16, Try.ntmps16
      go_wp2
      go_ret
      exact ⟨by rw [P.inB_not.2 (by omega)]; rfl, rfl⟩
  · go_enter Try.func16, Try.ntmps16
    go_wp2
    go_ret
    exact ⟨by rw [P.inB_not.2 (by omega)]; rfl, rfl⟩
set_option maxHeartbeats 400000 in
theorem inRange_any (n lo hi : Int) (w : World) :
    Calls Try.prog 29 #[.int .i64 n, .int .i64 lo, .int .i64 hi] w fun e w' => e = .returned (.bool (P.inB n lo hi)) ∧ w = w' := by
  by_cases h1 : lo ≤ n
  · by_cases h2 : n ≤ hi
    · go_enter Try.func29, Try.ntmps29
      go_wp2
      go_ret
      exact ⟨by rw [P.inB_iff.2 ⟨h1, h2⟩]; rfl, rfl⟩
    · go_enter Try.func29, Try.ntmps29
      go_wp2
      go_ret
      exact ⟨by rw [P.inB_not.2 (by omega)]; rfl, rfl⟩
  · go_enter Try.func29, Try.ntmps29
    go_wp2
    go_ret
    exact ⟨by rw [P.inB_not.2 (by omega)]; rfl, rfl⟩
theorem root_any (n : Int) (w : World) (n0 : 0 ≤ n) (n1 : n ≤ 2000000000000) :
    Calls Try.prog 25 #[.int .i64 n] w fun e w' => e = .returned (.int .i64 (P.isq n)) ∧ w = w' := by
  go_enter Try.func25, Try.ntmps25
  go_wp2
  go_loop [3, 4] (fun l h => ∃ lo hi : Int, 0 ≤ lo ∧ lo < hi ∧ hi ≤ 2147483648 ∧ lo * lo ≤ n ∧ n < hi * hi ∧ l = .int .i64 lo ∧ h = .int .i64 hi) (fun l h => (intOf h - intOf l).toNat)
  case atStart => exact ⟨0, 2147483648, by omega, by omega, by omega, by omega, by omega, rfl, rfl⟩
  case round =>
    obtain ⟨lo, hi, g0, g1, g2, g3, g4, rfl, rfl⟩ := hrel
    by_cases hlt : lo + 1 < hi
    · obtain ⟨m0, m1⟩ := P.sq_bd (m := (lo + hi) / 2) (by omega) (by omega)
      by_cases hm : (lo + hi) / 2 * ((lo + hi) / 2) ≤ n
      · go_wp2
        go_round
        case rel => exact ⟨(lo + hi) / 2, hi, by omega, by omega, g2, hm, g4, rfl, rfl⟩
        case measure => simp [intOf]; omega
      · go_wp2
        go_round
        case rel => exact ⟨lo, (lo + hi) / 2, g0, by omega, by omega, g3, by omega, rfl, rfl⟩
        case measure => simp [intOf]; omega
    · obtain rfl : hi = lo + 1 := by omega
      have hu := Lib.hid (P.isq_unique g0 g3 g4)
      go_wp2
      go_ret
      exact ⟨by rw [← hu.out]; rfl, rfl⟩
end Go.Proofs.Ytheoabiohidadaa
