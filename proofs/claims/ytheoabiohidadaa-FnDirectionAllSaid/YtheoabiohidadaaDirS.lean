/-
  The reference's VecDirection.
-/
import Derived.Test.YtheoabiohidadaaDirI
import Derived.Test.YtheoabiohidadaaOpen
namespace Go.Proofs.Ytheoabiohidadaa
open Go.RowKit

set_option maxHeartbeats 4000000 in
theorem l2Direction_any (k : Nat) (hk : k < 16) (w : World) :
    Calls Try.prog 17 #[.int .i64 (k : Int)] w fun e w' => e = .returned (.agg #[.int .i64 (P.dX k), .int .i64 (P.dY k)]) ∧ Q w w' := by
  have h : k = 0 ∨ k = 1 ∨ k = 2 ∨ k = 3 ∨ k = 4 ∨ k = 5 ∨ k = 6 ∨ k = 7 ∨ k = 8 ∨ k = 9 ∨ k = 10 ∨ k = 11 ∨ k = 12 ∨ k = 13 ∨ k = 14 ∨ k = 15 := by omega
  clear hk
  rcases h with rfl | rfl | rfl | rfl | rfl | rfl | rfl | rfl | rfl | rfl | rfl | rfl | rfl | rfl | rfl | rfl
  all_goals
    go_enter Try.func17, Try.ntmps17
    go_wp2_with fail
    go_region
    go_wp2
    first | (refine bodyPost_ret (by simp [results, Try.results17, go_sem, *]; try rfl) rfl ?_) | (refine bodyPost_ret (by (try simp only [results, Try.results17]); go_simp; try rfl) rfl ?_)
    exact ⟨rfl, by (repeat' (first | exact Q.refl _ | assumption | refine Q.alloc ?_ _ | refine Q.drew ?_ | refine Q.drewN ?_ _ | refine Q.setCell ?_ ?_ _ | refine Q.trans ?_ (by assumption) | omega | (simp; done) | (simp; omega)))⟩

end Go.Proofs.Ytheoabiohidadaa
