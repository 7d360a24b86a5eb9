/-
  The reference's VecDirection.
-/
import Derived.Test.YtheoabiohidadaaDirS
import Derived.Test.YtheoabiohidadaaFix
namespace Go.Proofs.Ytheoabiohidadaa
open Go.RowKit

set_option maxHeartbeats 4000000 in
theorem vecDirectionS (d : Int) (wd : (Lit.int .i64 d).wf = true) (w : World) :
    Calls Try.prog 8 #[.int .i64 d] w fun e w' => e = .returned (.tuple #[.agg #[.int .i64 (P.dirX d), .int .i64 (P.dirY d)], .bool (P.dirB d)]) ∧ Q w w' := by
  by_cases h : 0 ≤ d ∧ d ≤ 15
  · obtain ⟨k, rfl⟩ : ∃ k : Nat, d = k := ⟨d.toNat, by omega⟩
    obtain ⟨e1, e2, e3⟩ := P.dir_in (d := k) rfl (by omega)
    rw [e1, e2, e3]
    have hk : k < 16 := by omega
    have h1 : (0 : Int) ≤ k := h.1
    have h2 : (k : Int) ≤ 15 := h.2
    have hin : P.inB (k : Int) 0 15 = true := P.inB_iff.2 ⟨h1, h2⟩
    clear h e1 e2 e3 h1 h2
    go_enter Try.func8, Try.ntmps8
    go_wp2_with (first | (go_at_call 16; refine (l6In_any _ _ _ _).mono ?_; rintro e w' ⟨rfl, rfl⟩) | (go_at_call 17; refine (l2Direction_any _ hk _).mono ?_; rintro e w1 ⟨rfl, q1⟩; obtain ⟨c1, f1⟩ := q1.cells; have s1 := q1.size; (try simp at s1); (try have z10 : w.heap.size < w1.heap.size := (by omega)); (try have z11 : w.heap.size + 1 < w1.heap.size := (by omega)); (try have z12 : w.heap.size + 1 + 1 < w1.heap.size := (by omega)); (try have z13 : w.heap.size + 1 + 1 + 1 < w1.heap.size := (by omega))))
    first | (refine bodyPost_ret (by simp [results, Try.results8, go_sem, *]; try rfl) rfl ?_) | (refine bodyPost_ret (by (try simp only [results, Try.results8]); go_simp; try rfl) rfl ?_)
    exact ⟨rfl, by (repeat' (first | exact Q.refl _ | assumption | refine Q.alloc ?_ _ | refine Q.drew ?_ | refine Q.drewN ?_ _ | refine Q.setCell ?_ ?_ _ | refine Q.trans ?_ (by assumption) | omega | (simp; done) | (simp; omega)))⟩
  · obtain ⟨e1, e2, e3⟩ := P.dir_out (d := d) (fun k hk e => h (by omega))
    rw [e1, e2, e3]
    have hin : P.inB d 0 15 = false := P.inB_not.2 (by omega)
    clear h e1 e2 e3
    go_enter Try.func8, Try.ntmps8
    go_wp2_with (go_at_call 16; refine (l6In_any _ _ _ _).mono ?_; rintro e w' ⟨rfl, rfl⟩)
    first | (refine bodyPost_ret (by simp [results, Try.results8, go_sem, *]; try rfl) rfl ?_) | (refine bodyPost_ret (by (try simp only [results, Try.results8]); go_simp; try rfl) rfl ?_)
    exact ⟨rfl, by (repeat' (first | exact Q.refl _ | assumption | refine Q.alloc ?_ _ | refine Q.drew ?_ | refine Q.drewN ?_ _ | refine Q.setCell ?_ ?_ _ | refine Q.trans ?_ (by assumption) | omega | (simp; done) | (simp; omega)))⟩
end Go.Proofs.Ytheoabiohidadaa
