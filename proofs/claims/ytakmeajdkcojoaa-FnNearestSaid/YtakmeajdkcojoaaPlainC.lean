/-
  Plain boxes: more laws of these. No Go in sight.
-/
import Derived.Test.YtakmeajdkcojoaaPlainB
namespace Go.Proofs.Ytakmeajdkcojoaa.P

theorem has_corners {lx ly hx hy : Int} (h : boxOk lx ly hx hy = true) :
    hasB lx ly hx hy lx ly = true ∧ hasB lx ly hx hy hx hy = true ∧ hasB lx ly hx hy (hx + 1) hy = false ∧ hasB lx ly hx hy lx (ly - 1) = false := by
  obtain ⟨v1, v2, h3, h4⟩ := boxOk_iff.1 h
  refine ⟨hasB_iff.2 ⟨h, v1, by omega, h3, by omega, h4⟩, hasB_iff.2 ⟨h, v2, h3, by omega, h4, by omega⟩, ?_, ?_⟩ <;> (rw [← Bool.not_eq_true, hasB_iff]; rintro ⟨_, _, k1, k2, k3, k4⟩; omega)
theorem box_point {x y m : Int} (h : vOk x y = true) (hm : 0 ≤ m) : boxOk x y x y = true ∧ hasB x y x y x y = true ∧ hasB x y x y x (y + 1 + m) = false := by
  have hb : boxOk x y x y = true := boxOk_in h h (by omega) (by omega)
  refine ⟨hb, hasB_iff.2 ⟨hb, h, by omega, by omega, by omega, by omega⟩, ?_⟩
  rw [← Bool.not_eq_true, hasB_iff]; rintro ⟨_, _, k1, k2, k3, k4⟩; omega
end Go.Proofs.Ytakmeajdkcojoaa.P
