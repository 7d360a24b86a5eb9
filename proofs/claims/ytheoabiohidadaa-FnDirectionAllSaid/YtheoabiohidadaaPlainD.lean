/-
  Plain directions. No Go in sight.
-/
import Derived.Test.YtheoabiohidadaaPlain3
import Derived.Test.YtheoabiohidadaaDirI
namespace Go.Proofs.Ytheoabiohidadaa.P

theorem dirB_iff {d : Int} : dirB d = true ↔ 0 ≤ d ∧ d ≤ 15 := by simp [dirB]
theorem each16 {Pr : Nat → Prop} (h : Pr 0 ∧ Pr 1 ∧ Pr 2 ∧ Pr 3 ∧ Pr 4 ∧ Pr 5 ∧ Pr 6 ∧ Pr 7 ∧ Pr 8 ∧ Pr 9 ∧ Pr 10 ∧ Pr 11 ∧ Pr 12 ∧ Pr 13 ∧ Pr 14 ∧ Pr 15) {k : Nat} (hk : k < 16) : Pr k := by
  have e : k = 0 ∨ k = 1 ∨ k = 2 ∨ k = 3 ∨ k = 4 ∨ k = 5 ∨ k = 6 ∨ k = 7 ∨ k = 8 ∨ k = 9 ∨ k = 10 ∨ k = 11 ∨ k = 12 ∨ k = 13 ∨ k = 14 ∨ k = 15 := by omega
  obtain ⟨h0, h1, h2, h3, h4, h5, h6, h7, h8, h9, h10, h11, h12, h13, h14, h15⟩ := h
  rcases e with rfl | rfl | rfl | rfl | rfl | rfl | rfl | rfl | rfl | rfl | rfl | rfl | rfl | rfl | rfl | rfl <;> assumption
theorem d_bd {k : Nat} (hk : k < 16) : (-1000 ≤ dX k ∧ dX k ≤ 1000) ∧ (-1000 ≤ dY k ∧ dY k ≤ 1000) ∧ 999 * 999 ≤ dX k * dX k + dY k * dY k ∧ dX k * dX k + dY k * dY k < 1002 * 1002 :=
  each16 (Pr := fun k => (-1000 ≤ dX k ∧ dX k ≤ 1000) ∧ (-1000 ≤ dY k ∧ dY k ≤ 1000) ∧ 999 * 999 ≤ dX k * dX k + dY k * dY k ∧ dX k * dX k + dY k * dY k < 1002 * 1002) (by (repeat' apply And.intro) <;> decide) hk
theorem d_half {k : Nat} (hk : k < 16) : dX ((k + 8) % 16) = -dX k ∧ dY ((k + 8) % 16) = -dY k :=
  each16 (Pr := fun k => dX ((k + 8) % 16) = -dX k ∧ dY ((k + 8) % 16) = -dY k) (by (repeat' apply And.intro) <;> decide) hk
theorem d_turn {k : Nat} (hk : k < 16) : dX ((k + 4) % 16) = -dY k ∧ dY ((k + 4) % 16) = dX k :=
  each16 (Pr := fun k => dX ((k + 4) % 16) = -dY k ∧ dY ((k + 4) % 16) = dX k) (by (repeat' apply And.intro) <;> decide) hk
theorem d_ne {j k : Nat} (hj : j < 16) (hk : k < 16) (h : j ≠ k) : ¬ (dX j = dX k ∧ dY j = dY k) := by
  revert h
  exact each16 (Pr := fun j => j ≠ k → ¬ (dX j = dX k ∧ dY j = dY k)) (each16 (Pr := fun k => (0 ≠ k → ¬ (dX 0 = dX k ∧ dY 0 = dY k)) ∧ (1 ≠ k → ¬ (dX 1 = dX k ∧ dY 1 = dY k)) ∧ (2 ≠ k → ¬ (dX 2 = dX k ∧ dY 2 = dY k)) ∧ (3 ≠ k → ¬ (dX 3 = dX k ∧ dY 3 = dY k)) ∧
    (4 ≠ k → ¬ (dX 4 = dX k ∧ dY 4 = dY k)) ∧ (5 ≠ k → ¬ (dX 5 = dX k ∧ dY 5 = dY k)) ∧ (6 ≠ k → ¬ (dX 6 = dX k ∧ dY 6 = dY k)) ∧ (7 ≠ k → ¬ (dX 7 = dX k ∧ dY 7 = dY k)) ∧
    (8 ≠ k → ¬ (dX 8 = dX k ∧ dY 8 = dY k)) ∧ (9 ≠ k → ¬ (dX 9 = dX k ∧ dY 9 = dY k)) ∧ (10 ≠ k → ¬ (dX 10 = dX k ∧ dY 10 = dY k)) ∧ (11 ≠ k → ¬ (dX 11 = dX k ∧ dY 11 = dY k)) ∧
    (12 ≠ k → ¬ (dX 12 = dX k ∧ dY 12 = dY k)) ∧ (13 ≠ k → ¬ (dX 13 = dX k ∧ dY 13 = dY k)) ∧ (14 ≠ k → ¬ (dX 14 = dX k ∧ dY 14 = dY k)) ∧ (15 ≠ k → ¬ (dX 15 = dX k ∧ dY 15 = dY k))) (by (repeat' apply And.intro) <;> decide) hk) hj
/-- The facts of a direction in range. -/
theorem dir_len {d : Int} (h : dirB d = true) : vOk (dirX d) (dirY d) = true ∧ 999 ≤ lenV (dirX d) (dirY d) ∧ lenV (dirX d) (dirY d) ≤ 1001 := by
  obtain ⟨h0, h1⟩ := dirB_iff.1 h
  obtain ⟨k, rfl⟩ : ∃ k : Nat, d = k := ⟨d.toNat, by omega⟩
  obtain ⟨_, e2, e3⟩ := dir_in (d := k) rfl (by omega)
  obtain ⟨⟨a1, a2⟩, ⟨a3, a4⟩, a5, a6⟩ := d_bd (k := k) (by omega)
  rw [e2, e3]
  have hv : vOk (dX k) (dY k) = true := vOk_iff.2 (by omega)
  have hl : lenV (dX k) (dY k) = isq (dX k * dX k + dY k * dY k) := by simp [lenV, hv, sel_true, lenI]
  have m1 : isq (999 * 999) ≤ isq (dX k * dX k + dY k * dY k) := isq_mono (by omega) a5
  have m2 : (999 : Int) = isq (999 * 999) := isq_unique (by omega) (by omega) (by omega)
  have m3 : isq (dX k * dX k + dY k * dY k) ≤ 1001 := isq_lt_of (by omega) (by omega) (by omega)
  rw [hl]
  exact ⟨hv, by omega, m3⟩
theorem dir_half {d : Int} (h : dirB d = true) : dirB ((d + 8) % 16) = true ∧ dirX ((d + 8) % 16) = -dirX d ∧ dirY ((d + 8) % 16) = -dirY d := by
  obtain ⟨h0, h1⟩ := dirB_iff.1 h
  obtain ⟨k, rfl⟩ : ∃ k : Nat, d = k := ⟨d.toNat, by omega⟩
  obtain ⟨_, e2, e3⟩ := dir_in (d := k) rfl (by omega)
  obtain ⟨f1, f2, f3⟩ := dir_in (d := ((k : Int) + 8) % 16) (k := (k + 8) % 16) (by omega) (by omega)
  obtain ⟨g1, g2⟩ := d_half (k := k) (by omega)
  rw [f1, f2, f3, e2, e3]
  exact ⟨rfl, g1, g2⟩
theorem dir_turn {d : Int} (h : dirB d = true) : dirB ((d + 4) % 16) = true ∧ dirX ((d + 4) % 16) = -dirY d ∧ dirY ((d + 4) % 16) = dirX d := by
  obtain ⟨h0, h1⟩ := dirB_iff.1 h
  obtain ⟨k, rfl⟩ : ∃ k : Nat, d = k := ⟨d.toNat, by omega⟩
  obtain ⟨_, e2, e3⟩ := dir_in (d := k) rfl (by omega)
  obtain ⟨f1, f2, f3⟩ := dir_in (d := ((k : Int) + 4) % 16) (k := (k + 4) % 16) (by omega) (by omega)
  obtain ⟨g1, g2⟩ := d_turn (k := k) (by omega)
  rw [f1, f2, f3, e2, e3]
  exact ⟨rfl, g1, g2⟩
theorem dir_other {d m : Int} (h : dirB d = true) (hm : 0 ≤ m) (hm2 : m < 15) : dirB ((d + 1 + m) % 16) = true ∧ ¬ (dirX ((d + 1 + m) % 16) = dirX d ∧ dirY ((d + 1 + m) % 16) = dirY d) := by
  obtain ⟨h0, h1⟩ := dirB_iff.1 h
  obtain ⟨k, rfl⟩ : ∃ k : Nat, d = k := ⟨d.toNat, by omega⟩
  obtain ⟨j, rfl⟩ : ∃ j : Nat, m = j := ⟨m.toNat, by omega⟩
  obtain ⟨_, e2, e3⟩ := dir_in (d := k) rfl (by omega)
  obtain ⟨f1, f2, f3⟩ := dir_in (d := ((k : Int) + 1 + j) % 16) (k := (k + 1 + j) % 16) (by omega) (by omega)
  rw [f1, f2, f3, e2, e3]
  exact ⟨rfl, d_ne (by omega) (by omega) (by omega)⟩
theorem dir_bd {d : Int} (h : dirB d = true) : (-1000 ≤ dirX d ∧ dirX d ≤ 1000) ∧ (-1000 ≤ dirY d ∧ dirY d ≤ 1000) := by
  obtain ⟨h0, h1⟩ := dirB_iff.1 h
  obtain ⟨k, rfl⟩ : ∃ k : Nat, d = k := ⟨d.toNat, by omega⟩
  obtain ⟨_, e2, e3⟩ := dir_in (d := k) rfl (by omega)
  obtain ⟨a1, a2, _, _⟩ := d_bd (k := k) (by omega)
  rw [e2, e3]
  exact ⟨a1, a2⟩
end Go.Proofs.Ytheoabiohidadaa.P
