/-
  The contracts of the functions that draw vectors.
-/
import Derived.Test.YtakmeajdkcojoaaDraw
import Derived.RegionTactic
import Derived.Deep.RegionWith
import Derived.Deep.RegionHeld3
import Derived.Handy
namespace Go.Proofs.Ytakmeajdkcojoaa
open Go.RowKit

/-- A drawn vector. -/
def VecDrawn (w : World) (g : Nat) (sa : Option Addr) (len cap p : Nat) (e : Ending) (w' : World) : Prop :=
  ∃ (x y : Int) (p' : Nat), (Lit.int .i64 x).wf = true ∧ (Lit.int .i64 y).wf = true ∧ p' ≤ p + 8 ∧ e = .returned (.agg #[.int .i64 x, .int .i64 y]) ∧ Rd w' g sa len cap p' ∧ PQ g w w'
set_option maxHeartbeats 4000000 in
theorem l91Vec_any (g : Nat) (sa : Option Addr) (len cap p : Nat) (w : World) (hr : Rd w g sa len cap p) (hp : p ≤ 900) :
    Calls Try.prog 28 #[.pointer (some ⟨g, 0, none⟩)] w (VecDrawn w g sa len cap p) := by
  have hlt := hr.lt
  go_enter Try.func28, Try.ntmps28
  go_wp2_with fail
  refine (pick_any 100 g sa len cap _ _ (hr.keepQ ((Q.refl _).alloc _)) (by omega) (by omega)).mono ?_
  rintro e w1 ⟨v0, a0, b0, rfl, hr1, hq0, hz0⟩
  try simp at hz0
  obtain ⟨c0a, f0a⟩ := hq0.blk (w.heap.size) (by first | omega | (simp; done) | (simp; omega)) (by omega)
  go_wp2_with fail
  refine (pick_any 100 g sa len cap _ _ hr1 (by omega) (by omega)).mono ?_
  rintro e w2 ⟨v1, a1, b1, rfl, hr2, hq1, hz1⟩
  try simp at hz1
  obtain ⟨c1a, f1a⟩ := hq1.blk (w.heap.size) (by first | omega | (simp; done) | (simp; omega)) (by omega)
  go_wp2_with fail
  refine (pick_any 2 g sa len cap _ _ hr2 (by omega) (by omega)).mono ?_
  rintro e w3 ⟨v2, a2, b2, rfl, hr3, hq2, hz2⟩
  try simp at hz2
  obtain ⟨c2a, f2a⟩ := hq2.blk (w.heap.size) (by first | omega | (simp; done) | (simp; omega)) (by omega)
  go_wp2_with fail
  refine (pick_any 100 g sa len cap _ _ hr3 (by omega) (by omega)).mono ?_
  rintro e w4 ⟨v3, a3, b3, rfl, hr4, hq3, hz3⟩
  try simp at hz3
  obtain ⟨c3a, f3a⟩ := hq3.blk (w.heap.size) (by first | omega | (simp; done) | (simp; omega)) (by omega)
  go_wp2_with fail
  refine (pick_any 100 g sa len cap _ _ hr4 (by omega) (by omega)).mono ?_
  rintro e w5 ⟨v4, a4, b4, rfl, hr5, hq4, hz4⟩
  try simp at hz4
  obtain ⟨c4a, f4a⟩ := hq4.blk (w.heap.size) (by first | omega | (simp; done) | (simp; omega)) (by omega)
  go_wp2_with fail
  refine (pick_any 2 g sa len cap _ _ hr5 (by omega) (by omega)).mono ?_
  rintro e w6 ⟨v5, a5, b5, rfl, hr6, hq5, hz5⟩
  try simp at hz5
  obtain ⟨c5a, f5a⟩ := hq5.blk (w.heap.size) (by first | omega | (simp; done) | (simp; omega)) (by omega)
  go_wp2_with fail
  refine (pick_any 20 g sa len cap _ _ (hr6.keepQ ((Q.refl _).alloc _)) (by omega) (by omega)).mono ?_
  rintro e w7 ⟨v6, a6, b6, rfl, hr7, hq6, hz6⟩
  try simp at hz6
  obtain ⟨c6a, f6a⟩ := hq6.blk (w.heap.size) (by first | omega | (simp; done) | (simp; omega)) (by omega)
  obtain ⟨c6b, f6b⟩ := hq6.blk (w.heap.size + 1) (by first | omega | (simp; done) | (simp; omega)) (by omega)
  have hk7 : PQ g w w7 := ((((((((PQ.refl g w).alloc _).trans hq0).trans hq1).trans hq2).trans hq3).trans hq4).trans hq5 |>.alloc _).trans hq6
  have hw1 := wrap64_wf ((v0 * 100 + v1) * (1 - 2 * v2))
  have hw2 := wrap64_wf ((v3 * 100 + v4) * (1 - 2 * v5))
  by_cases g0 : v6 = 0
  · subst g0
    go_wp2_with fail
    refine (pick_any 4 g sa len cap _ _ (hr7.keepQ ((Q.refl _).alloc _)) (by omega) (by omega)).mono ?_
    rintro e w8 ⟨v7, a7, b7, rfl, hr8, hq7, hz7⟩
    try simp at hz7
    obtain ⟨c7a, f7a⟩ := hq7.blk (w.heap.size) (by first | omega | (simp; done) | (simp; omega)) (by omega)
    obtain ⟨c7b, f7b⟩ := hq7.blk (w.heap.size + 1) (by first | omega | (simp; done) | (simp; omega)) (by omega)
    obtain ⟨c7c, f7c⟩ := hq7.blk (w.heap.size + 2) (by first | omega | (simp; done) | (simp; omega)) (by omega)
    have hk8 : PQ g w w8 := (hk7.alloc _).trans hq7
    have r0 : w8.cell? ⟨w.heap.size, 0, none⟩ = some (.int .i64 0) := by go_simp
    have r1 : w8.cell? ⟨w.heap.size, 1, none⟩ = some (.int .i64 0) := by go_simp
    have r2 : ∀ o, w8.frozen? ⟨w.heap.size, o, none⟩ = false := by intro o; go_simp
    have u0 : w8.cell? ⟨w.heap.size + 1, 0, none⟩ = some (.int .i64 (wrap64 ((v0 * 100 + v1) * (1 - 2 * v2)))) := by go_simp
    have u1 : w8.cell? ⟨w.heap.size + 1, 1, none⟩ = some (.int .i64 (wrap64 ((v3 * 100 + v4) * (1 - 2 * v5)))) := by go_simp
    have u2 : ∀ o, w8.frozen? ⟨w.heap.size + 1, o, none⟩ = false := by intro o; go_simp
    clear c7a c7b f7a f7b
    obtain rfl | rfl | rfl | rfl : v7 = 0 ∨ v7 = 1 ∨ v7 = 2 ∨ v7 = 3 := by omega
    all_goals
      go_wp2
      first | (refine bodyPost_ret (by simp [results, Try.results28, go_sem, *]; try rfl) rfl ?_) | (refine bodyPost_ret (by (try simp only [results, Try.results28]); go_simp; try rfl) rfl ?_)
      exact ⟨_, _, _, by decide, hw2, by omega, rfl, hr.stores hr8 (by (repeat' (first | (with_reducible refine PQ.setCell ?_ (Or.inr ?_) _) | (with_reducible refine PQ.drew ?_) | (with_reducible refine PQ.drewN ?_ _) | (with_reducible refine PQ.alloc ?_ _) | (with_reducible exact hk8) | (dsimp only; omega) | (simp; done) | (simp; omega)))) (by (repeat' (first | (with_reducible rfl) | (with_reducible refine (heap_setCell_ne ?_).trans ?_) | (with_reducible refine (Below.heap_alloc _ _ _ ?_).trans ?_) | (dsimp only; omega) | (simp; done) | (simp; omega)))), by (repeat' (first | (with_reducible refine PQ.setCell ?_ (Or.inr ?_) _) | (with_reducible refine PQ.drew ?_) | (with_reducible refine PQ.drewN ?_ _) | (with_reducible refine PQ.alloc ?_ _) | (with_reducible exact hk8) | (dsimp only; omega) | (simp; done) | (simp; omega)))⟩
  · have h0 : (v6 == 0) = false := by simpa using g0
    by_cases g1 : v6 = 1
    · subst g1
      clear h0 g0
      go_wp2_with fail
      refine (pick_any 4 g sa len cap _ _ (hr7.keepQ ((Q.refl _).alloc _)) (by omega) (by omega)).mono ?_
      rintro e w8 ⟨v7, a7, b7, rfl, hr8, hq7, hz7⟩
      try simp at hz7
      obtain ⟨c7a, f7a⟩ := hq7.blk (w.heap.size) (by first | omega | (simp; done) | (simp; omega)) (by omega)
      obtain ⟨c7b, f7b⟩ := hq7.blk (w.heap.size + 1) (by first | omega | (simp; done) | (simp; omega)) (by omega)
      obtain ⟨c7c, f7c⟩ := hq7.blk (w.heap.size + 2) (by first | omega | (simp; done) | (simp; omega)) (by omega)
      have hk8 : PQ g w w8 := (hk7.alloc _).trans hq7
      have r0 : w8.cell? ⟨w.heap.size, 0, none⟩ = some (.int .i64 0) := by go_simp
      have r1 : w8.cell? ⟨w.heap.size, 1, none⟩ = some (.int .i64 0) := by go_simp
      have r2 : ∀ o, w8.frozen? ⟨w.heap.size, o, none⟩ = false := by intro o; go_simp
      have u0 : w8.cell? ⟨w.heap.size + 1, 0, none⟩ = some (.int .i64 (wrap64 ((v0 * 100 + v1) * (1 - 2 * v2)))) := by go_simp
      have u1 : w8.cell? ⟨w.heap.size + 1, 1, none⟩ = some (.int .i64 (wrap64 ((v3 * 100 + v4) * (1 - 2 * v5)))) := by go_simp
      have u2 : ∀ o, w8.frozen? ⟨w.heap.size + 1, o, none⟩ = false := by intro o; go_simp
      clear c7a c7b f7a f7b
      obtain rfl | rfl | rfl | rfl : v7 = 0 ∨ v7 = 1 ∨ v7 = 2 ∨ v7 = 3 := by omega
      all_goals
        go_wp2
        first | (refine bodyPost_ret (by simp [results, Try.results28, go_sem, *]; try rfl) rfl ?_) | (refine bodyPost_ret (by (try simp only [results, Try.results28]); go_simp; try rfl) rfl ?_)
        exact ⟨_, _, _, hw1, by decide, by omega, rfl, hr.stores hr8 (by (repeat' (first | (with_reducible refine PQ.setCell ?_ (Or.inr ?_) _) | (with_reducible refine PQ.drew ?_) | (with_reducible refine PQ.drewN ?_ _) | (with_reducible refine PQ.alloc ?_ _) | (with_reducible exact hk8) | (dsimp only; omega) | (simp; done) | (simp; omega)))) (by (repeat' (first | (with_reducible rfl) | (with_reducible refine (heap_setCell_ne ?_).trans ?_) | (with_reducible refine (Below.heap_alloc _ _ _ ?_).trans ?_) | (dsimp only; omega) | (simp; done) | (simp; omega)))), by (repeat' (first | (with_reducible refine PQ.setCell ?_ (Or.inr ?_) _) | (with_reducible refine PQ.drew ?_) | (with_reducible refine PQ.drewN ?_ _) | (with_reducible refine PQ.alloc ?_ _) | (with_reducible exact hk8) | (dsimp only; omega) | (simp; done) | (simp; omega)))⟩
    · have h1 : (v6 == 1) = false := by simpa using g1
      have r0 : w7.cell? ⟨w.heap.size, 0, none⟩ = some (.int .i64 0) := by go_simp
      have r1 : w7.cell? ⟨w.heap.size, 1, none⟩ = some (.int .i64 0) := by go_simp
      have r2 : ∀ o, w7.frozen? ⟨w.heap.size, o, none⟩ = false := by intro o; go_simp
      have u0 : w7.cell? ⟨w.heap.size + 1, 0, none⟩ = some (.int .i64 (wrap64 ((v0 * 100 + v1) * (1 - 2 * v2)))) := by go_simp
      have u1 : w7.cell? ⟨w.heap.size + 1, 1, none⟩ = some (.int .i64 (wrap64 ((v3 * 100 + v4) * (1 - 2 * v5)))) := by go_simp
      have u2 : ∀ o, w7.frozen? ⟨w.heap.size + 1, o, none⟩ = false := by intro o; go_simp
      clear c6a c6b f6a f6b
      by_cases g2 : v6 = 2
      · subst g2
        clear h0 g0 h1 g1
        go_wp2
        first | (refine bodyPost_ret (by simp [results, Try.results28, go_sem, *]; try rfl) rfl ?_) | (refine bodyPost_ret (by (try simp only [results, Try.results28]); go_simp; try rfl) rfl ?_)
        exact ⟨_, _, _, by decide, by decide, by omega, rfl, hr.stores hr7 (by (repeat' (first | (with_reducible refine PQ.setCell ?_ (Or.inr ?_) _) | (with_reducible refine PQ.drew ?_) | (with_reducible refine PQ.drewN ?_ _) | (with_reducible refine PQ.alloc ?_ _) | (with_reducible exact hk7) | (dsimp only; omega) | (simp; done) | (simp; omega)))) (by (repeat' (first | (with_reducible rfl) | (with_reducible refine (heap_setCell_ne ?_).trans ?_) | (with_reducible refine (Below.heap_alloc _ _ _ ?_).trans ?_) | (dsimp only; omega) | (simp; done) | (simp; omega)))), by (repeat' (first | (with_reducible refine PQ.setCell ?_ (Or.inr ?_) _) | (with_reducible refine PQ.drew ?_) | (with_reducible refine PQ.drewN ?_ _) | (with_reducible refine PQ.alloc ?_ _) | (with_reducible exact hk7) | (dsimp only; omega) | (simp; done) | (simp; omega)))⟩
      · have h2 : (v6 == 2) = false := by simpa using g2
        clear g0 g1 g2
        go_wp2
        first | (refine bodyPost_ret (by simp [results, Try.results28, go_sem, *]; try rfl) rfl ?_) | (refine bodyPost_ret (by (try simp only [results, Try.results28]); go_simp; try rfl) rfl ?_)
        exact ⟨_, _, _, hw1, hw2, by omega, rfl, hr.stores hr7 (by (repeat' (first | (with_reducible refine PQ.setCell ?_ (Or.inr ?_) _) | (with_reducible refine PQ.drew ?_) | (with_reducible refine PQ.drewN ?_ _) | (with_reducible refine PQ.alloc ?_ _) | (with_reducible exact hk7) | (dsimp only; omega) | (simp; done) | (simp; omega)))) (by (repeat' (first | (with_reducible rfl) | (with_reducible refine (heap_setCell_ne ?_).trans ?_) | (with_reducible refine (Below.heap_alloc _ _ _ ?_).trans ?_) | (dsimp only; omega) | (simp; done) | (simp; omega)))), by (repeat' (first | (with_reducible refine PQ.setCell ?_ (Or.inr ?_) _) | (with_reducible refine PQ.drew ?_) | (with_reducible refine PQ.drewN ?_ _) | (with_reducible refine PQ.alloc ?_ _) | (with_reducible exact hk7) | (dsimp only; omega) | (simp; done) | (simp; omega)))⟩
end Go.Proofs.Ytakmeajdkcojoaa
