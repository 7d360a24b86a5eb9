/-
  Directions: the table, plain; the contract of the iterator over all directions; 'impl.VecDirection', which ranges over it; the reference's.
-/
import Derived.RangeFuncNested
import Derived.RangeFuncBound
import Derived.RangeFuncCalls
import Derived.RangeFuncLeaves
import Derived.Shelf.Abstract
import Derived.WalkKit
import Derived.OwnWalkIn
import Derived.TacticsInMore
import Derived.LoopNIn
import Derived.LoopIn
import Derived.Test.YtheoabiohidadaaQ
namespace Go.Proofs.Ytheoabiohidadaa
open Go.RowKit

namespace P
/-- The reference's table. -/
def tab : List Int := [1000, 924, 707, 383, 0, -383, -707, -924, -1000, -924, -707, -383, 0, 383, 707, 924]
def dX (k : Nat) : Int := tab.getD (k % 16) 0
def dY (k : Nat) : Int := tab.getD ((k + 12) % 16) 0
theorem dX_four : ∀ m : Nat, m < 16 → tab.getD ((m + 4) % 16) 0 = wrap64 (-tab.getD ((m + 12) % 16) 0) := by
  intro m hm
  have h : m = 0 ∨ m = 1 ∨ m = 2 ∨ m = 3 ∨ m = 4 ∨ m = 5 ∨ m = 6 ∨ m = 7 ∨ m = 8 ∨ m = 9 ∨ m = 10 ∨ m = 11 ∨ m = 12 ∨ m = 13 ∨ m = 14 ∨ m = 15 := by omega
  rcases h with rfl | rfl | rfl | rfl | rfl | rfl | rfl | rfl | rfl | rfl | rfl | rfl | rfl | rfl | rfl | rfl <;> simp [tab, wrap64]
theorem dX_turn (k : Nat) : wrap64 (-dY k) = dX (k + 4) := by
  have h := dX_four (k % 16) (by omega)
  unfold dX dY
  rw [show (k + 12) % 16 = (k % 16 + 12) % 16 by omega, show (k + 4) % 16 = (k % 16 + 4) % 16 by omega]
  exact h.symm
theorem dY_turn (k : Nat) : dX k = dY (k + 4) := by
  unfold dX dY
  rw [show (k + 4 + 12) % 16 = k % 16 by omega]
end P

/-- What a round keeps, seen from the iterator: what the iterator has laid (from B on) lies as it lay. -/
structure KeepsUp (B : Nat) (W W' : World) : Prop where
  size : W.heap.size ≤ W'.heap.size
  same : ∀ k, B ≤ k → k < W.heap.size → W'.heap[k]? = W.heap[k]?

theorem KeepsUp.cell1 {B : Nat} {W W' : World} (h : KeepsUp B W W') {b o : Nat} {v : Value} (hb : B ≤ b) (hc : W.cell? ⟨b, o, none⟩ = some v) : W'.cell? ⟨b, o, none⟩ = some v :=
  (World.cell?_of_block (h.same b hb (World.block_lt_of_cell? W _ hc))).trans hc
theorem KeepsUp.frozen1 {B : Nat} {W W' : World} (h : KeepsUp B W W') {b o : Nat} {v : Value} (hb : B ≤ b) (hc : W.cell? ⟨b, o, none⟩ = some v) (hf : W.frozen? ⟨b, o, none⟩ = false) : W'.frozen? ⟨b, o, none⟩ = false :=
  (World.frozen?_of_block (h.same b hb (World.block_lt_of_cell? W _ hc))).trans hf

/-- The vector of direction k. -/
abbrev P.dV (k : Nat) : Value := .agg #[.int .i64 (P.dX k), .int .i64 (P.dY k)]

/-- The four vectors that the iterator keeps. -/
def Qtr (W : World) (b : Nat) (x0 y0 x1 y1 x2 y2 x3 y3 : Int) : Prop :=
  (W.cell? ⟨b, 0, none⟩ = some (.int .i64 x0) ∧ W.cell? ⟨b, 1, none⟩ = some (.int .i64 y0) ∧
   W.cell? ⟨b, 2, none⟩ = some (.int .i64 x1) ∧ W.cell? ⟨b, 3, none⟩ = some (.int .i64 y1) ∧
   W.cell? ⟨b, 4, none⟩ = some (.int .i64 x2) ∧ W.cell? ⟨b, 5, none⟩ = some (.int .i64 y2) ∧
   W.cell? ⟨b, 6, none⟩ = some (.int .i64 x3) ∧ W.cell? ⟨b, 7, none⟩ = some (.int .i64 y3)) ∧
  (W.frozen? ⟨b, 0, none⟩ = false ∧ W.frozen? ⟨b, 1, none⟩ = false ∧ W.frozen? ⟨b, 2, none⟩ = false ∧ W.frozen? ⟨b, 3, none⟩ = false ∧
   W.frozen? ⟨b, 4, none⟩ = false ∧ W.frozen? ⟨b, 5, none⟩ = false ∧ W.frozen? ⟨b, 6, none⟩ = false ∧ W.frozen? ⟨b, 7, none⟩ = false)

theorem rounds_gen {F : Fence} {n : Nat} {P : Program} {c : Code} {Q : Exit → Act → World → Prop} {m : Nat} {a : Act} {w : World} (h : ∀ V, V = w → Code.roundsIn F n P c Q m a V) : Code.roundsIn F n P c Q m a w := h _ rfl

attribute [local go_sem] Oper.semAt_some

set_option maxRecDepth 100000 in
set_option maxHeartbeats 4000000 in
/-- The iterator: sixteen rounds in order, or fewer, a round having said 'no more'. J: what the caller holds between two rounds; it abides whatever keeps the blocks below B. -/
theorem dirs_in (n : Nat) (l B : Nat) (J Jx : Nat → World → Prop) (hJ : ∀ k W W', J k W → Below B W W' → J k W')
    (hY : ∀ k W, k < 16 → B ≤ W.heap.size → J k W → YieldAt Fence.wide (n - 1) Try.prog l #[P.dV k] W fun e W' =>
      (e = .returned (.bool true) ∧ J (k + 1) W' ∧ KeepsUp B W W') ∨ (e = .returned (.bool false) ∧ Jx k W'))
    (W : World) (hB : B ≤ W.heap.size) (h0 : J 0 W) :
    CallsIn Fence.wide n Try.prog 27 #[.func (.yield l) #[] #[]] W fun e W' => (∃ v, e = .returned v) ∧ (J 16 W' ∨ ∃ k, k < 16 ∧ Jx k W') := by
  refine callsIn_of_wp Try.func27 rfl trivial ?_ rfl
  simp only [Try.ntmps27, List.size_toArray, List.length_cons, List.length_nil, Nat.reduceAdd, Nat.reduceSub, Array.replicate_succ, Array.replicate_zero, List.push_toArray, List.append_toArray, List.nil_append, List.cons_append]
  gi_wp2
  gi_loopw [10] (fun p wr => ∃ r : Nat, p = .int .i64 r ∧ r ≤ 4 ∧ W.heap.size < wr.heap.size ∧ J (4 * r) wr ∧ Qtr wr W.heap.size (P.dX (4 * r)) (P.dY (4 * r)) (P.dX (4 * r + 1)) (P.dY (4 * r + 1)) (P.dX (4 * r + 2)) (P.dY (4 * r + 2)) (P.dX (4 * r + 3)) (P.dY (4 * r + 3)))
    (fun p _ => 4 - (intOf p).toNat)
  case atStart =>
    refine ⟨0, rfl, by omega, by simp, hJ _ _ _ h0 ((Below.refl _ _).alloc hB _), ?_⟩
    exact ⟨by simp [P.dX, P.dY, P.tab], by simp⟩
  case round =>
    obtain ⟨r, rfl, hr4, z0, j0, hQ⟩ := hrel
    by_cases hr : r < 4
    · obtain ⟨x0, hx0⟩ : ∃ x, P.dX (4 * r) = x := ⟨_, rfl⟩
      obtain ⟨y0, hy0⟩ : ∃ x, P.dY (4 * r) = x := ⟨_, rfl⟩
      obtain ⟨x1, hx1⟩ : ∃ x, P.dX (4 * r + 1) = x := ⟨_, rfl⟩
      obtain ⟨y1, hy1⟩ : ∃ x, P.dY (4 * r + 1) = x := ⟨_, rfl⟩
      obtain ⟨x2, hx2⟩ : ∃ x, P.dX (4 * r + 2) = x := ⟨_, rfl⟩
      obtain ⟨y2, hy2⟩ : ∃ x, P.dY (4 * r + 2) = x := ⟨_, rfl⟩
      obtain ⟨x3, hx3⟩ : ∃ x, P.dX (4 * r + 3) = x := ⟨_, rfl⟩
      obtain ⟨y3, hy3⟩ : ∃ x, P.dY (4 * r + 3) = x := ⟨_, rfl⟩
      rw [hx0, hy0, hx1, hy1, hx2, hy2, hx3, hy3] at hQ
      obtain ⟨⟨a0, a1, a2, a3, a4, a5, a6, a7⟩, g0, g1, g2, g3, g4, g5, g6, g7⟩ := hQ
      have hrz : (r : Int) < 4 := by omega
      gi_wp2
      refine wpIn_loop_rounds 5 ?_
      rw [roundsIn_succ]
      obtain ⟨fn, tmps, assign, body, hy, hR⟩ := hY (4 * r) (wr.alloc (Obj.cells #[.int .i64 x0, .int .i64 y0] 23)) (by omega) (by simp; omega) (hJ _ _ _ j0 ((Below.refl _ _).alloc (by omega) _))
      simp only [P.dV, hx0, hy0] at hy
      gi_wp2
      refine ⟨fun hd => by simp [Fence.wide] at hd, ?_⟩
      refine hR.mono ?_
      clear hy hR
      rintro e W1 (⟨rfl, h3, k3⟩ | ⟨rfl, h3⟩)
      rotate_left
      · gi_wp2
        refine bodyPost_ret (results_none rfl _ _ _) rfl ?_
        exact ⟨⟨_, rfl⟩, .inr ⟨_, by omega, h3⟩⟩
      have c0 : W1.cell? ⟨W.heap.size, 0, none⟩ = some (.int .i64 (x0)) := k3.cell1 hB (by go_simp)
      have c1 : W1.cell? ⟨W.heap.size, 1, none⟩ = some (.int .i64 (y0)) := k3.cell1 hB (by go_simp)
      have c2 : W1.cell? ⟨W.heap.size, 2, none⟩ = some (.int .i64 (x1)) := k3.cell1 hB (by go_simp)
      have c3 : W1.cell? ⟨W.heap.size, 3, none⟩ = some (.int .i64 (y1)) := k3.cell1 hB (by go_simp)
      have c4 : W1.cell? ⟨W.heap.size, 4, none⟩ = some (.int .i64 (x2)) := k3.cell1 hB (by go_simp)
      have c5 : W1.cell? ⟨W.heap.size, 5, none⟩ = some (.int .i64 (y2)) := k3.cell1 hB (by go_simp)
      have c6 : W1.cell? ⟨W.heap.size, 6, none⟩ = some (.int .i64 (x3)) := k3.cell1 hB (by go_simp)
      have c7 : W1.cell? ⟨W.heap.size, 7, none⟩ = some (.int .i64 (y3)) := k3.cell1 hB (by go_simp)
      have p0 : W1.cell? ⟨wr.heap.size, 0, none⟩ = some (.int .i64 x0) := k3.cell1 (by omega) (by simp)
      have p1 : W1.cell? ⟨wr.heap.size, 1, none⟩ = some (.int .i64 y0) := k3.cell1 (by omega) (by simp)
      have d0 : W1.frozen? ⟨W.heap.size, 0, none⟩ = false := k3.frozen1 hB (v := .int .i64 (x0)) (by go_simp) (by go_simp)
      have d1 : W1.frozen? ⟨W.heap.size, 1, none⟩ = false := k3.frozen1 hB (v := .int .i64 (y0)) (by go_simp) (by go_simp)
      have d2 : W1.frozen? ⟨W.heap.size, 2, none⟩ = false := k3.frozen1 hB (v := .int .i64 (x1)) (by go_simp) (by go_simp)
      have d3 : W1.frozen? ⟨W.heap.size, 3, none⟩ = false := k3.frozen1 hB (v := .int .i64 (y1)) (by go_simp) (by go_simp)
      have d4 : W1.frozen? ⟨W.heap.size, 4, none⟩ = false := k3.frozen1 hB (v := .int .i64 (x2)) (by go_simp) (by go_simp)
      have d5 : W1.frozen? ⟨W.heap.size, 5, none⟩ = false := k3.frozen1 hB (v := .int .i64 (y2)) (by go_simp) (by go_simp)
      have d6 : W1.frozen? ⟨W.heap.size, 6, none⟩ = false := k3.frozen1 hB (v := .int .i64 (x3)) (by go_simp) (by go_simp)
      have d7 : W1.frozen? ⟨W.heap.size, 7, none⟩ = false := k3.frozen1 hB (v := .int .i64 (y3)) (by go_simp) (by go_simp)
      have z : W.heap.size < W1.heap.size := by have := k3.size; simp at this; omega
      clear a0 g0 a1 g1 a2 g2 a3 g3 a4 g4 a5 g5 a6 g6 a7 g7 k3
      gi_wp2
      refine rounds_gen ?_
      intro V1 e1
      have a0 : V1.cell? ⟨W.heap.size, 0, none⟩ = some (.int .i64 (wrap64 (-y0))) := by rw [e1]; go_simp
      have a1 : V1.cell? ⟨W.heap.size, 1, none⟩ = some (.int .i64 (x0)) := by rw [e1]; go_simp
      have a2 : V1.cell? ⟨W.heap.size, 2, none⟩ = some (.int .i64 (x1)) := by rw [e1]; go_simp
      have a3 : V1.cell? ⟨W.heap.size, 3, none⟩ = some (.int .i64 (y1)) := by rw [e1]; go_simp
      have a4 : V1.cell? ⟨W.heap.size, 4, none⟩ = some (.int .i64 (x2)) := by rw [e1]; go_simp
      have a5 : V1.cell? ⟨W.heap.size, 5, none⟩ = some (.int .i64 (y2)) := by rw [e1]; go_simp
      have a6 : V1.cell? ⟨W.heap.size, 6, none⟩ = some (.int .i64 (x3)) := by rw [e1]; go_simp
      have a7 : V1.cell? ⟨W.heap.size, 7, none⟩ = some (.int .i64 (y3)) := by rw [e1]; go_simp
      have g0 : V1.frozen? ⟨W.heap.size, 0, none⟩ = false := by rw [e1]; go_simp
      have g1 : V1.frozen? ⟨W.heap.size, 1, none⟩ = false := by rw [e1]; go_simp
      have g2 : V1.frozen? ⟨W.heap.size, 2, none⟩ = false := by rw [e1]; go_simp
      have g3 : V1.frozen? ⟨W.heap.size, 3, none⟩ = false := by rw [e1]; go_simp
      have g4 : V1.frozen? ⟨W.heap.size, 4, none⟩ = false := by rw [e1]; go_simp
      have g5 : V1.frozen? ⟨W.heap.size, 5, none⟩ = false := by rw [e1]; go_simp
      have g6 : V1.frozen? ⟨W.heap.size, 6, none⟩ = false := by rw [e1]; go_simp
      have g7 : V1.frozen? ⟨W.heap.size, 7, none⟩ = false := by rw [e1]; go_simp
      have z1 : W.heap.size < V1.heap.size := by rw [e1]; simp; omega
      have j1 : J (4 * r + 1) V1 := by rw [e1]; exact hJ _ _ _ h3 (((Below.refl _ _).setCell hB _).setCell hB _)
      clear e1 h3 z p0 p1 c0 d0 c1 d1 c2 d2 c3 d3 c4 d4 c5 d5 c6 d6 c7 d7
      rw [roundsIn_succ]
      obtain ⟨fn, tmps, assign, body, hy, hR⟩ := hY (4 * r + 1) (V1.alloc (Obj.cells #[.int .i64 x1, .int .i64 y1] 23)) (by omega) (by simp; omega) (hJ _ _ _ j1 ((Below.refl _ _).alloc (by omega) _))
      simp only [P.dV, hx1, hy1] at hy
      gi_wp2
      refine ⟨fun hd => by simp [Fence.wide] at hd, ?_⟩
      refine hR.mono ?_
      clear hy hR
      rintro e W2 (⟨rfl, h3, k3⟩ | ⟨rfl, h3⟩)
      rotate_left
      · gi_wp2
        refine bodyPost_ret (results_none rfl _ _ _) rfl ?_
        exact ⟨⟨_, rfl⟩, .inr ⟨_, by omega, h3⟩⟩
      have c0 : W2.cell? ⟨W.heap.size, 0, none⟩ = some (.int .i64 (wrap64 (-y0))) := k3.cell1 hB (by go_simp)
      have c1 : W2.cell? ⟨W.heap.size, 1, none⟩ = some (.int .i64 (x0)) := k3.cell1 hB (by go_simp)
      have c2 : W2.cell? ⟨W.heap.size, 2, none⟩ = some (.int .i64 (x1)) := k3.cell1 hB (by go_simp)
      have c3 : W2.cell? ⟨W.heap.size, 3, none⟩ = some (.int .i64 (y1)) := k3.cell1 hB (by go_simp)
      have c4 : W2.cell? ⟨W.heap.size, 4, none⟩ = some (.int .i64 (x2)) := k3.cell1 hB (by go_simp)
      have c5 : W2.cell? ⟨W.heap.size, 5, none⟩ = some (.int .i64 (y2)) := k3.cell1 hB (by go_simp)
      have c6 : W2.cell? ⟨W.heap.size, 6, none⟩ = some (.int .i64 (x3)) := k3.cell1 hB (by go_simp)
      have c7 : W2.cell? ⟨W.heap.size, 7, none⟩ = some (.int .i64 (y3)) := k3.cell1 hB (by go_simp)
      have p0 : W2.cell? ⟨V1.heap.size, 0, none⟩ = some (.int .i64 x1) := k3.cell1 (by omega) (by simp)
      have p1 : W2.cell? ⟨V1.heap.size, 1, none⟩ = some (.int .i64 y1) := k3.cell1 (by omega) (by simp)
      have d0 : W2.frozen? ⟨W.heap.size, 0, none⟩ = false := k3.frozen1 hB (v := .int .i64 (wrap64 (-y0))) (by go_simp) (by go_simp)
      have d1 : W2.frozen? ⟨W.heap.size, 1, none⟩ = false := k3.frozen1 hB (v := .int .i64 (x0)) (by go_simp) (by go_simp)
      have d2 : W2.frozen? ⟨W.heap.size, 2, none⟩ = false := k3.frozen1 hB (v := .int .i64 (x1)) (by go_simp) (by go_simp)
      have d3 : W2.frozen? ⟨W.heap.size, 3, none⟩ = false := k3.frozen1 hB (v := .int .i64 (y1)) (by go_simp) (by go_simp)
      have d4 : W2.frozen? ⟨W.heap.size, 4, none⟩ = false := k3.frozen1 hB (v := .int .i64 (x2)) (by go_simp) (by go_simp)
      have d5 : W2.frozen? ⟨W.heap.size, 5, none⟩ = false := k3.frozen1 hB (v := .int .i64 (y2)) (by go_simp) (by go_simp)
      have d6 : W2.frozen? ⟨W.heap.size, 6, none⟩ = false := k3.frozen1 hB (v := .int .i64 (x3)) (by go_simp) (by go_simp)
      have d7 : W2.frozen? ⟨W.heap.size, 7, none⟩ = false := k3.frozen1 hB (v := .int .i64 (y3)) (by go_simp) (by go_simp)
      have z : W.heap.size < W2.heap.size := by have := k3.size; simp at this; omega
      clear a0 g0 a1 g1 a2 g2 a3 g3 a4 g4 a5 g5 a6 g6 a7 g7 k3
      gi_wp2
      refine rounds_gen ?_
      intro V2 e1
      have a0 : V2.cell? ⟨W.heap.size, 0, none⟩ = some (.int .i64 (wrap64 (-y0))) := by rw [e1]; go_simp
      have a1 : V2.cell? ⟨W.heap.size, 1, none⟩ = some (.int .i64 (x0)) := by rw [e1]; go_simp
      have a2 : V2.cell? ⟨W.heap.size, 2, none⟩ = some (.int .i64 (wrap64 (-y1))) := by rw [e1]; go_simp
      have a3 : V2.cell? ⟨W.heap.size, 3, none⟩ = some (.int .i64 (x1)) := by rw [e1]; go_simp
      have a4 : V2.cell? ⟨W.heap.size, 4, none⟩ = some (.int .i64 (x2)) := by rw [e1]; go_simp
      have a5 : V2.cell? ⟨W.heap.size, 5, none⟩ = some (.int .i64 (y2)) := by rw [e1]; go_simp
      have a6 : V2.cell? ⟨W.heap.size, 6, none⟩ = some (.int .i64 (x3)) := by rw [e1]; go_simp
      have a7 : V2.cell? ⟨W.heap.size, 7, none⟩ = some (.int .i64 (y3)) := by rw [e1]; go_simp
      have g0 : V2.frozen? ⟨W.heap.size, 0, none⟩ = false := by rw [e1]; go_simp
      have g1 : V2.frozen? ⟨W.heap.size, 1, none⟩ = false := by rw [e1]; go_simp
      have g2 : V2.frozen? ⟨W.heap.size, 2, none⟩ = false := by rw [e1]; go_simp
      have g3 : V2.frozen? ⟨W.heap.size, 3, none⟩ = false := by rw [e1]; go_simp
      have g4 : V2.frozen? ⟨W.heap.size, 4, none⟩ = false := by rw [e1]; go_simp
      have g5 : V2.frozen? ⟨W.heap.size, 5, none⟩ = false := by rw [e1]; go_simp
      have g6 : V2.frozen? ⟨W.heap.size, 6, none⟩ = false := by rw [e1]; go_simp
      have g7 : V2.frozen? ⟨W.heap.size, 7, none⟩ = false := by rw [e1]; go_simp
      have z2 : W.heap.size < V2.heap.size := by rw [e1]; simp; omega
      have j2 : J (4 * r + 2) V2 := by rw [e1]; exact hJ _ _ _ h3 (((Below.refl _ _).setCell hB _).setCell hB _)
      clear e1 h3 z p0 p1 c0 d0 c1 d1 c2 d2 c3 d3 c4 d4 c5 d5 c6 d6 c7 d7
      rw [roundsIn_succ]
      obtain ⟨fn, tmps, assign, body, hy, hR⟩ := hY (4 * r + 2) (V2.alloc (Obj.cells #[.int .i64 x2, .int .i64 y2] 23)) (by omega) (by simp; omega) (hJ _ _ _ j2 ((Below.refl _ _).alloc (by omega) _))
      simp only [P.dV, hx2, hy2] at hy
      gi_wp2
      refine ⟨fun hd => by simp [Fence.wide] at hd, ?_⟩
      refine hR.mono ?_
      clear hy hR
      rintro e W3 (⟨rfl, h3, k3⟩ | ⟨rfl, h3⟩)
      rotate_left
      · gi_wp2
        refine bodyPost_ret (results_none rfl _ _ _) rfl ?_
        exact ⟨⟨_, rfl⟩, .inr ⟨_, by omega, h3⟩⟩
      have c0 : W3.cell? ⟨W.heap.size, 0, none⟩ = some (.int .i64 (wrap64 (-y0))) := k3.cell1 hB (by go_simp)
      have c1 : W3.cell? ⟨W.heap.size, 1, none⟩ = some (.int .i64 (x0)) := k3.cell1 hB (by go_simp)
      have c2 : W3.cell? ⟨W.heap.size, 2, none⟩ = some (.int .i64 (wrap64 (-y1))) := k3.cell1 hB (by go_simp)
      have c3 : W3.cell? ⟨W.heap.size, 3, none⟩ = some (.int .i64 (x1)) := k3.cell1 hB (by go_simp)
      have c4 : W3.cell? ⟨W.heap.size, 4, none⟩ = some (.int .i64 (x2)) := k3.cell1 hB (by go_simp)
      have c5 : W3.cell? ⟨W.heap.size, 5, none⟩ = some (.int .i64 (y2)) := k3.cell1 hB (by go_simp)
      have c6 : W3.cell? ⟨W.heap.size, 6, none⟩ = some (.int .i64 (x3)) := k3.cell1 hB (by go_simp)
      have c7 : W3.cell? ⟨W.heap.size, 7, none⟩ = some (.int .i64 (y3)) := k3.cell1 hB (by go_simp)
      have p0 : W3.cell? ⟨V2.heap.size, 0, none⟩ = some (.int .i64 x2) := k3.cell1 (by omega) (by simp)
      have p1 : W3.cell? ⟨V2.heap.size, 1, none⟩ = some (.int .i64 y2) := k3.cell1 (by omega) (by simp)
      have d0 : W3.frozen? ⟨W.heap.size, 0, none⟩ = false := k3.frozen1 hB (v := .int .i64 (wrap64 (-y0))) (by go_simp) (by go_simp)
      have d1 : W3.frozen? ⟨W.heap.size, 1, none⟩ = false := k3.frozen1 hB (v := .int .i64 (x0)) (by go_simp) (by go_simp)
      have d2 : W3.frozen? ⟨W.heap.size, 2, none⟩ = false := k3.frozen1 hB (v := .int .i64 (wrap64 (-y1))) (by go_simp) (by go_simp)
      have d3 : W3.frozen? ⟨W.heap.size, 3, none⟩ = false := k3.frozen1 hB (v := .int .i64 (x1)) (by go_simp) (by go_simp)
      have d4 : W3.frozen? ⟨W.heap.size, 4, none⟩ = false := k3.frozen1 hB (v := .int .i64 (x2)) (by go_simp) (by go_simp)
      have d5 : W3.frozen? ⟨W.heap.size, 5, none⟩ = false := k3.frozen1 hB (v := .int .i64 (y2)) (by go_simp) (by go_simp)
      have d6 : W3.frozen? ⟨W.heap.size, 6, none⟩ = false := k3.frozen1 hB (v := .int .i64 (x3)) (by go_simp) (by go_simp)
      have d7 : W3.frozen? ⟨W.heap.size, 7, none⟩ = false := k3.frozen1 hB (v := .int .i64 (y3)) (by go_simp) (by go_simp)
      have z : W.heap.size < W3.heap.size := by have := k3.size; simp at this; omega
      clear a0 g0 a1 g1 a2 g2 a3 g3 a4 g4 a5 g5 a6 g6 a7 g7 k3
      gi_wp2
      refine rounds_gen ?_
      intro V3 e1
      have a0 : V3.cell? ⟨W.heap.size, 0, none⟩ = some (.int .i64 (wrap64 (-y0))) := by rw [e1]; go_simp
      have a1 : V3.cell? ⟨W.heap.size, 1, none⟩ = some (.int .i64 (x0)) := by rw [e1]; go_simp
      have a2 : V3.cell? ⟨W.heap.size, 2, none⟩ = some (.int .i64 (wrap64 (-y1))) := by rw [e1]; go_simp
      have a3 : V3.cell? ⟨W.heap.size, 3, none⟩ = some (.int .i64 (x1)) := by rw [e1]; go_simp
      have a4 : V3.cell? ⟨W.heap.size, 4, none⟩ = some (.int .i64 (wrap64 (-y2))) := by rw [e1]; go_simp
      have a5 : V3.cell? ⟨W.heap.size, 5, none⟩ = some (.int .i64 (x2)) := by rw [e1]; go_simp
      have a6 : V3.cell? ⟨W.heap.size, 6, none⟩ = some (.int .i64 (x3)) := by rw [e1]; go_simp
      have a7 : V3.cell? ⟨W.heap.size, 7, none⟩ = some (.int .i64 (y3)) := by rw [e1]; go_simp
      have g0 : V3.frozen? ⟨W.heap.size, 0, none⟩ = false := by rw [e1]; go_simp
      have g1 : V3.frozen? ⟨W.heap.size, 1, none⟩ = false := by rw [e1]; go_simp
      have g2 : V3.frozen? ⟨W.heap.size, 2, none⟩ = false := by rw [e1]; go_simp
      have g3 : V3.frozen? ⟨W.heap.size, 3, none⟩ = false := by rw [e1]; go_simp
      have g4 : V3.frozen? ⟨W.heap.size, 4, none⟩ = false := by rw [e1]; go_simp
      have g5 : V3.frozen? ⟨W.heap.size, 5, none⟩ = false := by rw [e1]; go_simp
      have g6 : V3.frozen? ⟨W.heap.size, 6, none⟩ = false := by rw [e1]; go_simp
      have g7 : V3.frozen? ⟨W.heap.size, 7, none⟩ = false := by rw [e1]; go_simp
      have z3 : W.heap.size < V3.heap.size := by rw [e1]; simp; omega
      have j3 : J (4 * r + 3) V3 := by rw [e1]; exact hJ _ _ _ h3 (((Below.refl _ _).setCell hB _).setCell hB _)
      clear e1 h3 z p0 p1 c0 d0 c1 d1 c2 d2 c3 d3 c4 d4 c5 d5 c6 d6 c7 d7
      rw [roundsIn_succ]
      obtain ⟨fn, tmps, assign, body, hy, hR⟩ := hY (4 * r + 3) (V3.alloc (Obj.cells #[.int .i64 x3, .int .i64 y3] 23)) (by omega) (by simp; omega) (hJ _ _ _ j3 ((Below.refl _ _).alloc (by omega) _))
      simp only [P.dV, hx3, hy3] at hy
      gi_wp2
      refine ⟨fun hd => by simp [Fence.wide] at hd, ?_⟩
      refine hR.mono ?_
      clear hy hR
      rintro e W4 (⟨rfl, h3, k3⟩ | ⟨rfl, h3⟩)
      rotate_left
      · gi_wp2
        refine bodyPost_ret (results_none rfl _ _ _) rfl ?_
        exact ⟨⟨_, rfl⟩, .inr ⟨_, by omega, h3⟩⟩
      have c0 : W4.cell? ⟨W.heap.size, 0, none⟩ = some (.int .i64 (wrap64 (-y0))) := k3.cell1 hB (by go_simp)
      have c1 : W4.cell? ⟨W.heap.size, 1, none⟩ = some (.int .i64 (x0)) := k3.cell1 hB (by go_simp)
      have c2 : W4.cell? ⟨W.heap.size, 2, none⟩ = some (.int .i64 (wrap64 (-y1))) := k3.cell1 hB (by go_simp)
      have c3 : W4.cell? ⟨W.heap.size, 3, none⟩ = some (.int .i64 (x1)) := k3.cell1 hB (by go_simp)
      have c4 : W4.cell? ⟨W.heap.size, 4, none⟩ = some (.int .i64 (wrap64 (-y2))) := k3.cell1 hB (by go_simp)
      have c5 : W4.cell? ⟨W.heap.size, 5, none⟩ = some (.int .i64 (x2)) := k3.cell1 hB (by go_simp)
      have c6 : W4.cell? ⟨W.heap.size, 6, none⟩ = some (.int .i64 (x3)) := k3.cell1 hB (by go_simp)
      have c7 : W4.cell? ⟨W.heap.size, 7, none⟩ = some (.int .i64 (y3)) := k3.cell1 hB (by go_simp)
      have p0 : W4.cell? ⟨V3.heap.size, 0, none⟩ = some (.int .i64 x3) := k3.cell1 (by omega) (by simp)
      have p1 : W4.cell? ⟨V3.heap.size, 1, none⟩ = some (.int .i64 y3) := k3.cell1 (by omega) (by simp)
      have d0 : W4.frozen? ⟨W.heap.size, 0, none⟩ = false := k3.frozen1 hB (v := .int .i64 (wrap64 (-y0))) (by go_simp) (by go_simp)
      have d1 : W4.frozen? ⟨W.heap.size, 1, none⟩ = false := k3.frozen1 hB (v := .int .i64 (x0)) (by go_simp) (by go_simp)
      have d2 : W4.frozen? ⟨W.heap.size, 2, none⟩ = false := k3.frozen1 hB (v := .int .i64 (wrap64 (-y1))) (by go_simp) (by go_simp)
      have d3 : W4.frozen? ⟨W.heap.size, 3, none⟩ = false := k3.frozen1 hB (v := .int .i64 (x1)) (by go_simp) (by go_simp)
      have d4 : W4.frozen? ⟨W.heap.size, 4, none⟩ = false := k3.frozen1 hB (v := .int .i64 (wrap64 (-y2))) (by go_simp) (by go_simp)
      have d5 : W4.frozen? ⟨W.heap.size, 5, none⟩ = false := k3.frozen1 hB (v := .int .i64 (x2)) (by go_simp) (by go_simp)
      have d6 : W4.frozen? ⟨W.heap.size, 6, none⟩ = false := k3.frozen1 hB (v := .int .i64 (x3)) (by go_simp) (by go_simp)
      have d7 : W4.frozen? ⟨W.heap.size, 7, none⟩ = false := k3.frozen1 hB (v := .int .i64 (y3)) (by go_simp) (by go_simp)
      have z : W.heap.size < W4.heap.size := by have := k3.size; simp at this; omega
      clear a0 g0 a1 g1 a2 g2 a3 g3 a4 g4 a5 g5 a6 g6 a7 g7 k3
      gi_wp2
      refine rounds_gen ?_
      intro V4 e1
      have a0 : V4.cell? ⟨W.heap.size, 0, none⟩ = some (.int .i64 (wrap64 (-y0))) := by rw [e1]; go_simp
      have a1 : V4.cell? ⟨W.heap.size, 1, none⟩ = some (.int .i64 (x0)) := by rw [e1]; go_simp
      have a2 : V4.cell? ⟨W.heap.size, 2, none⟩ = some (.int .i64 (wrap64 (-y1))) := by rw [e1]; go_simp
      have a3 : V4.cell? ⟨W.heap.size, 3, none⟩ = some (.int .i64 (x1)) := by rw [e1]; go_simp
      have a4 : V4.cell? ⟨W.heap.size, 4, none⟩ = some (.int .i64 (wrap64 (-y2))) := by rw [e1]; go_simp
      have a5 : V4.cell? ⟨W.heap.size, 5, none⟩ = some (.int .i64 (x2)) := by rw [e1]; go_simp
      have a6 : V4.cell? ⟨W.heap.size, 6, none⟩ = some (.int .i64 (wrap64 (-y3))) := by rw [e1]; go_simp
      have a7 : V4.cell? ⟨W.heap.size, 7, none⟩ = some (.int .i64 (x3)) := by rw [e1]; go_simp
      have g0 : V4.frozen? ⟨W.heap.size, 0, none⟩ = false := by rw [e1]; go_simp
      have g1 : V4.frozen? ⟨W.heap.size, 1, none⟩ = false := by rw [e1]; go_simp
      have g2 : V4.frozen? ⟨W.heap.size, 2, none⟩ = false := by rw [e1]; go_simp
      have g3 : V4.frozen? ⟨W.heap.size, 3, none⟩ = false := by rw [e1]; go_simp
      have g4 : V4.frozen? ⟨W.heap.size, 4, none⟩ = false := by rw [e1]; go_simp
      have g5 : V4.frozen? ⟨W.heap.size, 5, none⟩ = false := by rw [e1]; go_simp
      have g6 : V4.frozen? ⟨W.heap.size, 6, none⟩ = false := by rw [e1]; go_simp
      have g7 : V4.frozen? ⟨W.heap.size, 7, none⟩ = false := by rw [e1]; go_simp
      have z4 : W.heap.size < V4.heap.size := by rw [e1]; simp; omega
      have j4 : J (4 * r + 4) V4 := by rw [e1]; exact hJ _ _ _ h3 (((Below.refl _ _).setCell hB _).setCell hB _)
      clear e1 h3 z p0 p1 c0 d0 c1 d1 c2 d2 c3 d3 c4 d4 c5 d5 c6 d6 c7 d7
      rw [roundsIn_succ]
      gi_wp2
      go_roundw
      case measure => simp [intOf]; omega
      case rel =>
        refine ⟨r + 1, by go_num, by omega, z4, j4, ?_⟩
        have t0 := P.dX_turn (4 * r)
        have u0 := P.dY_turn (4 * r)
        have t1 := P.dX_turn (4 * r + 1)
        have u1 := P.dY_turn (4 * r + 1)
        have t2 := P.dX_turn (4 * r + 2)
        have u2 := P.dY_turn (4 * r + 2)
        have t3 := P.dX_turn (4 * r + 3)
        have u3 := P.dY_turn (4 * r + 3)
        rw [hx0] at u0; rw [hy0] at t0; rw [hx1] at u1; rw [hy1] at t1; rw [hx2] at u2; rw [hy2] at t2; rw [hx3] at u3; rw [hy3] at t3
        rw [t0] at a0; rw [u0] at a1; rw [t1] at a2; rw [u1] at a3; rw [t2] at a4; rw [u2] at a5; rw [t3] at a6; rw [u3] at a7
        rw [show 4 * (r + 1) = 4 * r + 4 by omega, show 4 * r + 4 + 1 = 4 * r + 1 + 4 by omega, show 4 * r + 4 + 2 = 4 * r + 2 + 4 by omega, show 4 * r + 4 + 3 = 4 * r + 3 + 4 by omega]
        exact ⟨⟨a0, a1, a2, a3, a4, a5, a6, a7⟩, g0, g1, g2, g3, g4, g5, g6, g7⟩
    · obtain rfl : r = 4 := by omega
      gi_wp2
      go_end0
      exact ⟨⟨_, rfl⟩, .inl j0⟩

end Go.Proofs.Ytheoabiohidadaa
