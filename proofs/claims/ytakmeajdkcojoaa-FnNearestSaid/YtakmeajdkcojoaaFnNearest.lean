/-
  Proved: the law FnNearest returns true for all arguments, and its arguments read afterwards as before. No condition.
-/
import Derived.Test.YtakmeajdkcojoaaPlainC
import Derived.Test.YtakmeajdkcojoaaBox2
import Derived.Test.YtakmeajdkcojoaaOpen
import Derived.Test.YtakmeajdkcojoaaBDraw2
import Derived.Test.YtakmeajdkcojoaaHeld
namespace Go.Proofs.Ytakmeajdkcojoaa.FnNearest
open Go.ChangeShapes Go.WideShapes Go.ChangeAt Go.RowKit
set_option linter.unusedVariables false

set_option maxHeartbeats 4000000 in
theorem walk (ca : Option Addr) (cl cc : Nat) (cz : List Int) (w : World) (wc : IsRow w ca cl cc cz) :
    Calls Try.prog 3 #[.slice ca cl cc] w fun e w' => e = .returned (.bool true) ∧ Q w w' := by
  by_cases hl : cl ≤ 1048576
  · have hl1 : ¬ (1048576 : Int) < (cl : Int) := by omega
    go_enter Try.func3, Try.ntmps3
    go_wp2_with fail
    refine (drawBoxNearest _ _ _ cz _ wc).mono ?_
    rintro e w1 ⟨a, b, c, d, x, y, wf, wx, wy, rfl, q1⟩
    cases h : P.nearB a b c d x y
    · have sf := P.sel_false
      go_wp2_with fail
      refine (boxNearestI _ _ _ _ _ _ _).mono ?_
      rintro e w2 ⟨rfl, q2⟩
      obtain ⟨c2, f2⟩ := q2.cells
      have s2 := q2.size
      (try simp at s2)
      (try have z2_0_0 : w.heap.size < w2.heap.size := (by omega))
      (try have z2_0_1 : w.heap.size + 1 < w2.heap.size := (by omega))
      (try have z2_0_2 : w.heap.size + 1 + 1 < w2.heap.size := (by omega))
      (try have z2_1_0 : w1.heap.size < w2.heap.size := (by omega))
      (try have z2_1_1 : w1.heap.size + 1 < w2.heap.size := (by omega))
      go_wp2_with fail
      refine (boxNearestS _ _ _ _ _ _ _).mono ?_
      rintro e w3 ⟨rfl, q3⟩
      obtain ⟨c3, f3⟩ := q3.cells
      have s3 := q3.size
      (try simp at s3)
      (try have z3_0_0 : w.heap.size < w3.heap.size := (by omega))
      (try have z3_0_1 : w.heap.size + 1 < w3.heap.size := (by omega))
      (try have z3_0_2 : w.heap.size + 1 + 1 < w3.heap.size := (by omega))
      (try have z3_1_0 : w1.heap.size < w3.heap.size := (by omega))
      (try have z3_1_1 : w1.heap.size + 1 < w3.heap.size := (by omega))
      (try have z3_2_0 : w2.heap.size < w3.heap.size := (by omega))
      (try have z3_2_1 : w2.heap.size + 1 < w3.heap.size := (by omega))
      go_wp2
      go_ret
      exact ⟨rfl, by (repeat' (first | exact Q.refl _ | assumption | refine Q.alloc ?_ _ | refine Q.drew ?_ | refine Q.drewN ?_ _ | refine Q.setCell ?_ ?_ _ | refine Q.trans ?_ (by assumption) | omega | (simp; done) | (simp; omega)))⟩
    · have st := P.sel_true
      obtain ⟨hb, hv⟩ := P.nearB_iff.1 h
      obtain ⟨b1, b2, b3, b4, b5, b6⟩ := P.boxOk_bd hb
      obtain ⟨o1, eh⟩ := P.near_ok hb x y
      have ok0 : P.vOk a b = true := P.vOk_iff.2 (by omega)
      have l0 := P.dist_near_least (x := x) (y := y) (u := a) (v := b) hb (by omega) (by omega) (by omega) (by omega)
      have d0 : decide (P.dist a b x y < P.dist (P.near x a c) (P.near y b d) x y) = false := by simpa using l0
      have n0 : ¬ P.dist a b x y < P.dist (P.near x a c) (P.near y b d) x y := by omega
      clear l0
      have ok1 : P.vOk c d = true := P.vOk_iff.2 (by omega)
      have l1 := P.dist_near_least (x := x) (y := y) (u := c) (v := d) hb (by omega) (by omega) (by omega) (by omega)
      have d1 : decide (P.dist c d x y < P.dist (P.near x a c) (P.near y b d) x y) = false := by simpa using l1
      have n1 : ¬ P.dist c d x y < P.dist (P.near x a c) (P.near y b d) x y := by omega
      clear l1
      have ok2 : P.vOk a d = true := P.vOk_iff.2 (by omega)
      have l2 := P.dist_near_least (x := x) (y := y) (u := a) (v := d) hb (by omega) (by omega) (by omega) (by omega)
      have d2 : decide (P.dist a d x y < P.dist (P.near x a c) (P.near y b d) x y) = false := by simpa using l2
      have n2 : ¬ P.dist a d x y < P.dist (P.near x a c) (P.near y b d) x y := by omega
      clear l2
      have ok3 : P.vOk c b = true := P.vOk_iff.2 (by omega)
      have l3 := P.dist_near_least (x := x) (y := y) (u := c) (v := b) hb (by omega) (by omega) (by omega) (by omega)
      have d3 : decide (P.dist c b x y < P.dist (P.near x a c) (P.near y b d) x y) = false := by simpa using l3
      have n3 : ¬ P.dist c b x y < P.dist (P.near x a c) (P.near y b d) x y := by omega
      clear l3
      clear b1 b2 b3 b4 b5 b6
      go_wp2_with fail
      refine (boxNearestI _ _ _ _ _ _ _).mono ?_
      rintro e w2 ⟨rfl, q2⟩
      obtain ⟨c2, f2⟩ := q2.cells
      have s2 := q2.size
      (try simp at s2)
      (try have z2_0_0 : w.heap.size < w2.heap.size := (by omega))
      (try have z2_0_1 : w.heap.size + 1 < w2.heap.size := (by omega))
      (try have z2_0_2 : w.heap.size + 1 + 1 < w2.heap.size := (by omega))
      (try have z2_1_0 : w1.heap.size < w2.heap.size := (by omega))
      (try have z2_1_1 : w1.heap.size + 1 < w2.heap.size := (by omega))
      go_wp2_with fail
      refine (boxNearestS _ _ _ _ _ _ _).mono ?_
      rintro e w3 ⟨rfl, q3⟩
      obtain ⟨c3, f3⟩ := q3.cells
      have s3 := q3.size
      (try simp at s3)
      (try have z3_0_0 : w.heap.size < w3.heap.size := (by omega))
      (try have z3_0_1 : w.heap.size + 1 < w3.heap.size := (by omega))
      (try have z3_0_2 : w.heap.size + 1 + 1 < w3.heap.size := (by omega))
      (try have z3_1_0 : w1.heap.size < w3.heap.size := (by omega))
      (try have z3_1_1 : w1.heap.size + 1 < w3.heap.size := (by omega))
      (try have z3_2_0 : w2.heap.size < w3.heap.size := (by omega))
      (try have z3_2_1 : w2.heap.size + 1 < w3.heap.size := (by omega))
      have v0 : w3.cell? ⟨w1.heap.size, 0, none⟩ = some (.int .i64 a) := by go_simp
      have v1 : w3.cell? ⟨w1.heap.size, 1, none⟩ = some (.int .i64 b) := by go_simp
      have v2 : w3.cell? ⟨w1.heap.size, 2, none⟩ = some (.int .i64 c) := by go_simp
      have v3 : w3.cell? ⟨w1.heap.size, 3, none⟩ = some (.int .i64 d) := by go_simp
      have v4 : w3.cell? ⟨w1.heap.size + 1, 0, none⟩ = some (.int .i64 x) := by go_simp
      have v5 : w3.cell? ⟨w1.heap.size + 1, 1, none⟩ = some (.int .i64 y) := by go_simp
      have v6 : w3.cell? ⟨w2.heap.size, 0, none⟩ = some (.int .i64 (P.near x a c)) := by go_simp
      have v7 : w3.cell? ⟨w2.heap.size, 1, none⟩ = some (.int .i64 (P.near y b d)) := by go_simp
      go_wp2_with fail
      refine wp_loop_rounds 5 ?_
      rw [rounds_succ]
      go_wp2_with fail
      go_region_held3 (fun w' => w'.cell? ⟨w1.heap.size, 0, none⟩ = some (.int .i64 a) ∧ w'.cell? ⟨w1.heap.size, 1, none⟩ = some (.int .i64 b) ∧ w'.cell? ⟨w1.heap.size, 2, none⟩ = some (.int .i64 c) ∧ w'.cell? ⟨w1.heap.size, 3, none⟩ = some (.int .i64 d) ∧ w'.cell? ⟨w1.heap.size + 1, 0, none⟩ = some (.int .i64 x) ∧ w'.cell? ⟨w1.heap.size + 1, 1, none⟩ = some (.int .i64 y) ∧ w'.cell? ⟨w2.heap.size, 0, none⟩ = some (.int .i64 (P.near x a c)) ∧ w'.cell? ⟨w2.heap.size, 1, none⟩ = some (.int .i64 (P.near y b d)) ∧ w'.cell? ⟨w3.heap.size + 1, 0, none⟩ = some (.int .i64 a) ∧ w'.cell? ⟨w3.heap.size + 1, 1, none⟩ = some (.int .i64 b) ∧ w'.cell? ⟨w3.heap.size + 1, 2, none⟩ = some (.int .i64 c) ∧ w'.cell? ⟨w3.heap.size + 1, 3, none⟩ = some (.int .i64 d) ∧ w'.cell? ⟨w3.heap.size + 1, 4, none⟩ = some (.int .i64 a) ∧ w'.cell? ⟨w3.heap.size + 1, 5, none⟩ = some (.int .i64 d) ∧ w'.cell? ⟨w3.heap.size + 1, 6, none⟩ = some (.int .i64 c) ∧ w'.cell? ⟨w3.heap.size + 1, 7, none⟩ = some (.int .i64 b) ∧ Q w w') ((go_split_ands; (repeat' (with_reducible apply And.intro)) <;> first | (with_reducible assumption) | ((repeat' (first | (with_reducible assumption) | (with_reducible exact cellE (by assumption)) | (with_reducible refine cellA _ ?_) | (with_reducible refine cellD ?_) | (with_reducible refine cellS (by first | (dsimp only; omega) | (simp; omega)) ?_) | (with_reducible refine Q.cell1 (by assumption) ?_))); done) | (with_reducible refine Q.size1 (by assumption) ?_; first | (with_reducible assumption) | (simp; done) | (simp; omega)) | ((repeat' (first | (with_reducible exact Q.refl _) | (with_reducible assumption) | (with_reducible refine Q.setCell ?_ ?_ _) | (with_reducible refine Q.alloc ?_ _) | (with_reducible refine Q.drew ?_) | (with_reducible refine Q.drewN ?_ _) | (with_reducible refine Q.trans ?_ (by assumption)) | omega | (dsimp only; omega) | (simp; done) | (simp; omega))); done) | omega | (simp; done) | (simp; omega) | (simp [*]; done))) (first | (go_split_ands; go_at_call_of 8 (Value.agg #[.int .i64 a, .int .i64 b]); refine (size_any _ _ _ _ _ ok0 hv).mono ?_; rintro e w4 ⟨rfl, q4⟩; obtain ⟨c4, f4⟩ := q4.cells; have s4 := q4.size; (try simp at s4); (try have t4 := Nat.lt_of_succ_le s4)) | (go_split_ands; go_at_call_of 8 (Value.agg #[.int .i64 (P.near x a c), .int .i64 (P.near y b d)]); refine (size_any _ _ _ _ _ o1 hv).mono ?_; rintro e w5 ⟨rfl, q5⟩; obtain ⟨c5, f5⟩ := q5.cells; have s5 := q5.size; (try simp at s5); (try have t5 := Nat.lt_of_succ_le s5)))
      go_split_ands
      go_wp2_with fail
      rw [rounds_succ]
      go_wp2_with fail
      go_region_held3 (fun w' => w'.cell? ⟨w1.heap.size, 0, none⟩ = some (.int .i64 a) ∧ w'.cell? ⟨w1.heap.size, 1, none⟩ = some (.int .i64 b) ∧ w'.cell? ⟨w1.heap.size, 2, none⟩ = some (.int .i64 c) ∧ w'.cell? ⟨w1.heap.size, 3, none⟩ = some (.int .i64 d) ∧ w'.cell? ⟨w1.heap.size + 1, 0, none⟩ = some (.int .i64 x) ∧ w'.cell? ⟨w1.heap.size + 1, 1, none⟩ = some (.int .i64 y) ∧ w'.cell? ⟨w2.heap.size, 0, none⟩ = some (.int .i64 (P.near x a c)) ∧ w'.cell? ⟨w2.heap.size, 1, none⟩ = some (.int .i64 (P.near y b d)) ∧ w'.cell? ⟨w3.heap.size + 1, 0, none⟩ = some (.int .i64 a) ∧ w'.cell? ⟨w3.heap.size + 1, 1, none⟩ = some (.int .i64 b) ∧ w'.cell? ⟨w3.heap.size + 1, 2, none⟩ = some (.int .i64 c) ∧ w'.cell? ⟨w3.heap.size + 1, 3, none⟩ = some (.int .i64 d) ∧ w'.cell? ⟨w3.heap.size + 1, 4, none⟩ = some (.int .i64 a) ∧ w'.cell? ⟨w3.heap.size + 1, 5, none⟩ = some (.int .i64 d) ∧ w'.cell? ⟨w3.heap.size + 1, 6, none⟩ = some (.int .i64 c) ∧ w'.cell? ⟨w3.heap.size + 1, 7, none⟩ = some (.int .i64 b) ∧ Q w w') ((go_split_ands; (repeat' (with_reducible apply And.intro)) <;> first | (with_reducible assumption) | ((repeat' (first | (with_reducible assumption) | (with_reducible exact cellE (by assumption)) | (with_reducible refine cellA _ ?_) | (with_reducible refine cellD ?_) | (with_reducible refine cellS (by first | (dsimp only; omega) | (simp; omega)) ?_) | (with_reducible refine Q.cell1 (by assumption) ?_))); done) | (with_reducible refine Q.size1 (by assumption) ?_; first | (with_reducible assumption) | (simp; done) | (simp; omega)) | ((repeat' (first | (with_reducible exact Q.refl _) | (with_reducible assumption) | (with_reducible refine Q.setCell ?_ ?_ _) | (with_reducible refine Q.alloc ?_ _) | (with_reducible refine Q.drew ?_) | (with_reducible refine Q.drewN ?_ _) | (with_reducible refine Q.trans ?_ (by assumption)) | omega | (dsimp only; omega) | (simp; done) | (simp; omega))); done) | omega | (simp; done) | (simp; omega) | (simp [*]; done))) (first | (go_split_ands; go_at_call_of 8 (Value.agg #[.int .i64 c, .int .i64 d]); refine (size_any _ _ _ _ _ ok1 hv).mono ?_; rintro e w6 ⟨rfl, q6⟩; obtain ⟨c6, f6⟩ := q6.cells; have s6 := q6.size; (try simp at s6); (try have t6 := Nat.lt_of_succ_le s6)) | (go_split_ands; go_at_call_of 8 (Value.agg #[.int .i64 (P.near x a c), .int .i64 (P.near y b d)]); refine (size_any _ _ _ _ _ o1 hv).mono ?_; rintro e w7 ⟨rfl, q7⟩; obtain ⟨c7, f7⟩ := q7.cells; have s7 := q7.size; (try simp at s7); (try have t7 := Nat.lt_of_succ_le s7)))
      go_split_ands
      go_wp2_with fail
      rw [rounds_succ]
      go_wp2_with fail
      go_region_held3 (fun w' => w'.cell? ⟨w1.heap.size, 0, none⟩ = some (.int .i64 a) ∧ w'.cell? ⟨w1.heap.size, 1, none⟩ = some (.int .i64 b) ∧ w'.cell? ⟨w1.heap.size, 2, none⟩ = some (.int .i64 c) ∧ w'.cell? ⟨w1.heap.size, 3, none⟩ = some (.int .i64 d) ∧ w'.cell? ⟨w1.heap.size + 1, 0, none⟩ = some (.int .i64 x) ∧ w'.cell? ⟨w1.heap.size + 1, 1, none⟩ = some (.int .i64 y) ∧ w'.cell? ⟨w2.heap.size, 0, none⟩ = some (.int .i64 (P.near x a c)) ∧ w'.cell? ⟨w2.heap.size, 1, none⟩ = some (.int .i64 (P.near y b d)) ∧ w'.cell? ⟨w3.heap.size + 1, 0, none⟩ = some (.int .i64 a) ∧ w'.cell? ⟨w3.heap.size + 1, 1, none⟩ = some (.int .i64 b) ∧ w'.cell? ⟨w3.heap.size + 1, 2, none⟩ = some (.int .i64 c) ∧ w'.cell? ⟨w3.heap.size + 1, 3, none⟩ = some (.int .i64 d) ∧ w'.cell? ⟨w3.heap.size + 1, 4, none⟩ = some (.int .i64 a) ∧ w'.cell? ⟨w3.heap.size + 1, 5, none⟩ = some (.int .i64 d) ∧ w'.cell? ⟨w3.heap.size + 1, 6, none⟩ = some (.int .i64 c) ∧ w'.cell? ⟨w3.heap.size + 1, 7, none⟩ = some (.int .i64 b) ∧ Q w w') ((go_split_ands; (repeat' (with_reducible apply And.intro)) <;> first | (with_reducible assumption) | ((repeat' (first | (with_reducible assumption) | (with_reducible exact cellE (by assumption)) | (with_reducible refine cellA _ ?_) | (with_reducible refine cellD ?_) | (with_reducible refine cellS (by first | (dsimp only; omega) | (simp; omega)) ?_) | (with_reducible refine Q.cell1 (by assumption) ?_))); done) | (with_reducible refine Q.size1 (by assumption) ?_; first | (with_reducible assumption) | (simp; done) | (simp; omega)) | ((repeat' (first | (with_reducible exact Q.refl _) | (with_reducible assumption) | (with_reducible refine Q.setCell ?_ ?_ _) | (with_reducible refine Q.alloc ?_ _) | (with_reducible refine Q.drew ?_) | (with_reducible refine Q.drewN ?_ _) | (with_reducible refine Q.trans ?_ (by assumption)) | omega | (dsimp only; omega) | (simp; done) | (simp; omega))); done) | omega | (simp; done) | (simp; omega) | (simp [*]; done))) (first | (go_split_ands; go_at_call_of 8 (Value.agg #[.int .i64 a, .int .i64 d]); refine (size_any _ _ _ _ _ ok2 hv).mono ?_; rintro e w8 ⟨rfl, q8⟩; obtain ⟨c8, f8⟩ := q8.cells; have s8 := q8.size; (try simp at s8); (try have t8 := Nat.lt_of_succ_le s8)) | (go_split_ands; go_at_call_of 8 (Value.agg #[.int .i64 (P.near x a c), .int .i64 (P.near y b d)]); refine (size_any _ _ _ _ _ o1 hv).mono ?_; rintro e w9 ⟨rfl, q9⟩; obtain ⟨c9, f9⟩ := q9.cells; have s9 := q9.size; (try simp at s9); (try have t9 := Nat.lt_of_succ_le s9)))
      go_split_ands
      go_wp2_with fail
      rw [rounds_succ]
      go_wp2_with fail
      go_region_held3 (fun w' => w'.cell? ⟨w1.heap.size, 0, none⟩ = some (.int .i64 a) ∧ w'.cell? ⟨w1.heap.size, 1, none⟩ = some (.int .i64 b) ∧ w'.cell? ⟨w1.heap.size, 2, none⟩ = some (.int .i64 c) ∧ w'.cell? ⟨w1.heap.size, 3, none⟩ = some (.int .i64 d) ∧ w'.cell? ⟨w1.heap.size + 1, 0, none⟩ = some (.int .i64 x) ∧ w'.cell? ⟨w1.heap.size + 1, 1, none⟩ = some (.int .i64 y) ∧ w'.cell? ⟨w2.heap.size, 0, none⟩ = some (.int .i64 (P.near x a c)) ∧ w'.cell? ⟨w2.heap.size, 1, none⟩ = some (.int .i64 (P.near y b d)) ∧ w'.cell? ⟨w3.heap.size + 1, 0, none⟩ = some (.int .i64 a) ∧ w'.cell? ⟨w3.heap.size + 1, 1, none⟩ = some (.int .i64 b) ∧ w'.cell? ⟨w3.heap.size + 1, 2, none⟩ = some (.int .i64 c) ∧ w'.cell? ⟨w3.heap.size + 1, 3, none⟩ = some (.int .i64 d) ∧ w'.cell? ⟨w3.heap.size + 1, 4, none⟩ = some (.int .i64 a) ∧ w'.cell? ⟨w3.heap.size + 1, 5, none⟩ = some (.int .i64 d) ∧ w'.cell? ⟨w3.heap.size + 1, 6, none⟩ = some (.int .i64 c) ∧ w'.cell? ⟨w3.heap.size + 1, 7, none⟩ = some (.int .i64 b) ∧ Q w w') ((go_split_ands; (repeat' (with_reducible apply And.intro)) <;> first | (with_reducible assumption) | ((repeat' (first | (with_reducible assumption) | (with_reducible exact cellE (by assumption)) | (with_reducible refine cellA _ ?_) | (with_reducible refine cellD ?_) | (with_reducible refine cellS (by first | (dsimp only; omega) | (simp; omega)) ?_) | (with_reducible refine Q.cell1 (by assumption) ?_))); done) | (with_reducible refine Q.size1 (by assumption) ?_; first | (with_reducible assumption) | (simp; done) | (simp; omega)) | ((repeat' (first | (with_reducible exact Q.refl _) | (with_reducible assumption) | (with_reducible refine Q.setCell ?_ ?_ _) | (with_reducible refine Q.alloc ?_ _) | (with_reducible refine Q.drew ?_) | (with_reducible refine Q.drewN ?_ _) | (with_reducible refine Q.trans ?_ (by assumption)) | omega | (dsimp only; omega) | (simp; done) | (simp; omega))); done) | omega | (simp; done) | (simp; omega) | (simp [*]; done))) (first | (go_split_ands; go_at_call_of 8 (Value.agg #[.int .i64 c, .int .i64 b]); refine (size_any _ _ _ _ _ ok3 hv).mono ?_; rintro e w10 ⟨rfl, q10⟩; obtain ⟨c10, f10⟩ := q10.cells; have s10 := q10.size; (try simp at s10); (try have t10 := Nat.lt_of_succ_le s10)) | (go_split_ands; go_at_call_of 8 (Value.agg #[.int .i64 (P.near x a c), .int .i64 (P.near y b d)]); refine (size_any _ _ _ _ _ o1 hv).mono ?_; rintro e w11 ⟨rfl, q11⟩; obtain ⟨c11, f11⟩ := q11.cells; have s11 := q11.size; (try simp at s11); (try have t11 := Nat.lt_of_succ_le s11)))
      go_split_ands
      go_wp2_with fail
      rw [rounds_succ]
      go_wp2_with fail
      by_cases g1 : P.near x a c = x
      · by_cases g2 : P.near y b d = y
        · have eo : P.hasB a b c d x y = true := (P.has_iff_near hb hv).2 ⟨g1, g2⟩
          have gg1 : (P.near x a c == x) = true := by simpa using g1
          have gg2 : (P.near y b d == y) = true := by simpa using g2
          go_region_held3 (fun w' => w'.cell? ⟨w1.heap.size, 0, none⟩ = some (.int .i64 a) ∧ w'.cell? ⟨w1.heap.size, 1, none⟩ = some (.int .i64 b) ∧ w'.cell? ⟨w1.heap.size, 2, none⟩ = some (.int .i64 c) ∧ w'.cell? ⟨w1.heap.size, 3, none⟩ = some (.int .i64 d) ∧ w'.cell? ⟨w1.heap.size + 1, 0, none⟩ = some (.int .i64 x) ∧ w'.cell? ⟨w1.heap.size + 1, 1, none⟩ = some (.int .i64 y) ∧ w'.cell? ⟨w2.heap.size, 0, none⟩ = some (.int .i64 (P.near x a c)) ∧ w'.cell? ⟨w2.heap.size, 1, none⟩ = some (.int .i64 (P.near y b d)) ∧ w'.cell? ⟨w3.heap.size + 1, 0, none⟩ = some (.int .i64 a) ∧ w'.cell? ⟨w3.heap.size + 1, 1, none⟩ = some (.int .i64 b) ∧ w'.cell? ⟨w3.heap.size + 1, 2, none⟩ = some (.int .i64 c) ∧ w'.cell? ⟨w3.heap.size + 1, 3, none⟩ = some (.int .i64 d) ∧ w'.cell? ⟨w3.heap.size + 1, 4, none⟩ = some (.int .i64 a) ∧ w'.cell? ⟨w3.heap.size + 1, 5, none⟩ = some (.int .i64 d) ∧ w'.cell? ⟨w3.heap.size + 1, 6, none⟩ = some (.int .i64 c) ∧ w'.cell? ⟨w3.heap.size + 1, 7, none⟩ = some (.int .i64 b) ∧ Q w w') ((go_split_ands; (repeat' (with_reducible apply And.intro)) <;> first | (with_reducible assumption) | ((repeat' (first | (with_reducible assumption) | (with_reducible exact cellE (by assumption)) | (with_reducible refine cellA _ ?_) | (with_reducible refine cellD ?_) | (with_reducible refine cellS (by first | (dsimp only; omega) | (simp; omega)) ?_) | (with_reducible refine Q.cell1 (by assumption) ?_))); done) | (with_reducible refine Q.size1 (by assumption) ?_; first | (with_reducible assumption) | (simp; done) | (simp; omega)) | ((repeat' (first | (with_reducible exact Q.refl _) | (with_reducible assumption) | (with_reducible refine Q.setCell ?_ ?_ _) | (with_reducible refine Q.alloc ?_ _) | (with_reducible refine Q.drew ?_) | (with_reducible refine Q.drewN ?_ _) | (with_reducible refine Q.trans ?_ (by assumption)) | omega | (dsimp only; omega) | (simp; done) | (simp; omega))); done) | omega | (simp; done) | (simp; omega) | (simp [*]; done))) (first | (go_split_ands; (go_at_call 9; refine (boxHasI _ _ _ _ _ _ _).mono ?_; rintro e w12 ⟨rfl, q12⟩; obtain ⟨c12, f12⟩ := q12.cells; have s12 := q12.size; (try simp at s12); (try have z120 : w.heap.size < w12.heap.size := (by omega)); (try have z121 : w.heap.size + 1 < w12.heap.size := (by omega)); (try have z122 : w.heap.size + 1 + 1 < w12.heap.size := (by omega)); (try have z123 : w.heap.size + 1 + 1 + 1 < w12.heap.size := (by omega))); (try have t12 := Nat.lt_of_succ_le s12)))
          all_goals
            go_wp2
            go_ret
            exact ⟨rfl, by (repeat' (first | exact Q.refl _ | assumption | refine Q.alloc ?_ _ | refine Q.drew ?_ | refine Q.drewN ?_ _ | refine Q.setCell ?_ ?_ _ | refine Q.trans ?_ (by assumption) | omega | (simp; done) | (simp; omega)))⟩
        · have eo : P.hasB a b c d x y = false := by rw [← Bool.not_eq_true, P.has_iff_near hb hv]; exact fun k => g2 k.2
          have gg2 : (P.near y b d == y) = false := by simpa using g2
          have eh2 : P.hasB a b c d x (P.near y b d) = true := by rw [g1] at eh; exact eh
          go_region_held3 (fun w' => w'.cell? ⟨w1.heap.size, 0, none⟩ = some (.int .i64 a) ∧ w'.cell? ⟨w1.heap.size, 1, none⟩ = some (.int .i64 b) ∧ w'.cell? ⟨w1.heap.size, 2, none⟩ = some (.int .i64 c) ∧ w'.cell? ⟨w1.heap.size, 3, none⟩ = some (.int .i64 d) ∧ w'.cell? ⟨w1.heap.size + 1, 0, none⟩ = some (.int .i64 x) ∧ w'.cell? ⟨w1.heap.size + 1, 1, none⟩ = some (.int .i64 y) ∧ w'.cell? ⟨w2.heap.size, 0, none⟩ = some (.int .i64 (P.near x a c)) ∧ w'.cell? ⟨w2.heap.size, 1, none⟩ = some (.int .i64 (P.near y b d)) ∧ w'.cell? ⟨w3.heap.size + 1, 0, none⟩ = some (.int .i64 a) ∧ w'.cell? ⟨w3.heap.size + 1, 1, none⟩ = some (.int .i64 b) ∧ w'.cell? ⟨w3.heap.size + 1, 2, none⟩ = some (.int .i64 c) ∧ w'.cell? ⟨w3.heap.size + 1, 3, none⟩ = some (.int .i64 d) ∧ w'.cell? ⟨w3.heap.size + 1, 4, none⟩ = some (.int .i64 a) ∧ w'.cell? ⟨w3.heap.size + 1, 5, none⟩ = some (.int .i64 d) ∧ w'.cell? ⟨w3.heap.size + 1, 6, none⟩ = some (.int .i64 c) ∧ w'.cell? ⟨w3.heap.size + 1, 7, none⟩ = some (.int .i64 b) ∧ Q w w') ((go_split_ands; (repeat' (with_reducible apply And.intro)) <;> first | (with_reducible assumption) | ((repeat' (first | (with_reducible assumption) | (with_reducible exact cellE (by assumption)) | (with_reducible refine cellA _ ?_) | (with_reducible refine cellD ?_) | (with_reducible refine cellS (by first | (dsimp only; omega) | (simp; omega)) ?_) | (with_reducible refine Q.cell1 (by assumption) ?_))); done) | (with_reducible refine Q.size1 (by assumption) ?_; first | (with_reducible assumption) | (simp; done) | (simp; omega)) | ((repeat' (first | (with_reducible exact Q.refl _) | (with_reducible assumption) | (with_reducible refine Q.setCell ?_ ?_ _) | (with_reducible refine Q.alloc ?_ _) | (with_reducible refine Q.drew ?_) | (with_reducible refine Q.drewN ?_ _) | (with_reducible refine Q.trans ?_ (by assumption)) | omega | (dsimp only; omega) | (simp; done) | (simp; omega))); done) | omega | (simp; done) | (simp; omega) | (simp [*]; done))) (first | (go_split_ands; (go_at_call 9; refine (boxHasI _ _ _ _ _ _ _).mono ?_; rintro e w12 ⟨rfl, q12⟩; obtain ⟨c12, f12⟩ := q12.cells; have s12 := q12.size; (try simp at s12); (try have z120 : w.heap.size < w12.heap.size := (by omega)); (try have z121 : w.heap.size + 1 < w12.heap.size := (by omega)); (try have z122 : w.heap.size + 1 + 1 < w12.heap.size := (by omega)); (try have z123 : w.heap.size + 1 + 1 + 1 < w12.heap.size := (by omega))); (try have t12 := Nat.lt_of_succ_le s12)))
          all_goals
            go_wp2
            go_ret
            exact ⟨rfl, by (repeat' (first | exact Q.refl _ | assumption | refine Q.alloc ?_ _ | refine Q.drew ?_ | refine Q.drewN ?_ _ | refine Q.setCell ?_ ?_ _ | refine Q.trans ?_ (by assumption) | omega | (simp; done) | (simp; omega)))⟩
      · have eo : P.hasB a b c d x y = false := by rw [← Bool.not_eq_true, P.has_iff_near hb hv]; exact fun k => g1 k.1
        have gg1 : (P.near x a c == x) = false := by simpa using g1
        go_region_held3 (fun w' => w'.cell? ⟨w1.heap.size, 0, none⟩ = some (.int .i64 a) ∧ w'.cell? ⟨w1.heap.size, 1, none⟩ = some (.int .i64 b) ∧ w'.cell? ⟨w1.heap.size, 2, none⟩ = some (.int .i64 c) ∧ w'.cell? ⟨w1.heap.size, 3, none⟩ = some (.int .i64 d) ∧ w'.cell? ⟨w1.heap.size + 1, 0, none⟩ = some (.int .i64 x) ∧ w'.cell? ⟨w1.heap.size + 1, 1, none⟩ = some (.int .i64 y) ∧ w'.cell? ⟨w2.heap.size, 0, none⟩ = some (.int .i64 (P.near x a c)) ∧ w'.cell? ⟨w2.heap.size, 1, none⟩ = some (.int .i64 (P.near y b d)) ∧ w'.cell? ⟨w3.heap.size + 1, 0, none⟩ = some (.int .i64 a) ∧ w'.cell? ⟨w3.heap.size + 1, 1, none⟩ = some (.int .i64 b) ∧ w'.cell? ⟨w3.heap.size + 1, 2, none⟩ = some (.int .i64 c) ∧ w'.cell? ⟨w3.heap.size + 1, 3, none⟩ = some (.int .i64 d) ∧ w'.cell? ⟨w3.heap.size + 1, 4, none⟩ = some (.int .i64 a) ∧ w'.cell? ⟨w3.heap.size + 1, 5, none⟩ = some (.int .i64 d) ∧ w'.cell? ⟨w3.heap.size + 1, 6, none⟩ = some (.int .i64 c) ∧ w'.cell? ⟨w3.heap.size + 1, 7, none⟩ = some (.int .i64 b) ∧ Q w w') ((go_split_ands; (repeat' (with_reducible apply And.intro)) <;> first | (with_reducible assumption) | ((repeat' (first | (with_reducible assumption) | (with_reducible exact cellE (by assumption)) | (with_reducible refine cellA _ ?_) | (with_reducible refine cellD ?_) | (with_reducible refine cellS (by first | (dsimp only; omega) | (simp; omega)) ?_) | (with_reducible refine Q.cell1 (by assumption) ?_))); done) | (with_reducible refine Q.size1 (by assumption) ?_; first | (with_reducible assumption) | (simp; done) | (simp; omega)) | ((repeat' (first | (with_reducible exact Q.refl _) | (with_reducible assumption) | (with_reducible refine Q.setCell ?_ ?_ _) | (with_reducible refine Q.alloc ?_ _) | (with_reducible refine Q.drew ?_) | (with_reducible refine Q.drewN ?_ _) | (with_reducible refine Q.trans ?_ (by assumption)) | omega | (dsimp only; omega) | (simp; done) | (simp; omega))); done) | omega | (simp; done) | (simp; omega) | (simp [*]; done))) (first | (go_split_ands; (go_at_call 9; refine (boxHasI _ _ _ _ _ _ _).mono ?_; rintro e w12 ⟨rfl, q12⟩; obtain ⟨c12, f12⟩ := q12.cells; have s12 := q12.size; (try simp at s12); (try have z120 : w.heap.size < w12.heap.size := (by omega)); (try have z121 : w.heap.size + 1 < w12.heap.size := (by omega)); (try have z122 : w.heap.size + 1 + 1 < w12.heap.size := (by omega)); (try have z123 : w.heap.size + 1 + 1 + 1 < w12.heap.size := (by omega))); (try have t12 := Nat.lt_of_succ_le s12)))
        all_goals
          go_wp2
          go_ret
          exact ⟨rfl, by (repeat' (first | exact Q.refl _ | assumption | refine Q.alloc ?_ _ | refine Q.drew ?_ | refine Q.drewN ?_ _ | refine Q.setCell ?_ ?_ _ | refine Q.trans ?_ (by assumption) | omega | (simp; done) | (simp; omega)))⟩
  · have hl1 : (1048576 : Int) < (cl : Int) := by omega
    go_enter Try.func3, Try.ntmps3
    go_wp2
    go_ret
    exact ⟨rfl, by (repeat' (first | exact Q.refl _ | assumption | refine Q.alloc ?_ _ | refine Q.drew ?_ | refine Q.drewN ?_ _ | refine Q.setCell ?_ ?_ _ | refine Q.trans ?_ (by assumption) | omega | (simp; done) | (simp; omega)))⟩

set_option maxRecDepth 100000 in
theorem lifted (os : Os) (started : os.Started) (H : Type) (enc : TypeId × Value → H) :
    ReturnsInHanded {} Try.checked os 3 .any (Rows.fnNearestSpec.pre6 enc Try.prog Try.f3 Rows.fnNearestRow.domain false) (Rows.fnNearestSpec.post enc Try.prog Try.f3 false true false false) := by
  refine returnsInHanded_of_change (C := Try.checked) own started (by kernel_rfl) Try.func3
    (ChangeSpec.witness6 (enc := enc) (C := Try.checked) false ⟨#[], #[.slice none 0 0], []⟩ 8 (by kernel_rfl) (by kernel_rfl) (by kernel_rfl) (by kernel_rfl)) ?_
  intro W base args ds gs before hval0 hW _ _
  have hval : ∀ (j : Nat) t v, Try.f3.params[j]? = some t → args[j]? = some v → Value.okWide Try.prog W .any base t v := hval0
  have hW' := hW
  obtain ⟨p, q, hA0, hV, rfl, _, _⟩ := hW
  have hA : DataW.TrodAll enc Try.prog W 0 (fun _ => true) true Try.f3.params.toList args.toList ds p := hA0
  rw [Try.params3] at hA hval
  obtain ⟨v0, vs0, d0, ds0, p0, q0, hargs, rfl, rfl, h0, r0⟩ := trodAll_cons hA
  obtain ⟨rfl, rfl, rfl⟩ := trodAll_nil r0
  obtain rfl : args = #[v0] := by cases args; simp_all
  obtain ⟨rfl, rfl⟩ := trodVars_none hV
  have k0 := h0
  have lt0 : ∀ x ∈ p0, x.block < W.heap.size := by obtain ⟨m, hm⟩ := k0; exact DataW.trod_lt m _ _ _ hm
  obtain ⟨b0, len0, cap0, rfl⟩ := okWide_slice Try.underlying22 (hval 0 22 v0 rfl rfl)
  obtain ⟨z0, w0⟩ : ∃ zs, IsRow W b0 len0 cap0 zs := by
    obtain ⟨fuel, hf⟩ := h0
    rcases open_ints Try.underlying22 Try.underlying5 (by kernel_rfl) hf with ⟨hcs, _⟩ | ⟨x, l, c, zs, hcs, _, hl, hm, hz, _, hcell, hwz⟩
    · simp [Value.cells] at hcs
      obtain ⟨rfl, rfl, rfl⟩ := hcs
      exact ⟨[], .inl ⟨rfl, rfl, rfl, rfl⟩⟩
    · simp [Value.cells] at hcs
      obtain ⟨rfl, rfl, rfl⟩ := hcs
      exact ⟨zs, .inr ⟨_, rfl, hl, hm, by simpa using hz, hcell, hwz⟩⟩
  clear hA0 hval0
  refine (walk b0 len0 cap0 z0 W w0).mono fun e W' ⟨he, bel⟩ => ?_
  subst he
  exact ⟨_, rfl, _, _, _, [], _, [], hW', trodAll_mk1 (shut_bool Try.underlying4 _), (trodAll_cons_mk (Below.trod laidOut (by kernel_rfl) (of_decide_eq_true (by kernel_rfl)) k0 bel lt0) trodAll_mk0), rfl, Below.frame bel _, fun h => by cases h⟩

theorem over : Rows.fnNearestRow.holds Try.pinned (OpenSpec.ofChange Rows.fnNearestSpec) :=
  OpenClaim.holds_of_wide 3 Try.f3 rfl rfl rfl rfl rfl rfl rfl ⟨rfl, rfl, rfl, rfl, rfl⟩ rfl rfl rfl rfl rfl (by kernel_rfl) Try.func3 (by kernel_rfl)
    (of_decide_eq_true (by kernel_rfl)) (by unfold Func.isWrapper; rw [if_neg (of_decide_eq_false (by kernel_rfl))]; exact ⟨rfl, rfl⟩)
    (fun os started H enc _ => lifted os started H enc)

/-- The statement. -/
theorem proved : Rows.FnNearestSaid := over
#print axioms proved
end Go.Proofs.Ytakmeajdkcojoaa.FnNearest
