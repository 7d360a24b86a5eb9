/-
  Proved: the law FnExactVecDot returns true for all arguments, and its arguments read afterwards as before. No condition.
-/
import Derived.Test.YthifhomeekcjpaaVec
import Derived.Test.YthifhomeekcjpaaOpen
import Derived.Test.YthifhomeekcjpaaHeld
namespace Go.Proofs.Ythifhomeekcjpaa.FnExactVecDot
open Go.ChangeShapes Go.WideShapes Go.ChangeAt Go.RowKit
set_option linter.unusedVariables false

set_option maxHeartbeats 2000000 in
theorem walk (ux uy : Int) (vx vy : Int) (w : World) (wux : (Lit.int .i64 ux).wf = true) (wuy : (Lit.int .i64 uy).wf = true) (wvx : (Lit.int .i64 vx).wf = true) (wvy : (Lit.int .i64 vy).wf = true) :
    Calls Try.prog 8 #[.agg #[.int .i64 ux, .int .i64 uy], .agg #[.int .i64 vx, .int .i64 vy]] w fun e w' => e = .returned (.bool true) ∧ Q w w' := by
  go_enter Try.func8, Try.ntmps8
  go_wp2_with fail
  go_region_held3 (fun w' => w'.cell? ⟨w.heap.size, 0, none⟩ = some (.int .i64 ux) ∧ w'.cell? ⟨w.heap.size, 1, none⟩ = some (.int .i64 uy) ∧ w'.cell? ⟨w.heap.size + 1, 0, none⟩ = some (.int .i64 vx) ∧ w'.cell? ⟨w.heap.size + 1, 1, none⟩ = some (.int .i64 vy) ∧ w.heap.size < w'.heap.size ∧ w.heap.size + 1 < w'.heap.size ∧ Q w w')
    ((go_split_ands; (repeat' apply And.intro) <;> first | (with_reducible assumption) | (refine Q.cell1 (by assumption) ?_; first | assumption | (simp; done)) | (refine Q.size1 (by assumption) ?_; first | assumption | (simp; done) | (simp; omega)) | (refine Q.trans ?_ (by assumption); (repeat' (first | (with_reducible exact Q.refl _) | (with_reducible assumption) | (with_reducible refine Q.setCell ?_ ?_ _) | (with_reducible refine Q.alloc ?_ _) | (with_reducible refine Q.drew ?_) | (with_reducible refine Q.drewN ?_ _) | (with_reducible refine Q.trans ?_ (by assumption)) | omega | (dsimp only; omega) | (simp; done) | (simp; omega))); done) | (refine Q.drew ?_; (repeat' (first | (with_reducible exact Q.refl _) | (with_reducible assumption) | (with_reducible refine Q.setCell ?_ ?_ _) | (with_reducible refine Q.alloc ?_ _) | (with_reducible refine Q.drew ?_) | (with_reducible refine Q.drewN ?_ _) | (with_reducible refine Q.trans ?_ (by assumption)) | omega | (dsimp only; omega) | (simp; done) | (simp; omega))); done) | (refine Q.alloc ?_ _; (repeat' (first | (with_reducible exact Q.refl _) | (with_reducible assumption) | (with_reducible refine Q.setCell ?_ ?_ _) | (with_reducible refine Q.alloc ?_ _) | (with_reducible refine Q.drew ?_) | (with_reducible refine Q.drewN ?_ _) | (with_reducible refine Q.trans ?_ (by assumption)) | omega | (dsimp only; omega) | (simp; done) | (simp; omega))); done) | (refine Q.setCell ?_ ?_ _ <;> (repeat' (first | (with_reducible exact Q.refl _) | (with_reducible assumption) | (with_reducible refine Q.setCell ?_ ?_ _) | (with_reducible refine Q.alloc ?_ _) | (with_reducible refine Q.drew ?_) | (with_reducible refine Q.drewN ?_ _) | (with_reducible refine Q.trans ?_ (by assumption)) | omega | (dsimp only; omega) | (simp; done) | (simp; omega))); done) | omega | (simp; done) | (simp; omega) | (simp [*]; done)))
    (first | (go_at_call 18; refine (toVec_any _ _ _).mono ?_; rintro e w1 ⟨rfl, q1⟩; obtain ⟨c1, f1⟩ := q1.cells; have s1 := q1.size; (try simp at s1); (try have z10 : w.heap.size < w1.heap.size := (by omega)); (try have z11 : w.heap.size + 1 < w1.heap.size := (by omega)); (try have z12 : w.heap.size + 1 + 1 < w1.heap.size := (by omega)); (try have z13 : w.heap.size + 1 + 1 + 1 < w1.heap.size := (by omega))) | (go_at_call 25; refine (vecDotS _ _ _ _ _).mono ?_; rintro e w3 ⟨rfl, q3⟩; obtain ⟨c3, f3⟩ := q3.cells; have s3 := q3.size; (try simp at s3); (try have z30 : w.heap.size < w3.heap.size := (by omega)); (try have z31 : w.heap.size + 1 < w3.heap.size := (by omega)); (try have z32 : w.heap.size + 1 + 1 < w3.heap.size := (by omega)); (try have z33 : w.heap.size + 1 + 1 + 1 < w3.heap.size := (by omega))))
  go_wp2_with fail
  go_region_held3 (fun w' => w'.cell? ⟨w.heap.size, 0, none⟩ = some (.int .i64 ux) ∧ w'.cell? ⟨w.heap.size, 1, none⟩ = some (.int .i64 uy) ∧ w'.cell? ⟨w.heap.size + 1, 0, none⟩ = some (.int .i64 vx) ∧ w'.cell? ⟨w.heap.size + 1, 1, none⟩ = some (.int .i64 vy) ∧ w.heap.size < w'.heap.size ∧ w.heap.size + 1 < w'.heap.size ∧ Q w w')
    ((go_split_ands; (repeat' apply And.intro) <;> first | (with_reducible assumption) | (refine Q.cell1 (by assumption) ?_; first | assumption | (simp; done)) | (refine Q.size1 (by assumption) ?_; first | assumption | (simp; done) | (simp; omega)) | (refine Q.trans ?_ (by assumption); (repeat' (first | (with_reducible exact Q.refl _) | (with_reducible assumption) | (with_reducible refine Q.setCell ?_ ?_ _) | (with_reducible refine Q.alloc ?_ _) | (with_reducible refine Q.drew ?_) | (with_reducible refine Q.drewN ?_ _) | (with_reducible refine Q.trans ?_ (by assumption)) | omega | (dsimp only; omega) | (simp; done) | (simp; omega))); done) | (refine Q.drew ?_; (repeat' (first | (with_reducible exact Q.refl _) | (with_reducible assumption) | (with_reducible refine Q.setCell ?_ ?_ _) | (with_reducible refine Q.alloc ?_ _) | (with_reducible refine Q.drew ?_) | (with_reducible refine Q.drewN ?_ _) | (with_reducible refine Q.trans ?_ (by assumption)) | omega | (dsimp only; omega) | (simp; done) | (simp; omega))); done) | (refine Q.alloc ?_ _; (repeat' (first | (with_reducible exact Q.refl _) | (with_reducible assumption) | (with_reducible refine Q.setCell ?_ ?_ _) | (with_reducible refine Q.alloc ?_ _) | (with_reducible refine Q.drew ?_) | (with_reducible refine Q.drewN ?_ _) | (with_reducible refine Q.trans ?_ (by assumption)) | omega | (dsimp only; omega) | (simp; done) | (simp; omega))); done) | (refine Q.setCell ?_ ?_ _ <;> (repeat' (first | (with_reducible exact Q.refl _) | (with_reducible assumption) | (with_reducible refine Q.setCell ?_ ?_ _) | (with_reducible refine Q.alloc ?_ _) | (with_reducible refine Q.drew ?_) | (with_reducible refine Q.drewN ?_ _) | (with_reducible refine Q.trans ?_ (by assumption)) | omega | (dsimp only; omega) | (simp; done) | (simp; omega))); done) | omega | (simp; done) | (simp; omega) | (simp [*]; done)))
    (first | (go_at_call 18; refine (toVec_any _ _ _).mono ?_; rintro e w4 ⟨rfl, q4⟩; obtain ⟨c4, f4⟩ := q4.cells; have s4 := q4.size; (try simp at s4); (try have z40 : w.heap.size < w4.heap.size := (by omega)); (try have z41 : w.heap.size + 1 < w4.heap.size := (by omega)); (try have z42 : w.heap.size + 1 + 1 < w4.heap.size := (by omega)); (try have z43 : w.heap.size + 1 + 1 + 1 < w4.heap.size := (by omega))) | (go_at_call 26; refine (vecDotI _ _ _ _ _).mono ?_; rintro e w5 ⟨rfl, q5⟩; obtain ⟨c5, f5⟩ := q5.cells; have s5 := q5.size; (try simp at s5); (try have z50 : w.heap.size < w5.heap.size := (by omega)); (try have z51 : w.heap.size + 1 < w5.heap.size := (by omega)); (try have z52 : w.heap.size + 1 + 1 < w5.heap.size := (by omega)); (try have z53 : w.heap.size + 1 + 1 + 1 < w5.heap.size := (by omega))))
  go_wp2
  go_ret
  exact ⟨rfl, by (repeat' (first | (with_reducible exact Q.refl _) | (with_reducible assumption) | (with_reducible refine Q.setCell ?_ ?_ _) | (with_reducible refine Q.alloc ?_ _) | (with_reducible refine Q.drew ?_) | (with_reducible refine Q.drewN ?_ _) | (with_reducible refine Q.trans ?_ (by assumption)) | omega | (dsimp only; omega) | (simp; done) | (simp; omega)))⟩

set_option maxRecDepth 100000 in
theorem lifted (os : Os) (started : os.Started) (H : Type) (enc : TypeId × Value → H) :
    ReturnsInHanded {} Try.checked os 8 .any (Rows.fnExactVecDotSpec.pre6 enc Try.prog Try.f8 Rows.fnExactVecDotRow.domain false) (Rows.fnExactVecDotSpec.post enc Try.prog Try.f8 false true false false) := by
  refine returnsInHanded_of_change (C := Try.checked) own started (by kernel_rfl) Try.func8
    (ChangeSpec.witness6 (enc := enc) (C := Try.checked) false ⟨#[], #[.agg #[.int .i64 0, .int .i64 0], .agg #[.int .i64 0, .int .i64 0]], []⟩ 8 (by kernel_rfl) (by kernel_rfl) (by kernel_rfl) (by kernel_rfl)) ?_
  intro W base args ds gs before hval0 hW _ _
  have hval : ∀ (j : Nat) t v, Try.f8.params[j]? = some t → args[j]? = some v → Value.okWide Try.prog W .any base t v := hval0
  have hW' := hW
  obtain ⟨p, q, hA0, hV, rfl, _, _⟩ := hW
  have hA : DataW.TrodAll enc Try.prog W 0 (fun _ => true) true Try.f8.params.toList args.toList ds p := hA0
  rw [Try.params8] at hA hval
  obtain ⟨v0, vs0, d0, ds0, p0, q0, hargs, rfl, rfl, h0, r0⟩ := trodAll_cons hA
  obtain ⟨v1, vs1, d1, ds1, p1, q1, rfl, rfl, rfl, h1, r1⟩ := trodAll_cons r0
  obtain ⟨rfl, rfl, rfl⟩ := trodAll_nil r1
  obtain rfl : args = #[v0, v1] := by cases args; simp_all
  obtain ⟨rfl, rfl⟩ := trodVars_none hV
  have k0 := h0
  have lt0 : ∀ x ∈ p0, x.block < W.heap.size := by obtain ⟨m, hm⟩ := k0; exact DataW.trod_lt m _ _ _ hm
  obtain ⟨x0, y0, rfl, wx0, wy0⟩ := open_vec Try.underlying25 (by kernel_rfl) (by kernel_rfl) Try.underlying3 Try.underlying3 (hval 0 25 v0 rfl rfl) h0
  have k1 := h1
  have lt1 : ∀ x ∈ p1, x.block < W.heap.size := by obtain ⟨m, hm⟩ := k1; exact DataW.trod_lt m _ _ _ hm
  obtain ⟨x1, y1, rfl, wx1, wy1⟩ := open_vec Try.underlying25 (by kernel_rfl) (by kernel_rfl) Try.underlying3 Try.underlying3 (hval 1 25 v1 rfl rfl) h1
  clear hA0 hval0
  refine (walk x0 y0 x1 y1 W wx0 wy0 wx1 wy1).mono fun e W' ⟨he, bel⟩ => ?_
  subst he
  exact ⟨_, rfl, _, _, _, [], _, [], hW', trodAll_mk1 (shut_bool Try.underlying4 _), (trodAll_cons_mk (Below.trod laidOut (by kernel_rfl) (of_decide_eq_true (by kernel_rfl)) k0 bel lt0) (trodAll_cons_mk (Below.trod laidOut (by kernel_rfl) (of_decide_eq_true (by kernel_rfl)) k1 bel lt1) trodAll_mk0)), rfl, Below.frame bel _, fun h => by cases h⟩

theorem over : Rows.fnExactVecDotRow.holds Try.pinned (OpenSpec.ofChange Rows.fnExactVecDotSpec) :=
  OpenClaim.holds_of_wide 8 Try.f8 rfl rfl rfl rfl rfl rfl rfl ⟨rfl, rfl, rfl, rfl, rfl⟩ rfl rfl rfl rfl rfl (by kernel_rfl) Try.func8 (by kernel_rfl)
    (of_decide_eq_true (by kernel_rfl)) (by unfold Func.isWrapper; rw [if_neg (of_decide_eq_false (by kernel_rfl))]; exact ⟨rfl, rfl⟩)
    (fun os started H enc _ => lifted os started H enc)

/-- The statement. -/
theorem proved : Rows.FnExactVecDotSaid := over
#print axioms proved
end Go.Proofs.Ythifhomeekcjpaa.FnExactVecDot
