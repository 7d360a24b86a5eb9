/-
  Proved: the law FnExactVecOk returns true for all arguments, and its arguments read afterwards as before. No condition.
-/
import Derived.Test.YthifhomeekcjpaaVec
import Derived.Test.YthifhomeekcjpaaOpen
namespace Go.Proofs.Ythifhomeekcjpaa.FnExactVecOk
open Go.ChangeShapes Go.WideShapes Go.ChangeAt Go.RowKit
set_option linter.unusedVariables false

set_option maxHeartbeats 400000 in
theorem walk (vx vy : Int) (w : World) (wvx : (Lit.int .i64 vx).wf = true) (wvy : (Lit.int .i64 vy).wf = true) :
    Calls Try.prog 5 #[.agg #[.int .i64 vx, .int .i64 vy]] w fun e w' => e = .returned (.bool true) ∧ Q w w' := by
  go_enter Try.func5, Try.ntmps5
  go_wp2_with (first | (go_at_call 18; refine (toVec_any _ _ _).mono ?_; rintro e w1 ⟨rfl, q1⟩; obtain ⟨c1, f1⟩ := q1.cells; have s1 := q1.size; try simp at s1; try have z10 : w.heap.size < w1.heap.size := (by omega); try have z11 : w.heap.size + 1 < w1.heap.size := (by omega); try have z12 : w.heap.size + 2 < w1.heap.size := (by omega); try have z13 : w.heap.size + 3 < w1.heap.size := (by omega)) | (go_at_call 17; refine (vecOkS _ _ _).mono ?_; rintro e w2 ⟨rfl, q2⟩; obtain ⟨c2, f2⟩ := q2.cells; have s2 := q2.size; try simp at s2; try have z20 : w.heap.size < w2.heap.size := (by omega); try have z21 : w.heap.size + 1 < w2.heap.size := (by omega); try have z22 : w.heap.size + 2 < w2.heap.size := (by omega); try have z23 : w.heap.size + 3 < w2.heap.size := (by omega)) | (go_at_call 19; refine (vecOkI _ _ _).mono ?_; rintro e w3 ⟨rfl, q3⟩; obtain ⟨c3, f3⟩ := q3.cells; have s3 := q3.size; try simp at s3; try have z30 : w.heap.size < w3.heap.size := (by omega); try have z31 : w.heap.size + 1 < w3.heap.size := (by omega); try have z32 : w.heap.size + 2 < w3.heap.size := (by omega); try have z33 : w.heap.size + 3 < w3.heap.size := (by omega)))
  go_ret
  exact ⟨rfl, by (repeat' (first | exact Q.refl _ | assumption | refine Q.alloc ?_ _ | refine Q.drew ?_ | refine Q.drewN ?_ _ | refine Q.setCell ?_ ?_ _ | refine Q.trans ?_ (by assumption) | omega | (simp; done) | (simp; omega)))⟩

set_option maxRecDepth 100000 in
theorem lifted (os : Os) (started : os.Started) (H : Type) (enc : TypeId × Value → H) :
    ReturnsInHanded {} Try.checked os 5 .any (Rows.fnExactVecOkSpec.pre6 enc Try.prog Try.f5 Rows.fnExactVecOkRow.domain false) (Rows.fnExactVecOkSpec.post enc Try.prog Try.f5 false true false false) := by
  refine returnsInHanded_of_change (C := Try.checked) own started (by kernel_rfl) Try.func5
    (ChangeSpec.witness6 (enc := enc) (C := Try.checked) false ⟨#[], #[.agg #[.int .i64 0, .int .i64 0]], []⟩ 8 (by kernel_rfl) (by kernel_rfl) (by kernel_rfl) (by kernel_rfl)) ?_
  intro W base args ds gs before hval0 hW _ _
  have hval : ∀ (j : Nat) t v, Try.f5.params[j]? = some t → args[j]? = some v → Value.okWide Try.prog W .any base t v := hval0
  have hW' := hW
  obtain ⟨p, q, hA0, hV, rfl, _, _⟩ := hW
  have hA : DataW.TrodAll enc Try.prog W 0 (fun _ => true) true Try.f5.params.toList args.toList ds p := hA0
  rw [Try.params5] at hA hval
  obtain ⟨v0, vs0, d0, ds0, p0, q0, hargs, rfl, rfl, h0, r0⟩ := trodAll_cons hA
  obtain ⟨rfl, rfl, rfl⟩ := trodAll_nil r0
  obtain rfl : args = #[v0] := by cases args; simp_all
  obtain ⟨rfl, rfl⟩ := trodVars_none hV
  have k0 := h0
  have lt0 : ∀ x ∈ p0, x.block < W.heap.size := by obtain ⟨m, hm⟩ := k0; exact DataW.trod_lt m _ _ _ hm
  obtain ⟨x0, y0, rfl, wx0, wy0⟩ := open_vec Try.underlying25 (by kernel_rfl) (by kernel_rfl) Try.underlying3 Try.underlying3 (hval 0 25 v0 rfl rfl) h0
  clear hA0 hval0
  refine (walk x0 y0 W wx0 wy0).mono fun e W' ⟨he, bel⟩ => ?_
  subst he
  exact ⟨_, rfl, _, _, _, [], _, [], hW', trodAll_mk1 (shut_bool Try.underlying4 _), (trodAll_cons_mk (Below.trod laidOut (by kernel_rfl) (of_decide_eq_true (by kernel_rfl)) k0 bel lt0) trodAll_mk0), rfl, Below.frame bel _, fun h => by cases h⟩

theorem over : Rows.fnExactVecOkRow.holds Try.pinned (OpenSpec.ofChange Rows.fnExactVecOkSpec) :=
  OpenClaim.holds_of_wide 5 Try.f5 rfl rfl rfl rfl rfl rfl rfl ⟨rfl, rfl, rfl, rfl, rfl⟩ rfl rfl rfl rfl rfl (by kernel_rfl) Try.func5 (by kernel_rfl)
    (of_decide_eq_true (by kernel_rfl)) (by unfold Func.isWrapper; rw [if_neg (of_decide_eq_false (by kernel_rfl))]; exact ⟨rfl, rfl⟩)
    (fun os started H enc _ => lifted os started H enc)

/-- The statement. -/
theorem proved : Rows.FnExactVecOkSaid := over
#print axioms proved
end Go.Proofs.Ythifhomeekcjpaa.FnExactVecOk
