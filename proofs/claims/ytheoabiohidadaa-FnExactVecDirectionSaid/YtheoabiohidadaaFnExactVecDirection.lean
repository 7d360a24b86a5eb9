/-
  Proved: the law FnExactVecDirection returns true for all arguments, and its arguments read afterwards as before. No condition.
-/
import Derived.Test.YtheoabiohidadaaVec
import Derived.Test.YtheoabiohidadaaDirT
import Derived.Test.YtheoabiohidadaaOpen
namespace Go.Proofs.Ytheoabiohidadaa.FnExactVecDirection
open Go.ChangeShapes Go.WideShapes Go.ChangeAt Go.RowKit
set_option linter.unusedVariables false

set_option maxHeartbeats 2000000 in
theorem walk (d : Int) (w : World) (wd : (Lit.int .i64 d).wf = true) :
    Calls Try.prog 3 #[.int .i64 d] w fun e w' => e = .returned (.bool true) ∧ Q w w' := by
  go_enter Try.func3, Try.ntmps3
  go_wp2_with fail
  refine (vecDirectionS _ wd _).mono ?_
  rintro e w1 ⟨rfl, q1⟩
  obtain ⟨c1, f1⟩ := q1.cells
  have s1 := q1.size
  (try simp at s1)
  (try have z1_0_0 : w.heap.size < w1.heap.size := (by omega))
  (try have z1_0_1 : w.heap.size + 1 < w1.heap.size := (by omega))
  (try have z1_0_2 : w.heap.size + 1 + 1 < w1.heap.size := (by omega))
  go_wp2_with fail
  refine (vecDirectionI _ wd _).mono ?_
  rintro e w2 ⟨rfl, q2⟩
  obtain ⟨c2, f2⟩ := q2.cells
  have s2 := q2.size
  (try simp at s2)
  (try have z2_0_0 : w.heap.size < w2.heap.size := (by omega))
  (try have z2_0_1 : w.heap.size + 1 < w2.heap.size := (by omega))
  (try have z2_0_2 : w.heap.size + 1 + 1 < w2.heap.size := (by omega))
  (try have z2_1_0 : w1.heap.size < w2.heap.size := (by omega))
  (try have z2_1_1 : w1.heap.size + 1 < w2.heap.size := (by omega))
  go_wp2_with fail
  refine (eqVec_same _ _ _).mono ?_
  rintro e w3 ⟨rfl, q3⟩
  obtain ⟨c3, f3⟩ := q3.cells
  have s3 := q3.size
  (try simp at s3)
  (try have z3_0_0 : w.heap.size < w3.heap.size := (by omega))
  (try have z3_0_1 : w.heap.size + 1 < w3.heap.size := (by omega))
  (try have z3_0_2 : w.heap.size + 1 + 1 < w3.heap.size := (by omega))
  (try have z3_1_0 : w1.heap.size < w3.heap.size := (by omega))
  (try have z3_1_1 : w1.heap.size + 1 < w3.heap.size := (by omega))
  (try have z3_2_0 : w2.heap.size < w3.heap.size := (by omega))
  (try have z3_2_1 : w2.heap.size + 1 < w3.heap.size := (by omega))
  go_wp2
  go_ret
  exact ⟨rfl, by (repeat' (first | exact Q.refl _ | assumption | refine Q.alloc ?_ _ | refine Q.drew ?_ | refine Q.drewN ?_ _ | refine Q.setCell ?_ ?_ _ | refine Q.trans ?_ (by assumption) | omega | (simp; done) | (simp; omega)))⟩

set_option maxRecDepth 100000 in
theorem lifted (os : Os) (started : os.Started) (H : Type) (enc : TypeId × Value → H) :
    ReturnsInHanded {} Try.checked os 3 .any (Rows.fnExactVecDirectionSpec.pre6 enc Try.prog Try.f3 Rows.fnExactVecDirectionRow.domain false) (Rows.fnExactVecDirectionSpec.post enc Try.prog Try.f3 false true false false) := by
  refine returnsInHanded_of_change (C := Try.checked) own started (by kernel_rfl) Try.func3
    (ChangeSpec.witness6 (enc := enc) (C := Try.checked) false ⟨#[], #[.int .i64 0], []⟩ 8 (by kernel_rfl) (by kernel_rfl) (by kernel_rfl) (by kernel_rfl)) ?_
  intro W base args ds gs before hval0 hW _ _
  have hval : ∀ (j : Nat) t v, Try.f3.params[j]? = some t → args[j]? = some v → Value.okWide Try.prog W .any base t v := hval0
  have hW' := hW
  obtain ⟨p, q, hA0, hV, rfl, _, _⟩ := hW
  have hA : DataW.TrodAll enc Try.prog W 0 (fun _ => true) true Try.f3.params.toList args.toList ds p := hA0
  rw [Try.params3] at hA hval
  obtain ⟨v0, vs0, d0, ds0, p0, q0, hargs, rfl, rfl, h0, r0⟩ := trodAll_cons hA
  obtain ⟨rfl, rfl, rfl⟩ := trodAll_nil r0
  obtain rfl : args = #[v0] := by cases args; simp_all
  obtain ⟨rfl, rfl⟩ := trodVars_none hV
  have k0 := h0
  have lt0 : ∀ x ∈ p0, x.block < W.heap.size := by obtain ⟨m, hm⟩ := k0; exact DataW.trod_lt m _ _ _ hm
  obtain ⟨a0, e0, w0⟩ : ∃ a : Int, v0 = .int .i64 a ∧ (Lit.int .i64 a).wf = true := by obtain ⟨a, rfl, _, _, wa⟩ := open_int Try.underlying3 (hval 0 3 v0 rfl rfl) h0; exact ⟨a, rfl, wa⟩
  subst e0
  clear hA0 hval0
  refine (walk a0 W w0).mono fun e W' ⟨he, bel⟩ => ?_
  subst he
  exact ⟨_, rfl, _, _, _, [], _, [], hW', trodAll_mk1 (shut_bool Try.underlying4 _), (trodAll_cons_mk (Below.trod laidOut (by kernel_rfl) (of_decide_eq_true (by kernel_rfl)) k0 bel lt0) trodAll_mk0), rfl, Below.frame bel _, fun h => by cases h⟩

theorem over : Rows.fnExactVecDirectionRow.holds Try.pinned (OpenSpec.ofChange Rows.fnExactVecDirectionSpec) :=
  OpenClaim.holds_of_wide 3 Try.f3 rfl rfl rfl rfl rfl rfl rfl ⟨rfl, rfl, rfl, rfl, rfl⟩ rfl rfl rfl rfl rfl (by kernel_rfl) Try.func3 (by kernel_rfl)
    (of_decide_eq_true (by kernel_rfl)) (by unfold Func.isWrapper; rw [if_neg (of_decide_eq_false (by kernel_rfl))]; exact ⟨rfl, rfl⟩)
    (fun os started H enc _ => lifted os started H enc)

/-- The statement. -/
theorem proved : Rows.FnExactVecDirectionSaid := over
#print axioms proved
end Go.Proofs.Ytheoabiohidadaa.FnExactVecDirection
