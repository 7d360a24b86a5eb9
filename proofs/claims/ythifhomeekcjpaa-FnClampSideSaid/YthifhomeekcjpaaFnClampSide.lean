/-
  Proved: the law FnClampSide returns true for all arguments, and its arguments read afterwards as before. No condition.
-/
import Derived.Test.YthifhomeekcjpaaPlain3
import Derived.Test.YthifhomeekcjpaaVec
import Derived.Test.YthifhomeekcjpaaVDraw2
namespace Go.Proofs.Ythifhomeekcjpaa.FnClampSide
open Go.ChangeShapes Go.WideShapes Go.ChangeAt Go.RowKit
set_option linter.unusedVariables false

set_option maxHeartbeats 2000000 in
theorem walk (ca : Option Addr) (cl cc : Nat) (cz : List Int) (w : World) (wc : IsRow w ca cl cc cz) :
    Calls Try.prog 10 #[.slice ca cl cc] w fun e w' => e = .returned (.bool true) ∧ Q w w' := by
  by_cases hl : cl ≤ 1048576
  · have hl1 : ¬ (1048576 : Int) < (cl : Int) := by omega
    go_enter Try.func10, Try.ntmps10
    go_wp2_with fail
    refine (drawVecClamp _ _ _ cz _ wc).mono ?_
    rintro e w1 ⟨x, y, k, wx, wy, wk, rfl, q1⟩
    cases hk : P.clampB x y k
    · skip
      go_wp2_with fail
      refine (vecClampI _ _ _ _).mono ?_
      rintro e w2 ⟨rfl, q2⟩
      obtain ⟨c2, f2⟩ := q2.cells
      have s2 := q2.size
      (try simp at s2)
      (try have z2_0_0 : w.heap.size < w2.heap.size := (by omega))
      (try have z2_0_1 : w.heap.size + 1 < w2.heap.size := (by omega))
      (try have z2_0_2 : w.heap.size + 1 + 1 < w2.heap.size := (by omega))
      (try have z2_1_0 : w1.heap.size < w2.heap.size := (by omega))
      (try have z2_1_1 : w1.heap.size + 1 < w2.heap.size := (by omega))
      go_wp2_with fail
      refine (vecClampS _ _ _ _).mono ?_
      rintro e w3 ⟨rfl, q3⟩
      obtain ⟨c3, f3⟩ := q3.cells
      have s3 := q3.size
      (try simp at s3)
      (try have z3_0_0 : w.heap.size < w3.heap.size := (by omega))
      (try have z3_0_1 : w.heap.size + 1 < w3.heap.size := (by omega))
      (try have z3_0_2 : w.heap.size + 1 + 1 < w3.heap.size := (by omega))
      (try have z3_1_0 : w1.heap.size < w3.heap.size := (by omega))
      (try have z3_1_1 : w1.heap.size + 1 < w3.heap.size := (by omega))
      (try have z3_2_0 : w2.heap.size < w3.heap.size := (by omega))
      (try have z3_2_1 : w2.heap.size + 1 < w3.heap.size := (by omega))
      go_wp2
      go_ret
      exact ⟨rfl, by (repeat' (first | exact Q.refl _ | assumption | refine Q.alloc ?_ _ | refine Q.drew ?_ | refine Q.drewN ?_ _ | refine Q.setCell ?_ ?_ _ | refine Q.trans ?_ (by assumption) | omega | (simp; done) | (simp; omega)))⟩
    · obtain ⟨hv, k1, k2⟩ := P.clampB_iff.1 hk
      obtain ⟨a1, a2, a3, a4⟩ := P.vOk_iff.1 hv
      obtain ⟨b1, b2, b3, b4⟩ := P.vOk_iff.1 (P.clampI_ok hk)
      obtain ⟨e1, e2⟩ := P.clamp_side (c := x) hk
      obtain ⟨e3, e4⟩ := P.clamp_side (c := y) hk
      have e5 : P.clampV x x y k = P.clampI x x y k := by rw [P.clampV, hk, P.sel_true]
      have e6 : P.clampV y x y k = P.clampI y x y k := by rw [P.clampV, hk, P.sel_true]
      obtain ⟨m1, m2⟩ := P.ss_bd a1 a2
      obtain ⟨m3, m4⟩ := P.ss_bd a3 a4
      obtain ⟨m5, m6⟩ := P.cc_bd b1 b2 a1 a2
      obtain ⟨m7, m8⟩ := P.cc_bd b3 b4 a3 a4
      obtain ⟨m9, m10⟩ := P.ss_bd b1 b2
      obtain ⟨m11, m12⟩ := P.ss_bd b3 b4
      go_wp2_with fail
      refine (vecClampI _ _ _ _).mono ?_
      rintro e w2 ⟨rfl, q2⟩
      obtain ⟨c2, f2⟩ := q2.cells
      have s2 := q2.size
      (try simp at s2)
      (try have z2_0_0 : w.heap.size < w2.heap.size := (by omega))
      (try have z2_0_1 : w.heap.size + 1 < w2.heap.size := (by omega))
      (try have z2_0_2 : w.heap.size + 1 + 1 < w2.heap.size := (by omega))
      (try have z2_1_0 : w1.heap.size < w2.heap.size := (by omega))
      (try have z2_1_1 : w1.heap.size + 1 < w2.heap.size := (by omega))
      go_wp2_with fail
      refine (vecClampS _ _ _ _).mono ?_
      rintro e w3 ⟨rfl, q3⟩
      obtain ⟨c3, f3⟩ := q3.cells
      have s3 := q3.size
      (try simp at s3)
      (try have z3_0_0 : w.heap.size < w3.heap.size := (by omega))
      (try have z3_0_1 : w.heap.size + 1 < w3.heap.size := (by omega))
      (try have z3_0_2 : w.heap.size + 1 + 1 < w3.heap.size := (by omega))
      (try have z3_1_0 : w1.heap.size < w3.heap.size := (by omega))
      (try have z3_1_1 : w1.heap.size + 1 < w3.heap.size := (by omega))
      (try have z3_2_0 : w2.heap.size < w3.heap.size := (by omega))
      (try have z3_2_1 : w2.heap.size + 1 < w3.heap.size := (by omega))
      go_wp2
      go_ret
      exact ⟨rfl, by (repeat' (first | exact Q.refl _ | assumption | refine Q.alloc ?_ _ | refine Q.drew ?_ | refine Q.drewN ?_ _ | refine Q.setCell ?_ ?_ _ | refine Q.trans ?_ (by assumption) | omega | (simp; done) | (simp; omega)))⟩
  · have hl1 : (1048576 : Int) < (cl : Int) := by omega
    go_enter Try.func10, Try.ntmps10
    go_wp2
    go_ret
    exact ⟨rfl, by (repeat' (first | exact Q.refl _ | assumption | refine Q.alloc ?_ _ | refine Q.drew ?_ | refine Q.drewN ?_ _ | refine Q.setCell ?_ ?_ _ | refine Q.trans ?_ (by assumption) | omega | (simp; done) | (simp; omega)))⟩

set_option maxRecDepth 100000 in
theorem lifted (os : Os) (started : os.Started) (H : Type) (enc : TypeId × Value → H) :
    ReturnsInHanded {} Try.checked os 10 .any (Rows.fnClampSideSpec.pre6 enc Try.prog Try.f10 Rows.fnClampSideRow.domain false) (Rows.fnClampSideSpec.post enc Try.prog Try.f10 false true false false) := by
  refine returnsInHanded_of_change (C := Try.checked) own started (by kernel_rfl) Try.func10
    (ChangeSpec.witness6 (enc := enc) (C := Try.checked) false ⟨#[], #[.slice none 0 0], []⟩ 8 (by kernel_rfl) (by kernel_rfl) (by kernel_rfl) (by kernel_rfl)) ?_
  intro W base args ds gs before hval0 hW _ _
  have hval : ∀ (j : Nat) t v, Try.f10.params[j]? = some t → args[j]? = some v → Value.okWide Try.prog W .any base t v := hval0
  have hW' := hW
  obtain ⟨p, q, hA0, hV, rfl, _, _⟩ := hW
  have hA : DataW.TrodAll enc Try.prog W 0 (fun _ => true) true Try.f10.params.toList args.toList ds p := hA0
  rw [Try.params10] at hA hval
  obtain ⟨v0, vs0, d0, ds0, p0, q0, hargs, rfl, rfl, h0, r0⟩ := trodAll_cons hA
  obtain ⟨rfl, rfl, rfl⟩ := trodAll_nil r0
  obtain rfl : args = #[v0] := by cases args; simp_all
  obtain ⟨rfl, rfl⟩ := trodVars_none hV
  have k0 := h0
  have lt0 : ∀ x ∈ p0, x.block < W.heap.size := by obtain ⟨m, hm⟩ := k0; exact DataW.trod_lt m _ _ _ hm
  obtain ⟨b0, len0, cap0, rfl⟩ := okWide_slice Try.underlying42 (hval 0 42 v0 rfl rfl)
  obtain ⟨z0, w0⟩ : ∃ zs, IsRow W b0 len0 cap0 zs := by
    obtain ⟨fuel, hf⟩ := h0
    rcases open_ints Try.underlying42 Try.underlying5 (by kernel_rfl) hf with ⟨hcs, _⟩ | ⟨x, l, c, zs, hcs, _, hl, hm, hz, _, hcell, hwz⟩
    · simp [Value.cells] at hcs
      obtain ⟨rfl, rfl, rfl⟩ := hcs
      exact ⟨[], .inl ⟨rfl, rfl, rfl, rfl⟩⟩
    · simp [Value.cells] at hcs
      obtain ⟨rfl, rfl, rfl⟩ := hcs
      exact ⟨zs, .inr ⟨_, rfl, hl, hm, by simpa using hz, hcell, hwz⟩⟩
  clear hA0 hval0
  refine (walk b0 len0 cap0 z0 W w0).mono fun e W' ⟨he, bel⟩ => ?_
  subst he
  exact ⟨_, rfl, _, _, _, [], _, [], hW', trodAll_mk1 (shut_bool Try.underlying4 _), (trodAll_cons_mk (Below.trod laidOut (by kernel_rfl) (of_decide_eq_true (by kernel_rfl)) k0 bel lt0) trodAll_mk0), rfl, Below.frame bel _, fun h => by cases h⟩

theorem over : Rows.fnClampSideRow.holds Try.pinned (OpenSpec.ofChange Rows.fnClampSideSpec) :=
  OpenClaim.holds_of_wide 10 Try.f10 rfl rfl rfl rfl rfl rfl rfl ⟨rfl, rfl, rfl, rfl, rfl⟩ rfl rfl rfl rfl rfl (by kernel_rfl) Try.func10 (by kernel_rfl)
    (of_decide_eq_true (by kernel_rfl)) (by unfold Func.isWrapper; rw [if_neg (of_decide_eq_false (by kernel_rfl))]; exact ⟨rfl, rfl⟩)
    (fun os started H enc _ => lifted os started H enc)

/-- The statement. -/
theorem proved : Rows.FnClampSideSaid := over
#print axioms proved
end Go.Proofs.Ythifhomeekcjpaa.FnClampSide
