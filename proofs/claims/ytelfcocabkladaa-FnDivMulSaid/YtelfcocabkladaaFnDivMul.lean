/-
  Proved: the law FnDivMul returns true for all arguments, and its arguments read afterwards as before. No condition.
-/
import Derived.Test.YtelfcocabkladaaPlain2
import Derived.Test.YtelfcocabkladaaFix
import Derived.Test.YtelfcocabkladaaDraw
namespace Go.Proofs.Ytelfcocabkladaa.FnDivMul
open Go.ChangeShapes Go.WideShapes Go.ChangeAt Go.RowKit
set_option linter.unusedVariables false

set_option maxHeartbeats 400000 in
theorem walk (ca : Option Addr) (cl cc : Nat) (cz : List Int) (w : World) (wc : IsRow w ca cl cc cz) :
    Calls Try.prog 16 #[.slice ca cl cc] w fun e w' => e = .returned (.bool true) ∧ Q w w' := by
  by_cases hl : cl ≤ 1048576
  · have hl1 : ¬ (1048576 : Int) < (cl : Int) := by omega
    go_enter Try.func16, Try.ntmps16
    go_wp2_with fail
    refine (drawFixDiv _ _ _ cz _ wc).mono ?_
    rintro e w1 ⟨a, b, wa, wb, rfl, q1⟩
    cases hk : P.divB a b
    · go_wp2_with (first | (go_at_call 20; refine (fixAddS _ _ _).mono ?_; rintro e w' ⟨rfl, rfl⟩) | (go_at_call 19; refine (fixAddI _ _ _).mono ?_; rintro e w5 ⟨rfl, q5⟩; obtain ⟨c5, f5⟩ := q5.cells; have s5 := q5.size; try simp at s5; try have z50 : w.heap.size < w5.heap.size := (by omega); try have z51 : w.heap.size + 1 < w5.heap.size := (by omega); try have z52 : w.heap.size + 2 < w5.heap.size := (by omega); try have z53 : w.heap.size + 3 < w5.heap.size := (by omega)) | (go_at_call 25; refine (fixMulS _ _ _).mono ?_; rintro e w' ⟨rfl, rfl⟩) | (go_at_call 24; refine (fixMulI _ _ _).mono ?_; rintro e w6 ⟨rfl, q6⟩; obtain ⟨c6, f6⟩ := q6.cells; have s6 := q6.size; try simp at s6; try have z60 : w.heap.size < w6.heap.size := (by omega); try have z61 : w.heap.size + 1 < w6.heap.size := (by omega); try have z62 : w.heap.size + 2 < w6.heap.size := (by omega); try have z63 : w.heap.size + 3 < w6.heap.size := (by omega)) | (go_at_call 31; refine (fixDivS _ _ _).mono ?_; rintro e w' ⟨rfl, rfl⟩) | (go_at_call 30; refine (fixDivI _ _ _).mono ?_; rintro e w7 ⟨rfl, q7⟩; obtain ⟨c7, f7⟩ := q7.cells; have s7 := q7.size; try simp at s7; try have z70 : w.heap.size < w7.heap.size := (by omega); try have z71 : w.heap.size + 1 < w7.heap.size := (by omega); try have z72 : w.heap.size + 2 < w7.heap.size := (by omega); try have z73 : w.heap.size + 3 < w7.heap.size := (by omega)) | (go_at_call 28; refine (fixSqrtS _ _).mono ?_; rintro e w' ⟨rfl, rfl⟩) | (go_at_call 27; refine (fixSqrtI _ _).mono ?_; rintro e w' ⟨rfl, rfl⟩) | (go_at_call 21; refine (fixOkS _ _).mono ?_; rintro e w' ⟨rfl, rfl⟩) | (go_at_call 22; refine (fixOkI _ _).mono ?_; rintro e w' ⟨rfl, rfl⟩))
      go_ret
      exact ⟨rfl, by (repeat' (first | exact Q.refl _ | assumption | refine Q.alloc ?_ _ | refine Q.drew ?_ | refine Q.drewN ?_ _ | refine Q.setCell ?_ ?_ _ | refine Q.trans ?_ (by assumption) | omega | (simp; done) | (simp; omega)))⟩
    · obtain ⟨ha, _, _, _⟩ := P.divB_iff.1 hk
      obtain ⟨a1, a2⟩ := P.fixOk_iff.1 ha
      obtain ⟨e1, e2, e3⟩ := P.div_mul hk
      clear ha
      generalize hx : P.mulV (P.divV a b) b = x at *
      by_cases ha0 : 0 ≤ a
      · obtain ⟨x1, x2⟩ := e2 ha0
        have x3 : -x ≤ a := by omega
        clear e2 e3
        by_cases hx0 : x < -x
        · by_cases ha1 : a < -a
          · omega
          · go_wp2_with (first | (go_at_call 20; refine (fixAddS _ _ _).mono ?_; rintro e w' ⟨rfl, rfl⟩) | (go_at_call 19; refine (fixAddI _ _ _).mono ?_; rintro e w5 ⟨rfl, q5⟩; obtain ⟨c5, f5⟩ := q5.cells; have s5 := q5.size; try simp at s5; try have z50 : w.heap.size < w5.heap.size := (by omega); try have z51 : w.heap.size + 1 < w5.heap.size := (by omega); try have z52 : w.heap.size + 2 < w5.heap.size := (by omega); try have z53 : w.heap.size + 3 < w5.heap.size := (by omega)) | (go_at_call 25; refine (fixMulS _ _ _).mono ?_; rintro e w' ⟨rfl, rfl⟩) | (go_at_call 24; refine (fixMulI _ _ _).mono ?_; rintro e w6 ⟨rfl, q6⟩; obtain ⟨c6, f6⟩ := q6.cells; have s6 := q6.size; try simp at s6; try have z60 : w.heap.size < w6.heap.size := (by omega); try have z61 : w.heap.size + 1 < w6.heap.size := (by omega); try have z62 : w.heap.size + 2 < w6.heap.size := (by omega); try have z63 : w.heap.size + 3 < w6.heap.size := (by omega)) | (go_at_call 31; refine (fixDivS _ _ _).mono ?_; rintro e w' ⟨rfl, rfl⟩) | (go_at_call 30; refine (fixDivI _ _ _).mono ?_; rintro e w7 ⟨rfl, q7⟩; obtain ⟨c7, f7⟩ := q7.cells; have s7 := q7.size; try simp at s7; try have z70 : w.heap.size < w7.heap.size := (by omega); try have z71 : w.heap.size + 1 < w7.heap.size := (by omega); try have z72 : w.heap.size + 2 < w7.heap.size := (by omega); try have z73 : w.heap.size + 3 < w7.heap.size := (by omega)) | (go_at_call 28; refine (fixSqrtS _ _).mono ?_; rintro e w' ⟨rfl, rfl⟩) | (go_at_call 27; refine (fixSqrtI _ _).mono ?_; rintro e w' ⟨rfl, rfl⟩) | (go_at_call 21; refine (fixOkS _ _).mono ?_; rintro e w' ⟨rfl, rfl⟩) | (go_at_call 22; refine (fixOkI _ _).mono ?_; rintro e w' ⟨rfl, rfl⟩))
            go_ret
            exact ⟨rfl, by (repeat' (first | exact Q.refl _ | assumption | refine Q.alloc ?_ _ | refine Q.drew ?_ | refine Q.drewN ?_ _ | refine Q.setCell ?_ ?_ _ | refine Q.trans ?_ (by assumption) | omega | (simp; done) | (simp; omega)))⟩
        · by_cases ha1 : a < -a
          · omega
          · go_wp2_with (first | (go_at_call 20; refine (fixAddS _ _ _).mono ?_; rintro e w' ⟨rfl, rfl⟩) | (go_at_call 19; refine (fixAddI _ _ _).mono ?_; rintro e w5 ⟨rfl, q5⟩; obtain ⟨c5, f5⟩ := q5.cells; have s5 := q5.size; try simp at s5; try have z50 : w.heap.size < w5.heap.size := (by omega); try have z51 : w.heap.size + 1 < w5.heap.size := (by omega); try have z52 : w.heap.size + 2 < w5.heap.size := (by omega); try have z53 : w.heap.size + 3 < w5.heap.size := (by omega)) | (go_at_call 25; refine (fixMulS _ _ _).mono ?_; rintro e w' ⟨rfl, rfl⟩) | (go_at_call 24; refine (fixMulI _ _ _).mono ?_; rintro e w6 ⟨rfl, q6⟩; obtain ⟨c6, f6⟩ := q6.cells; have s6 := q6.size; try simp at s6; try have z60 : w.heap.size < w6.heap.size := (by omega); try have z61 : w.heap.size + 1 < w6.heap.size := (by omega); try have z62 : w.heap.size + 2 < w6.heap.size := (by omega); try have z63 : w.heap.size + 3 < w6.heap.size := (by omega)) | (go_at_call 31; refine (fixDivS _ _ _).mono ?_; rintro e w' ⟨rfl, rfl⟩) | (go_at_call 30; refine (fixDivI _ _ _).mono ?_; rintro e w7 ⟨rfl, q7⟩; obtain ⟨c7, f7⟩ := q7.cells; have s7 := q7.size; try simp at s7; try have z70 : w.heap.size < w7.heap.size := (by omega); try have z71 : w.heap.size + 1 < w7.heap.size := (by omega); try have z72 : w.heap.size + 2 < w7.heap.size := (by omega); try have z73 : w.heap.size + 3 < w7.heap.size := (by omega)) | (go_at_call 28; refine (fixSqrtS _ _).mono ?_; rintro e w' ⟨rfl, rfl⟩) | (go_at_call 27; refine (fixSqrtI _ _).mono ?_; rintro e w' ⟨rfl, rfl⟩) | (go_at_call 21; refine (fixOkS _ _).mono ?_; rintro e w' ⟨rfl, rfl⟩) | (go_at_call 22; refine (fixOkI _ _).mono ?_; rintro e w' ⟨rfl, rfl⟩))
            go_ret
            exact ⟨rfl, by (repeat' (first | exact Q.refl _ | assumption | refine Q.alloc ?_ _ | refine Q.drew ?_ | refine Q.drewN ?_ _ | refine Q.setCell ?_ ?_ _ | refine Q.trans ?_ (by assumption) | omega | (simp; done) | (simp; omega)))⟩
      · obtain ⟨x1, x2⟩ := e3 (by omega)
        have x3 : -x ≤ -a := by omega
        clear e2 e3
        have ha1 : a < -a := by omega
        by_cases hx0 : x < -x
        · go_wp2_with (first | (go_at_call 20; refine (fixAddS _ _ _).mono ?_; rintro e w' ⟨rfl, rfl⟩) | (go_at_call 19; refine (fixAddI _ _ _).mono ?_; rintro e w5 ⟨rfl, q5⟩; obtain ⟨c5, f5⟩ := q5.cells; have s5 := q5.size; try simp at s5; try have z50 : w.heap.size < w5.heap.size := (by omega); try have z51 : w.heap.size + 1 < w5.heap.size := (by omega); try have z52 : w.heap.size + 2 < w5.heap.size := (by omega); try have z53 : w.heap.size + 3 < w5.heap.size := (by omega)) | (go_at_call 25; refine (fixMulS _ _ _).mono ?_; rintro e w' ⟨rfl, rfl⟩) | (go_at_call 24; refine (fixMulI _ _ _).mono ?_; rintro e w6 ⟨rfl, q6⟩; obtain ⟨c6, f6⟩ := q6.cells; have s6 := q6.size; try simp at s6; try have z60 : w.heap.size < w6.heap.size := (by omega); try have z61 : w.heap.size + 1 < w6.heap.size := (by omega); try have z62 : w.heap.size + 2 < w6.heap.size := (by omega); try have z63 : w.heap.size + 3 < w6.heap.size := (by omega)) | (go_at_call 31; refine (fixDivS _ _ _).mono ?_; rintro e w' ⟨rfl, rfl⟩) | (go_at_call 30; refine (fixDivI _ _ _).mono ?_; rintro e w7 ⟨rfl, q7⟩; obtain ⟨c7, f7⟩ := q7.cells; have s7 := q7.size; try simp at s7; try have z70 : w.heap.size < w7.heap.size := (by omega); try have z71 : w.heap.size + 1 < w7.heap.size := (by omega); try have z72 : w.heap.size + 2 < w7.heap.size := (by omega); try have z73 : w.heap.size + 3 < w7.heap.size := (by omega)) | (go_at_call 28; refine (fixSqrtS _ _).mono ?_; rintro e w' ⟨rfl, rfl⟩) | (go_at_call 27; refine (fixSqrtI _ _).mono ?_; rintro e w' ⟨rfl, rfl⟩) | (go_at_call 21; refine (fixOkS _ _).mono ?_; rintro e w' ⟨rfl, rfl⟩) | (go_at_call 22; refine (fixOkI _ _).mono ?_; rintro e w' ⟨rfl, rfl⟩))
          go_ret
          exact ⟨rfl, by (repeat' (first | exact Q.refl _ | assumption | refine Q.alloc ?_ _ | refine Q.drew ?_ | refine Q.drewN ?_ _ | refine Q.setCell ?_ ?_ _ | refine Q.trans ?_ (by assumption) | omega | (simp; done) | (simp; omega)))⟩
        · go_wp2_with (first | (go_at_call 20; refine (fixAddS _ _ _).mono ?_; rintro e w' ⟨rfl, rfl⟩) | (go_at_call 19; refine (fixAddI _ _ _).mono ?_; rintro e w5 ⟨rfl, q5⟩; obtain ⟨c5, f5⟩ := q5.cells; have s5 := q5.size; try simp at s5; try have z50 : w.heap.size < w5.heap.size := (by omega); try have z51 : w.heap.size + 1 < w5.heap.size := (by omega); try have z52 : w.heap.size + 2 < w5.heap.size := (by omega); try have z53 : w.heap.size + 3 < w5.heap.size := (by omega)) | (go_at_call 25; refine (fixMulS _ _ _).mono ?_; rintro e w' ⟨rfl, rfl⟩) | (go_at_call 24; refine (fixMulI _ _ _).mono ?_; rintro e w6 ⟨rfl, q6⟩; obtain ⟨c6, f6⟩ := q6.cells; have s6 := q6.size; try simp at s6; try have z60 : w.heap.size < w6.heap.size := (by omega); try have z61 : w.heap.size + 1 < w6.heap.size := (by omega); try have z62 : w.heap.size + 2 < w6.heap.size := (by omega); try have z63 : w.heap.size + 3 < w6.heap.size := (by omega)) | (go_at_call 31; refine (fixDivS _ _ _).mono ?_; rintro e w' ⟨rfl, rfl⟩) | (go_at_call 30; refine (fixDivI _ _ _).mono ?_; rintro e w7 ⟨rfl, q7⟩; obtain ⟨c7, f7⟩ := q7.cells; have s7 := q7.size; try simp at s7; try have z70 : w.heap.size < w7.heap.size := (by omega); try have z71 : w.heap.size + 1 < w7.heap.size := (by omega); try have z72 : w.heap.size + 2 < w7.heap.size := (by omega); try have z73 : w.heap.size + 3 < w7.heap.size := (by omega)) | (go_at_call 28; refine (fixSqrtS _ _).mono ?_; rintro e w' ⟨rfl, rfl⟩) | (go_at_call 27; refine (fixSqrtI _ _).mono ?_; rintro e w' ⟨rfl, rfl⟩) | (go_at_call 21; refine (fixOkS _ _).mono ?_; rintro e w' ⟨rfl, rfl⟩) | (go_at_call 22; refine (fixOkI _ _).mono ?_; rintro e w' ⟨rfl, rfl⟩))
          go_ret
          exact ⟨rfl, by (repeat' (first | exact Q.refl _ | assumption | refine Q.alloc ?_ _ | refine Q.drew ?_ | refine Q.drewN ?_ _ | refine Q.setCell ?_ ?_ _ | refine Q.trans ?_ (by assumption) | omega | (simp; done) | (simp; omega)))⟩
  · have hl1 : (1048576 : Int) < (cl : Int) := by omega
    go_enter Try.func16, Try.ntmps16
    go_wp2
    go_ret
    exact ⟨rfl, by (repeat' (first | exact Q.refl _ | assumption | refine Q.alloc ?_ _ | refine Q.drew ?_ | refine Q.drewN ?_ _ | refine Q.setCell ?_ ?_ _ | refine Q.trans ?_ (by assumption) | omega | (simp; done) | (simp; omega)))⟩

set_option maxRecDepth 100000 in
theorem lifted (os : Os) (started : os.Started) (H : Type) (enc : TypeId × Value → H) :
    ReturnsInHanded {} Try.checked os 16 .any (Rows.fnDivMulSpec.pre6 enc Try.prog Try.f16 Rows.fnDivMulRow.domain false) (Rows.fnDivMulSpec.post enc Try.prog Try.f16 false true false false) := by
  refine returnsInHanded_of_change (C := Try.checked) own started (by kernel_rfl) Try.func16
    (ChangeSpec.witness6 (enc := enc) (C := Try.checked) false ⟨#[], #[.slice none 0 0], []⟩ 8 (by kernel_rfl) (by kernel_rfl) (by kernel_rfl) (by kernel_rfl)) ?_
  intro W base args ds gs before hval0 hW _ _
  have hval : ∀ (j : Nat) t v, Try.f16.params[j]? = some t → args[j]? = some v → Value.okWide Try.prog W .any base t v := hval0
  have hW' := hW
  obtain ⟨p, q, hA0, hV, rfl, _, _⟩ := hW
  have hA : DataW.TrodAll enc Try.prog W 0 (fun _ => true) true Try.f16.params.toList args.toList ds p := hA0
  rw [Try.params16] at hA hval
  obtain ⟨v0, vs0, d0, ds0, p0, q0, hargs, rfl, rfl, h0, r0⟩ := trodAll_cons hA
  obtain ⟨rfl, rfl, rfl⟩ := trodAll_nil r0
  obtain rfl : args = #[v0] := by cases args; simp_all
  obtain ⟨rfl, rfl⟩ := trodVars_none hV
  have k0 := h0
  have lt0 : ∀ x ∈ p0, x.block < W.heap.size := by obtain ⟨m, hm⟩ := k0; exact DataW.trod_lt m _ _ _ hm
  obtain ⟨b0, len0, cap0, rfl⟩ := okWide_slice Try.underlying22 (hval 0 22 v0 rfl rfl)
  obtain ⟨z0, w0⟩ : ∃ zs, IsRow W b0 len0 cap0 zs := by
    obtain ⟨fuel, hf⟩ := h0
    rcases open_ints Try.underlying22 Try.underlying5 (by kernel_rfl) hf with ⟨hcs, _⟩ | ⟨x, l, c, zs, hcs, _, hl, hm, hz, _, hcell, hwz⟩
    · simp [Value.cells] at hcs
      obtain ⟨rfl, rfl, rfl⟩ := hcs
      exact ⟨[], .inl ⟨rfl, rfl, rfl, rfl⟩⟩
    · simp [Value.cells] at hcs
      obtain ⟨rfl, rfl, rfl⟩ := hcs
      exact ⟨zs, .inr ⟨_, rfl, hl, hm, by simpa using hz, hcell, hwz⟩⟩
  clear hA0 hval0
  refine (walk b0 len0 cap0 z0 W w0).mono fun e W' ⟨he, bel⟩ => ?_
  subst he
  exact ⟨_, rfl, _, _, _, [], _, [], hW', trodAll_mk1 (shut_bool Try.underlying4 _), (trodAll_cons_mk (Below.trod laidOut (by kernel_rfl) (of_decide_eq_true (by kernel_rfl)) k0 bel lt0) trodAll_mk0), rfl, Below.frame bel _, fun h => by cases h⟩

theorem over : Rows.fnDivMulRow.holds Try.pinned (OpenSpec.ofChange Rows.fnDivMulSpec) :=
  OpenClaim.holds_of_wide 16 Try.f16 rfl rfl rfl rfl rfl rfl rfl ⟨rfl, rfl, rfl, rfl, rfl⟩ rfl rfl rfl rfl rfl (by kernel_rfl) Try.func16 (by kernel_rfl)
    (of_decide_eq_true (by kernel_rfl)) (by unfold Func.isWrapper; rw [if_neg (of_decide_eq_false (by kernel_rfl))]; exact ⟨rfl, rfl⟩)
    (fun os started H enc _ => lifted os started H enc)

/-- The statement. -/
theorem proved : Rows.FnDivMulSaid := over
#print axioms proved
end Go.Proofs.Ytelfcocabkladaa.FnDivMul
