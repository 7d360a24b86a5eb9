/-
  Proved: the law FnSqrtSquare returns true for all arguments, and its arguments read afterwards as before. No condition.
-/
import Derived.Test.YtelfcocabkladaaPlain2
import Derived.Test.YtelfcocabkladaaFix
import Derived.Test.YtelfcocabkladaaDraw
namespace Go.Proofs.Ytelfcocabkladaa.FnSqrtSquare
open Go.ChangeShapes Go.WideShapes Go.ChangeAt Go.RowKit
set_option linter.unusedVariables false

set_option maxHeartbeats 400000 in
theorem walk (ca : Option Addr) (cl cc : Nat) (cz : List Int) (ma : Option Addr) (ml mc : Nat) (mz : List Int) (w : World) (wc : IsRow w ca cl cc cz) (wm : IsRow w ma ml mc mz) :
    Calls Try.prog 17 #[.slice ca cl cc, .slice ma ml mc] w fun e w' => e = .returned (.bool true) ∧ Q w w' := by
  by_cases hl : cl ≤ 1048576
  · by_cases hm : ml ≤ 1048576
    · have hl1 : ¬ (1048576 : Int) < (cl : Int) := by omega
      have hm1 : ¬ (1048576 : Int) < (ml : Int) := by omega
      go_enter Try.func17, Try.ntmps17
      go_wp2_with fail
      refine (drawFixSqrt _ _ _ cz _ wc).mono ?_
      rintro e w1 ⟨a, wa, rfl, q1⟩
      cases hk : P.sqrtB a
      · go_wp2_with (first | (go_at_call 20; refine (fixAddS _ _ _).mono ?_; rintro e w' ⟨rfl, rfl⟩) | (go_at_call 19; refine (fixAddI _ _ _).mono ?_; rintro e w5 ⟨rfl, q5⟩; obtain ⟨c5, f5⟩ := q5.cells; have s5 := q5.size; try simp at s5; try have z50 : w.heap.size < w5.heap.size := (by omega); try have z51 : w.heap.size + 1 < w5.heap.size := (by omega); try have z52 : w.heap.size + 2 < w5.heap.size := (by omega); try have z53 : w.heap.size + 3 < w5.heap.size := (by omega)) | (go_at_call 25; refine (fixMulS _ _ _).mono ?_; rintro e w' ⟨rfl, rfl⟩) | (go_at_call 24; refine (fixMulI _ _ _).mono ?_; rintro e w6 ⟨rfl, q6⟩; obtain ⟨c6, f6⟩ := q6.cells; have s6 := q6.size; try simp at s6; try have z60 : w.heap.size < w6.heap.size := (by omega); try have z61 : w.heap.size + 1 < w6.heap.size := (by omega); try have z62 : w.heap.size + 2 < w6.heap.size := (by omega); try have z63 : w.heap.size + 3 < w6.heap.size := (by omega)) | (go_at_call 31; refine (fixDivS _ _ _).mono ?_; rintro e w' ⟨rfl, rfl⟩) | (go_at_call 30; refine (fixDivI _ _ _).mono ?_; rintro e w7 ⟨rfl, q7⟩; obtain ⟨c7, f7⟩ := q7.cells; have s7 := q7.size; try simp at s7; try have z70 : w.heap.size < w7.heap.size := (by omega); try have z71 : w.heap.size + 1 < w7.heap.size := (by omega); try have z72 : w.heap.size + 2 < w7.heap.size := (by omega); try have z73 : w.heap.size + 3 < w7.heap.size := (by omega)) | (go_at_call 28; refine (fixSqrtS _ _).mono ?_; rintro e w' ⟨rfl, rfl⟩) | (go_at_call 27; refine (fixSqrtI _ _).mono ?_; rintro e w' ⟨rfl, rfl⟩) | (go_at_call 21; refine (fixOkS _ _).mono ?_; rintro e w' ⟨rfl, rfl⟩) | (go_at_call 22; refine (fixOkI _ _).mono ?_; rintro e w' ⟨rfl, rfl⟩))
        go_ret
        exact ⟨rfl, by (repeat' (first | exact Q.refl _ | assumption | refine Q.alloc ?_ _ | refine Q.drew ?_ | refine Q.drewN ?_ _ | refine Q.setCell ?_ ?_ _ | refine Q.trans ?_ (by assumption) | omega | (simp; done) | (simp; omega)))⟩
      · obtain ⟨e1, e2, e3⟩ := P.sqrt_square (n := 1000 * ((ml : Int) % 1000)) (k := (ml : Int) % 1000) (by omega) (by omega) rfl
        go_wp2_with (first | (go_at_call 20; refine (fixAddS _ _ _).mono ?_; rintro e w' ⟨rfl, rfl⟩) | (go_at_call 19; refine (fixAddI _ _ _).mono ?_; rintro e w5 ⟨rfl, q5⟩; obtain ⟨c5, f5⟩ := q5.cells; have s5 := q5.size; try simp at s5; try have z50 : w.heap.size < w5.heap.size := (by omega); try have z51 : w.heap.size + 1 < w5.heap.size := (by omega); try have z52 : w.heap.size + 2 < w5.heap.size := (by omega); try have z53 : w.heap.size + 3 < w5.heap.size := (by omega)) | (go_at_call 25; refine (fixMulS _ _ _).mono ?_; rintro e w' ⟨rfl, rfl⟩) | (go_at_call 24; refine (fixMulI _ _ _).mono ?_; rintro e w6 ⟨rfl, q6⟩; obtain ⟨c6, f6⟩ := q6.cells; have s6 := q6.size; try simp at s6; try have z60 : w.heap.size < w6.heap.size := (by omega); try have z61 : w.heap.size + 1 < w6.heap.size := (by omega); try have z62 : w.heap.size + 2 < w6.heap.size := (by omega); try have z63 : w.heap.size + 3 < w6.heap.size := (by omega)) | (go_at_call 31; refine (fixDivS _ _ _).mono ?_; rintro e w' ⟨rfl, rfl⟩) | (go_at_call 30; refine (fixDivI _ _ _).mono ?_; rintro e w7 ⟨rfl, q7⟩; obtain ⟨c7, f7⟩ := q7.cells; have s7 := q7.size; try simp at s7; try have z70 : w.heap.size < w7.heap.size := (by omega); try have z71 : w.heap.size + 1 < w7.heap.size := (by omega); try have z72 : w.heap.size + 2 < w7.heap.size := (by omega); try have z73 : w.heap.size + 3 < w7.heap.size := (by omega)) | (go_at_call 28; refine (fixSqrtS _ _).mono ?_; rintro e w' ⟨rfl, rfl⟩) | (go_at_call 27; refine (fixSqrtI _ _).mono ?_; rintro e w' ⟨rfl, rfl⟩) | (go_at_call 21; refine (fixOkS _ _).mono ?_; rintro e w' ⟨rfl, rfl⟩) | (go_at_call 22; refine (fixOkI _ _).mono ?_; rintro e w' ⟨rfl, rfl⟩))
        go_ret
        exact ⟨rfl, by (repeat' (first | exact Q.refl _ | assumption | refine Q.alloc ?_ _ | refine Q.drew ?_ | refine Q.drewN ?_ _ | refine Q.setCell ?_ ?_ _ | refine Q.trans ?_ (by assumption) | omega | (simp; done) | (simp; omega)))⟩
    · have hl1 : ¬ (1048576 : Int) < (cl : Int) := by omega
      have hm1 : (1048576 : Int) < (ml : Int) := by omega
      go_enter Try.func17, Try.ntmps17
      go_wp2
      go_ret
      exact ⟨rfl, by (repeat' (first | exact Q.refl _ | assumption | refine Q.alloc ?_ _ | refine Q.drew ?_ | refine Q.drewN ?_ _ | refine Q.setCell ?_ ?_ _ | refine Q.trans ?_ (by assumption) | omega | (simp; done) | (simp; omega)))⟩
  · have hl1 : (1048576 : Int) < (cl : Int) := by omega
    go_enter Try.func17, Try.ntmps17
    go_wp2
    go_ret
    exact ⟨rfl, by (repeat' (first | exact Q.refl _ | assumption | refine Q.alloc ?_ _ | refine Q.drew ?_ | refine Q.drewN ?_ _ | refine Q.setCell ?_ ?_ _ | refine Q.trans ?_ (by assumption) | omega | (simp; done) | (simp; omega)))⟩

set_option maxRecDepth 100000 in
theorem lifted (os : Os) (started : os.Started) (H : Type) (enc : TypeId × Value → H) :
    ReturnsInHanded {} Try.checked os 17 .any (Rows.fnSqrtSquareSpec.pre6 enc Try.prog Try.f17 Rows.fnSqrtSquareRow.domain false) (Rows.fnSqrtSquareSpec.post enc Try.prog Try.f17 false true false false) := by
  refine returnsInHanded_of_change (C := Try.checked) own started (by kernel_rfl) Try.func17
    (ChangeSpec.witness6 (enc := enc) (C := Try.checked) false ⟨#[], #[.slice none 0 0, .slice none 0 0], []⟩ 8 (by kernel_rfl) (by kernel_rfl) (by kernel_rfl) (by kernel_rfl)) ?_
  intro W base args ds gs before hval0 hW _ _
  have hval : ∀ (j : Nat) t v, Try.f17.params[j]? = some t → args[j]? = some v → Value.okWide Try.prog W .any base t v := hval0
  have hW' := hW
  obtain ⟨p, q, hA0, hV, rfl, _, _⟩ := hW
  have hA : DataW.TrodAll enc Try.prog W 0 (fun _ => true) true Try.f17.params.toList args.toList ds p := hA0
  rw [Try.params17] at hA hval
  obtain ⟨v0, vs0, d0, ds0, p0, q0, hargs, rfl, rfl, h0, r0⟩ := trodAll_cons hA
  obtain ⟨v1, vs1, d1, ds1, p1, q1, rfl, rfl, rfl, h1, r1⟩ := trodAll_cons r0
  obtain ⟨rfl, rfl, rfl⟩ := trodAll_nil r1
  obtain rfl : args = #[v0, v1] := by cases args; simp_all
  obtain ⟨rfl, rfl⟩ := trodVars_none hV
  have k0 := h0
  have lt0 : ∀ x ∈ p0, x.block < W.heap.size := by obtain ⟨m, hm⟩ := k0; exact DataW.trod_lt m _ _ _ hm
  obtain ⟨b0, len0, cap0, rfl⟩ := okWide_slice Try.underlying22 (hval 0 22 v0 rfl rfl)
  obtain ⟨z0, w0⟩ : ∃ zs, IsRow W b0 len0 cap0 zs := by
    obtain ⟨fuel, hf⟩ := h0
    rcases open_ints Try.underlying22 Try.underlying5 (by kernel_rfl) hf with ⟨hcs, _⟩ | ⟨x, l, c, zs, hcs, _, hl, hm, hz, _, hcell, hwz⟩
    · simp [Value.cells] at hcs
      obtain ⟨rfl, rfl, rfl⟩ := hcs
      exact ⟨[], .inl ⟨rfl, rfl, rfl, rfl⟩⟩
    · simp [Value.cells] at hcs
      obtain ⟨rfl, rfl, rfl⟩ := hcs
      exact ⟨zs, .inr ⟨_, rfl, hl, hm, by simpa using hz, hcell, hwz⟩⟩
  have k1 := h1
  have lt1 : ∀ x ∈ p1, x.block < W.heap.size := by obtain ⟨m, hm⟩ := k1; exact DataW.trod_lt m _ _ _ hm
  obtain ⟨b1, len1, cap1, rfl⟩ := okWide_slice Try.underlying22 (hval 1 22 v1 rfl rfl)
  obtain ⟨z1, w1⟩ : ∃ zs, IsRow W b1 len1 cap1 zs := by
    obtain ⟨fuel, hf⟩ := h1
    rcases open_ints Try.underlying22 Try.underlying5 (by kernel_rfl) hf with ⟨hcs, _⟩ | ⟨x, l, c, zs, hcs, _, hl, hm, hz, _, hcell, hwz⟩
    · simp [Value.cells] at hcs
      obtain ⟨rfl, rfl, rfl⟩ := hcs
      exact ⟨[], .inl ⟨rfl, rfl, rfl, rfl⟩⟩
    · simp [Value.cells] at hcs
      obtain ⟨rfl, rfl, rfl⟩ := hcs
      exact ⟨zs, .inr ⟨_, rfl, hl, hm, by simpa using hz, hcell, hwz⟩⟩
  clear hA0 hval0
  refine (walk b0 len0 cap0 z0 b1 len1 cap1 z1 W w0 w1).mono fun e W' ⟨he, bel⟩ => ?_
  subst he
  exact ⟨_, rfl, _, _, _, [], _, [], hW', trodAll_mk1 (shut_bool Try.underlying4 _), (trodAll_cons_mk (Below.trod laidOut (by kernel_rfl) (of_decide_eq_true (by kernel_rfl)) k0 bel lt0) (trodAll_cons_mk (Below.trod laidOut (by kernel_rfl) (of_decide_eq_true (by kernel_rfl)) k1 bel lt1) trodAll_mk0)), rfl, Below.frame bel _, fun h => by cases h⟩

theorem over : Rows.fnSqrtSquareRow.holds Try.pinned (OpenSpec.ofChange Rows.fnSqrtSquareSpec) :=
  OpenClaim.holds_of_wide 17 Try.f17 rfl rfl rfl rfl rfl rfl rfl ⟨rfl, rfl, rfl, rfl, rfl⟩ rfl rfl rfl rfl rfl (by kernel_rfl) Try.func17 (by kernel_rfl)
    (of_decide_eq_true (by kernel_rfl)) (by unfold Func.isWrapper; rw [if_neg (of_decide_eq_false (by kernel_rfl))]; exact ⟨rfl, rfl⟩)
    (fun os started H enc _ => lifted os started H enc)

/-- The statement. -/
theorem proved : Rows.FnSqrtSquareSaid := over
#print axioms proved
end Go.Proofs.Ytelfcocabkladaa.FnSqrtSquare
