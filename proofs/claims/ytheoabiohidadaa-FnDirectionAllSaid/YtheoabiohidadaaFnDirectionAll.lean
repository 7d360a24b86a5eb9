/-
  Proved: the law FnDirectionAll returns true for all arguments, and its arguments read afterwards as before. No condition.
-/
import Derived.Test.YtheoabiohidadaaPlain3
import Derived.Test.YtheoabiohidadaaPlainD
import Derived.Test.YtheoabiohidadaaVec
import Derived.Test.YtheoabiohidadaaVDraw2
import Derived.Test.YtheoabiohidadaaDirT
namespace Go.Proofs.Ytheoabiohidadaa.FnDirectionAll
open Go.ChangeShapes Go.WideShapes Go.ChangeAt Go.RowKit
set_option linter.unusedVariables false

set_option maxHeartbeats 2000000 in
theorem walk (ca : Option Addr) (cl cc : Nat) (cz : List Int) (ma : Option Addr) (ml mc : Nat) (mz : List Int) (w : World) (wc : IsRow w ca cl cc cz) (wm : IsRow w ma ml mc mz) :
    Calls Try.prog 5 #[.slice ca cl cc, .slice ma ml mc] w fun e w' => e = .returned (.bool true) ∧ Q w w' := by
  by_cases hl : cl ≤ 1048576
  · by_cases hm : ml ≤ 1048576
    · have hl1 : ¬ (1048576 : Int) < (cl : Int) := by omega
      have hm1 : ¬ (1048576 : Int) < (ml : Int) := by omega
      go_enter Try.func5, Try.ntmps5
      go_wp2_with fail
      refine (drawVecDirection _ _ _ cz _ wc).mono ?_
      rintro e w1 ⟨d, wd, rfl, q1⟩
      cases h : P.dirB d
      · skip
        go_wp2_with fail
        refine (vecDirectionI _ wd _).mono ?_
        rintro e w2 ⟨rfl, q2⟩
        obtain ⟨c2, f2⟩ := q2.cells
        have s2 := q2.size
        (try simp at s2)
        (try have z2_0_0 : w.heap.size < w2.heap.size := (by omega))
        (try have z2_0_1 : w.heap.size + 1 < w2.heap.size := (by omega))
        (try have z2_0_2 : w.heap.size + 1 + 1 < w2.heap.size := (by omega))
        (try have z2_1_0 : w1.heap.size < w2.heap.size := (by omega))
        (try have z2_1_1 : w1.heap.size + 1 < w2.heap.size := (by omega))
        go_wp2_with fail
        refine (vecDirectionS _ wd _).mono ?_
        rintro e w3 ⟨rfl, q3⟩
        obtain ⟨c3, f3⟩ := q3.cells
        have s3 := q3.size
        (try simp at s3)
        (try have z3_0_0 : w.heap.size < w3.heap.size := (by omega))
        (try have z3_0_1 : w.heap.size + 1 < w3.heap.size := (by omega))
        (try have z3_0_2 : w.heap.size + 1 + 1 < w3.heap.size := (by omega))
        (try have z3_1_0 : w1.heap.size < w3.heap.size := (by omega))
        (try have z3_1_1 : w1.heap.size + 1 < w3.heap.size := (by omega))
        (try have z3_2_0 : w2.heap.size < w3.heap.size := (by omega))
        (try have z3_2_1 : w2.heap.size + 1 < w3.heap.size := (by omega))
        go_wp2
        go_ret
        exact ⟨rfl, by (repeat' (first | exact Q.refl _ | assumption | refine Q.alloc ?_ _ | refine Q.drew ?_ | refine Q.drewN ?_ _ | refine Q.setCell ?_ ?_ _ | refine Q.trans ?_ (by assumption) | omega | (simp; done) | (simp; omega)))⟩
      · obtain ⟨d1, d2⟩ := P.dirB_iff.1 h
        obtain ⟨e1, e2⟩ := P.dir_other (m := (ml : Int) % 15) h (by omega) (by omega)
        by_cases g1 : P.dirX ((d + 1 + (ml : Int) % 15) % 16) = P.dirX d
        · have g2 : ¬ P.dirY ((d + 1 + (ml : Int) % 15) % 16) = P.dirY d := fun g => e2 ⟨g1, g⟩
          clear e2
          go_wp2_with fail
          refine (vecDirectionI _ wd _).mono ?_
          rintro e w2 ⟨rfl, q2⟩
          obtain ⟨c2, f2⟩ := q2.cells
          have s2 := q2.size
          (try simp at s2)
          (try have z2_0_0 : w.heap.size < w2.heap.size := (by omega))
          (try have z2_0_1 : w.heap.size + 1 < w2.heap.size := (by omega))
          (try have z2_0_2 : w.heap.size + 1 + 1 < w2.heap.size := (by omega))
          (try have z2_1_0 : w1.heap.size < w2.heap.size := (by omega))
          (try have z2_1_1 : w1.heap.size + 1 < w2.heap.size := (by omega))
          go_wp2_with fail
          refine (vecDirectionS _ wd _).mono ?_
          rintro e w3 ⟨rfl, q3⟩
          obtain ⟨c3, f3⟩ := q3.cells
          have s3 := q3.size
          (try simp at s3)
          (try have z3_0_0 : w.heap.size < w3.heap.size := (by omega))
          (try have z3_0_1 : w.heap.size + 1 < w3.heap.size := (by omega))
          (try have z3_0_2 : w.heap.size + 1 + 1 < w3.heap.size := (by omega))
          (try have z3_1_0 : w1.heap.size < w3.heap.size := (by omega))
          (try have z3_1_1 : w1.heap.size + 1 < w3.heap.size := (by omega))
          (try have z3_2_0 : w2.heap.size < w3.heap.size := (by omega))
          (try have z3_2_1 : w2.heap.size + 1 < w3.heap.size := (by omega))
          go_wp2_with fail
          refine (vecDirectionI _ (wf_i64 (by omega) (by omega)) _).mono ?_
          rintro e w4 ⟨rfl, q4⟩
          obtain ⟨c4, f4⟩ := q4.cells
          have s4 := q4.size
          (try simp at s4)
          (try have z4_0_0 : w.heap.size < w4.heap.size := (by omega))
          (try have z4_0_1 : w.heap.size + 1 < w4.heap.size := (by omega))
          (try have z4_0_2 : w.heap.size + 1 + 1 < w4.heap.size := (by omega))
          (try have z4_1_0 : w1.heap.size < w4.heap.size := (by omega))
          (try have z4_1_1 : w1.heap.size + 1 < w4.heap.size := (by omega))
          (try have z4_2_0 : w2.heap.size < w4.heap.size := (by omega))
          (try have z4_2_1 : w2.heap.size + 1 < w4.heap.size := (by omega))
          (try have z4_3_0 : w3.heap.size < w4.heap.size := (by omega))
          (try have z4_3_1 : w3.heap.size + 1 < w4.heap.size := (by omega))
          go_wp2
          go_ret
          exact ⟨rfl, by (repeat' (first | exact Q.refl _ | assumption | refine Q.alloc ?_ _ | refine Q.drew ?_ | refine Q.drewN ?_ _ | refine Q.setCell ?_ ?_ _ | refine Q.trans ?_ (by assumption) | omega | (simp; done) | (simp; omega)))⟩
        · clear e2
          go_wp2_with fail
          refine (vecDirectionI _ wd _).mono ?_
          rintro e w2 ⟨rfl, q2⟩
          obtain ⟨c2, f2⟩ := q2.cells
          have s2 := q2.size
          (try simp at s2)
          (try have z2_0_0 : w.heap.size < w2.heap.size := (by omega))
          (try have z2_0_1 : w.heap.size + 1 < w2.heap.size := (by omega))
          (try have z2_0_2 : w.heap.size + 1 + 1 < w2.heap.size := (by omega))
          (try have z2_1_0 : w1.heap.size < w2.heap.size := (by omega))
          (try have z2_1_1 : w1.heap.size + 1 < w2.heap.size := (by omega))
          go_wp2_with fail
          refine (vecDirectionS _ wd _).mono ?_
          rintro e w3 ⟨rfl, q3⟩
          obtain ⟨c3, f3⟩ := q3.cells
          have s3 := q3.size
          (try simp at s3)
          (try have z3_0_0 : w.heap.size < w3.heap.size := (by omega))
          (try have z3_0_1 : w.heap.size + 1 < w3.heap.size := (by omega))
          (try have z3_0_2 : w.heap.size + 1 + 1 < w3.heap.size := (by omega))
          (try have z3_1_0 : w1.heap.size < w3.heap.size := (by omega))
          (try have z3_1_1 : w1.heap.size + 1 < w3.heap.size := (by omega))
          (try have z3_2_0 : w2.heap.size < w3.heap.size := (by omega))
          (try have z3_2_1 : w2.heap.size + 1 < w3.heap.size := (by omega))
          go_wp2_with fail
          refine (vecDirectionI _ (wf_i64 (by omega) (by omega)) _).mono ?_
          rintro e w4 ⟨rfl, q4⟩
          obtain ⟨c4, f4⟩ := q4.cells
          have s4 := q4.size
          (try simp at s4)
          (try have z4_0_0 : w.heap.size < w4.heap.size := (by omega))
          (try have z4_0_1 : w.heap.size + 1 < w4.heap.size := (by omega))
          (try have z4_0_2 : w.heap.size + 1 + 1 < w4.heap.size := (by omega))
          (try have z4_1_0 : w1.heap.size < w4.heap.size := (by omega))
          (try have z4_1_1 : w1.heap.size + 1 < w4.heap.size := (by omega))
          (try have z4_2_0 : w2.heap.size < w4.heap.size := (by omega))
          (try have z4_2_1 : w2.heap.size + 1 < w4.heap.size := (by omega))
          (try have z4_3_0 : w3.heap.size < w4.heap.size := (by omega))
          (try have z4_3_1 : w3.heap.size + 1 < w4.heap.size := (by omega))
          go_wp2
          go_ret
          exact ⟨rfl, by (repeat' (first | exact Q.refl _ | assumption | refine Q.alloc ?_ _ | refine Q.drew ?_ | refine Q.drewN ?_ _ | refine Q.setCell ?_ ?_ _ | refine Q.trans ?_ (by assumption) | omega | (simp; done) | (simp; omega)))⟩
    · have hl1 : ¬ (1048576 : Int) < (cl : Int) := by omega
      have hm1 : (1048576 : Int) < (ml : Int) := by omega
      go_enter Try.func5, Try.ntmps5
      go_wp2
      go_ret
      exact ⟨rfl, by (repeat' (first | exact Q.refl _ | assumption | refine Q.alloc ?_ _ | refine Q.drew ?_ | refine Q.drewN ?_ _ | refine Q.setCell ?_ ?_ _ | refine Q.trans ?_ (by assumption) | omega | (simp; done) | (simp; omega)))⟩
  · have hl1 : (1048576 : Int) < (cl : Int) := by omega
    go_enter Try.func5, Try.ntmps5
    go_wp2
    go_ret
    exact ⟨rfl, by (repeat' (first | exact Q.refl _ | assumption | refine Q.alloc ?_ _ | refine Q.drew ?_ | refine Q.drewN ?_ _ | refine Q.setCell ?_ ?_ _ | refine Q.trans ?_ (by assumption) | omega | (simp; done) | (simp; omega)))⟩

set_option maxRecDepth 100000 in
theorem lifted (os : Os) (started : os.Started) (H : Type) (enc : TypeId × Value → H) :
    ReturnsInHanded {} Try.checked os 5 .any (Rows.fnDirectionAllSpec.pre6 enc Try.prog Try.f5 Rows.fnDirectionAllRow.domain false) (Rows.fnDirectionAllSpec.post enc Try.prog Try.f5 false true false false) := by
  refine returnsInHanded_of_change (C := Try.checked) own started (by kernel_rfl) Try.func5
    (ChangeSpec.witness6 (enc := enc) (C := Try.checked) false ⟨#[], #[.slice none 0 0, .slice none 0 0], []⟩ 8 (by kernel_rfl) (by kernel_rfl) (by kernel_rfl) (by kernel_rfl)) ?_
  intro W base args ds gs before hval0 hW _ _
  have hval : ∀ (j : Nat) t v, Try.f5.params[j]? = some t → args[j]? = some v → Value.okWide Try.prog W .any base t v := hval0
  have hW' := hW
  obtain ⟨p, q, hA0, hV, rfl, _, _⟩ := hW
  have hA : DataW.TrodAll enc Try.prog W 0 (fun _ => true) true Try.f5.params.toList args.toList ds p := hA0
  rw [Try.params5] at hA hval
  obtain ⟨v0, vs0, d0, ds0, p0, q0, hargs, rfl, rfl, h0, r0⟩ := trodAll_cons hA
  obtain ⟨v1, vs1, d1, ds1, p1, q1, rfl, rfl, rfl, h1, r1⟩ := trodAll_cons r0
  obtain ⟨rfl, rfl, rfl⟩ := trodAll_nil r1
  obtain rfl : args = #[v0, v1] := by cases args; simp_all
  obtain ⟨rfl, rfl⟩ := trodVars_none hV
  have k0 := h0
  have lt0 : ∀ x ∈ p0, x.block < W.heap.size := by obtain ⟨m, hm⟩ := k0; exact DataW.trod_lt m _ _ _ hm
  obtain ⟨b0, len0, cap0, rfl⟩ := okWide_slice Try.underlying32 (hval 0 32 v0 rfl rfl)
  obtain ⟨z0, w0⟩ : ∃ zs, IsRow W b0 len0 cap0 zs := by
    obtain ⟨fuel, hf⟩ := h0
    rcases open_ints Try.underlying32 Try.underlying5 (by kernel_rfl) hf with ⟨hcs, _⟩ | ⟨x, l, c, zs, hcs, _, hl, hm, hz, _, hcell, hwz⟩
    · simp [Value.cells] at hcs
      obtain ⟨rfl, rfl, rfl⟩ := hcs
      exact ⟨[], .inl ⟨rfl, rfl, rfl, rfl⟩⟩
    · simp [Value.cells] at hcs
      obtain ⟨rfl, rfl, rfl⟩ := hcs
      exact ⟨zs, .inr ⟨_, rfl, hl, hm, by simpa using hz, hcell, hwz⟩⟩
  have k1 := h1
  have lt1 : ∀ x ∈ p1, x.block < W.heap.size := by obtain ⟨m, hm⟩ := k1; exact DataW.trod_lt m _ _ _ hm
  obtain ⟨b1, len1, cap1, rfl⟩ := okWide_slice Try.underlying32 (hval 1 32 v1 rfl rfl)
  obtain ⟨z1, w1⟩ : ∃ zs, IsRow W b1 len1 cap1 zs := by
    obtain ⟨fuel, hf⟩ := h1
    rcases open_ints Try.underlying32 Try.underlying5 (by kernel_rfl) hf with ⟨hcs, _⟩ | ⟨x, l, c, zs, hcs, _, hl, hm, hz, _, hcell, hwz⟩
    · simp [Value.cells] at hcs
      obtain ⟨rfl, rfl, rfl⟩ := hcs
      exact ⟨[], .inl ⟨rfl, rfl, rfl, rfl⟩⟩
    · simp [Value.cells] at hcs
      obtain ⟨rfl, rfl, rfl⟩ := hcs
      exact ⟨zs, .inr ⟨_, rfl, hl, hm, by simpa using hz, hcell, hwz⟩⟩
  clear hA0 hval0
  refine (walk b0 len0 cap0 z0 b1 len1 cap1 z1 W w0 w1).mono fun e W' ⟨he, bel⟩ => ?_
  subst he
  exact ⟨_, rfl, _, _, _, [], _, [], hW', trodAll_mk1 (shut_bool Try.underlying4 _), (trodAll_cons_mk (Below.trod laidOut (by kernel_rfl) (of_decide_eq_true (by kernel_rfl)) k0 bel lt0) (trodAll_cons_mk (Below.trod laidOut (by kernel_rfl) (of_decide_eq_true (by kernel_rfl)) k1 bel lt1) trodAll_mk0)), rfl, Below.frame bel _, fun h => by cases h⟩

theorem over : Rows.fnDirectionAllRow.holds Try.pinned (OpenSpec.ofChange Rows.fnDirectionAllSpec) :=
  OpenClaim.holds_of_wide 5 Try.f5 rfl rfl rfl rfl rfl rfl rfl ⟨rfl, rfl, rfl, rfl, rfl⟩ rfl rfl rfl rfl rfl (by kernel_rfl) Try.func5 (by kernel_rfl)
    (of_decide_eq_true (by kernel_rfl)) (by unfold Func.isWrapper; rw [if_neg (of_decide_eq_false (by kernel_rfl))]; exact ⟨rfl, rfl⟩)
    (fun os started H enc _ => lifted os started H enc)

/-- The statement. -/
theorem proved : Rows.FnDirectionAllSaid := over
#print axioms proved
end Go.Proofs.Ytheoabiohidadaa.FnDirectionAll
