/-
  Proved: the law FnTouchesMore returns true for all arguments, and its arguments read afterwards as before. No condition.
-/
import Derived.Test.YtkimbehlicnppaaPlainC
import Derived.Test.YtkimbehlicnppaaBox2
import Derived.Test.YtkimbehlicnppaaOpen
import Derived.Test.YtkimbehlicnppaaBDraw3
import Derived.Test.YtkimbehlicnppaaHeld
namespace Go.Proofs.Ytkimbehlicnppaa.FnTouchesMore
open Go.ChangeShapes Go.WideShapes Go.ChangeAt Go.RowKit
set_option linter.unusedVariables false

set_option maxHeartbeats 2000000 in
theorem walk (ca : Option Addr) (cl cc : Nat) (cz : List Int) (ma : Option Addr) (ml mc : Nat) (mz : List Int) (w : World) (wc : IsRow w ca cl cc cz) (wm : IsRow w ma ml mc mz) :
    Calls Try.prog 7 #[.slice ca cl cc, .slice ma ml mc] w fun e w' => e = .returned (.bool true) ∧ Q w w' := by
  by_cases hl : cl ≤ 1048576
  · by_cases hm : ml ≤ 1048576
    · have hl1 : ¬ (1048576 : Int) < (cl : Int) := by omega
      have hm1 : ¬ (1048576 : Int) < (ml : Int) := by omega
      go_enter Try.func7, Try.ntmps7
      go_wp2_with fail
      refine (drawBoxTouches _ _ _ cz _ wc).mono ?_
      rintro e w1 ⟨a, b, c, d, x, y, r, wf, wx, wy, wr, rfl, q1⟩
      cases h : P.touchB a b c d x y r
      · skip
        go_wp2_with fail
        refine (boxTouchesI _ _ _ _ _ _ _ _).mono ?_
        rintro e w2 ⟨rfl, q2⟩
        obtain ⟨c2, f2⟩ := q2.cells
        have s2 := q2.size
        (try simp at s2)
        (try have z2_0_0 : w.heap.size < w2.heap.size := (by omega))
        (try have z2_0_1 : w.heap.size + 1 < w2.heap.size := (by omega))
        (try have z2_0_2 : w.heap.size + 1 + 1 < w2.heap.size := (by omega))
        (try have z2_1_0 : w1.heap.size < w2.heap.size := (by omega))
        (try have z2_1_1 : w1.heap.size + 1 < w2.heap.size := (by omega))
        go_wp2_with fail
        refine (boxTouchesS _ _ _ _ _ _ _ _).mono ?_
        rintro e w3 ⟨rfl, q3⟩
        obtain ⟨c3, f3⟩ := q3.cells
        have s3 := q3.size
        (try simp at s3)
        (try have z3_0_0 : w.heap.size < w3.heap.size := (by omega))
        (try have z3_0_1 : w.heap.size + 1 < w3.heap.size := (by omega))
        (try have z3_0_2 : w.heap.size + 1 + 1 < w3.heap.size := (by omega))
        (try have z3_1_0 : w1.heap.size < w3.heap.size := (by omega))
        (try have z3_1_1 : w1.heap.size + 1 < w3.heap.size := (by omega))
        (try have z3_2_0 : w2.heap.size < w3.heap.size := (by omega))
        (try have z3_2_1 : w2.heap.size + 1 < w3.heap.size := (by omega))
        go_wp2
        go_ret
        exact ⟨rfl, by (repeat' (first | exact Q.refl _ | assumption | refine Q.alloc ?_ _ | refine Q.drew ?_ | refine Q.drewN ?_ _ | refine Q.setCell ?_ ?_ _ | refine Q.trans ?_ (by assumption) | omega | (simp; done) | (simp; omega)))⟩
      · have hmn : ∀ (ts : Array TypeId) (t : TypeId) (k k' : IntKind) (x y : Int) (w : World), (Builtin.min_ ts t #[.int k x, .int k' y]).run Try.prog w = .ok (.int k (P.mn x y)) w := fun _ _ _ _ _ _ _ => run_min_int2 ..
        obtain ⟨hb, hv, r0, r1, _⟩ := P.touchB_iff.1 h
        obtain ⟨m1, m2, m3⟩ := P.mn_spec (r + (ml : Int)) 1000000
        have e1 := P.touch_more (s := P.mn (r + (ml : Int)) 1000000) h (by omega) m2
        have e2 := P.touch_zero hb hv
        clear m1 m2 m3
        have hw : IntKind.i64.wrap (r + (ml : Int)) = r + (ml : Int) := IntWalk.i64_in _ (by omega)
        cases hh : P.hasB a b c d x y
        · rw [hh] at e2
          go_wp2_with fail
          refine (boxTouchesI _ _ _ _ _ _ _ _).mono ?_
          rintro e w2 ⟨rfl, q2⟩
          obtain ⟨c2, f2⟩ := q2.cells
          have s2 := q2.size
          (try simp at s2)
          (try have z2_0_0 : w.heap.size < w2.heap.size := (by omega))
          (try have z2_0_1 : w.heap.size + 1 < w2.heap.size := (by omega))
          (try have z2_0_2 : w.heap.size + 1 + 1 < w2.heap.size := (by omega))
          (try have z2_1_0 : w1.heap.size < w2.heap.size := (by omega))
          (try have z2_1_1 : w1.heap.size + 1 < w2.heap.size := (by omega))
          go_wp2_with fail
          refine (boxTouchesS _ _ _ _ _ _ _ _).mono ?_
          rintro e w3 ⟨rfl, q3⟩
          obtain ⟨c3, f3⟩ := q3.cells
          have s3 := q3.size
          (try simp at s3)
          (try have z3_0_0 : w.heap.size < w3.heap.size := (by omega))
          (try have z3_0_1 : w.heap.size + 1 < w3.heap.size := (by omega))
          (try have z3_0_2 : w.heap.size + 1 + 1 < w3.heap.size := (by omega))
          (try have z3_1_0 : w1.heap.size < w3.heap.size := (by omega))
          (try have z3_1_1 : w1.heap.size + 1 < w3.heap.size := (by omega))
          (try have z3_2_0 : w2.heap.size < w3.heap.size := (by omega))
          (try have z3_2_1 : w2.heap.size + 1 < w3.heap.size := (by omega))
          have vv0 : w3.cell? ⟨w1.heap.size, 0, none⟩ = some (.int .i64 a) := by go_simp
          have vv1 : w3.cell? ⟨w1.heap.size, 1, none⟩ = some (.int .i64 b) := by go_simp
          have vv2 : w3.cell? ⟨w1.heap.size, 2, none⟩ = some (.int .i64 c) := by go_simp
          have vv3 : w3.cell? ⟨w1.heap.size, 3, none⟩ = some (.int .i64 d) := by go_simp
          have vv4 : w3.cell? ⟨w1.heap.size + 1, 0, none⟩ = some (.int .i64 x) := by go_simp
          have vv5 : w3.cell? ⟨w1.heap.size + 1, 1, none⟩ = some (.int .i64 y) := by go_simp
          go_wp2_with fail
          go_region_held3 (fun w' => w'.cell? ⟨w1.heap.size, 0, none⟩ = some (.int .i64 a) ∧ w'.cell? ⟨w1.heap.size, 1, none⟩ = some (.int .i64 b) ∧ w'.cell? ⟨w1.heap.size, 2, none⟩ = some (.int .i64 c) ∧ w'.cell? ⟨w1.heap.size, 3, none⟩ = some (.int .i64 d) ∧ w'.cell? ⟨w1.heap.size + 1, 0, none⟩ = some (.int .i64 x) ∧ w'.cell? ⟨w1.heap.size + 1, 1, none⟩ = some (.int .i64 y) ∧ Q w w') ((go_split_ands; (repeat' (with_reducible apply And.intro)) <;> first | (with_reducible assumption) | ((repeat' (first | (with_reducible assumption) | (with_reducible exact cellE (by assumption)) | (with_reducible refine cellA _ ?_) | (with_reducible refine cellD ?_) | (with_reducible refine cellS (by first | (dsimp only; omega) | (simp; omega)) ?_) | (with_reducible refine Q.cell1 (by assumption) ?_))); done) | (with_reducible refine Q.size1 (by assumption) ?_; first | (with_reducible assumption) | (simp; done) | (simp; omega)) | ((repeat' (first | (with_reducible exact Q.refl _) | (with_reducible assumption) | (with_reducible refine Q.setCell ?_ ?_ _) | (with_reducible refine Q.alloc ?_ _) | (with_reducible refine Q.drew ?_) | (with_reducible refine Q.drewN ?_ _) | (with_reducible refine Q.trans ?_ (by assumption)) | omega | (dsimp only; omega) | (simp; done) | (simp; omega))); done) | omega | (simp; done) | (simp; omega) | (simp [*]; done))) (first | (go_split_ands; (go_at_call 14; refine (boxTouchesI _ _ _ _ _ _ _ _).mono ?_; rintro e w4 ⟨rfl, q4⟩; obtain ⟨c4, f4⟩ := q4.cells; have s4 := q4.size; (try simp at s4); (try have z40 : w.heap.size < w4.heap.size := (by omega)); (try have z41 : w.heap.size + 1 < w4.heap.size := (by omega)); (try have z42 : w.heap.size + 1 + 1 < w4.heap.size := (by omega)); (try have z43 : w.heap.size + 1 + 1 + 1 < w4.heap.size := (by omega))); (try have t4 := Nat.lt_of_succ_le s4)) | (go_split_ands; (go_at_call 10; refine (boxHasI _ _ _ _ _ _ _).mono ?_; rintro e w6 ⟨rfl, q6⟩; obtain ⟨c6, f6⟩ := q6.cells; have s6 := q6.size; (try simp at s6); (try have z60 : w.heap.size < w6.heap.size := (by omega)); (try have z61 : w.heap.size + 1 < w6.heap.size := (by omega)); (try have z62 : w.heap.size + 1 + 1 < w6.heap.size := (by omega)); (try have z63 : w.heap.size + 1 + 1 + 1 < w6.heap.size := (by omega))); (try have t6 := Nat.lt_of_succ_le s6)))
          all_goals
            go_wp2
            go_ret
            exact ⟨rfl, by (repeat' (first | exact Q.refl _ | assumption | refine Q.alloc ?_ _ | refine Q.drew ?_ | refine Q.drewN ?_ _ | refine Q.setCell ?_ ?_ _ | refine Q.trans ?_ (by assumption) | omega | (simp; done) | (simp; omega)))⟩
        · rw [hh] at e2
          go_wp2_with fail
          refine (boxTouchesI _ _ _ _ _ _ _ _).mono ?_
          rintro e w2 ⟨rfl, q2⟩
          obtain ⟨c2, f2⟩ := q2.cells
          have s2 := q2.size
          (try simp at s2)
          (try have z2_0_0 : w.heap.size < w2.heap.size := (by omega))
          (try have z2_0_1 : w.heap.size + 1 < w2.heap.size := (by omega))
          (try have z2_0_2 : w.heap.size + 1 + 1 < w2.heap.size := (by omega))
          (try have z2_1_0 : w1.heap.size < w2.heap.size := (by omega))
          (try have z2_1_1 : w1.heap.size + 1 < w2.heap.size := (by omega))
          go_wp2_with fail
          refine (boxTouchesS _ _ _ _ _ _ _ _).mono ?_
          rintro e w3 ⟨rfl, q3⟩
          obtain ⟨c3, f3⟩ := q3.cells
          have s3 := q3.size
          (try simp at s3)
          (try have z3_0_0 : w.heap.size < w3.heap.size := (by omega))
          (try have z3_0_1 : w.heap.size + 1 < w3.heap.size := (by omega))
          (try have z3_0_2 : w.heap.size + 1 + 1 < w3.heap.size := (by omega))
          (try have z3_1_0 : w1.heap.size < w3.heap.size := (by omega))
          (try have z3_1_1 : w1.heap.size + 1 < w3.heap.size := (by omega))
          (try have z3_2_0 : w2.heap.size < w3.heap.size := (by omega))
          (try have z3_2_1 : w2.heap.size + 1 < w3.heap.size := (by omega))
          have vv0 : w3.cell? ⟨w1.heap.size, 0, none⟩ = some (.int .i64 a) := by go_simp
          have vv1 : w3.cell? ⟨w1.heap.size, 1, none⟩ = some (.int .i64 b) := by go_simp
          have vv2 : w3.cell? ⟨w1.heap.size, 2, none⟩ = some (.int .i64 c) := by go_simp
          have vv3 : w3.cell? ⟨w1.heap.size, 3, none⟩ = some (.int .i64 d) := by go_simp
          have vv4 : w3.cell? ⟨w1.heap.size + 1, 0, none⟩ = some (.int .i64 x) := by go_simp
          have vv5 : w3.cell? ⟨w1.heap.size + 1, 1, none⟩ = some (.int .i64 y) := by go_simp
          go_wp2_with fail
          go_region_held3 (fun w' => w'.cell? ⟨w1.heap.size, 0, none⟩ = some (.int .i64 a) ∧ w'.cell? ⟨w1.heap.size, 1, none⟩ = some (.int .i64 b) ∧ w'.cell? ⟨w1.heap.size, 2, none⟩ = some (.int .i64 c) ∧ w'.cell? ⟨w1.heap.size, 3, none⟩ = some (.int .i64 d) ∧ w'.cell? ⟨w1.heap.size + 1, 0, none⟩ = some (.int .i64 x) ∧ w'.cell? ⟨w1.heap.size + 1, 1, none⟩ = some (.int .i64 y) ∧ Q w w') ((go_split_ands; (repeat' (with_reducible apply And.intro)) <;> first | (with_reducible assumption) | ((repeat' (first | (with_reducible assumption) | (with_reducible exact cellE (by assumption)) | (with_reducible refine cellA _ ?_) | (with_reducible refine cellD ?_) | (with_reducible refine cellS (by first | (dsimp only; omega) | (simp; omega)) ?_) | (with_reducible refine Q.cell1 (by assumption) ?_))); done) | (with_reducible refine Q.size1 (by assumption) ?_; first | (with_reducible assumption) | (simp; done) | (simp; omega)) | ((repeat' (first | (with_reducible exact Q.refl _) | (with_reducible assumption) | (with_reducible refine Q.setCell ?_ ?_ _) | (with_reducible refine Q.alloc ?_ _) | (with_reducible refine Q.drew ?_) | (with_reducible refine Q.drewN ?_ _) | (with_reducible refine Q.trans ?_ (by assumption)) | omega | (dsimp only; omega) | (simp; done) | (simp; omega))); done) | omega | (simp; done) | (simp; omega) | (simp [*]; done))) (first | (go_split_ands; (go_at_call 14; refine (boxTouchesI _ _ _ _ _ _ _ _).mono ?_; rintro e w4 ⟨rfl, q4⟩; obtain ⟨c4, f4⟩ := q4.cells; have s4 := q4.size; (try simp at s4); (try have z40 : w.heap.size < w4.heap.size := (by omega)); (try have z41 : w.heap.size + 1 < w4.heap.size := (by omega)); (try have z42 : w.heap.size + 1 + 1 < w4.heap.size := (by omega)); (try have z43 : w.heap.size + 1 + 1 + 1 < w4.heap.size := (by omega))); (try have t4 := Nat.lt_of_succ_le s4)) | (go_split_ands; (go_at_call 10; refine (boxHasI _ _ _ _ _ _ _).mono ?_; rintro e w6 ⟨rfl, q6⟩; obtain ⟨c6, f6⟩ := q6.cells; have s6 := q6.size; (try simp at s6); (try have z60 : w.heap.size < w6.heap.size := (by omega)); (try have z61 : w.heap.size + 1 < w6.heap.size := (by omega)); (try have z62 : w.heap.size + 1 + 1 < w6.heap.size := (by omega)); (try have z63 : w.heap.size + 1 + 1 + 1 < w6.heap.size := (by omega))); (try have t6 := Nat.lt_of_succ_le s6)))
          all_goals
            go_wp2
            go_ret
            exact ⟨rfl, by (repeat' (first | exact Q.refl _ | assumption | refine Q.alloc ?_ _ | refine Q.drew ?_ | refine Q.drewN ?_ _ | refine Q.setCell ?_ ?_ _ | refine Q.trans ?_ (by assumption) | omega | (simp; done) | (simp; omega)))⟩
    · have hl1 : ¬ (1048576 : Int) < (cl : Int) := by omega
      have hm1 : (1048576 : Int) < (ml : Int) := by omega
      go_enter Try.func7, Try.ntmps7
      go_wp2
      go_ret
      exact ⟨rfl, by (repeat' (first | exact Q.refl _ | assumption | refine Q.alloc ?_ _ | refine Q.drew ?_ | refine Q.drewN ?_ _ | refine Q.setCell ?_ ?_ _ | refine Q.trans ?_ (by assumption) | omega | (simp; done) | (simp; omega)))⟩
  · have hl1 : (1048576 : Int) < (cl : Int) := by omega
    go_enter Try.func7, Try.ntmps7
    go_wp2
    go_ret
    exact ⟨rfl, by (repeat' (first | exact Q.refl _ | assumption | refine Q.alloc ?_ _ | refine Q.drew ?_ | refine Q.drewN ?_ _ | refine Q.setCell ?_ ?_ _ | refine Q.trans ?_ (by assumption) | omega | (simp; done) | (simp; omega)))⟩

set_option maxRecDepth 100000 in
theorem lifted (os : Os) (started : os.Started) (H : Type) (enc : TypeId × Value → H) :
    ReturnsInHanded {} Try.checked os 7 .any (Rows.fnTouchesMoreSpec.pre6 enc Try.prog Try.f7 Rows.fnTouchesMoreRow.domain false) (Rows.fnTouchesMoreSpec.post enc Try.prog Try.f7 false true false false) := by
  refine returnsInHanded_of_change (C := Try.checked) own started (by kernel_rfl) Try.func7
    (ChangeSpec.witness6 (enc := enc) (C := Try.checked) false ⟨#[], #[.slice none 0 0, .slice none 0 0], []⟩ 8 (by kernel_rfl) (by kernel_rfl) (by kernel_rfl) (by kernel_rfl)) ?_
  intro W base args ds gs before hval0 hW _ _
  have hval : ∀ (j : Nat) t v, Try.f7.params[j]? = some t → args[j]? = some v → Value.okWide Try.prog W .any base t v := hval0
  have hW' := hW
  obtain ⟨p, q, hA0, hV, rfl, _, _⟩ := hW
  have hA : DataW.TrodAll enc Try.prog W 0 (fun _ => true) true Try.f7.params.toList args.toList ds p := hA0
  rw [Try.params7] at hA hval
  obtain ⟨v0, vs0, d0, ds0, p0, q0, hargs, rfl, rfl, h0, r0⟩ := trodAll_cons hA
  obtain ⟨v1, vs1, d1, ds1, p1, q1, rfl, rfl, rfl, h1, r1⟩ := trodAll_cons r0
  obtain ⟨rfl, rfl, rfl⟩ := trodAll_nil r1
  obtain rfl : args = #[v0, v1] := by cases args; simp_all
  obtain ⟨rfl, rfl⟩ := trodVars_none hV
  have k0 := h0
  have lt0 : ∀ x ∈ p0, x.block < W.heap.size := by obtain ⟨m, hm⟩ := k0; exact DataW.trod_lt m _ _ _ hm
  obtain ⟨b0, len0, cap0, rfl⟩ := okWide_slice Try.underlying22 (hval 0 22 v0 rfl rfl)
  obtain ⟨z0, w0⟩ : ∃ zs, IsRow W b0 len0 cap0 zs := by
    obtain ⟨fuel, hf⟩ := h0
    rcases open_ints Try.underlying22 Try.underlying5 (by kernel_rfl) hf with ⟨hcs, _⟩ | ⟨x, l, c, zs, hcs, _, hl, hm, hz, _, hcell, hwz⟩
    · simp [Value.cells] at hcs
      obtain ⟨rfl, rfl, rfl⟩ := hcs
      exact ⟨[], .inl ⟨rfl, rfl, rfl, rfl⟩⟩
    · simp [Value.cells] at hcs
      obtain ⟨rfl, rfl, rfl⟩ := hcs
      exact ⟨zs, .inr ⟨_, rfl, hl, hm, by simpa using hz, hcell, hwz⟩⟩
  have k1 := h1
  have lt1 : ∀ x ∈ p1, x.block < W.heap.size := by obtain ⟨m, hm⟩ := k1; exact DataW.trod_lt m _ _ _ hm
  obtain ⟨b1, len1, cap1, rfl⟩ := okWide_slice Try.underlying22 (hval 1 22 v1 rfl rfl)
  obtain ⟨z1, w1⟩ : ∃ zs, IsRow W b1 len1 cap1 zs := by
    obtain ⟨fuel, hf⟩ := h1
    rcases open_ints Try.underlying22 Try.underlying5 (by kernel_rfl) hf with ⟨hcs, _⟩ | ⟨x, l, c, zs, hcs, _, hl, hm, hz, _, hcell, hwz⟩
    · simp [Value.cells] at hcs
      obtain ⟨rfl, rfl, rfl⟩ := hcs
      exact ⟨[], .inl ⟨rfl, rfl, rfl, rfl⟩⟩
    · simp [Value.cells] at hcs
      obtain ⟨rfl, rfl, rfl⟩ := hcs
      exact ⟨zs, .inr ⟨_, rfl, hl, hm, by simpa using hz, hcell, hwz⟩⟩
  clear hA0 hval0
  refine (walk b0 len0 cap0 z0 b1 len1 cap1 z1 W w0 w1).mono fun e W' ⟨he, bel⟩ => ?_
  subst he
  exact ⟨_, rfl, _, _, _, [], _, [], hW', trodAll_mk1 (shut_bool Try.underlying4 _), (trodAll_cons_mk (Below.trod laidOut (by kernel_rfl) (of_decide_eq_true (by kernel_rfl)) k0 bel lt0) (trodAll_cons_mk (Below.trod laidOut (by kernel_rfl) (of_decide_eq_true (by kernel_rfl)) k1 bel lt1) trodAll_mk0)), rfl, Below.frame bel _, fun h => by cases h⟩

theorem over : Rows.fnTouchesMoreRow.holds Try.pinned (OpenSpec.ofChange Rows.fnTouchesMoreSpec) :=
  OpenClaim.holds_of_wide 7 Try.f7 rfl rfl rfl rfl rfl rfl rfl ⟨rfl, rfl, rfl, rfl, rfl⟩ rfl rfl rfl rfl rfl (by kernel_rfl) Try.func7 (by kernel_rfl)
    (of_decide_eq_true (by kernel_rfl)) (by unfold Func.isWrapper; rw [if_neg (of_decide_eq_false (by kernel_rfl))]; exact ⟨rfl, rfl⟩)
    (fun os started H enc _ => lifted os started H enc)

/-- The statement. -/
theorem proved : Rows.FnTouchesMoreSaid := over
#print axioms proved
end Go.Proofs.Ytkimbehlicnppaa.FnTouchesMore
