/-
  Proved: the law FnMeet returns true for all arguments, and its arguments read afterwards as before. No condition.
-/
import Derived.Test.YtakmeajdkcojoaaPlainC
import Derived.Test.YtakmeajdkcojoaaMeet
import Derived.Test.YtakmeajdkcojoaaOpen
import Derived.Test.YtakmeajdkcojoaaBDraw4
namespace Go.Proofs.Ytakmeajdkcojoaa.FnMeet
open Go.ChangeShapes Go.WideShapes Go.ChangeAt Go.RowKit
set_option linter.unusedVariables false

set_option maxHeartbeats 2000000 in
theorem walk (ca : Option Addr) (cl cc : Nat) (cz : List Int) (w : World) (wc : IsRow w ca cl cc cz) :
    Calls Try.prog 4 #[.slice ca cl cc] w fun e w' => e = .returned (.bool true) ∧ Q w w' := by
  by_cases hl : cl ≤ 1048576
  · have hl1 : ¬ (1048576 : Int) < (cl : Int) := by omega
    go_enter Try.func4, Try.ntmps4
    go_wp2_with fail
    refine (drawBoxMeet _ _ _ cz _ wc).mono ?_
    rintro e w1 ⟨a, b, c, d, a', b', c', d', wf, wf', rfl, q1⟩
    cases h : P.meetB a b c d a' b' c' d'
    · have sf := P.sel_false
      go_wp2_with fail
      refine (boxMeetI _ _ _ _ _ _ _ _ _).mono ?_
      rintro e w2 ⟨rfl, q2⟩
      obtain ⟨c2, f2⟩ := q2.cells
      have s2 := q2.size
      (try simp at s2)
      (try have z2_0_0 : w.heap.size < w2.heap.size := (by omega))
      (try have z2_0_1 : w.heap.size + 1 < w2.heap.size := (by omega))
      (try have z2_0_2 : w.heap.size + 1 + 1 < w2.heap.size := (by omega))
      (try have z2_1_0 : w1.heap.size < w2.heap.size := (by omega))
      (try have z2_1_1 : w1.heap.size + 1 < w2.heap.size := (by omega))
      go_wp2_with fail
      refine (boxMeetS _ _ _ _ _ _ _ _ _).mono ?_
      rintro e w3 ⟨rfl, q3⟩
      obtain ⟨c3, f3⟩ := q3.cells
      have s3 := q3.size
      (try simp at s3)
      (try have z3_0_0 : w.heap.size < w3.heap.size := (by omega))
      (try have z3_0_1 : w.heap.size + 1 < w3.heap.size := (by omega))
      (try have z3_0_2 : w.heap.size + 1 + 1 < w3.heap.size := (by omega))
      (try have z3_1_0 : w1.heap.size < w3.heap.size := (by omega))
      (try have z3_1_1 : w1.heap.size + 1 < w3.heap.size := (by omega))
      (try have z3_2_0 : w2.heap.size < w3.heap.size := (by omega))
      (try have z3_2_1 : w2.heap.size + 1 < w3.heap.size := (by omega))
      go_wp2
      go_ret
      exact ⟨rfl, by (repeat' (first | exact Q.refl _ | assumption | refine Q.alloc ?_ _ | refine Q.drew ?_ | refine Q.drewN ?_ _ | refine Q.setCell ?_ ?_ _ | refine Q.trans ?_ (by assumption) | omega | (simp; done) | (simp; omega)))⟩
    · have st := P.sel_true
      obtain ⟨e1, e2, e3, e4⟩ := P.meet_has h
      have e5 : P.boxOk (P.mx a a') (P.mx b b') (P.mn c c') (P.mn d d') = true := (P.meetB_iff.1 h).2.2
      have e6 : P.meetB a' b' c' d' a b c d = true := (P.meetB_comm a b c d a' b' c' d').trans h
      obtain ⟨e7, e8, e9, e10⟩ := P.meetI_comm a b c d a' b' c' d'
      go_wp2_with fail
      refine (boxMeetI _ _ _ _ _ _ _ _ _).mono ?_
      rintro e w2 ⟨rfl, q2⟩
      obtain ⟨c2, f2⟩ := q2.cells
      have s2 := q2.size
      (try simp at s2)
      (try have z2_0_0 : w.heap.size < w2.heap.size := (by omega))
      (try have z2_0_1 : w.heap.size + 1 < w2.heap.size := (by omega))
      (try have z2_0_2 : w.heap.size + 1 + 1 < w2.heap.size := (by omega))
      (try have z2_1_0 : w1.heap.size < w2.heap.size := (by omega))
      (try have z2_1_1 : w1.heap.size + 1 < w2.heap.size := (by omega))
      go_wp2_with fail
      refine (boxMeetS _ _ _ _ _ _ _ _ _).mono ?_
      rintro e w3 ⟨rfl, q3⟩
      obtain ⟨c3, f3⟩ := q3.cells
      have s3 := q3.size
      (try simp at s3)
      (try have z3_0_0 : w.heap.size < w3.heap.size := (by omega))
      (try have z3_0_1 : w.heap.size + 1 < w3.heap.size := (by omega))
      (try have z3_0_2 : w.heap.size + 1 + 1 < w3.heap.size := (by omega))
      (try have z3_1_0 : w1.heap.size < w3.heap.size := (by omega))
      (try have z3_1_1 : w1.heap.size + 1 < w3.heap.size := (by omega))
      (try have z3_2_0 : w2.heap.size < w3.heap.size := (by omega))
      (try have z3_2_1 : w2.heap.size + 1 < w3.heap.size := (by omega))
      go_wp2_with fail
      refine (boxMeetI _ _ _ _ _ _ _ _ _).mono ?_
      rintro e w4 ⟨rfl, q4⟩
      obtain ⟨c4, f4⟩ := q4.cells
      have s4 := q4.size
      (try simp at s4)
      (try have z4_0_0 : w.heap.size < w4.heap.size := (by omega))
      (try have z4_0_1 : w.heap.size + 1 < w4.heap.size := (by omega))
      (try have z4_0_2 : w.heap.size + 1 + 1 < w4.heap.size := (by omega))
      (try have z4_1_0 : w1.heap.size < w4.heap.size := (by omega))
      (try have z4_1_1 : w1.heap.size + 1 < w4.heap.size := (by omega))
      (try have z4_2_0 : w2.heap.size < w4.heap.size := (by omega))
      (try have z4_2_1 : w2.heap.size + 1 < w4.heap.size := (by omega))
      (try have z4_3_0 : w3.heap.size < w4.heap.size := (by omega))
      (try have z4_3_1 : w3.heap.size + 1 < w4.heap.size := (by omega))
      go_wp2_with fail
      refine (boxValidI _ _ _ _ _).mono ?_
      rintro e w5 ⟨rfl, q5⟩
      obtain ⟨c5, f5⟩ := q5.cells
      have s5 := q5.size
      (try simp at s5)
      (try have z5_0_0 : w.heap.size < w5.heap.size := (by omega))
      (try have z5_0_1 : w.heap.size + 1 < w5.heap.size := (by omega))
      (try have z5_0_2 : w.heap.size + 1 + 1 < w5.heap.size := (by omega))
      (try have z5_1_0 : w1.heap.size < w5.heap.size := (by omega))
      (try have z5_1_1 : w1.heap.size + 1 < w5.heap.size := (by omega))
      (try have z5_2_0 : w2.heap.size < w5.heap.size := (by omega))
      (try have z5_2_1 : w2.heap.size + 1 < w5.heap.size := (by omega))
      (try have z5_3_0 : w3.heap.size < w5.heap.size := (by omega))
      (try have z5_3_1 : w3.heap.size + 1 < w5.heap.size := (by omega))
      (try have z5_4_0 : w4.heap.size < w5.heap.size := (by omega))
      (try have z5_4_1 : w4.heap.size + 1 < w5.heap.size := (by omega))
      go_wp2_with fail
      refine (boxHasI _ _ _ _ _ _ _).mono ?_
      rintro e w6 ⟨rfl, q6⟩
      obtain ⟨c6, f6⟩ := q6.cells
      have s6 := q6.size
      (try simp at s6)
      (try have z6_0_0 : w.heap.size < w6.heap.size := (by omega))
      (try have z6_0_1 : w.heap.size + 1 < w6.heap.size := (by omega))
      (try have z6_0_2 : w.heap.size + 1 + 1 < w6.heap.size := (by omega))
      (try have z6_1_0 : w1.heap.size < w6.heap.size := (by omega))
      (try have z6_1_1 : w1.heap.size + 1 < w6.heap.size := (by omega))
      (try have z6_2_0 : w2.heap.size < w6.heap.size := (by omega))
      (try have z6_2_1 : w2.heap.size + 1 < w6.heap.size := (by omega))
      (try have z6_3_0 : w3.heap.size < w6.heap.size := (by omega))
      (try have z6_3_1 : w3.heap.size + 1 < w6.heap.size := (by omega))
      (try have z6_4_0 : w4.heap.size < w6.heap.size := (by omega))
      (try have z6_4_1 : w4.heap.size + 1 < w6.heap.size := (by omega))
      (try have z6_5_0 : w5.heap.size < w6.heap.size := (by omega))
      (try have z6_5_1 : w5.heap.size + 1 < w6.heap.size := (by omega))
      go_wp2_with fail
      refine (boxHasI _ _ _ _ _ _ _).mono ?_
      rintro e w7 ⟨rfl, q7⟩
      obtain ⟨c7, f7⟩ := q7.cells
      have s7 := q7.size
      (try simp at s7)
      (try have z7_0_0 : w.heap.size < w7.heap.size := (by omega))
      (try have z7_0_1 : w.heap.size + 1 < w7.heap.size := (by omega))
      (try have z7_0_2 : w.heap.size + 1 + 1 < w7.heap.size := (by omega))
      (try have z7_1_0 : w1.heap.size < w7.heap.size := (by omega))
      (try have z7_1_1 : w1.heap.size + 1 < w7.heap.size := (by omega))
      (try have z7_2_0 : w2.heap.size < w7.heap.size := (by omega))
      (try have z7_2_1 : w2.heap.size + 1 < w7.heap.size := (by omega))
      (try have z7_3_0 : w3.heap.size < w7.heap.size := (by omega))
      (try have z7_3_1 : w3.heap.size + 1 < w7.heap.size := (by omega))
      (try have z7_4_0 : w4.heap.size < w7.heap.size := (by omega))
      (try have z7_4_1 : w4.heap.size + 1 < w7.heap.size := (by omega))
      (try have z7_5_0 : w5.heap.size < w7.heap.size := (by omega))
      (try have z7_5_1 : w5.heap.size + 1 < w7.heap.size := (by omega))
      (try have z7_6_0 : w6.heap.size < w7.heap.size := (by omega))
      (try have z7_6_1 : w6.heap.size + 1 < w7.heap.size := (by omega))
      go_wp2_with fail
      refine (boxHasI _ _ _ _ _ _ _).mono ?_
      rintro e w8 ⟨rfl, q8⟩
      obtain ⟨c8, f8⟩ := q8.cells
      have s8 := q8.size
      (try simp at s8)
      (try have z8_0_0 : w.heap.size < w8.heap.size := (by omega))
      (try have z8_0_1 : w.heap.size + 1 < w8.heap.size := (by omega))
      (try have z8_0_2 : w.heap.size + 1 + 1 < w8.heap.size := (by omega))
      (try have z8_1_0 : w1.heap.size < w8.heap.size := (by omega))
      (try have z8_1_1 : w1.heap.size + 1 < w8.heap.size := (by omega))
      (try have z8_2_0 : w2.heap.size < w8.heap.size := (by omega))
      (try have z8_2_1 : w2.heap.size + 1 < w8.heap.size := (by omega))
      (try have z8_3_0 : w3.heap.size < w8.heap.size := (by omega))
      (try have z8_3_1 : w3.heap.size + 1 < w8.heap.size := (by omega))
      (try have z8_4_0 : w4.heap.size < w8.heap.size := (by omega))
      (try have z8_4_1 : w4.heap.size + 1 < w8.heap.size := (by omega))
      (try have z8_5_0 : w5.heap.size < w8.heap.size := (by omega))
      (try have z8_5_1 : w5.heap.size + 1 < w8.heap.size := (by omega))
      (try have z8_6_0 : w6.heap.size < w8.heap.size := (by omega))
      (try have z8_6_1 : w6.heap.size + 1 < w8.heap.size := (by omega))
      (try have z8_7_0 : w7.heap.size < w8.heap.size := (by omega))
      (try have z8_7_1 : w7.heap.size + 1 < w8.heap.size := (by omega))
      go_wp2_with fail
      refine (boxHasI _ _ _ _ _ _ _).mono ?_
      rintro e w9 ⟨rfl, q9⟩
      obtain ⟨c9, f9⟩ := q9.cells
      have s9 := q9.size
      (try simp at s9)
      (try have z9_0_0 : w.heap.size < w9.heap.size := (by omega))
      (try have z9_0_1 : w.heap.size + 1 < w9.heap.size := (by omega))
      (try have z9_0_2 : w.heap.size + 1 + 1 < w9.heap.size := (by omega))
      (try have z9_1_0 : w1.heap.size < w9.heap.size := (by omega))
      (try have z9_1_1 : w1.heap.size + 1 < w9.heap.size := (by omega))
      (try have z9_2_0 : w2.heap.size < w9.heap.size := (by omega))
      (try have z9_2_1 : w2.heap.size + 1 < w9.heap.size := (by omega))
      (try have z9_3_0 : w3.heap.size < w9.heap.size := (by omega))
      (try have z9_3_1 : w3.heap.size + 1 < w9.heap.size := (by omega))
      (try have z9_4_0 : w4.heap.size < w9.heap.size := (by omega))
      (try have z9_4_1 : w4.heap.size + 1 < w9.heap.size := (by omega))
      (try have z9_5_0 : w5.heap.size < w9.heap.size := (by omega))
      (try have z9_5_1 : w5.heap.size + 1 < w9.heap.size := (by omega))
      (try have z9_6_0 : w6.heap.size < w9.heap.size := (by omega))
      (try have z9_6_1 : w6.heap.size + 1 < w9.heap.size := (by omega))
      (try have z9_7_0 : w7.heap.size < w9.heap.size := (by omega))
      (try have z9_7_1 : w7.heap.size + 1 < w9.heap.size := (by omega))
      (try have z9_8_0 : w8.heap.size < w9.heap.size := (by omega))
      (try have z9_8_1 : w8.heap.size + 1 < w9.heap.size := (by omega))
      go_wp2
      go_ret
      exact ⟨rfl, by (repeat' (first | exact Q.refl _ | assumption | refine Q.alloc ?_ _ | refine Q.drew ?_ | refine Q.drewN ?_ _ | refine Q.setCell ?_ ?_ _ | refine Q.trans ?_ (by assumption) | omega | (simp; done) | (simp; omega)))⟩
  · have hl1 : (1048576 : Int) < (cl : Int) := by omega
    go_enter Try.func4, Try.ntmps4
    go_wp2
    go_ret
    exact ⟨rfl, by (repeat' (first | exact Q.refl _ | assumption | refine Q.alloc ?_ _ | refine Q.drew ?_ | refine Q.drewN ?_ _ | refine Q.setCell ?_ ?_ _ | refine Q.trans ?_ (by assumption) | omega | (simp; done) | (simp; omega)))⟩

set_option maxRecDepth 100000 in
theorem lifted (os : Os) (started : os.Started) (H : Type) (enc : TypeId × Value → H) :
    ReturnsInHanded {} Try.checked os 4 .any (Rows.fnMeetSpec.pre6 enc Try.prog Try.f4 Rows.fnMeetRow.domain false) (Rows.fnMeetSpec.post enc Try.prog Try.f4 false true false false) := by
  refine returnsInHanded_of_change (C := Try.checked) own started (by kernel_rfl) Try.func4
    (ChangeSpec.witness6 (enc := enc) (C := Try.checked) false ⟨#[], #[.slice none 0 0], []⟩ 8 (by kernel_rfl) (by kernel_rfl) (by kernel_rfl) (by kernel_rfl)) ?_
  intro W base args ds gs before hval0 hW _ _
  have hval : ∀ (j : Nat) t v, Try.f4.params[j]? = some t → args[j]? = some v → Value.okWide Try.prog W .any base t v := hval0
  have hW' := hW
  obtain ⟨p, q, hA0, hV, rfl, _, _⟩ := hW
  have hA : DataW.TrodAll enc Try.prog W 0 (fun _ => true) true Try.f4.params.toList args.toList ds p := hA0
  rw [Try.params4] at hA hval
  obtain ⟨v0, vs0, d0, ds0, p0, q0, hargs, rfl, rfl, h0, r0⟩ := trodAll_cons hA
  obtain ⟨rfl, rfl, rfl⟩ := trodAll_nil r0
  obtain rfl : args = #[v0] := by cases args; simp_all
  obtain ⟨rfl, rfl⟩ := trodVars_none hV
  have k0 := h0
  have lt0 : ∀ x ∈ p0, x.block < W.heap.size := by obtain ⟨m, hm⟩ := k0; exact DataW.trod_lt m _ _ _ hm
  obtain ⟨b0, len0, cap0, rfl⟩ := okWide_slice Try.underlying22 (hval 0 22 v0 rfl rfl)
  obtain ⟨z0, w0⟩ : ∃ zs, IsRow W b0 len0 cap0 zs := by
    obtain ⟨fuel, hf⟩ := h0
    rcases open_ints Try.underlying22 Try.underlying5 (by kernel_rfl) hf with ⟨hcs, _⟩ | ⟨x, l, c, zs, hcs, _, hl, hm, hz, _, hcell, hwz⟩
    · simp [Value.cells] at hcs
      obtain ⟨rfl, rfl, rfl⟩ := hcs
      exact ⟨[], .inl ⟨rfl, rfl, rfl, rfl⟩⟩
    · simp [Value.cells] at hcs
      obtain ⟨rfl, rfl, rfl⟩ := hcs
      exact ⟨zs, .inr ⟨_, rfl, hl, hm, by simpa using hz, hcell, hwz⟩⟩
  clear hA0 hval0
  refine (walk b0 len0 cap0 z0 W w0).mono fun e W' ⟨he, bel⟩ => ?_
  subst he
  exact ⟨_, rfl, _, _, _, [], _, [], hW', trodAll_mk1 (shut_bool Try.underlying4 _), (trodAll_cons_mk (Below.trod laidOut (by kernel_rfl) (of_decide_eq_true (by kernel_rfl)) k0 bel lt0) trodAll_mk0), rfl, Below.frame bel _, fun h => by cases h⟩

theorem over : Rows.fnMeetRow.holds Try.pinned (OpenSpec.ofChange Rows.fnMeetSpec) :=
  OpenClaim.holds_of_wide 4 Try.f4 rfl rfl rfl rfl rfl rfl rfl ⟨rfl, rfl, rfl, rfl, rfl⟩ rfl rfl rfl rfl rfl (by kernel_rfl) Try.func4 (by kernel_rfl)
    (of_decide_eq_true (by kernel_rfl)) (by unfold Func.isWrapper; rw [if_neg (of_decide_eq_false (by kernel_rfl))]; exact ⟨rfl, rfl⟩)
    (fun os started H enc _ => lifted os started H enc)

/-- The statement. -/
theorem proved : Rows.FnMeetSaid := over
#print axioms proved
end Go.Proofs.Ytakmeajdkcojoaa.FnMeet
