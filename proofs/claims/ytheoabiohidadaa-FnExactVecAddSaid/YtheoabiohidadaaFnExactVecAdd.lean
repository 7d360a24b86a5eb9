/-
  Proved: the law FnExactVecAdd returns true for all arguments, and its arguments read afterwards as before. No condition.
-/
import Derived.Test.YtheoabiohidadaaVec
import Derived.Test.YtheoabiohidadaaOpen
import Derived.Test.YtheoabiohidadaaHeld
namespace Go.Proofs.Ytheoabiohidadaa.FnExactVecAdd
open Go.ChangeShapes Go.WideShapes Go.ChangeAt Go.RowKit
set_option linter.unusedVariables false

set_option maxHeartbeats 4000000 in
theorem walk (ux uy : Int) (vx vy : Int) (w : World) (wux : (Lit.int .i64 ux).wf = true) (wuy : (Lit.int .i64 uy).wf = true) (wvx : (Lit.int .i64 vx).wf = true) (wvy : (Lit.int .i64 vy).wf = true) :
    Calls Try.prog 4 #[.agg #[.int .i64 ux, .int .i64 uy], .agg #[.int .i64 vx, .int .i64 vy]] w fun e w' => e = .returned (.bool true) ∧ Q w w' := by
  go_enter Try.func4, Try.ntmps4
  go_upto_region 1 with fail
  go_cut [5, 6] (fun s t wx => ∃ g : Nat, s = .pointer (some ⟨g, 0, none⟩) ∧ t = .bool (P.vaddB ux uy vx vy) ∧ wx.cell? ⟨g, 0, none⟩ = some (.int .i64 (P.sel (P.vaddB ux uy vx vy) (ux + vx))) ∧ wx.cell? ⟨g, 1, none⟩ = some (.int .i64 (P.sel (P.vaddB ux uy vx vy) (uy + vy))) ∧ g < wx.heap.size ∧ w.heap.size ≤ g ∧ wx.cell? ⟨w.heap.size, 0, none⟩ = some (.int .i64 ux) ∧ wx.cell? ⟨w.heap.size, 1, none⟩ = some (.int .i64 uy) ∧ wx.cell? ⟨w.heap.size + 1, 0, none⟩ = some (.int .i64 vx) ∧ wx.cell? ⟨w.heap.size + 1, 1, none⟩ = some (.int .i64 vy) ∧ w.heap.size < wx.heap.size ∧ w.heap.size + 1 < wx.heap.size ∧ Q w wx)
  case first =>
    go_region_held3 (fun w' => w'.cell? ⟨w.heap.size, 0, none⟩ = some (.int .i64 ux) ∧ w'.cell? ⟨w.heap.size, 1, none⟩ = some (.int .i64 uy) ∧ w'.cell? ⟨w.heap.size + 1, 0, none⟩ = some (.int .i64 vx) ∧ w'.cell? ⟨w.heap.size + 1, 1, none⟩ = some (.int .i64 vy) ∧ w.heap.size < w'.heap.size ∧ w.heap.size + 1 < w'.heap.size ∧ Q w w')
      ((go_split_ands; (repeat' apply And.intro) <;> first | (with_reducible assumption) | ((repeat' (first | assumption | (refine cellA _ ?_) | (refine cellS (by first | (dsimp only; omega) | (simp; omega)) ?_) | (refine Q.cell1 (by assumption) ?_))); done) | (refine Q.cell1 (by assumption) ?_; first | assumption | (simp; done)) | (refine Q.size1 (by assumption) ?_; first | assumption | (simp; done) | (simp; omega)) | (refine Q.trans ?_ (by assumption); (repeat' (first | (with_reducible exact Q.refl _) | (with_reducible assumption) | (with_reducible refine Q.setCell ?_ ?_ _) | (with_reducible refine Q.alloc ?_ _) | (with_reducible refine Q.drew ?_) | (with_reducible refine Q.drewN ?_ _) | (with_reducible refine Q.trans ?_ (by assumption)) | omega | (dsimp only; omega) | (simp; done) | (simp; omega))); done) | (refine Q.drew ?_; (repeat' (first | (with_reducible exact Q.refl _) | (with_reducible assumption) | (with_reducible refine Q.setCell ?_ ?_ _) | (with_reducible refine Q.alloc ?_ _) | (with_reducible refine Q.drew ?_) | (with_reducible refine Q.drewN ?_ _) | (with_reducible refine Q.trans ?_ (by assumption)) | omega | (dsimp only; omega) | (simp; done) | (simp; omega))); done) | (refine Q.alloc ?_ _; (repeat' (first | (with_reducible exact Q.refl _) | (with_reducible assumption) | (with_reducible refine Q.setCell ?_ ?_ _) | (with_reducible refine Q.alloc ?_ _) | (with_reducible refine Q.drew ?_) | (with_reducible refine Q.drewN ?_ _) | (with_reducible refine Q.trans ?_ (by assumption)) | omega | (dsimp only; omega) | (simp; done) | (simp; omega))); done) | (refine Q.setCell ?_ ?_ _ <;> (repeat' (first | (with_reducible exact Q.refl _) | (with_reducible assumption) | (with_reducible refine Q.setCell ?_ ?_ _) | (with_reducible refine Q.alloc ?_ _) | (with_reducible refine Q.drew ?_) | (with_reducible refine Q.drewN ?_ _) | (with_reducible refine Q.trans ?_ (by assumption)) | omega | (dsimp only; omega) | (simp; done) | (simp; omega))); done) | omega | (simp; done) | (simp; omega) | (simp [*]; done)))
      (first | (go_split_ands; (go_at_call 12; refine (toVec_any _ _ _).mono ?_; rintro e w1 ⟨rfl, q1⟩; obtain ⟨c1, f1⟩ := q1.cells; have s1 := q1.size; (try simp at s1); (try have z10 : w.heap.size < w1.heap.size := (by omega)); (try have z11 : w.heap.size + 1 < w1.heap.size := (by omega)); (try have z12 : w.heap.size + 1 + 1 < w1.heap.size := (by omega)); (try have z13 : w.heap.size + 1 + 1 + 1 < w1.heap.size := (by omega))); (try have t1 := Nat.lt_of_succ_le s1)) | (go_split_ands; (go_at_call 11; refine (vecAddS _ _ _ _ _).mono ?_; rintro e w3 ⟨rfl, q3⟩; obtain ⟨c3, f3⟩ := q3.cells; have s3 := q3.size; (try simp at s3); (try have z30 : w.heap.size < w3.heap.size := (by omega)); (try have z31 : w.heap.size + 1 < w3.heap.size := (by omega)); (try have z32 : w.heap.size + 1 + 1 < w3.heap.size := (by omega)); (try have z33 : w.heap.size + 1 + 1 + 1 < w3.heap.size := (by omega))); (try have t3 := Nat.lt_of_succ_le s3)))
    all_goals
      go_wp2_with fail
      go_meet
      exact ⟨_, rfl, rfl, by first | assumption | (first | (simp; done) | (go_simp; done) | (rw [World.cell?_setCell_same'] <;> (simp [*]; done))), by first | assumption | (first | (simp; done) | (go_simp; done) | (rw [World.cell?_setCell_same'] <;> (simp [*]; done))), by first | assumption | (simp; done) | (simp; omega) | (simp at *; omega), by first | omega | (simp; omega), by (go_split_ands; (repeat' apply And.intro) <;> first | (with_reducible assumption) | ((repeat' (first | assumption | (refine cellA _ ?_) | (refine cellS (by first | (dsimp only; omega) | (simp; omega)) ?_) | (refine Q.cell1 (by assumption) ?_))); done) | (refine Q.cell1 (by assumption) ?_; first | assumption | (simp; done)) | (refine Q.size1 (by assumption) ?_; first | assumption | (simp; done) | (simp; omega)) | (refine Q.trans ?_ (by assumption); (repeat' (first | (with_reducible exact Q.refl _) | (with_reducible assumption) | (with_reducible refine Q.setCell ?_ ?_ _) | (with_reducible refine Q.alloc ?_ _) | (with_reducible refine Q.drew ?_) | (with_reducible refine Q.drewN ?_ _) | (with_reducible refine Q.trans ?_ (by assumption)) | omega | (dsimp only; omega) | (simp; done) | (simp; omega))); done) | (refine Q.drew ?_; (repeat' (first | (with_reducible exact Q.refl _) | (with_reducible assumption) | (with_reducible refine Q.setCell ?_ ?_ _) | (with_reducible refine Q.alloc ?_ _) | (with_reducible refine Q.drew ?_) | (with_reducible refine Q.drewN ?_ _) | (with_reducible refine Q.trans ?_ (by assumption)) | omega | (dsimp only; omega) | (simp; done) | (simp; omega))); done) | (refine Q.alloc ?_ _; (repeat' (first | (with_reducible exact Q.refl _) | (with_reducible assumption) | (with_reducible refine Q.setCell ?_ ?_ _) | (with_reducible refine Q.alloc ?_ _) | (with_reducible refine Q.drew ?_) | (with_reducible refine Q.drewN ?_ _) | (with_reducible refine Q.trans ?_ (by assumption)) | omega | (dsimp only; omega) | (simp; done) | (simp; omega))); done) | (refine Q.setCell ?_ ?_ _ <;> (repeat' (first | (with_reducible exact Q.refl _) | (with_reducible assumption) | (with_reducible refine Q.setCell ?_ ?_ _) | (with_reducible refine Q.alloc ?_ _) | (with_reducible refine Q.drew ?_) | (with_reducible refine Q.drewN ?_ _) | (with_reducible refine Q.trans ?_ (by assumption)) | omega | (dsimp only; omega) | (simp; done) | (simp; omega))); done) | omega | (simp; done) | (simp; omega) | (simp [*]; done))⟩
  case rest =>
  obtain ⟨g, rfl, rfl, hcut⟩ := hcut
  go_split_ands
  go_upto_region 2 with fail
  go_cut [7, 8] (fun s t wx => ∃ g2 : Nat, s = .pointer (some ⟨g2, 0, none⟩) ∧ t = .bool (P.vaddB ux uy vx vy) ∧ wx.cell? ⟨g2, 0, none⟩ = some (.int .i64 (P.sel (P.vaddB ux uy vx vy) (ux + vx))) ∧ wx.cell? ⟨g2, 1, none⟩ = some (.int .i64 (P.sel (P.vaddB ux uy vx vy) (uy + vy))) ∧ g2 < wx.heap.size ∧ w.heap.size ≤ g2 ∧ wx.cell? ⟨g, 0, none⟩ = some (.int .i64 (P.sel (P.vaddB ux uy vx vy) (ux + vx))) ∧ wx.cell? ⟨g, 1, none⟩ = some (.int .i64 (P.sel (P.vaddB ux uy vx vy) (uy + vy))) ∧ g < wx.heap.size ∧ wx.cell? ⟨w.heap.size, 0, none⟩ = some (.int .i64 ux) ∧ wx.cell? ⟨w.heap.size, 1, none⟩ = some (.int .i64 uy) ∧ wx.cell? ⟨w.heap.size + 1, 0, none⟩ = some (.int .i64 vx) ∧ wx.cell? ⟨w.heap.size + 1, 1, none⟩ = some (.int .i64 vy) ∧ w.heap.size < wx.heap.size ∧ w.heap.size + 1 < wx.heap.size ∧ Q w wx)
  case first =>
    go_region_held3 (fun w' => w'.cell? ⟨g, 0, none⟩ = some (.int .i64 (P.sel (P.vaddB ux uy vx vy) (ux + vx))) ∧ w'.cell? ⟨g, 1, none⟩ = some (.int .i64 (P.sel (P.vaddB ux uy vx vy) (uy + vy))) ∧ g < w'.heap.size ∧ w'.cell? ⟨w.heap.size, 0, none⟩ = some (.int .i64 ux) ∧ w'.cell? ⟨w.heap.size, 1, none⟩ = some (.int .i64 uy) ∧ w'.cell? ⟨w.heap.size + 1, 0, none⟩ = some (.int .i64 vx) ∧ w'.cell? ⟨w.heap.size + 1, 1, none⟩ = some (.int .i64 vy) ∧ w.heap.size < w'.heap.size ∧ w.heap.size + 1 < w'.heap.size ∧ Q w w')
      ((go_split_ands; (repeat' apply And.intro) <;> first | (with_reducible assumption) | ((repeat' (first | assumption | (refine cellA _ ?_) | (refine cellS (by first | (dsimp only; omega) | (simp; omega)) ?_) | (refine Q.cell1 (by assumption) ?_))); done) | (refine Q.cell1 (by assumption) ?_; first | assumption | (simp; done)) | (refine Q.size1 (by assumption) ?_; first | assumption | (simp; done) | (simp; omega)) | (refine Q.trans ?_ (by assumption); (repeat' (first | (with_reducible exact Q.refl _) | (with_reducible assumption) | (with_reducible refine Q.setCell ?_ ?_ _) | (with_reducible refine Q.alloc ?_ _) | (with_reducible refine Q.drew ?_) | (with_reducible refine Q.drewN ?_ _) | (with_reducible refine Q.trans ?_ (by assumption)) | omega | (dsimp only; omega) | (simp; done) | (simp; omega))); done) | (refine Q.drew ?_; (repeat' (first | (with_reducible exact Q.refl _) | (with_reducible assumption) | (with_reducible refine Q.setCell ?_ ?_ _) | (with_reducible refine Q.alloc ?_ _) | (with_reducible refine Q.drew ?_) | (with_reducible refine Q.drewN ?_ _) | (with_reducible refine Q.trans ?_ (by assumption)) | omega | (dsimp only; omega) | (simp; done) | (simp; omega))); done) | (refine Q.alloc ?_ _; (repeat' (first | (with_reducible exact Q.refl _) | (with_reducible assumption) | (with_reducible refine Q.setCell ?_ ?_ _) | (with_reducible refine Q.alloc ?_ _) | (with_reducible refine Q.drew ?_) | (with_reducible refine Q.drewN ?_ _) | (with_reducible refine Q.trans ?_ (by assumption)) | omega | (dsimp only; omega) | (simp; done) | (simp; omega))); done) | (refine Q.setCell ?_ ?_ _ <;> (repeat' (first | (with_reducible exact Q.refl _) | (with_reducible assumption) | (with_reducible refine Q.setCell ?_ ?_ _) | (with_reducible refine Q.alloc ?_ _) | (with_reducible refine Q.drew ?_) | (with_reducible refine Q.drewN ?_ _) | (with_reducible refine Q.trans ?_ (by assumption)) | omega | (dsimp only; omega) | (simp; done) | (simp; omega))); done) | omega | (simp; done) | (simp; omega) | (simp [*]; done)))
      (first | (go_split_ands; (go_at_call 12; refine (toVec_any _ _ _).mono ?_; rintro e w4 ⟨rfl, q4⟩; obtain ⟨c4, f4⟩ := q4.cells; have s4 := q4.size; (try simp at s4); (try have z40 : w.heap.size < w4.heap.size := (by omega)); (try have z41 : w.heap.size + 1 < w4.heap.size := (by omega)); (try have z42 : w.heap.size + 1 + 1 < w4.heap.size := (by omega)); (try have z43 : w.heap.size + 1 + 1 + 1 < w4.heap.size := (by omega))); (try have t4 := Nat.lt_of_succ_le s4); (try have zwc4 : wc.heap.size < w4.heap.size := (by omega))) | (go_split_ands; (go_at_call 13; refine (vecAddI _ _ _ _ _).mono ?_; rintro e w6 ⟨rfl, q6⟩; obtain ⟨c6, f6⟩ := q6.cells; have s6 := q6.size; (try simp at s6); (try have z60 : w.heap.size < w6.heap.size := (by omega)); (try have z61 : w.heap.size + 1 < w6.heap.size := (by omega)); (try have z62 : w.heap.size + 1 + 1 < w6.heap.size := (by omega)); (try have z63 : w.heap.size + 1 + 1 + 1 < w6.heap.size := (by omega))); (try have t6 := Nat.lt_of_succ_le s6); (try have zwc6 : wc.heap.size < w6.heap.size := (by omega))))
    all_goals
      go_wp2_with fail
      go_meet
      exact ⟨_, rfl, rfl, by first | assumption | (first | (simp; done) | (go_simp; done) | (rw [World.cell?_setCell_same'] <;> (simp [*]; done))), by first | assumption | (first | (simp; done) | (go_simp; done) | (rw [World.cell?_setCell_same'] <;> (simp [*]; done))), by first | assumption | (simp; done) | (simp; omega) | (simp at *; omega), by first | omega | (simp; omega), by (go_split_ands; (repeat' apply And.intro) <;> first | (with_reducible assumption) | ((repeat' (first | assumption | (refine cellA _ ?_) | (refine cellS (by first | (dsimp only; omega) | (simp; omega)) ?_) | (refine Q.cell1 (by assumption) ?_))); done) | (refine Q.cell1 (by assumption) ?_; first | assumption | (simp; done)) | (refine Q.size1 (by assumption) ?_; first | assumption | (simp; done) | (simp; omega)) | (refine Q.trans ?_ (by assumption); (repeat' (first | (with_reducible exact Q.refl _) | (with_reducible assumption) | (with_reducible refine Q.setCell ?_ ?_ _) | (with_reducible refine Q.alloc ?_ _) | (with_reducible refine Q.drew ?_) | (with_reducible refine Q.drewN ?_ _) | (with_reducible refine Q.trans ?_ (by assumption)) | omega | (dsimp only; omega) | (simp; done) | (simp; omega))); done) | (refine Q.drew ?_; (repeat' (first | (with_reducible exact Q.refl _) | (with_reducible assumption) | (with_reducible refine Q.setCell ?_ ?_ _) | (with_reducible refine Q.alloc ?_ _) | (with_reducible refine Q.drew ?_) | (with_reducible refine Q.drewN ?_ _) | (with_reducible refine Q.trans ?_ (by assumption)) | omega | (dsimp only; omega) | (simp; done) | (simp; omega))); done) | (refine Q.alloc ?_ _; (repeat' (first | (with_reducible exact Q.refl _) | (with_reducible assumption) | (with_reducible refine Q.setCell ?_ ?_ _) | (with_reducible refine Q.alloc ?_ _) | (with_reducible refine Q.drew ?_) | (with_reducible refine Q.drewN ?_ _) | (with_reducible refine Q.trans ?_ (by assumption)) | omega | (dsimp only; omega) | (simp; done) | (simp; omega))); done) | (refine Q.setCell ?_ ?_ _ <;> (repeat' (first | (with_reducible exact Q.refl _) | (with_reducible assumption) | (with_reducible refine Q.setCell ?_ ?_ _) | (with_reducible refine Q.alloc ?_ _) | (with_reducible refine Q.drew ?_) | (with_reducible refine Q.drewN ?_ _) | (with_reducible refine Q.trans ?_ (by assumption)) | omega | (dsimp only; omega) | (simp; done) | (simp; omega))); done) | omega | (simp; done) | (simp; omega) | (simp [*]; done))⟩
  case rest =>
  obtain ⟨g2, rfl, rfl, hcut⟩ := hcut
  go_split_ands
  go_wp2_with fail
  refine (eqVec_same _ _ _).mono ?_
  rintro e w7 ⟨rfl, q7⟩
  obtain ⟨c7, f7⟩ := q7.cells
  have s7 := q7.size
  (try simp at s7)
  (try have z7_0_0 : w.heap.size < w7.heap.size := (by omega))
  (try have z7_0_1 : w.heap.size + 1 < w7.heap.size := (by omega))
  (try have z7_0_2 : w.heap.size + 1 + 1 < w7.heap.size := (by omega))
  (try have z7_1_0 : w1.heap.size < w7.heap.size := (by omega))
  (try have z7_1_1 : w1.heap.size + 1 < w7.heap.size := (by omega))
  (try have z7_2_0 : w2.heap.size < w7.heap.size := (by omega))
  (try have z7_2_1 : w2.heap.size + 1 < w7.heap.size := (by omega))
  (try have z7_3_0 : w3.heap.size < w7.heap.size := (by omega))
  (try have z7_3_1 : w3.heap.size + 1 < w7.heap.size := (by omega))
  (try have z7_4_0 : w4.heap.size < w7.heap.size := (by omega))
  (try have z7_4_1 : w4.heap.size + 1 < w7.heap.size := (by omega))
  (try have z7_5_0 : w5.heap.size < w7.heap.size := (by omega))
  (try have z7_5_1 : w5.heap.size + 1 < w7.heap.size := (by omega))
  (try have z7_6_0 : w6.heap.size < w7.heap.size := (by omega))
  (try have z7_6_1 : w6.heap.size + 1 < w7.heap.size := (by omega))
  go_wp2
  go_ret
  exact ⟨rfl, by (repeat' (first | (with_reducible exact Q.refl _) | (with_reducible assumption) | (with_reducible refine Q.setCell ?_ ?_ _) | (with_reducible refine Q.alloc ?_ _) | (with_reducible refine Q.drew ?_) | (with_reducible refine Q.drewN ?_ _) | (with_reducible refine Q.trans ?_ (by assumption)) | omega | (dsimp only; omega) | (simp; done) | (simp; omega)))⟩

set_option maxRecDepth 100000 in
theorem lifted (os : Os) (started : os.Started) (H : Type) (enc : TypeId × Value → H) :
    ReturnsInHanded {} Try.checked os 4 .any (Rows.fnExactVecAddSpec.pre6 enc Try.prog Try.f4 Rows.fnExactVecAddRow.domain false) (Rows.fnExactVecAddSpec.post enc Try.prog Try.f4 false true false false) := by
  refine returnsInHanded_of_change (C := Try.checked) own started (by kernel_rfl) Try.func4
    (ChangeSpec.witness6 (enc := enc) (C := Try.checked) false ⟨#[], #[.agg #[.int .i64 0, .int .i64 0], .agg #[.int .i64 0, .int .i64 0]], []⟩ 8 (by kernel_rfl) (by kernel_rfl) (by kernel_rfl) (by kernel_rfl)) ?_
  intro W base args ds gs before hval0 hW _ _
  have hval : ∀ (j : Nat) t v, Try.f4.params[j]? = some t → args[j]? = some v → Value.okWide Try.prog W .any base t v := hval0
  have hW' := hW
  obtain ⟨p, q, hA0, hV, rfl, _, _⟩ := hW
  have hA : DataW.TrodAll enc Try.prog W 0 (fun _ => true) true Try.f4.params.toList args.toList ds p := hA0
  rw [Try.params4] at hA hval
  obtain ⟨v0, vs0, d0, ds0, p0, q0, hargs, rfl, rfl, h0, r0⟩ := trodAll_cons hA
  obtain ⟨v1, vs1, d1, ds1, p1, q1, rfl, rfl, rfl, h1, r1⟩ := trodAll_cons r0
  obtain ⟨rfl, rfl, rfl⟩ := trodAll_nil r1
  obtain rfl : args = #[v0, v1] := by cases args; simp_all
  obtain ⟨rfl, rfl⟩ := trodVars_none hV
  have k0 := h0
  have lt0 : ∀ x ∈ p0, x.block < W.heap.size := by obtain ⟨m, hm⟩ := k0; exact DataW.trod_lt m _ _ _ hm
  obtain ⟨x0, y0, rfl, wx0, wy0⟩ := open_vec Try.underlying28 (by kernel_rfl) (by kernel_rfl) Try.underlying3 Try.underlying3 (hval 0 28 v0 rfl rfl) h0
  have k1 := h1
  have lt1 : ∀ x ∈ p1, x.block < W.heap.size := by obtain ⟨m, hm⟩ := k1; exact DataW.trod_lt m _ _ _ hm
  obtain ⟨x1, y1, rfl, wx1, wy1⟩ := open_vec Try.underlying28 (by kernel_rfl) (by kernel_rfl) Try.underlying3 Try.underlying3 (hval 1 28 v1 rfl rfl) h1
  clear hA0 hval0
  refine (walk x0 y0 x1 y1 W wx0 wy0 wx1 wy1).mono fun e W' ⟨he, bel⟩ => ?_
  subst he
  exact ⟨_, rfl, _, _, _, [], _, [], hW', trodAll_mk1 (shut_bool Try.underlying4 _), (trodAll_cons_mk (Below.trod laidOut (by kernel_rfl) (of_decide_eq_true (by kernel_rfl)) k0 bel lt0) (trodAll_cons_mk (Below.trod laidOut (by kernel_rfl) (of_decide_eq_true (by kernel_rfl)) k1 bel lt1) trodAll_mk0)), rfl, Below.frame bel _, fun h => by cases h⟩

theorem over : Rows.fnExactVecAddRow.holds Try.pinned (OpenSpec.ofChange Rows.fnExactVecAddSpec) :=
  OpenClaim.holds_of_wide 4 Try.f4 rfl rfl rfl rfl rfl rfl rfl ⟨rfl, rfl, rfl, rfl, rfl⟩ rfl rfl rfl rfl rfl (by kernel_rfl) Try.func4 (by kernel_rfl)
    (of_decide_eq_true (by kernel_rfl)) (by unfold Func.isWrapper; rw [if_neg (of_decide_eq_false (by kernel_rfl))]; exact ⟨rfl, rfl⟩)
    (fun os started H enc _ => lifted os started H enc)

/-- The statement. -/
theorem proved : Rows.FnExactVecAddSaid := over
#print axioms proved
end Go.Proofs.Ytheoabiohidadaa.FnExactVecAdd
