/-
  Proved: the law FnExactBoxMeet returns true for all arguments, and its arguments read afterwards as before. No condition.
-/
import Derived.Test.YtjegojhlcmhaoaaMeet
import Derived.Test.YtjegojhlcmhaoaaOpen
import Derived.Test.YtjegojhlcmhaoaaHeld
namespace Go.Proofs.Ytjegojhlcmhaoaa.FnExactBoxMeet
open Go.ChangeShapes Go.WideShapes Go.ChangeAt Go.RowKit
set_option linter.unusedVariables false

set_option maxHeartbeats 8000000 in
theorem walk (ulx uly uhx uhy : Int) (vlx vly vhx vhy : Int) (w : World) (wulx : (Lit.int .i64 ulx).wf = true) (wuly : (Lit.int .i64 uly).wf = true) (wuhx : (Lit.int .i64 uhx).wf = true) (wuhy : (Lit.int .i64 uhy).wf = true) (wvlx : (Lit.int .i64 vlx).wf = true) (wvly : (Lit.int .i64 vly).wf = true) (wvhx : (Lit.int .i64 vhx).wf = true) (wvhy : (Lit.int .i64 vhy).wf = true) :
    Calls Try.prog 8 #[.agg #[.int .i64 ulx, .int .i64 uly, .int .i64 uhx, .int .i64 uhy], .agg #[.int .i64 vlx, .int .i64 vly, .int .i64 vhx, .int .i64 vhy]] w fun e w' => e = .returned (.bool true) ∧ Q w w' := by
  go_enter Try.func8, Try.ntmps8
  go_upto_region 1 with fail
  go_cut [5, 6] (fun s t wx => ∃ g : Nat, s = .pointer (some ⟨g, 0, none⟩) ∧ t = .bool (P.meetB ulx uly uhx uhy vlx vly vhx vhy) ∧ wx.cell? ⟨g, 0, none⟩ = some (.int .i64 (P.sel (P.meetB ulx uly uhx uhy vlx vly vhx vhy) (P.mx ulx vlx))) ∧ wx.cell? ⟨g, 1, none⟩ = some (.int .i64 (P.sel (P.meetB ulx uly uhx uhy vlx vly vhx vhy) (P.mx uly vly))) ∧ wx.cell? ⟨g, 2, none⟩ = some (.int .i64 (P.sel (P.meetB ulx uly uhx uhy vlx vly vhx vhy) (P.mn uhx vhx))) ∧ wx.cell? ⟨g, 3, none⟩ = some (.int .i64 (P.sel (P.meetB ulx uly uhx uhy vlx vly vhx vhy) (P.mn uhy vhy))) ∧ g < wx.heap.size ∧ w.heap.size ≤ g ∧ wx.cell? ⟨w.heap.size, 0, none⟩ = some (.int .i64 ulx) ∧ wx.cell? ⟨w.heap.size, 1, none⟩ = some (.int .i64 uly) ∧ wx.cell? ⟨w.heap.size, 2, none⟩ = some (.int .i64 uhx) ∧ wx.cell? ⟨w.heap.size, 3, none⟩ = some (.int .i64 uhy) ∧ wx.cell? ⟨w.heap.size + 1, 0, none⟩ = some (.int .i64 vlx) ∧ wx.cell? ⟨w.heap.size + 1, 1, none⟩ = some (.int .i64 vly) ∧ wx.cell? ⟨w.heap.size + 1, 2, none⟩ = some (.int .i64 vhx) ∧ wx.cell? ⟨w.heap.size + 1, 3, none⟩ = some (.int .i64 vhy) ∧ w.heap.size < wx.heap.size ∧ w.heap.size + 1 < wx.heap.size ∧ Q w wx)
  case first =>
    go_region_held3 (fun w' => w'.cell? ⟨w.heap.size, 0, none⟩ = some (.int .i64 ulx) ∧ w'.cell? ⟨w.heap.size, 1, none⟩ = some (.int .i64 uly) ∧ w'.cell? ⟨w.heap.size, 2, none⟩ = some (.int .i64 uhx) ∧ w'.cell? ⟨w.heap.size, 3, none⟩ = some (.int .i64 uhy) ∧ w'.cell? ⟨w.heap.size + 1, 0, none⟩ = some (.int .i64 vlx) ∧ w'.cell? ⟨w.heap.size + 1, 1, none⟩ = some (.int .i64 vly) ∧ w'.cell? ⟨w.heap.size + 1, 2, none⟩ = some (.int .i64 vhx) ∧ w'.cell? ⟨w.heap.size + 1, 3, none⟩ = some (.int .i64 vhy) ∧ w.heap.size < w'.heap.size ∧ w.heap.size + 1 < w'.heap.size ∧ Q w w')
      ((go_split_ands; (repeat' (with_reducible apply And.intro)) <;> first | (with_reducible assumption) | ((repeat' (first | (with_reducible assumption) | (with_reducible exact cellE (by assumption)) | (with_reducible refine cellA _ ?_) | (with_reducible refine cellD ?_) | (with_reducible refine cellS (by first | (dsimp only; omega) | (simp; omega)) ?_) | (with_reducible refine Q.cell1 (by assumption) ?_))); done) | (with_reducible refine Q.size1 (by assumption) ?_; first | (with_reducible assumption) | (simp; done) | (simp; omega)) | ((repeat' (first | (with_reducible exact Q.refl _) | (with_reducible assumption) | (with_reducible refine Q.setCell ?_ ?_ _) | (with_reducible refine Q.alloc ?_ _) | (with_reducible refine Q.drew ?_) | (with_reducible refine Q.drewN ?_ _) | (with_reducible refine Q.trans ?_ (by assumption)) | omega | (dsimp only; omega) | (simp; done) | (simp; omega))); done) | omega | (simp; done) | (simp; omega) | (simp [*]; done)))
      (first | (go_split_ands; (go_at_call 11; refine (toBox_any _ _ _ _ _).mono ?_; rintro e w1 ⟨rfl, q1⟩; obtain ⟨c1, f1⟩ := q1.cells; have s1 := q1.size; (try simp at s1); (try have z10 : w.heap.size < w1.heap.size := (by omega)); (try have z11 : w.heap.size + 1 < w1.heap.size := (by omega)); (try have z12 : w.heap.size + 1 + 1 < w1.heap.size := (by omega)); (try have z13 : w.heap.size + 1 + 1 + 1 < w1.heap.size := (by omega))); (try have t1 := Nat.lt_of_succ_le s1)) | (go_split_ands; (go_at_call 25; refine (boxMeetS _ _ _ _ _ _ _ _ _).mono ?_; rintro e w2 ⟨rfl, q2⟩; obtain ⟨c2, f2⟩ := q2.cells; have s2 := q2.size; (try simp at s2); (try have z20 : w.heap.size < w2.heap.size := (by omega)); (try have z21 : w.heap.size + 1 < w2.heap.size := (by omega)); (try have z22 : w.heap.size + 1 + 1 < w2.heap.size := (by omega)); (try have z23 : w.heap.size + 1 + 1 + 1 < w2.heap.size := (by omega))); (try have t2 := Nat.lt_of_succ_le s2)))
    all_goals
      go_wp2_with fail
      go_meet
      exact ⟨_, rfl, rfl, by first | (with_reducible assumption) | (first | (simp; done) | (go_simp; done) | (rw [World.cell?_setCell_same'] <;> (simp [*]; done))), by first | (with_reducible assumption) | (first | (simp; done) | (go_simp; done) | (rw [World.cell?_setCell_same'] <;> (simp [*]; done))), by first | (with_reducible assumption) | (first | (simp; done) | (go_simp; done) | (rw [World.cell?_setCell_same'] <;> (simp [*]; done))), by first | (with_reducible assumption) | (first | (simp; done) | (go_simp; done) | (rw [World.cell?_setCell_same'] <;> (simp [*]; done))), by first | (with_reducible assumption) | (simp; done) | (simp; omega) | omega, by first | omega | (simp; omega), by (go_split_ands; (repeat' (with_reducible apply And.intro)) <;> first | (with_reducible assumption) | ((repeat' (first | (with_reducible assumption) | (with_reducible exact cellE (by assumption)) | (with_reducible refine cellA _ ?_) | (with_reducible refine cellD ?_) | (with_reducible refine cellS (by first | (dsimp only; omega) | (simp; omega)) ?_) | (with_reducible refine Q.cell1 (by assumption) ?_))); done) | (with_reducible refine Q.size1 (by assumption) ?_; first | (with_reducible assumption) | (simp; done) | (simp; omega)) | ((repeat' (first | (with_reducible exact Q.refl _) | (with_reducible assumption) | (with_reducible refine Q.setCell ?_ ?_ _) | (with_reducible refine Q.alloc ?_ _) | (with_reducible refine Q.drew ?_) | (with_reducible refine Q.drewN ?_ _) | (with_reducible refine Q.trans ?_ (by assumption)) | omega | (dsimp only; omega) | (simp; done) | (simp; omega))); done) | omega | (simp; done) | (simp; omega) | (simp [*]; done))⟩
  case rest =>
  obtain ⟨g, rfl, rfl, hcut⟩ := hcut
  go_split_ands
  go_upto_region 2 with fail
  go_cut [7, 8] (fun s t wx => ∃ g2 : Nat, s = .pointer (some ⟨g2, 0, none⟩) ∧ t = .bool (P.meetB ulx uly uhx uhy vlx vly vhx vhy) ∧ wx.cell? ⟨g2, 0, none⟩ = some (.int .i64 (P.sel (P.meetB ulx uly uhx uhy vlx vly vhx vhy) (P.mx ulx vlx))) ∧ wx.cell? ⟨g2, 1, none⟩ = some (.int .i64 (P.sel (P.meetB ulx uly uhx uhy vlx vly vhx vhy) (P.mx uly vly))) ∧ wx.cell? ⟨g2, 2, none⟩ = some (.int .i64 (P.sel (P.meetB ulx uly uhx uhy vlx vly vhx vhy) (P.mn uhx vhx))) ∧ wx.cell? ⟨g2, 3, none⟩ = some (.int .i64 (P.sel (P.meetB ulx uly uhx uhy vlx vly vhx vhy) (P.mn uhy vhy))) ∧ g2 < wx.heap.size ∧ w.heap.size ≤ g2 ∧ wx.cell? ⟨g, 0, none⟩ = some (.int .i64 (P.sel (P.meetB ulx uly uhx uhy vlx vly vhx vhy) (P.mx ulx vlx))) ∧ wx.cell? ⟨g, 1, none⟩ = some (.int .i64 (P.sel (P.meetB ulx uly uhx uhy vlx vly vhx vhy) (P.mx uly vly))) ∧ wx.cell? ⟨g, 2, none⟩ = some (.int .i64 (P.sel (P.meetB ulx uly uhx uhy vlx vly vhx vhy) (P.mn uhx vhx))) ∧ wx.cell? ⟨g, 3, none⟩ = some (.int .i64 (P.sel (P.meetB ulx uly uhx uhy vlx vly vhx vhy) (P.mn uhy vhy))) ∧ g < wx.heap.size ∧ wx.cell? ⟨w.heap.size, 0, none⟩ = some (.int .i64 ulx) ∧ wx.cell? ⟨w.heap.size, 1, none⟩ = some (.int .i64 uly) ∧ wx.cell? ⟨w.heap.size, 2, none⟩ = some (.int .i64 uhx) ∧ wx.cell? ⟨w.heap.size, 3, none⟩ = some (.int .i64 uhy) ∧ wx.cell? ⟨w.heap.size + 1, 0, none⟩ = some (.int .i64 vlx) ∧ wx.cell? ⟨w.heap.size + 1, 1, none⟩ = some (.int .i64 vly) ∧ wx.cell? ⟨w.heap.size + 1, 2, none⟩ = some (.int .i64 vhx) ∧ wx.cell? ⟨w.heap.size + 1, 3, none⟩ = some (.int .i64 vhy) ∧ w.heap.size < wx.heap.size ∧ w.heap.size + 1 < wx.heap.size ∧ Q w wx)
  case first =>
    go_region_held3 (fun w' => w'.cell? ⟨g, 0, none⟩ = some (.int .i64 (P.sel (P.meetB ulx uly uhx uhy vlx vly vhx vhy) (P.mx ulx vlx))) ∧ w'.cell? ⟨g, 1, none⟩ = some (.int .i64 (P.sel (P.meetB ulx uly uhx uhy vlx vly vhx vhy) (P.mx uly vly))) ∧ w'.cell? ⟨g, 2, none⟩ = some (.int .i64 (P.sel (P.meetB ulx uly uhx uhy vlx vly vhx vhy) (P.mn uhx vhx))) ∧ w'.cell? ⟨g, 3, none⟩ = some (.int .i64 (P.sel (P.meetB ulx uly uhx uhy vlx vly vhx vhy) (P.mn uhy vhy))) ∧ g < w'.heap.size ∧ w'.cell? ⟨w.heap.size, 0, none⟩ = some (.int .i64 ulx) ∧ w'.cell? ⟨w.heap.size, 1, none⟩ = some (.int .i64 uly) ∧ w'.cell? ⟨w.heap.size, 2, none⟩ = some (.int .i64 uhx) ∧ w'.cell? ⟨w.heap.size, 3, none⟩ = some (.int .i64 uhy) ∧ w'.cell? ⟨w.heap.size + 1, 0, none⟩ = some (.int .i64 vlx) ∧ w'.cell? ⟨w.heap.size + 1, 1, none⟩ = some (.int .i64 vly) ∧ w'.cell? ⟨w.heap.size + 1, 2, none⟩ = some (.int .i64 vhx) ∧ w'.cell? ⟨w.heap.size + 1, 3, none⟩ = some (.int .i64 vhy) ∧ w.heap.size < w'.heap.size ∧ w.heap.size + 1 < w'.heap.size ∧ Q w w')
      ((go_split_ands; (repeat' (with_reducible apply And.intro)) <;> first | (with_reducible assumption) | ((repeat' (first | (with_reducible assumption) | (with_reducible exact cellE (by assumption)) | (with_reducible refine cellA _ ?_) | (with_reducible refine cellD ?_) | (with_reducible refine cellS (by first | (dsimp only; omega) | (simp; omega)) ?_) | (with_reducible refine Q.cell1 (by assumption) ?_))); done) | (with_reducible refine Q.size1 (by assumption) ?_; first | (with_reducible assumption) | (simp; done) | (simp; omega)) | ((repeat' (first | (with_reducible exact Q.refl _) | (with_reducible assumption) | (with_reducible refine Q.setCell ?_ ?_ _) | (with_reducible refine Q.alloc ?_ _) | (with_reducible refine Q.drew ?_) | (with_reducible refine Q.drewN ?_ _) | (with_reducible refine Q.trans ?_ (by assumption)) | omega | (dsimp only; omega) | (simp; done) | (simp; omega))); done) | omega | (simp; done) | (simp; omega) | (simp [*]; done)))
      (first | (go_split_ands; (go_at_call 11; refine (toBox_any _ _ _ _ _).mono ?_; rintro e w5 ⟨rfl, q5⟩; obtain ⟨c5, f5⟩ := q5.cells; have s5 := q5.size; (try simp at s5); (try have z50 : w.heap.size < w5.heap.size := (by omega)); (try have z51 : w.heap.size + 1 < w5.heap.size := (by omega)); (try have z52 : w.heap.size + 1 + 1 < w5.heap.size := (by omega)); (try have z53 : w.heap.size + 1 + 1 + 1 < w5.heap.size := (by omega))); (try have t5 := Nat.lt_of_succ_le s5); (try have zwc5 : wc.heap.size < w5.heap.size := (by omega))) | (go_split_ands; (go_at_call 26; refine (boxMeetI _ _ _ _ _ _ _ _ _).mono ?_; rintro e w6 ⟨rfl, q6⟩; obtain ⟨c6, f6⟩ := q6.cells; have s6 := q6.size; (try simp at s6); (try have z60 : w.heap.size < w6.heap.size := (by omega)); (try have z61 : w.heap.size + 1 < w6.heap.size := (by omega)); (try have z62 : w.heap.size + 1 + 1 < w6.heap.size := (by omega)); (try have z63 : w.heap.size + 1 + 1 + 1 < w6.heap.size := (by omega))); (try have t6 := Nat.lt_of_succ_le s6); (try have zwc6 : wc.heap.size < w6.heap.size := (by omega))))
    all_goals
      go_wp2_with fail
      go_meet
      exact ⟨_, rfl, rfl, by first | (with_reducible assumption) | (first | (simp; done) | (go_simp; done) | (rw [World.cell?_setCell_same'] <;> (simp [*]; done))), by first | (with_reducible assumption) | (first | (simp; done) | (go_simp; done) | (rw [World.cell?_setCell_same'] <;> (simp [*]; done))), by first | (with_reducible assumption) | (first | (simp; done) | (go_simp; done) | (rw [World.cell?_setCell_same'] <;> (simp [*]; done))), by first | (with_reducible assumption) | (first | (simp; done) | (go_simp; done) | (rw [World.cell?_setCell_same'] <;> (simp [*]; done))), by first | (with_reducible assumption) | (simp; done) | (simp; omega) | omega, by first | omega | (simp; omega), by (go_split_ands; (repeat' (with_reducible apply And.intro)) <;> first | (with_reducible assumption) | ((repeat' (first | (with_reducible assumption) | (with_reducible exact cellE (by assumption)) | (with_reducible refine cellA _ ?_) | (with_reducible refine cellD ?_) | (with_reducible refine cellS (by first | (dsimp only; omega) | (simp; omega)) ?_) | (with_reducible refine Q.cell1 (by assumption) ?_))); done) | (with_reducible refine Q.size1 (by assumption) ?_; first | (with_reducible assumption) | (simp; done) | (simp; omega)) | ((repeat' (first | (with_reducible exact Q.refl _) | (with_reducible assumption) | (with_reducible refine Q.setCell ?_ ?_ _) | (with_reducible refine Q.alloc ?_ _) | (with_reducible refine Q.drew ?_) | (with_reducible refine Q.drewN ?_ _) | (with_reducible refine Q.trans ?_ (by assumption)) | omega | (dsimp only; omega) | (simp; done) | (simp; omega))); done) | omega | (simp; done) | (simp; omega) | (simp [*]; done))⟩
  case rest =>
  obtain ⟨g2, rfl, rfl, hcut⟩ := hcut
  go_split_ands
  go_wp2_with fail
  refine (eqBox_same _ _ _ _ _).mono ?_
  rintro e w9 ⟨rfl, q9⟩
  obtain ⟨c9, f9⟩ := q9.cells
  have s9 := q9.size
  (try simp at s9)
  (try have z9_0_0 : w.heap.size < w9.heap.size := (by omega))
  (try have z9_0_1 : w.heap.size + 1 < w9.heap.size := (by omega))
  (try have z9_0_2 : w.heap.size + 1 + 1 < w9.heap.size := (by omega))
  (try have z9_1_0 : w1.heap.size < w9.heap.size := (by omega))
  (try have z9_1_1 : w1.heap.size + 1 < w9.heap.size := (by omega))
  (try have z9_2_0 : w2.heap.size < w9.heap.size := (by omega))
  (try have z9_2_1 : w2.heap.size + 1 < w9.heap.size := (by omega))
  (try have z9_3_0 : w3.heap.size < w9.heap.size := (by omega))
  (try have z9_3_1 : w3.heap.size + 1 < w9.heap.size := (by omega))
  (try have z9_4_0 : w4.heap.size < w9.heap.size := (by omega))
  (try have z9_4_1 : w4.heap.size + 1 < w9.heap.size := (by omega))
  (try have z9_5_0 : w5.heap.size < w9.heap.size := (by omega))
  (try have z9_5_1 : w5.heap.size + 1 < w9.heap.size := (by omega))
  (try have z9_6_0 : w6.heap.size < w9.heap.size := (by omega))
  (try have z9_6_1 : w6.heap.size + 1 < w9.heap.size := (by omega))
  (try have z9_7_0 : w7.heap.size < w9.heap.size := (by omega))
  (try have z9_7_1 : w7.heap.size + 1 < w9.heap.size := (by omega))
  (try have z9_8_0 : w8.heap.size < w9.heap.size := (by omega))
  (try have z9_8_1 : w8.heap.size + 1 < w9.heap.size := (by omega))
  go_wp2
  go_ret
  exact ⟨rfl, by (repeat' (first | (with_reducible exact Q.refl _) | (with_reducible assumption) | (with_reducible refine Q.setCell ?_ ?_ _) | (with_reducible refine Q.alloc ?_ _) | (with_reducible refine Q.drew ?_) | (with_reducible refine Q.drewN ?_ _) | (with_reducible refine Q.trans ?_ (by assumption)) | omega | (dsimp only; omega) | (simp; done) | (simp; omega)))⟩

set_option maxRecDepth 100000 in
theorem lifted (os : Os) (started : os.Started) (H : Type) (enc : TypeId × Value → H) :
    ReturnsInHanded {} Try.checked os 8 .any (Rows.fnExactBoxMeetSpec.pre6 enc Try.prog Try.f8 Rows.fnExactBoxMeetRow.domain false) (Rows.fnExactBoxMeetSpec.post enc Try.prog Try.f8 false true false false) := by
  refine returnsInHanded_of_change (C := Try.checked) own started (by kernel_rfl) Try.func8
    (ChangeSpec.witness6 (enc := enc) (C := Try.checked) false ⟨#[], #[.agg #[.int .i64 0, .int .i64 0, .int .i64 0, .int .i64 0], .agg #[.int .i64 0, .int .i64 0, .int .i64 0, .int .i64 0]], []⟩ 8 (by kernel_rfl) (by kernel_rfl) (by kernel_rfl) (by kernel_rfl)) ?_
  intro W base args ds gs before hval0 hW _ _
  have hval : ∀ (j : Nat) t v, Try.f8.params[j]? = some t → args[j]? = some v → Value.okWide Try.prog W .any base t v := hval0
  have hW' := hW
  obtain ⟨p, q, hA0, hV, rfl, _, _⟩ := hW
  have hA : DataW.TrodAll enc Try.prog W 0 (fun _ => true) true Try.f8.params.toList args.toList ds p := hA0
  rw [Try.params8] at hA hval
  obtain ⟨v0, vs0, d0, ds0, p0, q0, hargs, rfl, rfl, h0, r0⟩ := trodAll_cons hA
  obtain ⟨v1, vs1, d1, ds1, p1, q1, rfl, rfl, rfl, h1, r1⟩ := trodAll_cons r0
  obtain ⟨rfl, rfl, rfl⟩ := trodAll_nil r1
  obtain rfl : args = #[v0, v1] := by cases args; simp_all
  obtain ⟨rfl, rfl⟩ := trodVars_none hV
  have k0 := h0
  have lt0 : ∀ x ∈ p0, x.block < W.heap.size := by obtain ⟨m, hm⟩ := k0; exact DataW.trod_lt m _ _ _ hm
  obtain ⟨x0, y0, X0, Y0, rfl, wx0, wy0, wX0, wY0⟩ := open_box Try.underlying25 rfl rfl rfl rfl Try.underlying23 (by kernel_rfl) (by kernel_rfl) (by kernel_rfl) Try.underlying3 Try.underlying3 (hval 0 25 v0 rfl rfl) h0
  have k1 := h1
  have lt1 : ∀ x ∈ p1, x.block < W.heap.size := by obtain ⟨m, hm⟩ := k1; exact DataW.trod_lt m _ _ _ hm
  obtain ⟨x1, y1, X1, Y1, rfl, wx1, wy1, wX1, wY1⟩ := open_box Try.underlying25 rfl rfl rfl rfl Try.underlying23 (by kernel_rfl) (by kernel_rfl) (by kernel_rfl) Try.underlying3 Try.underlying3 (hval 1 25 v1 rfl rfl) h1
  clear hA0 hval0
  refine (walk x0 y0 X0 Y0 x1 y1 X1 Y1 W wx0 wy0 wX0 wY0 wx1 wy1 wX1 wY1).mono fun e W' ⟨he, bel⟩ => ?_
  subst he
  exact ⟨_, rfl, _, _, _, [], _, [], hW', trodAll_mk1 (shut_bool Try.underlying4 _), (trodAll_cons_mk (Below.trod laidOut (by kernel_rfl) (of_decide_eq_true (by kernel_rfl)) k0 bel lt0) (trodAll_cons_mk (Below.trod laidOut (by kernel_rfl) (of_decide_eq_true (by kernel_rfl)) k1 bel lt1) trodAll_mk0)), rfl, Below.frame bel _, fun h => by cases h⟩

theorem over : Rows.fnExactBoxMeetRow.holds Try.pinned (OpenSpec.ofChange Rows.fnExactBoxMeetSpec) :=
  OpenClaim.holds_of_wide 8 Try.f8 rfl rfl rfl rfl rfl rfl rfl ⟨rfl, rfl, rfl, rfl, rfl⟩ rfl rfl rfl rfl rfl (by kernel_rfl) Try.func8 (by kernel_rfl)
    (of_decide_eq_true (by kernel_rfl)) (by unfold Func.isWrapper; rw [if_neg (of_decide_eq_false (by kernel_rfl))]; exact ⟨rfl, rfl⟩)
    (fun os started H enc _ => lifted os started H enc)

/-- The statement. -/
theorem proved : Rows.FnExactBoxMeetSaid := over
#print axioms proved
end Go.Proofs.Ytjegojhlcmhaoaa.FnExactBoxMeet
