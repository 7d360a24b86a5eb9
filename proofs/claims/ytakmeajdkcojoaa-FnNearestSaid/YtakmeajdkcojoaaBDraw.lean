/-
  The contracts of the functions that draw boxes.
-/
import Derived.Test.YtakmeajdkcojoaaVDraw2
import Derived.Test.YtakmeajdkcojoaaHeld
namespace Go.Proofs.Ytakmeajdkcojoaa
open Go.RowKit

/-- Four numbers that fit. -/
def Wf4 (a b c d : Int) : Prop := (Lit.int .i64 a).wf = true ∧ (Lit.int .i64 b).wf = true ∧ (Lit.int .i64 c).wf = true ∧ (Lit.int .i64 d).wf = true
/-- A drawn box. -/
def BoxDrawn (w : World) (g : Nat) (sa : Option Addr) (len cap p : Nat) (e : Ending) (w' : World) : Prop :=
  ∃ (a b c d : Int) (p' : Nat), Wf4 a b c d ∧ p' ≤ p + 12 ∧ e = .returned (.agg #[.int .i64 a, .int .i64 b, .int .i64 c, .int .i64 d]) ∧ Rd w' g sa len cap p' ∧ PQ g w w'
def DrawnB (w : World) (e : Ending) (w' : World) : Prop := ∃ a b c d : Int, Wf4 a b c d ∧ e = .returned (.agg #[.int .i64 a, .int .i64 b, .int .i64 c, .int .i64 d]) ∧ Q w w'
def DrawnBV (w : World) (e : Ending) (w' : World) : Prop := ∃ a b c d x y : Int, Wf4 a b c d ∧ (Lit.int .i64 x).wf = true ∧ (Lit.int .i64 y).wf = true ∧ e = .returned (.tuple #[.agg #[.int .i64 a, .int .i64 b, .int .i64 c, .int .i64 d], .agg #[.int .i64 x, .int .i64 y]]) ∧ Q w w'
def DrawnBVI (w : World) (e : Ending) (w' : World) : Prop := ∃ a b c d x y r : Int, Wf4 a b c d ∧ (Lit.int .i64 x).wf = true ∧ (Lit.int .i64 y).wf = true ∧ (Lit.int .i64 r).wf = true ∧ e = .returned (.tuple #[.agg #[.int .i64 a, .int .i64 b, .int .i64 c, .int .i64 d], .agg #[.int .i64 x, .int .i64 y], .int .i64 r]) ∧ Q w w'
def DrawnBB (w : World) (e : Ending) (w' : World) : Prop := ∃ a b c d a' b' c' d' : Int, Wf4 a b c d ∧ Wf4 a' b' c' d' ∧ e = .returned (.tuple #[.agg #[.int .i64 a, .int .i64 b, .int .i64 c, .int .i64 d], .agg #[.int .i64 a', .int .i64 b', .int .i64 c', .int .i64 d']]) ∧ Q w w'

theorem PQ.cell1 {g : Nat} {a w' : World} {p : Addr} {v : Value} (k : PQ g a w') (hn : p.block ≠ g) (h : a.cell? p = some v) : w'.cell? p = some v :=
  (World.cell?_of_block (w := a) (k.block p.block (World.block_lt_of_cell? a _ h) hn)).trans h

set_option maxHeartbeats 4000000 in
theorem l91Box_any (g : Nat) (sa : Option Addr) (len cap p : Nat) (w : World) (hr : Rd w g sa len cap p) (hp : p ≤ 900) :
    Calls Try.prog 22 #[.pointer (some ⟨g, 0, none⟩)] w (BoxDrawn w g sa len cap p) := by
  have hlt := hr.lt
  go_enter Try.func22, Try.ntmps22
  go_wp2_with fail
  refine (l91Vec_any g sa len cap p _ (hr.keepQ ((Q.refl _).alloc _)) (by omega)).mono ?_
  rintro e w1 ⟨x, y, p1, wx, wy, hp1, rfl, hr1, k1⟩
  have z1 := k1.size
  simp only [World.size_alloc] at z1
  obtain ⟨ck1, fk1⟩ := (k1).blk (w.heap.size) (by first | omega | (simp; done) | (simp; omega)) (by first | omega | (simp; done) | (simp; omega))
  have n0 : w.heap.size < w1.heap.size := by omega
  have hk1 : PQ g w w1 := ((PQ.refl g w).alloc _).trans k1
  have c0 : (w1.alloc (Obj.cells #[.int .i64 x, .int .i64 y] 24)).cell? ⟨w1.heap.size, 0, none⟩ = some (.int .i64 x) := by go_simp
  have c1 : (w1.alloc (Obj.cells #[.int .i64 x, .int .i64 y] 24)).cell? ⟨w1.heap.size, 1, none⟩ = some (.int .i64 y) := by go_simp
  have d0 : (w1.alloc (Obj.cells #[.int .i64 x, .int .i64 y] 24)).cell? ⟨w.heap.size, 0, none⟩ = some (.int .i64 0) := by go_simp
  have d1 : (w1.alloc (Obj.cells #[.int .i64 x, .int .i64 y] 24)).cell? ⟨w.heap.size, 1, none⟩ = some (.int .i64 0) := by go_simp
  have d2 : (w1.alloc (Obj.cells #[.int .i64 x, .int .i64 y] 24)).cell? ⟨w.heap.size, 2, none⟩ = some (.int .i64 0) := by go_simp
  have d3 : (w1.alloc (Obj.cells #[.int .i64 x, .int .i64 y] 24)).cell? ⟨w.heap.size, 3, none⟩ = some (.int .i64 0) := by go_simp
  have d4 : ∀ o, (w1.alloc (Obj.cells #[.int .i64 x, .int .i64 y] 24)).frozen? ⟨w.heap.size, o, none⟩ = false := by intro o; go_simp
  have hrA := hr1.keepQ ((Q.refl w1).alloc (Obj.cells #[.int .i64 x, .int .i64 y] 24))
  have hkA : PQ g w (w1.alloc (Obj.cells #[.int .i64 x, .int .i64 y] 24)) := hk1.alloc _
  have hsz : (w1.alloc (Obj.cells #[.int .i64 x, .int .i64 y] 24)).heap.size = w1.heap.size + 1 := by simp
  go_upto_region 2 with fail
  generalize (w1.alloc (Obj.cells #[.int .i64 x, .int .i64 y] 24)) = W0 at *
  clear ck1 fk1 hr1 k1 hk1
  have hsA : w1.heap.size < W0.heap.size := by omega
  have hsB : w.heap.size < W0.heap.size := by omega
  have hsZ := Lib.hid hsz
  clear hsz
  go_cut [4] (fun s wx => ∃ (B : Nat) (b c : Int), s = .pointer (some ⟨B, 0, none⟩) ∧ wx.cell? ⟨B, 0, none⟩ = some (.int .i64 x) ∧ wx.cell? ⟨B, 1, none⟩ = some (.int .i64 y) ∧ wx.cell? ⟨B, 2, none⟩ = some (.int .i64 b) ∧ wx.cell? ⟨B, 3, none⟩ = some (.int .i64 c) ∧ (∀ o, wx.frozen? ⟨B, o, none⟩ = false) ∧ (Lit.int .i64 b).wf = true ∧ (Lit.int .i64 c).wf = true ∧ Rd wx g sa len cap (p1 + 1 + 1) ∧ PQ g W0 wx ∧ W0.heap.size ≤ B ∧ B < wx.heap.size)
  case first =>
    go_region_held3 (fun w' => w'.cell? ⟨w1.heap.size, 0, none⟩ = some (.int .i64 x) ∧ w'.cell? ⟨w1.heap.size, 1, none⟩ = some (.int .i64 y) ∧ PQ g W0 w')
      ((go_split_ands; (repeat' (with_reducible apply And.intro)) <;> first | (with_reducible assumption) | ((repeat' (first | (with_reducible assumption) | (with_reducible exact cellE (by assumption)) | (with_reducible refine cellA _ ?_) | (with_reducible refine cellD ?_) | (with_reducible refine cellS (by first | (dsimp only; omega) | (simp; omega)) ?_) | (with_reducible refine cellO (by simp; done) ?_) | (with_reducible refine PQ.cell1 (by assumption) (by first | (dsimp only; omega) | (simp; omega)) ?_))); done) | ((repeat' (first | (with_reducible assumption) | (with_reducible exact PQ.refl _ _) | (with_reducible refine PQ.setCell ?_ (Or.inr ?_) _) | (with_reducible refine PQ.drew ?_) | (with_reducible refine PQ.drewN ?_ _) | (with_reducible refine PQ.alloc ?_ _) | (with_reducible refine PQ.trans ?_ (by assumption)) | (dsimp only; omega) | (simp; done) | (simp; omega))); done) | omega | (simp; omega)))
      (first | (go_split_ands; go_at_call 23; refine (pick_any _ g sa len cap p1 _ (by first | (with_reducible assumption) | (with_reducible exact Rd.keepQ (by assumption) ((Q.refl _).alloc _)) | (with_reducible exact Rd.keepQ (by assumption) (Q.refl _).drew) | (with_reducible exact Rd.keepQ (by assumption) (((Q.refl _).drew).alloc _)) | (with_reducible exact Rd.keepQ (by assumption) (((Q.refl _).alloc _).drew))) (by omega) (by omega)).mono ?_; rintro e w2 ⟨v2, a2, b2, rfl, hr2, kk2, zz2⟩; (try simp at zz2); (try have cf2 := (kk2).blk (W0.heap.size) (by first | omega | (simp; done) | (simp; omega)) (by first | omega | (simp; done) | (simp; omega))); (try have cf2b := (kk2).blk (w1.heap.size) (by first | omega | (simp; done) | (simp; omega)) (by first | omega | (simp; done) | (simp; omega)))) | (go_split_ands; go_at_call 23; refine (pick_any _ g sa len cap (p1 + 1) _ (by first | (with_reducible assumption) | (with_reducible exact Rd.keepQ (by assumption) ((Q.refl _).alloc _)) | (with_reducible exact Rd.keepQ (by assumption) (Q.refl _).drew) | (with_reducible exact Rd.keepQ (by assumption) (((Q.refl _).drew).alloc _)) | (with_reducible exact Rd.keepQ (by assumption) (((Q.refl _).alloc _).drew))) (by omega) (by omega)).mono ?_; rintro e w3 ⟨v3, a3, b3, rfl, hr3, kk3, zz3⟩; (try simp at zz3); (try have cf3 := (kk3).blk (W0.heap.size) (by first | omega | (simp; done) | (simp; omega)) (by first | omega | (simp; done) | (simp; omega))); (try have cf3c := (kk3).blk (w2.heap.size) (by first | omega | (simp; done) | (simp; omega)) (by first | omega | (simp; done) | (simp; omega))); (try have cf3b := (kk3).blk (w1.heap.size) (by first | omega | (simp; done) | (simp; omega)) (by first | omega | (simp; done) | (simp; omega)))))
    all_goals
      go_split_ands
      go_wp2_with fail
      go_meet
      exact ⟨_, IntKind.i64.wrap (x + IntKind.i64.wrap (v2 * 100)), IntKind.i64.wrap (y + IntKind.i64.wrap (v3 * 100)), rfl, by (first | (simp; done) | (go_simp; done) | (rw [World.cell?_setCell_same'] <;> (simp [*]; done))), by (first | (simp; done) | (go_simp; done) | (rw [World.cell?_setCell_same'] <;> (simp [*]; done))), by (first | (simp; done) | (go_simp; done) | (rw [World.cell?_setCell_same'] <;> (simp [*]; done))), by (first | (simp; done) | (go_simp; done) | (rw [World.cell?_setCell_same'] <;> (simp [*]; done))), by intro o; first | (simp; done) | (with_reducible exact World.frozen?_alloc_at _ _ _ _ (by omega)) | (simp [*]; done) | (simp [*]; with_reducible exact World.frozen?_alloc_at _ _ _ _ zz2.symm), by first | exact wf_wrap _ _ | exact wrap64_wf _, by first | exact wf_wrap _ _ | exact wrap64_wf _, by first | (with_reducible exact Rd.keepQ (by assumption) ((Q.refl _).alloc _)) | exact hrA.stores hr3 (by (repeat' (first | (with_reducible assumption) | (with_reducible exact PQ.refl _ _) | (with_reducible refine PQ.setCell ?_ (Or.inr ?_) _) | (with_reducible refine PQ.drew ?_) | (with_reducible refine PQ.drewN ?_ _) | (with_reducible refine PQ.alloc ?_ _) | (with_reducible refine PQ.trans ?_ (by assumption)) | (dsimp only; omega) | (simp; done) | (simp; omega)))) (by (repeat' (first | (with_reducible rfl) | (with_reducible refine (heap_setCell_ne ?_).trans ?_) | (with_reducible refine (Below.heap_alloc _ _ _ ?_).trans ?_) | (dsimp only; omega) | (simp; done) | (simp; omega)))), by (repeat' (first | (with_reducible assumption) | (with_reducible exact PQ.refl _ _) | (with_reducible refine PQ.setCell ?_ (Or.inr ?_) _) | (with_reducible refine PQ.drew ?_) | (with_reducible refine PQ.drewN ?_ _) | (with_reducible refine PQ.alloc ?_ _) | (with_reducible refine PQ.trans ?_ (by assumption)) | (dsimp only; omega) | (simp; done) | (simp; omega))), by first | omega | (simp; omega), by first | omega | (simp; omega)⟩
  case rest =>
  obtain ⟨B, b, c, rfl, e0, e1, e2, e3, eF, wb, wc', hrC, kC, hB1, hB2⟩ := hcut
  have hC := kC.size
  have hkC : PQ g w wc := hkA.trans kC
  have hBg : B ≠ g := by omega
  have hwg : w.heap.size ≠ g := by omega
  go_wp2_with fail
  refine (pick_any 16 g sa len cap _ _ hrC (by omega) (by omega)).mono ?_
  rintro e w4 ⟨v4, a4, b4, rfl, hr4, k4, z4⟩
  have hk4 : PQ g w w4 := hkC.trans k4
  have m0 : w4.cell? ⟨B, 0, none⟩ = some (.int .i64 x) := PQ.cell1 k4 hBg e0
  have m1 : w4.cell? ⟨B, 1, none⟩ = some (.int .i64 y) := PQ.cell1 k4 hBg e1
  have m2 : w4.cell? ⟨B, 2, none⟩ = some (.int .i64 b) := PQ.cell1 k4 hBg e2
  have m3 : w4.cell? ⟨B, 3, none⟩ = some (.int .i64 c) := PQ.cell1 k4 hBg e3
  have m4 : ∀ o, w4.frozen? ⟨B, o, none⟩ = false := fun o => (k4.frozen hB2 hBg o).trans (eF o)
  have t0 : w4.cell? ⟨w.heap.size, 0, none⟩ = some (.int .i64 0) := PQ.cell1 k4 hwg (PQ.cell1 kC hwg d0)
  have t1 : w4.cell? ⟨w.heap.size, 1, none⟩ = some (.int .i64 0) := PQ.cell1 k4 hwg (PQ.cell1 kC hwg d1)
  have t2 : w4.cell? ⟨w.heap.size, 2, none⟩ = some (.int .i64 0) := PQ.cell1 k4 hwg (PQ.cell1 kC hwg d2)
  have t3 : w4.cell? ⟨w.heap.size, 3, none⟩ = some (.int .i64 0) := PQ.cell1 k4 hwg (PQ.cell1 kC hwg d3)
  have t4 : ∀ o, w4.frozen? ⟨w.heap.size, o, none⟩ = false := fun o => (k4.frozen (by omega) hwg o).trans ((kC.frozen (by omega) hwg o).trans (d4 o))
  have hsD : w.heap.size < w4.heap.size := by omega
  have hB4 : B < w4.heap.size := by omega
  have hBw : ¬ B = w.heap.size := by omega
  have hBw' : ¬ w.heap.size = B := by omega
  clear c0 c1 d0 d1 d2 d3 d4 e0 e1 e2 e3 eF hrA hkA kC hrC
  have Z4 := Lib.hid z4
  clear z4
  by_cases g4 : v4 = 0
  · subst g4
    go_wp2_with fail
    go_region_held3 (fun w' => w'.cell? ⟨B, 0, none⟩ = some (.int .i64 x) ∧ PQ g w w')
      ((go_split_ands; (repeat' (with_reducible apply And.intro)) <;> first | (with_reducible assumption) | ((repeat' (first | (with_reducible assumption) | (with_reducible exact cellE (by assumption)) | (with_reducible refine cellA _ ?_) | (with_reducible refine cellD ?_) | (with_reducible refine cellS (by first | (dsimp only; omega) | (simp; omega)) ?_) | (with_reducible refine cellO (by simp; done) ?_) | (with_reducible refine PQ.cell1 (by assumption) (by first | (dsimp only; omega) | (simp; omega)) ?_))); done) | ((repeat' (first | (with_reducible assumption) | (with_reducible exact PQ.refl _ _) | (with_reducible refine PQ.setCell ?_ (Or.inr ?_) _) | (with_reducible refine PQ.drew ?_) | (with_reducible refine PQ.drewN ?_ _) | (with_reducible refine PQ.alloc ?_ _) | (with_reducible refine PQ.trans ?_ (by assumption)) | (dsimp only; omega) | (simp; done) | (simp; omega))); done) | omega | (simp; omega)))
      ((go_split_ands; go_at_call 23; refine (pick_any 3 g sa len cap (p1 + 1 + 1 + 1) _ (by first | (with_reducible assumption) | (with_reducible exact Rd.keepQ (by assumption) ((Q.refl _).alloc _)) | (with_reducible exact Rd.keepQ (by assumption) (Q.refl _).drew) | (with_reducible exact Rd.keepQ (by assumption) (((Q.refl _).drew).alloc _)) | (with_reducible exact Rd.keepQ (by assumption) (((Q.refl _).alloc _).drew))) (by omega) (by omega)).mono ?_; rintro e w5 ⟨v5, a5, b5, rfl, hr5, k5, z5⟩; (try simp at z5); (have cf5 := (k5).blk B (by first | omega | (simp; omega)) (by omega))))
    go_split_ands
    have hk5 : PQ g w w5 := hk4.trans ((PQ.refl g w4).drew.trans k5)
    have t0' : w5.cell? ⟨w.heap.size, 0, none⟩ = some (.int .i64 0) := PQ.cell1 k5 hwg t0
    have t1' : w5.cell? ⟨w.heap.size, 1, none⟩ = some (.int .i64 0) := PQ.cell1 k5 hwg t1
    have t2' : w5.cell? ⟨w.heap.size, 2, none⟩ = some (.int .i64 0) := PQ.cell1 k5 hwg t2
    have t3' : w5.cell? ⟨w.heap.size, 3, none⟩ = some (.int .i64 0) := PQ.cell1 k5 hwg t3
    have t4' : ∀ o, w5.frozen? ⟨w.heap.size, o, none⟩ = false := fun o => (k5.frozen (show w.heap.size < w4.drew.heap.size from hsD) hwg o).trans (t4 o)
    clear t0 t1 t2 t3 t4
    go_wp2
    first | (refine bodyPost_ret (by simp [results, Try.results22, go_sem, *]; try rfl) rfl ?_) | (refine bodyPost_ret (by (try simp only [results, Try.results22]); go_simp; try rfl) rfl ?_)
    exact ⟨x, y, _, c, _, ⟨wx, wy, by first | exact wf_wrap _ _ | exact wrap64_wf _, wc'⟩, by omega, rfl, hr.stores hr5 (by (repeat' (first | (with_reducible refine PQ.setCell ?_ (Or.inr ?_) _) | (with_reducible refine PQ.drew ?_) | (with_reducible refine PQ.drewN ?_ _) | (with_reducible refine PQ.alloc ?_ _) | (with_reducible exact hk5) | (dsimp only; omega) | (simp; done) | (simp; omega)))) (by (repeat' (first | (with_reducible rfl) | (with_reducible refine (heap_setCell_ne ?_).trans ?_) | (with_reducible refine (Below.heap_alloc _ _ _ ?_).trans ?_) | (dsimp only; omega) | (simp; done) | (simp; omega)))), by (repeat' (first | (with_reducible refine PQ.setCell ?_ (Or.inr ?_) _) | (with_reducible refine PQ.drew ?_) | (with_reducible refine PQ.drewN ?_ _) | (with_reducible refine PQ.alloc ?_ _) | (with_reducible exact hk5) | (dsimp only; omega) | (simp; done) | (simp; omega)))⟩
  · have h4 : (v4 == 0) = false := by simpa using g4
    go_wp2
    first | (refine bodyPost_ret (by simp [results, Try.results22, go_sem, *]; try rfl) rfl ?_) | (refine bodyPost_ret (by (try simp only [results, Try.results22]); go_simp; try rfl) rfl ?_)
    exact ⟨_, _, _, _, _, ⟨wx, wy, wb, wc'⟩, by omega, rfl, hr.stores hr4 (by (repeat' (first | (with_reducible refine PQ.setCell ?_ (Or.inr ?_) _) | (with_reducible refine PQ.drew ?_) | (with_reducible refine PQ.drewN ?_ _) | (with_reducible refine PQ.alloc ?_ _) | (with_reducible exact hk4) | (dsimp only; omega) | (simp; done) | (simp; omega)))) (by (repeat' (first | (with_reducible rfl) | (with_reducible refine (heap_setCell_ne ?_).trans ?_) | (with_reducible refine (Below.heap_alloc _ _ _ ?_).trans ?_) | (dsimp only; omega) | (simp; done) | (simp; omega)))), by (repeat' (first | (with_reducible refine PQ.setCell ?_ (Or.inr ?_) _) | (with_reducible refine PQ.drew ?_) | (with_reducible refine PQ.drewN ?_ _) | (with_reducible refine PQ.alloc ?_ _) | (with_reducible exact hk4) | (dsimp only; omega) | (simp; done) | (simp; omega)))⟩
end Go.Proofs.Ytakmeajdkcojoaa
