/-
  The contract of DrawBoxMeet.
-/
import Derived.Test.YtakmeajdkcojoaaBDraw2
namespace Go.Proofs.Ytakmeajdkcojoaa
open Go.RowKit

theorem Has4.set01 {w : World} {B : Nat} {a b c d : Int} (h : Has4 w B a b c d) (x y : Int) : Has4 ((w.setCell ⟨B, 0, none⟩ (.int .i64 x)).setCell ⟨B, 1, none⟩ (.int .i64 y)) B x y c d := by
  obtain ⟨h0, h1, h2, h3, h4⟩ := h
  exact ⟨by go_simp, by go_simp, by go_simp, by go_simp, by intro o; go_simp⟩
theorem Has4.set23 {w : World} {B : Nat} {a b c d : Int} (h : Has4 w B a b c d) (x y : Int) : Has4 ((w.setCell ⟨B, 2, none⟩ (.int .i64 x)).setCell ⟨B, 3, none⟩ (.int .i64 y)) B a b x y := by
  obtain ⟨h0, h1, h2, h3, h4⟩ := h
  exact ⟨by go_simp, by go_simp, by go_simp, by go_simp, by intro o; go_simp⟩
theorem Has4.set {w : World} {B : Nat} {a b c d : Int} (h : Has4 w B a b c d) {q : Addr} (hn : B ≠ q.block) (v : Value) : Has4 (w.setCell q v) B a b c d :=
  ⟨cellS hn h.1, cellS hn h.2.1, cellS hn h.2.2.1, cellS hn h.2.2.2.1, fun o => (World.frozen?_of_block (w := w) (a := ⟨B, o, none⟩) (Below.heap_setCell _ _ _ _ hn)).trans (h.2.2.2.2 o)⟩
theorem Has4.drew {w : World} {B : Nat} {a b c d : Int} (h : Has4 w B a b c d) : Has4 w.drew B a b c d := h

set_option maxHeartbeats 4000000 in
theorem drawBoxMeet (a : Option Addr) (l c : Nat) (z : List Int) (w : World) (h : IsRow w a l c z) : Calls Try.prog 10 #[.slice a l c] w (DrawnBB w) := by
  have h4 := (Has4.new w 0 0 0 0 26).q ((Q.refl _).alloc (.cells #[.int .i64 0, .int .i64 0, .int .i64 0, .int .i64 0] 26))
  have h2 := Has4.new (w.alloc (.cells #[.int .i64 0, .int .i64 0, .int .i64 0, .int .i64 0] 26)) 0 0 0 0 26
  simp only [World.size_alloc] at h2
  go_enter Try.func10, Try.ntmps10
  go_wp2_with fail
  refine (l6Open_any _ _ _ z _ (h.keep (((Q.refl _).alloc _).alloc _))).mono ?_
  rintro e w0 ⟨sa, len, cap, rfl, hr0, q0, hz0⟩
  simp only [World.size_alloc] at hr0 hz0
  have i4 := h4.q q0
  have i2 := h2.q q0
  clear h4 h2
  have hQ0 : Q w w0 := (((Q.refl w).alloc _).alloc _).trans q0
  clear q0
  go_wp2_with fail
  refine (l91Box_any (w.heap.size + 1 + 1) sa len cap 0 _ hr0 (by omega)).mono ?_
  rintro e w1 ⟨a, b, c, d, p1, wf, hp1, rfl, hr1, k1⟩
  have z1 := k1.size
  have j4 := (i4.pq k1 (by omega)).q ((Q.refl w1).alloc (.cells #[.int .i64 a, .int .i64 b, .int .i64 c, .int .i64 d] 26))
  have j2 := (i2.pq k1 (by omega)).q ((Q.refl w1).alloc (.cells #[.int .i64 a, .int .i64 b, .int .i64 c, .int .i64 d] 26))
  have jA := Has4.new w1 a b c d 26
  have hrA := hr1.keepQ ((Q.refl w1).alloc (.cells #[.int .i64 a, .int .i64 b, .int .i64 c, .int .i64 d] 26))
  have kA : PQ (w.heap.size + 1 + 1) w0 (w1.alloc (.cells #[.int .i64 a, .int .i64 b, .int .i64 c, .int .i64 d] 26)) := k1.alloc _
  clear i4 i2 k1 hr1
  go_wp2_with fail
  refine (l91Box_any (w.heap.size + 1 + 1) sa len cap p1 _ hrA (by omega)).mono ?_
  rintro e w2 ⟨a', b', c', d', p2, wf', hp2, rfl, hr2, k2⟩
  have z2 := k2.size
  simp only [World.size_alloc] at z2
  have l4 := (j4.pq k2 (by omega)).q ((Q.refl w2).alloc (.cells #[.int .i64 a', .int .i64 b', .int .i64 c', .int .i64 d'] 26))
  have l2 := (j2.pq k2 (by omega)).q ((Q.refl w2).alloc (.cells #[.int .i64 a', .int .i64 b', .int .i64 c', .int .i64 d'] 26))
  have lA := (jA.pq k2 (by omega)).q ((Q.refl w2).alloc (.cells #[.int .i64 a', .int .i64 b', .int .i64 c', .int .i64 d'] 26))
  have lB := Has4.new w2 a' b' c' d' 26
  have hrB := hr2.keepQ ((Q.refl w2).alloc (.cells #[.int .i64 a', .int .i64 b', .int .i64 c', .int .i64 d'] 26))
  have kB : PQ (w.heap.size + 1 + 1) w0 (w2.alloc (.cells #[.int .i64 a', .int .i64 b', .int .i64 c', .int .i64 d'] 26)) := (kA.trans k2).alloc _
  clear j4 j2 jA k2 hr2 hrA kA
  go_wp2_with fail
  refine (pick_any 3 (w.heap.size + 1 + 1) sa len cap p2 _ hrB (by omega) (by omega)).mono ?_
  rintro e w3 ⟨v3, a3, b3, rfl, hr3, k3, z3⟩
  simp only [World.size_alloc] at z3
  have m4 := l4.pq k3 (by omega)
  have m2 := l2.pq k3 (by omega)
  have mA := lA.pq k3 (by omega)
  have mB := lB.pq k3 (by omega)
  have kC := kB.trans k3
  have n0 : w.heap.size < w3.heap.size := by omega
  have n1 : w.heap.size + 1 < w3.heap.size := by omega
  have n2 : w1.heap.size < w3.heap.size := by omega
  have n2' : w2.heap.size < w3.heap.size := by omega
  have n3 : ¬ w1.heap.size = w.heap.size := by omega
  have n4 : ¬ w1.heap.size = w.heap.size + 1 := by omega
  have n5 : ¬ w2.heap.size = w.heap.size := by omega
  have n6 : ¬ w2.heap.size = w.heap.size + 1 := by omega
  have n7 : ¬ w1.heap.size = w2.heap.size := by omega
  have n8 : ¬ w2.heap.size = w1.heap.size := by omega
  have n9 : ¬ w2.heap.size = w.heap.size + 1 + 1 := by omega
  have hsZ := Lib.hid z3
  clear l4 l2 lA lB hrB kB k3 z3
  by_cases g3 : 0 < v3
  · have mA' := mA
    obtain ⟨A0, A1, A2, A3, A4⟩ := mA'
    go_wp2_with fail
    refine (l91Near_any (w.heap.size + 1 + 1) sa len cap (p2 + 1) _ a b c d hr3 (by omega)).mono ?_
    rintro e w4 ⟨x, y, p4, wx, wy, hp4, rfl, hr4, k4⟩
    have z4 := k4.size
    have mB' := mB.pq k4 (by omega)
    have m4' := m4.pq k4 (by omega)
    have m2' := m2.pq k4 (by omega)
    have mA' := mA.pq k4 (by omega)
    have kD := kC.trans k4
    clear A0 A1 A2 A3 A4 m4 m2 mA mB
    have uB := mB'.set01 x y
    have u4 := (m4'.set (q := ⟨w2.heap.size, 0, none⟩) (by dsimp only; omega) (.int .i64 x)).set (q := ⟨w2.heap.size, 1, none⟩) (by dsimp only; omega) (.int .i64 y)
    have u2 := (m2'.set (q := ⟨w2.heap.size, 0, none⟩) (by dsimp only; omega) (.int .i64 x)).set (q := ⟨w2.heap.size, 1, none⟩) (by dsimp only; omega) (.int .i64 y)
    have uA := (mA'.set (q := ⟨w2.heap.size, 0, none⟩) (by dsimp only; omega) (.int .i64 x)).set (q := ⟨w2.heap.size, 1, none⟩) (by dsimp only; omega) (.int .i64 y)
    have kE : PQ (w.heap.size + 1 + 1) w0 ((w4.setCell ⟨w2.heap.size, 0, none⟩ (.int .i64 x)).setCell ⟨w2.heap.size, 1, none⟩ (.int .i64 y)) := (kD.setCell (p := ⟨w2.heap.size, 0, none⟩) (Or.inr (by dsimp only; omega)) _).setCell (p := ⟨w2.heap.size, 1, none⟩) (Or.inr (by dsimp only; omega)) _
    have hrE := hr0.stores hr4 kE (by (repeat' (first | (with_reducible rfl) | (with_reducible refine (heap_setCell_ne ?_).trans ?_) | (with_reducible refine (Below.heap_alloc _ _ _ ?_).trans ?_) | (dsimp only; omega) | (simp; done) | (simp; omega))))
    have hsz : ((w4.setCell ⟨w2.heap.size, 0, none⟩ (.int .i64 x)).setCell ⟨w2.heap.size, 1, none⟩ (.int .i64 y)).heap.size = w4.heap.size := by simp
    obtain ⟨B0, B1, B2, B3, B4⟩ := mB'
    clear m4' m2' mA'
    go_upto_region 6 with fail
    generalize ((w4.setCell ⟨w2.heap.size, 0, none⟩ (.int .i64 x)).setCell ⟨w2.heap.size, 1, none⟩ (.int .i64 y)) = W1 at *
    clear B0 B1 B2 B3 B4 hr4
    have o0 : w2.heap.size < W1.heap.size := by omega
    have uB' := uB
    obtain ⟨B0, B1, B2, B3, B4⟩ := uB'
    go_cut [] (fun wx => ∃ X Y : Int, Has4 wx w2.heap.size x y X Y ∧ Has4 wx w1.heap.size a b c d ∧ Has4 wx w.heap.size 0 0 0 0 ∧ Has4 wx (w.heap.size + 1) 0 0 0 0 ∧ (Lit.int .i64 X).wf = true ∧ (Lit.int .i64 Y).wf = true ∧ PQ (w.heap.size + 1 + 1) w0 wx)
    case first =>
      go_region_held3 (fun w' => w'.cell? ⟨w2.heap.size, 0, none⟩ = some (.int .i64 x) ∧ w'.cell? ⟨w2.heap.size, 1, none⟩ = some (.int .i64 y) ∧ PQ (w.heap.size + 1 + 1) w0 w')
        ((go_split_ands; (repeat' (with_reducible apply And.intro)) <;> first | (with_reducible assumption) | ((repeat' (first | (with_reducible assumption) | (with_reducible exact cellE (by assumption)) | (with_reducible refine cellA _ ?_) | (with_reducible refine cellD ?_) | (with_reducible refine cellS (by first | (dsimp only; omega) | (simp; omega)) ?_) | (with_reducible refine cellO (by simp; done) ?_) | (with_reducible refine PQ.cell1 (by assumption) (by first | (dsimp only; omega) | (simp; omega)) ?_))); done) | ((repeat' (first | (with_reducible assumption) | (with_reducible exact PQ.refl _ _) | (with_reducible refine PQ.setCell ?_ (Or.inr ?_) _) | (with_reducible refine PQ.drew ?_) | (with_reducible refine PQ.drewN ?_ _) | (with_reducible refine PQ.alloc ?_ _) | (with_reducible refine PQ.trans ?_ (by assumption)) | (dsimp only; omega) | (simp; done) | (simp; omega))); done) | omega | (simp; omega)))
        (first | (go_split_ands; go_at_call 23; refine (pick_any 40 (w.heap.size + 1 + 1) sa len cap p4 _ (by first | (with_reducible assumption) | (with_reducible exact Rd.keepQ (by assumption) ((Q.refl _).alloc _)) | (with_reducible exact Rd.keepQ (by assumption) (Q.refl _).drew) | (with_reducible exact Rd.keepQ (by assumption) (((Q.refl _).drew).alloc _)) | (with_reducible exact Rd.keepQ (by assumption) (((Q.refl _).alloc _).drew))) (by omega) (by omega)).mono ?_; rintro e w5 ⟨v5, aa5, bb5, rfl, hr5, kk5, zz5⟩; (try simp at zz5); have cf5 := (kk5).blk (w2.heap.size) (by first | omega | (simp; omega)) (by omega)) | (go_split_ands; go_at_call 23; refine (pick_any 40 (w.heap.size + 1 + 1) sa len cap (p4 + 1) _ (by first | (with_reducible assumption) | (with_reducible exact Rd.keepQ (by assumption) ((Q.refl _).alloc _)) | (with_reducible exact Rd.keepQ (by assumption) (Q.refl _).drew) | (with_reducible exact Rd.keepQ (by assumption) (((Q.refl _).drew).alloc _)) | (with_reducible exact Rd.keepQ (by assumption) (((Q.refl _).alloc _).drew))) (by omega) (by omega)).mono ?_; rintro e w6 ⟨v6, aa6, bb6, rfl, hr6, kk6, zz6⟩; (try simp at zz6); have cf6 := (kk6).blk (w2.heap.size) (by first | omega | (simp; omega)) (by omega)))
      all_goals
        go_split_ands
        go_wp2_with fail
        go_meet
        exact ⟨_, _, ((uB.drew.pq kk5 (by omega)).pq kk6 (by omega)).set23 _ _, (((uA.drew.pq kk5 (by omega)).pq kk6 (by omega)).set (by dsimp only; omega) _).set (by dsimp only; omega) _, (((u4.drew.pq kk5 (by omega)).pq kk6 (by omega)).set (by dsimp only; omega) _).set (by dsimp only; omega) _, (((u2.drew.pq kk5 (by omega)).pq kk6 (by omega)).set (by dsimp only; omega) _).set (by dsimp only; omega) _, by first | exact wf_wrap _ _ | exact wrap64_wf _, by first | exact wf_wrap _ _ | exact wrap64_wf _, by (repeat' (first | (with_reducible assumption) | (with_reducible exact PQ.refl _ _) | (with_reducible refine PQ.setCell ?_ (Or.inr ?_) _) | (with_reducible refine PQ.drew ?_) | (with_reducible refine PQ.drewN ?_ _) | (with_reducible refine PQ.alloc ?_ _) | (with_reducible refine PQ.trans ?_ (by assumption)) | (dsimp only; omega) | (simp; done) | (simp; omega)))⟩
    case rest =>
    obtain ⟨X, Y, ⟨B0, B1, B2, B3, B4⟩, ⟨A0, A1, A2, A3, A4⟩, ⟨U0, U1, U2, U3, U4⟩, ⟨V0, V1, V2, V3, V4⟩, wX, wY, kF⟩ := hcut
    have hQF : Q w wc := hQ0.of_pq (g := w.heap.size + 1 + 1) (by omega) kF
    clear uB uA u4 u2 kE hrE kD k4
    go_wp2_with fail
    go_region_held3 (fun w' => w'.cell? ⟨w1.heap.size, 0, none⟩ = some (.int .i64 a) ∧ w'.cell? ⟨w1.heap.size, 1, none⟩ = some (.int .i64 b) ∧ w'.cell? ⟨w1.heap.size, 2, none⟩ = some (.int .i64 c) ∧ w'.cell? ⟨w1.heap.size, 3, none⟩ = some (.int .i64 d) ∧ w'.cell? ⟨w2.heap.size, 0, none⟩ = some (.int .i64 x) ∧ w'.cell? ⟨w2.heap.size, 1, none⟩ = some (.int .i64 y) ∧ w'.cell? ⟨w2.heap.size, 2, none⟩ = some (.int .i64 X) ∧ w'.cell? ⟨w2.heap.size, 3, none⟩ = some (.int .i64 Y) ∧ Q w w')
      ((go_split_ands; (repeat' (with_reducible apply And.intro)) <;> first | (with_reducible assumption) | ((repeat' (first | (with_reducible assumption) | (with_reducible exact cellE (by assumption)) | (with_reducible refine cellA _ ?_) | (with_reducible refine cellD ?_) | (with_reducible refine cellS (by first | (dsimp only; omega) | (simp; omega)) ?_) | (with_reducible refine cellO (by simp; done) ?_) | (with_reducible refine PQ.cell1 (by assumption) (by first | (dsimp only; omega) | (simp; omega)) ?_))); done) | ((repeat' (first | (with_reducible exact Q.refl _) | (with_reducible assumption) | (with_reducible refine Q.setCell ?_ ?_ _) | (with_reducible refine Q.alloc ?_ _) | (with_reducible refine Q.drew ?_) | (with_reducible refine Q.drewN ?_ _) | (with_reducible refine Q.trans ?_ (by assumption)) | omega | (dsimp only; omega) | (simp; done) | (simp; omega))); done) | omega | (simp; omega)))
      (fail)
    all_goals
      go_split_ands
      go_wp2
      first | (refine bodyPost_ret (by simp [results, Try.results10, go_sem, *]; try rfl) rfl ?_) | (refine bodyPost_ret (by (try simp only [results, Try.results10]); go_simp; try rfl) rfl ?_)
      exact ⟨_, _, _, _, _, _, _, _, wf, ⟨wx, wy, wX, wY⟩, rfl, by (repeat' (first | (with_reducible exact Q.refl _) | (with_reducible assumption) | (with_reducible refine Q.setCell ?_ ?_ _) | (with_reducible refine Q.alloc ?_ _) | (with_reducible refine Q.drew ?_) | (with_reducible refine Q.drewN ?_ _) | (with_reducible refine Q.trans ?_ (by assumption)) | omega | (dsimp only; omega) | (simp; done) | (simp; omega)))⟩
  · obtain ⟨B0, B1, B2, B3, B4⟩ := mB
    obtain ⟨A0, A1, A2, A3, A4⟩ := mA
    obtain ⟨U0, U1, U2, U3, U4⟩ := m4
    obtain ⟨V0, V1, V2, V3, V4⟩ := m2
    have hQF : Q w w3 := hQ0.of_pq (g := w.heap.size + 1 + 1) (by omega) kC
    go_wp2_with fail
    go_region_held3 (fun w' => w'.cell? ⟨w1.heap.size, 0, none⟩ = some (.int .i64 a) ∧ w'.cell? ⟨w1.heap.size, 1, none⟩ = some (.int .i64 b) ∧ w'.cell? ⟨w1.heap.size, 2, none⟩ = some (.int .i64 c) ∧ w'.cell? ⟨w1.heap.size, 3, none⟩ = some (.int .i64 d) ∧ w'.cell? ⟨w2.heap.size, 0, none⟩ = some (.int .i64 a') ∧ w'.cell? ⟨w2.heap.size, 1, none⟩ = some (.int .i64 b') ∧ w'.cell? ⟨w2.heap.size, 2, none⟩ = some (.int .i64 c') ∧ w'.cell? ⟨w2.heap.size, 3, none⟩ = some (.int .i64 d') ∧ Q w w')
      ((go_split_ands; (repeat' (with_reducible apply And.intro)) <;> first | (with_reducible assumption) | ((repeat' (first | (with_reducible assumption) | (with_reducible exact cellE (by assumption)) | (with_reducible refine cellA _ ?_) | (with_reducible refine cellD ?_) | (with_reducible refine cellS (by first | (dsimp only; omega) | (simp; omega)) ?_) | (with_reducible refine cellO (by simp; done) ?_) | (with_reducible refine PQ.cell1 (by assumption) (by first | (dsimp only; omega) | (simp; omega)) ?_))); done) | ((repeat' (first | (with_reducible exact Q.refl _) | (with_reducible assumption) | (with_reducible refine Q.setCell ?_ ?_ _) | (with_reducible refine Q.alloc ?_ _) | (with_reducible refine Q.drew ?_) | (with_reducible refine Q.drewN ?_ _) | (with_reducible refine Q.trans ?_ (by assumption)) | omega | (dsimp only; omega) | (simp; done) | (simp; omega))); done) | omega | (simp; omega)))
      (fail)
    all_goals
      go_split_ands
      go_wp2
      first | (refine bodyPost_ret (by simp [results, Try.results10, go_sem, *]; try rfl) rfl ?_) | (refine bodyPost_ret (by (try simp only [results, Try.results10]); go_simp; try rfl) rfl ?_)
      exact ⟨_, _, _, _, _, _, _, _, wf, wf', rfl, by (repeat' (first | (with_reducible exact Q.refl _) | (with_reducible assumption) | (with_reducible refine Q.setCell ?_ ?_ _) | (with_reducible refine Q.alloc ?_ _) | (with_reducible refine Q.drew ?_) | (with_reducible refine Q.drewN ?_ _) | (with_reducible refine Q.trans ?_ (by assumption)) | omega | (dsimp only; omega) | (simp; done) | (simp; omega)))⟩
end Go.Proofs.Ytakmeajdkcojoaa
