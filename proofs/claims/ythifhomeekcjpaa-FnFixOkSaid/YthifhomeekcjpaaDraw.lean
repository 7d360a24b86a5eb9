/-
  The contracts of the functions that draw arguments out of a code: they return, and give numbers that fit.
-/
import Derived.Test.YthifhomeekcjpaaPick
import Derived.Deep.RegionHeld3
namespace Go.Proofs.Ythifhomeekcjpaa
open Go.RowKit

theorem wf_i64 {n : Int} (h : -9223372036854775808 ≤ n) (h' : n ≤ 9223372036854775807) : (Lit.int .i64 n).wf = true := by
  simp [Lit.wf, IntKind.min, IntKind.max, IntKind.signed, IntKind.bits]; omega
/-- A reader that has just been made. -/
theorem Rd.new (w : World) (sa : Option Addr) (len cap : Nat) (T : TypeId) (hl : len ≤ 2000)
    (hb : len = 0 ∨ ∃ b off, sa = some ⟨b, off, none⟩ ∧ b < w.heap.size ∧ ∀ i, i < len → ∃ u : Int, 0 ≤ u ∧ u ≤ 255 ∧ w.cell? ⟨b, off + i, none⟩ = some (.int .u8 u)) :
    Rd (w.alloc (.cells #[.slice sa len cap, .int .i64 0] T)) w.heap.size sa len cap 0 := by
  have hq : Q w (w.alloc (.cells #[.slice sa len cap, .int .i64 0] T)) := (Q.refl w).alloc _
  refine ⟨by simp, by go_simp, by go_simp, by go_simp, by go_simp, hl, ?_⟩
  rcases hb with h | ⟨b, off, h1, h2, h3⟩
  · exact Or.inl h
  · refine Or.inr ⟨b, off, h1, Nat.lt_of_lt_of_le h2 hq.size, by omega, fun i hi => ?_⟩
    obtain ⟨u, u0, u1, hu⟩ := h3 i hi
    exact ⟨u, u0, u1, (hq.cells.1 b _ h2).trans hu⟩
/-- What 'l6Open' gives: a reader in a new block. -/
def Opened (w : World) (e : Ending) (w' : World) : Prop :=
  ∃ (sa : Option Addr) (len cap : Nat), e = .returned (.pointer (some ⟨w.heap.size, 0, none⟩)) ∧ Rd w' w.heap.size sa len cap 0 ∧ Q w w' ∧ w'.heap.size = w.heap.size + 1
/-- The bytes of a row, up to m of them. -/
theorem bytes_of_row {w : World} {x : Addr} {zs : List Int} {m : Nat} (hm : m ≤ zs.length) (hcell : ∀ i, i < zs.length → w.cell? (x.add i) = some (.int .u8 (zs.getD i 0))) (hwz : ∀ n ∈ zs, (Lit.int .u8 n).wf = true) :
    m = 0 ∨ ∃ b off, some x = some (⟨b, off, none⟩ : Addr) ∧ b < w.heap.size ∧ ∀ i, i < m → ∃ u : Int, 0 ≤ u ∧ u ≤ 255 ∧ w.cell? ⟨b, off + i, none⟩ = some (.int .u8 u) := by
  by_cases h0 : m = 0
  · exact Or.inl h0
  · right
    obtain ⟨b, off, spot⟩ := x
    have hc := hcell 0 (by omega)
    have hspot : spot = none := by simpa [Addr.add] using World.cell?_spot hc
    subst hspot
    refine ⟨b, off, rfl, ?_, fun i hi => ?_⟩
    · have := World.block_lt_of_cell? w _ hc
      simpa [Addr.add] using this
    · have hi' : i < zs.length := by omega
      have hmem : zs.getD i 0 ∈ zs := by
        rw [List.getD_eq_getElem?_getD, List.getElem?_eq_getElem hi']; exact List.getElem_mem hi'
      obtain ⟨u0, u1⟩ := bd_u8 (hwz _ hmem)
      exact ⟨zs.getD i 0, u0, u1, by have := hcell i hi'; rw [show Addr.add ⟨b, off, none⟩ i = ⟨b, off + i, none⟩ from by unfold Addr.add; split <;> simp_all] at this; exact this⟩

set_option maxHeartbeats 400000 in
theorem l6Open_any (a : Option Addr) (l c : Nat) (z : List Int) (w : World) (h : IsRow w a l c z) :
    Calls Try.prog 49 #[.slice a l c] w (Opened w) := by
  rcases h with ⟨rfl, rfl, rfl, rfl⟩ | ⟨x, rfl, hl, hm, hz, hcell, hwz⟩
  · go_enter Try.func49, Try.ntmps49
    go_wp2
    go_ret
    exact ⟨none, 0, 0, rfl, Rd.new w none 0 0 _ (by omega) (Or.inl rfl), (Q.refl w).alloc _, by simp⟩
  · unfold maxLen at hm
    by_cases h2 : l ≤ 2000
    · have hb := Lib.hid (bytes_of_row (m := l) (by omega) hcell hwz)
      have h2' : ¬ (2000 : Int) < (l : Int) := by omega
      have HL := Lib.hid h2
      clear hcell hwz h2
      go_enter Try.func49, Try.ntmps49
      go_wp2
      go_ret
      exact ⟨some x, l, c, rfl, Rd.new w (some x) l c _ HL.out hb.out, (Q.refl w).alloc _, by simp⟩
    · have hb := Lib.hid (bytes_of_row (m := 2000) (by omega) hcell hwz)
      have h2' : (2000 : Int) < (l : Int) := by omega
      have h3 : 2000 ≤ c := by omega
      clear hcell hwz h2
      go_enter Try.func49, Try.ntmps49
      go_wp2
      go_ret
      exact ⟨some x, 2000, c, rfl, Rd.new w (some x) 2000 c _ (by omega) hb.out, (Q.refl w).alloc _, by simp⟩
/-- A drawn number. -/
def FixDrawn (w : World) (g : Nat) (sa : Option Addr) (len cap p : Nat) (e : Ending) (w' : World) : Prop :=
  ∃ (n : Int) (p' : Nat), (Lit.int .i64 n).wf = true ∧ p' ≤ p + 5 ∧ e = .returned (.int .i64 n) ∧ Rd w' g sa len cap p' ∧ PQ g w w'
set_option maxHeartbeats 1000000 in
theorem l91Fix_any (g : Nat) (sa : Option Addr) (len cap p : Nat) (w : World) (hr0 : Rd w g sa len cap p) (hp : p ≤ 900) :
    Calls Try.prog 55 #[.pointer (some ⟨g, 0, none⟩)] w (FixDrawn w g sa len cap p) := by
  have hlt := hr0.lt
  go_enter Try.func55, Try.ntmps55
  go_wp2_with fail
  refine (pick_any 12 g sa len cap _ _ hr0 (by omega) (by omega)).mono ?_
  rintro e w1 ⟨v0, a0, b0, rfl, hr1, hq0, hz0⟩
  by_cases g0 : v0 = 0
  · subst g0
    go_wp2_with fail
    refine (pick_any 9 g sa len cap _ _ (hr1.keepQ ((Q.refl _).alloc _)) (by omega) (by omega)).mono ?_
    rintro e w2 ⟨v1, a1, b1, rfl, hr2, hq1, hz1⟩
    obtain ⟨c1, f1⟩ := hq1.blk w.heap.size (by simp; omega) (by omega)
    obtain rfl | rfl | rfl | rfl | rfl | rfl | rfl | rfl | rfl : v1 = 0 ∨ v1 = 1 ∨ v1 = 2 ∨ v1 = 3 ∨ v1 = 4 ∨ v1 = 5 ∨ v1 = 6 ∨ v1 = 7 ∨ v1 = 8 := by omega
    all_goals
      go_wp2
      go_ret
      exact ⟨_, _, by decide, by omega, rfl, hr2, (hq0.alloc _).trans hq1⟩
  · by_cases g1 : v0 = 1 ∨ v0 = 2
    · obtain rfl | rfl := g1
      all_goals
        go_wp2_with fail
        refine (pick_any 100 g sa len cap _ _ hr1 (by omega) (by omega)).mono ?_
        rintro e w2 ⟨v1, a1, b1, rfl, hr2, hq1, hz1⟩
        go_wp2_with fail
        refine (pick_any 100 g sa len cap _ _ hr2 (by omega) (by omega)).mono ?_
        rintro e w3 ⟨v2, a2, b2, rfl, hr3, hq2, hz2⟩
        go_wp2_with fail
        refine (pick_any 2 g sa len cap _ _ hr3 (by omega) (by omega)).mono ?_
        rintro e w4 ⟨v3, a3, b3, rfl, hr4, hq3, hz3⟩
        go_wp2
        go_ret
        exact ⟨_, _, by first | exact wrap64_wf _ | exact wf_i64 (by omega) (by omega), by omega, rfl, hr4, ((hq0.trans hq1).trans hq2).trans hq3⟩
    · have g2 : (v0 == 0) = false := by simpa using g0
      have g3 : (v0 == 1) = false := by simp; omega
      have g4 : (v0 == 2) = false := by simp; omega
      clear g0 g1
      go_wp2_with fail
      refine (pick_any 100 g sa len cap _ _ hr1 (by omega) (by omega)).mono ?_
      rintro e w2 ⟨v1, a1, b1, rfl, hr2, hq1, hz1⟩
      go_wp2_with fail
      refine (pick_any 100 g sa len cap _ _ hr2 (by omega) (by omega)).mono ?_
      rintro e w3 ⟨v2, a2, b2, rfl, hr3, hq2, hz2⟩
      go_wp2_with fail
      refine (pick_any 2 g sa len cap _ _ hr3 (by omega) (by omega)).mono ?_
      rintro e w4 ⟨v3, a3, b3, rfl, hr4, hq3, hz3⟩
      go_wp2_with fail
      refine (pick_any 3 g sa len cap _ _ hr4 (by omega) (by omega)).mono ?_
      rintro e w5 ⟨v4, a4, b4, rfl, hr5, hq4, hz4⟩
      go_wp2
      go_ret
      exact ⟨_, _, by first | exact wrap64_wf _ | exact wf_i64 (by omega) (by omega), by omega, rfl, hr5, (((hq0.trans hq1).trans hq2).trans hq3).trans hq4⟩
/-- What a drawing function gives, and that nothing that was there has turned. -/
def Drawn1 (w : World) (e : Ending) (w' : World) : Prop := ∃ n : Int, (Lit.int .i64 n).wf = true ∧ e = .returned (.int .i64 n) ∧ Q w w'
def Drawn2 (w : World) (e : Ending) (w' : World) : Prop := ∃ a b : Int, (Lit.int .i64 a).wf = true ∧ (Lit.int .i64 b).wf = true ∧ e = .returned (.tuple #[.int .i64 a, .int .i64 b]) ∧ Q w w'
set_option maxHeartbeats 400000 in
theorem drawFixOk (a : Option Addr) (l c : Nat) (z : List Int) (w : World) (h : IsRow w a l c z) : Calls Try.prog 32 #[.slice a l c] w (Drawn1 w) := by
  go_enter Try.func32, Try.ntmps32
  go_wp2_with fail
  refine (l6Open_any _ _ _ z _ h).mono ?_
  rintro e w0 ⟨sa, len, cap, rfl, hr0, q0, hz0⟩
  go_wp2_with fail
  refine (l91Fix_any _ sa len cap 0 _ hr0 (by omega)).mono ?_
  rintro e w1 ⟨n, p1, wn, hp1, rfl, hr1, k1⟩
  go_wp2
  go_ret
  exact ⟨n, wn, rfl, q0.of_pq (Nat.le_refl _) k1⟩
end Go.Proofs.Ythifhomeekcjpaa
