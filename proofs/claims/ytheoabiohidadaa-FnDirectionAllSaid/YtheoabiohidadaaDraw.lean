/-
  The contracts of the functions that draw arguments out of a code: they return, and give numbers that fit.
-/
import Derived.Test.YtheoabiohidadaaPick
import Derived.Deep.RegionHeld3
namespace Go.Proofs.Ytheoabiohidadaa
open Go.RowKit

theorem wf_i64 {n : Int} (h : -9223372036854775808 ≤ n) (h' : n ≤ 9223372036854775807) : (Lit.int .i64 n).wf = true := by
  simp [Lit.wf, IntKind.min, IntKind.max, IntKind.signed, IntKind.bits]; omega
/-- A reader that has just been made. -/
theorem Rd.new (w : World) (sa : Option Addr) (len cap : Nat) (T : TypeId) (hl : len ≤ 2000)
    (hb : len = 0 ∨ ∃ b off, sa = some ⟨b, off, none⟩ ∧ b < w.heap.size ∧ ∀ i, i < len → ∃ u : Int, 0 ≤ u ∧ u ≤ 255 ∧ w.cell? ⟨b, off + i, none⟩ = some (.int .u8 u)) :
    Rd (w.alloc (.cells #[.slice sa len cap, .int .i64 0] T)) w.heap.size sa len cap 0 := by
  have hq : Q w (w.alloc (.cells #[.slice sa len cap, .int .i64 0] T)) := (Q.refl w).alloc _
  refine ⟨by simp, by go_simp, by go_simp, by go_simp, by go_simp, hl, ?_⟩
  rcases hb with h | ⟨b, off, h1, h2, h3⟩
  · exact Or.inl h
  · refine Or.inr ⟨b, off, h1, Nat.lt_of_lt_of_le h2 hq.size, by omega, fun i hi => ?_⟩
    obtain ⟨u, u0, u1, hu⟩ := h3 i hi
    exact ⟨u, u0, u1, (hq.cells.1 b _ h2).trans hu⟩
/-- What 'l6Open' gives: a reader in a new block. -/
def Opened (w : World) (e : Ending) (w' : World) : Prop :=
  ∃ (sa : Option Addr) (len cap : Nat), e = .returned (.pointer (some ⟨w.heap.size, 0, none⟩)) ∧ Rd w' w.heap.size sa len cap 0 ∧ Q w w' ∧ w'.heap.size = w.heap.size + 1
/-- The bytes of a row, up to m of them. -/
theorem bytes_of_row {w : World} {x : Addr} {zs : List Int} {m : Nat} (hm : m ≤ zs.length) (hcell : ∀ i, i < zs.length → w.cell? (x.add i) = some (.int .u8 (zs.getD i 0))) (hwz : ∀ n ∈ zs, (Lit.int .u8 n).wf = true) :
    m = 0 ∨ ∃ b off, some x = some (⟨b, off, none⟩ : Addr) ∧ b < w.heap.size ∧ ∀ i, i < m → ∃ u : Int, 0 ≤ u ∧ u ≤ 255 ∧ w.cell? ⟨b, off + i, none⟩ = some (.int .u8 u) := by
  by_cases h0 : m = 0
  · exact Or.inl h0
  · right
    obtain ⟨b, off, spot⟩ := x
    have hc := hcell 0 (by omega)
    have hspot : spot = none := by simpa [Addr.add] using World.cell?_spot hc
    subst hspot
    refine ⟨b, off, rfl, ?_, fun i hi => ?_⟩
    · have := World.block_lt_of_cell? w _ hc
      simpa [Addr.add] using this
    · have hi' : i < zs.length := by omega
      have hmem : zs.getD i 0 ∈ zs := by
        rw [List.getD_eq_getElem?_getD, List.getElem?_eq_getElem hi']; exact List.getElem_mem hi'
      obtain ⟨u0, u1⟩ := bd_u8 (hwz _ hmem)
      exact ⟨zs.getD i 0, u0, u1, by have := hcell i hi'; rw [show Addr.add ⟨b, off, none⟩ i = ⟨b, off + i, none⟩ from by unfold Addr.add; split <;> simp_all] at this; exact this⟩

set_option maxHeartbeats 400000 in
theorem l6Open_any (a : Option Addr) (l c : Nat) (z : List Int) (w : World) (h : IsRow w a l c z) :
    Calls Try.prog 23 #[.slice a l c] w (Opened w) := by
  rcases h with ⟨rfl, rfl, rfl, rfl⟩ | ⟨x, rfl, hl, hm, hz, hcell, hwz⟩
  · go_enter Try.func23, Try.ntmps23
    go_wp2
    go_ret
    exact ⟨none, 0, 0, rfl, Rd.new w none 0 0 _ (by omega) (Or.inl rfl), (Q.refl w).alloc _, by simp⟩
  · unfold maxLen at hm
    by_cases h2 : l ≤ 2000
    · have hb := Lib.hid (bytes_of_row (m := l) (by omega) hcell hwz)
      have h2' : ¬ (2000 : Int) < (l : Int) := by omega
      have HL := Lib.hid h2
      clear hcell hwz h2
      go_enter Try.func23, Try.ntmps23
      go_wp2
      go_ret
      exact ⟨some x, l, c, rfl, Rd.new w (some x) l c _ HL.out hb.out, (Q.refl w).alloc _, by simp⟩
    · have hb := Lib.hid (bytes_of_row (m := 2000) (by omega) hcell hwz)
      have h2' : (2000 : Int) < (l : Int) := by omega
      have h3 : 2000 ≤ c := by omega
      clear hcell hwz h2
      go_enter Try.func23, Try.ntmps23
      go_wp2
      go_ret
      exact ⟨some x, 2000, c, rfl, Rd.new w (some x) 2000 c _ (by omega) hb.out, (Q.refl w).alloc _, by simp⟩
/-- A drawn number. -/
def FixDrawn (w : World) (g : Nat) (sa : Option Addr) (len cap p : Nat) (e : Ending) (w' : World) : Prop :=
  ∃ (n : Int) (p' : Nat), (Lit.int .i64 n).wf = true ∧ p' ≤ p + 5 ∧ e = .returned (.int .i64 n) ∧ Rd w' g sa len cap p' ∧ PQ g w w'
/-- What a drawing function gives, and that nothing that was there has turned. -/
def Drawn1 (w : World) (e : Ending) (w' : World) : Prop := ∃ n : Int, (Lit.int .i64 n).wf = true ∧ e = .returned (.int .i64 n) ∧ Q w w'
def Drawn2 (w : World) (e : Ending) (w' : World) : Prop := ∃ a b : Int, (Lit.int .i64 a).wf = true ∧ (Lit.int .i64 b).wf = true ∧ e = .returned (.tuple #[.int .i64 a, .int .i64 b]) ∧ Q w w'
end Go.Proofs.Ytheoabiohidadaa
