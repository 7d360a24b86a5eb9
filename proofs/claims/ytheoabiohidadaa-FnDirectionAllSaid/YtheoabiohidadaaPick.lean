/-
  The reader of a code: what it holds, and the contract of 'pick'.
-/
import Derived.Test.YtheoabiohidadaaFix
import Derived.Test.YtheoabiohidadaaOpen
import Derived.BigQuiet
import Derived.Deep.QuietTactic
import Derived.Deep.Draws
import Derived.Laws.BitsAllLaws
import Derived.IntWalk
namespace Go.Proofs.Ytheoabiohidadaa
open Go.RowKit

/-- Behind a call that writes the reader's block g: all other blocks that were there are as they were. -/
structure PQ (g : Nat) (w w' : World) : Prop where
  os : w'.os = w.os
  tape : w'.tape = w.tape
  output : w'.output = w.output
  size : w.heap.size ≤ w'.heap.size
  block : ∀ k, k < w.heap.size → k ≠ g → w'.heap[k]? = w.heap[k]?
theorem PQ.refl (g : Nat) (w : World) : PQ g w w := ⟨rfl, rfl, rfl, Nat.le_refl _, fun _ _ _ => rfl⟩
theorem PQ.trans {g : Nat} {a b c : World} (h : PQ g a b) (k : PQ g b c) : PQ g a c :=
  ⟨k.os.trans h.os, k.tape.trans h.tape, k.output.trans h.output, Nat.le_trans h.size k.size, fun i hi hn => (k.block i (Nat.lt_of_lt_of_le hi h.size) hn).trans (h.block i hi hn)⟩
theorem PQ.alloc {g : Nat} {a w : World} (h : PQ g a w) (o : Obj) : PQ g a (w.alloc o) :=
  h.trans ⟨rfl, rfl, rfl, by simp, fun k hk _ => Below.heap_alloc _ _ _ hk⟩
theorem PQ.drew {g : Nat} {a w : World} (h : PQ g a w) : PQ g a w.drew := ⟨h.os, h.tape, h.output, h.size, h.block⟩
theorem PQ.drewN {g : Nat} {a w : World} (h : PQ g a w) (n : Nat) : PQ g a (w.drewN n) := ⟨h.os, h.tape, h.output, h.size, h.block⟩
/-- A store into the reader's block, or into a new one. -/
theorem PQ.setCell {g : Nat} {a w : World} (h : PQ g a w) {p : Addr} (hp : p.block = g ∨ a.heap.size ≤ p.block) (u : Value) : PQ g a (w.setCell p u) :=
  ⟨h.os, h.tape, h.output, by simpa [World.setCell] using h.size, fun k hk hn => (Below.heap_setCell _ _ _ _ (by omega)).trans (h.block k hk hn)⟩
theorem PQ.cell {g : Nat} {w w' : World} (h : PQ g w w') {b : Nat} (hb : b < w.heap.size) (hn : b ≠ g) (o : Nat) : w'.cell? ⟨b, o, none⟩ = w.cell? ⟨b, o, none⟩ := World.cell?_of_block (w := w) (h.block b hb hn)
theorem PQ.frozen {g : Nat} {w w' : World} (h : PQ g w w') {b : Nat} (hb : b < w.heap.size) (hn : b ≠ g) (o : Nat) : w'.frozen? ⟨b, o, none⟩ = w.frozen? ⟨b, o, none⟩ := World.frozen?_of_block (w := w) (h.block b hb hn)
/-- What is handed to the walk of the cells of a block that is not the reader's. -/
theorem PQ.blk {g : Nat} {w w' : World} (h : PQ g w w') (b : Nat) (hb : b < w.heap.size) (hn : b ≠ g) : (∀ o, w'.cell? ⟨b, o, none⟩ = w.cell? ⟨b, o, none⟩) ∧ (∀ o, w'.frozen? ⟨b, o, none⟩ = w.frozen? ⟨b, o, none⟩) :=
  ⟨fun o => h.cell hb hn o, fun o => h.frozen hb hn o⟩
/-- The reader lies in a block that is new: of what was there before nothing has turned. -/
theorem Q.of_pq {g : Nat} {a w w' : World} (h : Q a w) (hg : a.heap.size ≤ g) (k : PQ g w w') : Q a w' :=
  Below.trans h ⟨k.os, k.tape, k.output, k.size, fun i hi => k.block i (Nat.lt_of_lt_of_le hi h.size) (by omega)⟩

/-- The bytes that the reader reads: none, or a row of bytes in a block that is not the reader's. -/
def Bytes (w : World) (g : Nat) (sa : Option Addr) (len : Nat) : Prop :=
  len = 0 ∨ ∃ b off, sa = some ⟨b, off, none⟩ ∧ b < w.heap.size ∧ b ≠ g ∧ ∀ i, i < len → ∃ u : Int, 0 ≤ u ∧ u ≤ 255 ∧ w.cell? ⟨b, off + i, none⟩ = some (.int .u8 u)
/-- The reader in block g: its slice of bytes, its place p. -/
structure Rd (w : World) (g : Nat) (sa : Option Addr) (len cap p : Nat) : Prop where
  lt : g < w.heap.size
  c0 : w.cell? ⟨g, 0, none⟩ = some (.slice sa len cap)
  c1 : w.cell? ⟨g, 1, none⟩ = some (.int .i64 p)
  f0 : w.frozen? ⟨g, 0, none⟩ = false
  f1 : w.frozen? ⟨g, 1, none⟩ = false
  small : len ≤ 2000
  bytes : Bytes w g sa len
theorem Bytes.keep {w w' : World} {g : Nat} {sa : Option Addr} {len : Nat} (h : Bytes w g sa len) (k : PQ g w w') : Bytes w' g sa len := by
  rcases h with h | ⟨b, off, h1, h2, h3, h4⟩
  · exact Or.inl h
  · refine Or.inr ⟨b, off, h1, Nat.lt_of_lt_of_le h2 k.size, h3, fun i hi => ?_⟩
    obtain ⟨u, u0, u1, hc⟩ := h4 i hi
    exact ⟨u, u0, u1, (k.cell h2 h3 _).trans hc⟩
/-- The reader behind new blocks and stores into these. -/
theorem Rd.keepQ {w w' : World} {g : Nat} {sa : Option Addr} {len cap p : Nat} (h : Rd w g sa len cap p) (k : Q w w') : Rd w' g sa len cap p :=
  ⟨Nat.lt_of_lt_of_le h.lt k.size, (k.cells.1 _ _ h.lt).trans h.c0, (k.cells.1 _ _ h.lt).trans h.c1, (k.cells.2 _ _ h.lt).trans h.f0, (k.cells.2 _ _ h.lt).trans h.f1, h.small,
    h.bytes.keep ⟨k.os, k.tape, k.output, k.size, fun i hi _ => k.block i hi⟩⟩
theorem Q.pq {w w' : World} (h : Q w w') (g : Nat) : PQ g w w' := ⟨h.os, h.tape, h.output, Q.size h, fun k hk _ => h.block k hk⟩

/-- What 'pick' gives: a number from 0 to n - 1; the reader stands one place further; no other block has turned. -/
def Picked (w : World) (g : Nat) (sa : Option Addr) (len cap p : Nat) (n : Int) (e : Ending) (w' : World) : Prop :=
  ∃ v : Int, 0 ≤ v ∧ v < n ∧ e = .returned (.int .i64 v) ∧ Rd w' g sa len cap (p + 1) ∧ PQ g w w' ∧ w'.heap.size = w.heap.size

theorem i64_xor_nonneg (a b : Nat) (ha : a < 4611686018427387904) (hb : b < 4611686018427387904) : 0 ≤ bits .xor .i64 (a : Int) (b : Int) := by
  have hx : a ^^^ b < 2 ^ 62 := Nat.xor_lt_two_pow (by omega) (by omega)
  have h1 : (BitVec.ofInt 64 (a : Int)).toNat = a := by
    rw [BitVec.ofInt_natCast, BitVec.toNat_ofNat]; exact Nat.mod_eq_of_lt (by omega)
  have h2 : (BitVec.ofInt 64 (b : Int)).toNat = b := by
    rw [BitVec.ofInt_natCast, BitVec.toNat_ofNat]; exact Nat.mod_eq_of_lt (by omega)
  show 0 ≤ IntKind.i64.wrap ((BitVec.ofInt 64 (a : Int) ^^^ BitVec.ofInt 64 (b : Int)).toNat : Int)
  rw [BitVec.toNat_xor, h1, h2]
  simp [IntKind.wrap, IntKind.bits, IntKind.signed]
  omega

theorem xor_tmod {X n : Int} (h0 : 0 ≤ X) (h1 : X ≤ 1000000) (hn : 1 ≤ n) : 0 ≤ (bits .xor .i64 X (X / 64)).tmod n ∧ (bits .xor .i64 X (X / 64)).tmod n < n := by
  have h : 0 ≤ bits .xor .i64 X (X / 64) := by
    have := i64_xor_nonneg X.toNat (X / 64).toNat (by omega) (by omega)
    rwa [Int.toNat_of_nonneg h0, Int.toNat_of_nonneg (by omega)] at this
  rw [Int.tmod_eq_emod_of_nonneg h]
  exact ⟨Int.emod_nonneg _ (by omega), Int.emod_lt_of_pos _ (by omega)⟩
/-- The reader's place is one further, and draws have been made: it reads on. -/
theorem Rd.picked {w : World} {g : Nat} {sa : Option Addr} {len cap p : Nat} (h : Rd w g sa len cap p) (k : Nat) : Rd ((w.setCell ⟨g, 1, none⟩ (.int .i64 (p + 1))).drewN k) g sa len cap (p + 1) ∧ PQ g w ((w.setCell ⟨g, 1, none⟩ (.int .i64 (p + 1))).drewN k) := by
  have hq : PQ g w ((w.setCell ⟨g, 1, none⟩ (.int .i64 (p + 1))).drewN k) := ((PQ.refl g w).setCell (p := ⟨g, 1, none⟩) (Or.inl rfl) _).drewN k
  refine ⟨⟨Nat.lt_of_lt_of_le h.lt hq.size, (World.cell?_setCell_other _ _ _ _ (by simp)).trans h.c0, ?_, ?_, ?_, h.small, h.bytes.keep hq⟩, hq⟩
  · have := World.cell?_setCell_same _ _ (Value.int .i64 ((p : Int) + 1)) h.c1
    simpa using this
  · simpa using h.f0
  · simpa using h.f1
theorem Picked.mk' {w : World} {g : Nat} {sa : Option Addr} {len cap p : Nat} {n v : Int} (h : Rd w g sa len cap p) (v0 : 0 ≤ v) (v1 : v < n) (k : Nat) : Picked w g sa len cap p n (.returned (.int .i64 v)) ((w.setCell ⟨g, 1, none⟩ (.int .i64 (p + 1))).drewN k) :=
  ⟨v, v0, v1, rfl, (h.picked k).1, (h.picked k).2, by simp⟩
theorem setCell_ne {w : World} {b g : Nat} (h : b ≠ g) (o o' : Nat) (x : Value) : (w.setCell ⟨g, o', none⟩ x).cell? ⟨b, o, none⟩ = w.cell? ⟨b, o, none⟩ :=
  World.cell?_of_block (Below.heap_setCell _ _ _ _ h)

/-- The reader behind stores into blocks that were made after the reader's bytes. -/
theorem Rd.stores {w w1 w' : World} {g : Nat} {sa : Option Addr} {len cap p p' : Nat} (h0 : Rd w g sa len cap p) (h1 : Rd w1 g sa len cap p') (k : PQ g w w') (hg : w'.heap[g]? = w1.heap[g]?) : Rd w' g sa len cap p' :=
  ⟨Nat.lt_of_lt_of_le h0.lt k.size, (World.cell?_of_block (w := w1) (a := ⟨g, 0, none⟩) hg).trans h1.c0, (World.cell?_of_block (w := w1) (a := ⟨g, 1, none⟩) hg).trans h1.c1,
    (World.frozen?_of_block (w := w1) (a := ⟨g, 0, none⟩) hg).trans h1.f0, (World.frozen?_of_block (w := w1) (a := ⟨g, 1, none⟩) hg).trans h1.f1, h0.small, h0.bytes.keep k⟩
theorem heap_setCell_ne {w : World} {a : Addr} {v : Value} {g : Nat} (h : g ≠ a.block) : (w.setCell a v).heap[g]? = w.heap[g]? := Below.heap_setCell _ _ _ _ h

set_option maxHeartbeats 400000 in
theorem pick_any (n : Int) (g : Nat) (sa : Option Addr) (len cap p : Nat) (w : World) (h : Rd w g sa len cap p) (hn : 1 ≤ n) (hp : p ≤ 1000) :
    Calls Try.prog 24 #[.pointer (some ⟨g, 0, none⟩), .int .i64 n] w (Picked w g sa len cap p n) := by
  have H := Lib.hid h
  obtain ⟨lt, c0, c1, f0, f1, hl, hb⟩ := h
  have hn' : ¬ n < 1 := by omega
  by_cases h0 : len = 0
  · subst h0
    clear hb
    go_enter Try.func24, Try.ntmps24
    go_wp2
    go_ret
    exact Picked.mk' H.out (by omega) (by omega) 0
  · rcases hb with hb | ⟨b, off, rfl, hb1, hb2, hb3⟩
    · exact absurd hb h0
    · have hl0 : ((len : Int) == 0) = false := by simp; omega
      by_cases h1 : p < len
      · obtain ⟨u, u0, u1, hc⟩ := hb3 p h1
        have hc' : (w.setCell ⟨g, 1, none⟩ (.int .i64 (p + 1))).cell? ⟨b, off + p, none⟩ = some (.int .u8 u) := (setCell_ne hb2 _ _ _).trans hc
        clear hb3 h0
        go_enter Try.func24, Try.ntmps24
        go_wp2
        go_ret
        exact Picked.mk' H.out (Int.emod_nonneg _ (by omega)) (Int.emod_lt_of_pos _ (by omega)) 0
      · obtain ⟨u, u0, u1, hu⟩ := hb3 (p % len) (Nat.mod_lt _ (by omega))
        obtain ⟨v, v0, v1, hv⟩ := hb3 ((p * 7 + 3) % len) (Nat.mod_lt _ (by omega))
        have hu' : (w.setCell ⟨g, 1, none⟩ (.int .i64 (p + 1))).cell? ⟨b, off + p % len, none⟩ = some (.int .u8 u) := (setCell_ne hb2 _ _ _).trans hu
        have hv' : (w.setCell ⟨g, 1, none⟩ (.int .i64 (p + 1))).cell? ⟨b, off + (p * 7 + 3) % len, none⟩ = some (.int .u8 v) := (setCell_ne hb2 _ _ _).trans hv
        clear hb3 hu hv
        have L0 : (0 : Int) < (len : Int) := by omega
        have p0 : (0 : Int) ≤ (p : Int) := by omega
        have p1 : (p : Int) ≤ 1000 := by omega
        have r1 : 0 ≤ (p : Int) % (len : Int) := Int.emod_nonneg _ (by omega)
        have r2 : (p : Int) % (len : Int) < (len : Int) := Int.emod_lt_of_pos _ L0
        have r3 : 0 ≤ ((p : Int) * 7 + 3) % (len : Int) := Int.emod_nonneg _ (by omega)
        have r4 : ((p : Int) * 7 + 3) % (len : Int) < (len : Int) := Int.emod_lt_of_pos _ L0
        have d0 : 0 ≤ (p : Int) / (len : Int) := Int.ediv_nonneg p0 (by omega)
        have d1 : (p : Int) / (len : Int) ≤ (p : Int) := Int.ediv_le_self _ p0
        have x0 : 0 ≤ u * 131 + v * 1117 + (p : Int) * 29 + (p : Int) / (len : Int) * 53 := by omega
        have x1 : u * 131 + v * 1117 + (p : Int) * 29 + (p : Int) / (len : Int) * 53 ≤ 1000000 := by omega
        have n1 : ((p : Int) % (len : Int)).toNat = p % len := by rw [← Int.natCast_emod, Int.toNat_natCast]
        have n2 : (((p : Int) * 7 + 3) % (len : Int)).toNat = (p * 7 + 3) % len := by
          have : ((p : Int) * 7 + 3) = ((p * 7 + 3 : Nat) : Int) := by omega
          rw [this, ← Int.natCast_emod, Int.toNat_natCast]
        have e1 : IntKind.i64.wrap u = u := IntWalk.i64_in _ (by omega)
        have e2 : IntKind.i64.wrap v = v := IntWalk.i64_in _ (by omega)
        have e3 : IntKind.i64.wrap ((p : Int) * 7) = (p : Int) * 7 := IntWalk.i64_in _ (by omega)
        have e4 : IntKind.i64.wrap ((p : Int) * 7 + 3) = (p : Int) * 7 + 3 := IntWalk.i64_in _ (by omega)
        have e5 : IntKind.i64.wrap (u * 131) = u * 131 := IntWalk.i64_in _ (by omega)
        have e6 : IntKind.i64.wrap (v * 1117) = v * 1117 := IntWalk.i64_in _ (by omega)
        have e7 : IntKind.i64.wrap (u * 131 + v * 1117) = u * 131 + v * 1117 := IntWalk.i64_in _ (by omega)
        have e8 : IntKind.i64.wrap ((p : Int) * 29) = (p : Int) * 29 := IntWalk.i64_in _ (by omega)
        have e9 : IntKind.i64.wrap (u * 131 + v * 1117 + (p : Int) * 29) = u * 131 + v * 1117 + (p : Int) * 29 := IntWalk.i64_in _ (by omega)
        have e10 : IntKind.i64.wrap ((p : Int) / (len : Int)) = (p : Int) / (len : Int) := IntWalk.i64_in _ (by omega)
        have e11 : IntKind.i64.wrap ((p : Int) / (len : Int) * 53) = (p : Int) / (len : Int) * 53 := IntWalk.i64_in _ (by omega)
        have e12 : IntKind.i64.wrap (u * 131 + v * 1117 + (p : Int) * 29 + (p : Int) / (len : Int) * 53) = u * 131 + v * 1117 + (p : Int) * 29 + (p : Int) / (len : Int) * 53 := IntWalk.i64_in _ (by omega)
        have e13 : (p : Int).tmod (len : Int) = (p : Int) % (len : Int) := Int.tmod_eq_emod_of_nonneg p0
        have e14 : ((p : Int) * 7 + 3).tmod (len : Int) = ((p : Int) * 7 + 3) % (len : Int) := Int.tmod_eq_emod_of_nonneg (by omega)
        have e15 : (p : Int).tdiv (len : Int) = (p : Int) / (len : Int) := Int.tdiv_eq_ediv_of_nonneg p0
        go_enter Try.func24, Try.ntmps24
        go_wp2
        go_quiet (fail)
        go_wp2
        go_ret
        exact Picked.mk' H.out (xor_tmod x0 x1 hn).1 (xor_tmod x0 x1 hn).2 nq
end Go.Proofs.Ytheoabiohidadaa
