/-
  How the arguments of the laws read: a vector, a box, a slice of bytes, opened to numbers.
-/
import Derived.Test.YtheoabiohidadaaRows
import Derived.Test.YtheoabiohidadaaQ
import Derived.WalkKit
import Derived.ProofKit
import Derived.OpenShut
import Derived.ChangeOld
import Derived.Below
import Derived.Lib.SmallJoins
namespace Go.Proofs.Ytheoabiohidadaa
open Go.ChangeShapes Go.WideShapes Go.ChangeAt Go.RowKit Go.Joins Go.Deep

theorem own : ownKnob Try.prog.godebug = none := by kernel_rfl
theorem laidOut : laidOutB Try.prog = true := by kernel_rfl

/-- A slice of bytes that came in: nil, or a row of cells each of which holds a byte. -/
def IsRow (w : World) (a : Option Addr) (len cap : Nat) (zs : List Int) : Prop :=
  (a = none ∧ len = 0 ∧ cap = 0 ∧ zs = []) ∨
  ∃ x, a = some x ∧ len ≤ cap ∧ cap ≤ maxLen ∧ zs.length = cap ∧ (∀ i, i < zs.length → w.cell? (x.add i) = some (.int .u8 (zs.getD i 0))) ∧ ∀ n ∈ zs, (Lit.int .u8 n).wf = true

section
variable {H : Type} {enc : TypeId × Value → H} {P : Program} {w : World} {base : Nat} {spare : Nat → Bool} {held : Bool}
/-- A struct of two integers, by value. -/
theorem open_vec {r : Reach} {b0 : Nat} {t : TypeId} {f0 f1 : Field} {v : Value} {d : DataW H} {p : List MemPlace} (hs : P.underlying t = some (.struct #[f0, f1])) (hone : oneCellFields P #[f0, f1] = true) (hC : P.cellsOf t = 2)
    (i0 : P.underlying f0.type = some (.int .i64)) (i1 : P.underlying f1.type = some (.int .i64))
    (hv : Value.okWide P w r b0 t v) (h : DataW.Trod enc P w base spare held t v d p) :
    ∃ x y : Int, v = .agg #[.int .i64 x, .int .i64 y] ∧ (Lit.int .i64 x).wf = true ∧ (Lit.int .i64 y).wf = true := by
  obtain ⟨c0, c1, y0, y1, m, rfl, _, _, hy0, hy1⟩ := open_agg2 hs hone hC hv h
  obtain ⟨a, e0, _, wa⟩ := DataW.trod_int i0 hy0
  obtain ⟨b, e1, _, wb⟩ := DataW.trod_int i1 hy1
  simp at e0 e1
  subst e0 e1
  exact ⟨a, b, rfl, wa, wb⟩
/-- A struct of two structs of two integers, by value. -/
theorem open_box {r : Reach} {b0 : Nat} {t tv : TypeId} {F0 F1 f0 f1 : Field} {v : Value} {d : DataW H} {p : List MemPlace} (hS : P.underlying t = some (.struct #[F0, F1])) (t0 : F0.type = tv) (t1 : F1.type = tv) (o0 : F0.offset = 0) (o1 : F1.offset = 2)
    (hs : P.underlying tv = some (.struct #[f0, f1])) (hone : oneCellFields P #[f0, f1] = true) (hC : P.cellsOf tv = 2) (hB : P.cellsOf t = 4)
    (i0 : P.underlying f0.type = some (.int .i64)) (i1 : P.underlying f1.type = some (.int .i64))
    (hv : Value.okWide P w r b0 t v) (h : DataW.Trod enc P w base spare held t v d p) :
    ∃ a b c e : Int, v = .agg #[.int .i64 a, .int .i64 b, .int .i64 c, .int .i64 e] ∧ (Lit.int .i64 a).wf = true ∧ (Lit.int .i64 b).wf = true ∧ (Lit.int .i64 c).wf = true ∧ (Lit.int .i64 e).wf = true := by
  obtain ⟨cs, rfl, hsz⟩ := okWide_struct hS hv
  obtain ⟨l⟩ := cs
  obtain ⟨fuel, hf⟩ := h
  obtain ⟨y0, y1, n, _, _, h0, h1⟩ := trod_struct2 hS hf
  rw [t0, o0, hC] at h0
  rw [t1, o1, hC] at h1
  match l, hsz.trans hB with
  | [c0, c1, c2, c3], _ =>
    obtain ⟨q0, k0⟩ := hone_of hone 0 f0 rfl
    obtain ⟨q1, k1⟩ := hone_of hone 1 f1 rfl
    obtain ⟨u0, u1, n0, _, _, g0, g1⟩ := trod_struct2 hs h0
    obtain ⟨u2, u3, n1, _, _, g2, g3⟩ := trod_struct2 hs h1
    obtain ⟨a, e0, _, wa⟩ := DataW.trod_int i0 g0
    obtain ⟨b, e1, _, wb⟩ := DataW.trod_int i1 g1
    obtain ⟨c, e2, _, wc⟩ := DataW.trod_int i0 g2
    obtain ⟨e, e3, _, we⟩ := DataW.trod_int i1 g3
    simp [Value.cells, q0, q1, k0, k1] at e0 e1 e2 e3
    subst e0 e1 e2 e3
    exact ⟨a, b, c, e, rfl, wa, wb, wc, we⟩
end
/-- The bounds of an int. -/
theorem bd_i64 {n : Int} (h : (Lit.int .i64 n).wf = true) : -9223372036854775808 ≤ n ∧ n ≤ 9223372036854775807 := by
  simpa [Lit.wf, IntKind.min, IntKind.max, IntKind.signed, IntKind.bits] using h
theorem bd_u8 {n : Int} (h : (Lit.int .u8 n).wf = true) : 0 ≤ n ∧ n ≤ 255 := by
  simpa [Lit.wf, IntKind.min, IntKind.max, IntKind.signed, IntKind.bits] using h
end Go.Proofs.Ytheoabiohidadaa
