/-
  'for v := range directions()': the law of the statement over the iterator's contract; 'impl.VecDirection'.
-/
import Derived.Test.YtheoabiohidadaaDir
import Derived.Test.YtheoabiohidadaaOpen
namespace Go.Proofs.Ytheoabiohidadaa
open Go.RowKit
attribute [local go_sem] Oper.semAt_some

theorem Below.putObj {B : Nat} {a w : World} (h : Below B a w) {l : Nat} (hl : B ≤ l) (o : Obj) : Below B a (w.putObj l o) :=
  h.trans ⟨rfl, rfl, rfl, by simp, fun k hk => World.putObj_heap_other (by omega)⟩

theorem KeepsUp.refl (B : Nat) (W : World) : KeepsUp B W W := ⟨Nat.le_refl _, fun _ _ _ => rfl⟩
theorem KeepsUp.setCell {B : Nat} {W W' : World} (h : KeepsUp B W W') {p : Addr} (hp : p.block < B) (v : Value) : KeepsUp B W (W'.setCell p v) :=
  ⟨by have := h.size; simpa [World.setCell] using this, fun k h1 h2 => (Below.heap_setCell _ _ _ _ (by omega)).trans (h.same k h1 h2)⟩

/-- How the body of a round may be left. -/
def dirPost (B : Nat) (I Ix : Nat → World → Prop) (k : Nat) (W : World) : Exit → Act → World → Prop
  | .normal, _, W' => KeepsUp B W W' ∧ I (k + 1) W'
  | .ret, _, W' => KeepsUp B W W' ∧ Ix k W'
  | _, _, _ => False

/-- The statement 'for v := range directions() { body }', outermost. -/
theorem wpIn_rangeDirs {g : Operand} {ps : Array Tmp} {assign body : Code} {Q : Exit → Act → World → Prop} {a : Act} {w : World} {n : Nat}
    (hg : a.eval g = .func (.func 27) #[] #[]) (hps : ps.size = 1)
    (I Ix : Nat → World → Prop) (hI : ∀ k W W', I k W → Below w.heap.size W W' → I k W') (hIx : ∀ k W W', Ix k W → Below w.heap.size W W' → Ix k W') (h0 : I 0 w)
    (Ax : Nat → Act → World → Prop) (hAx : ∀ k a' W l o, Ax k a' W → l < w.heap.size + 2 → Ax k a' (W.putObj l o))
    (hassign : ∀ (l k : Nat) (W : World) (K : Act → World → Prop), I k W → w.heap.size + 2 ≤ W.heap.size → (∀ a' W', Below W.heap.size W W' → Ax k a' W' → K a' W') →
      assign.wpIn (Fence.wide.inRound l) (n - 1 - 1) Try.prog (Exit.then K (fun _ _ _ => False)) { tmps := (ps.zip #[P.dV k]).foldl (fun t (p, v) => t.setIfInBounds p v) a.tmps, defers := [] } W)
    (hbody : ∀ (l k : Nat) (a' : Act) (W : World), k < 16 → w.heap.size + 2 ≤ W.heap.size → I k W → Ax k a' W → body.wpIn (Fence.wide.inRound l) (n - 1 - 1) Try.prog (dirPost w.heap.size I Ix k W) a' W)
    (hdone : ∀ (D : Nat) (W : World), w.heap.size ≤ D → I 16 W → W.heap[D]? = some (.deferred (some [])) → Q .normal { a with defers := { target := .collected D, args := #[] } :: a.defers } W)
    (hstop : ∀ (D k : Nat) (W : World), w.heap.size ≤ D → k < 16 → Ix k W → W.heap[D]? = some (.deferred (some [])) → Code.ret.wpIn Fence.wide n Try.prog Q { a with defers := { target := .collected D, args := #[] } :: a.defers } W) :
    (Code.rangeFunc g ps assign body).wpIn Fence.wide n Try.prog Q a w := by
  refine wpIn_rangeFunc ?_
  intro fn hfn
  obtain ⟨rec, hrec⟩ : ∃ rec : LoopState → Option Code → Loop, rec = fun st pe => { state := st, pending := pe, fn, tmps := a.tmps, params := ps, assign, body, defers := w.heap.size } := ⟨_, rfl⟩
  obtain ⟨W1, hW1⟩ : ∃ W1, (w.alloc (.deferred (some []))).alloc (.loop (rec .ready none)) = W1 := ⟨_, rfl⟩
  have hL1 : W1.heap[w.heap.size + 1]? = some (.loop (rec .ready none)) := by
    rw [← hW1]; have := World.alloc_heap_new (w.alloc (.deferred (some []))) (.loop (rec .ready none)); rwa [World.size_alloc] at this
  have hK1 : W1.heap[w.heap.size]? = some (.deferred (some [])) := by
    rw [← hW1]; exact (Below.heap_alloc _ _ _ (by simp)).trans (World.alloc_heap_new w _)
  have hS1 : W1.heap.size = w.heap.size + 2 := by rw [← hW1]; simp
  have hI1 : I 0 W1 := hI _ _ _ h0 (by rw [← hW1]; exact ((Below.refl _ w).alloc (Nat.le_refl _) _).alloc (by simp) _)
  refine ⟨w.heap.size + 1, [{ target := .collected w.heap.size, args := #[] }], W1, { target := .fn (.func 27) #[], args := #[.func (.yield (w.heap.size + 1)) #[] #[]] }, W1, 27,
    #[.func (.yield (w.heap.size + 1)) #[] #[]], W1, ?_, ?_, ?_, ?_, fun hd => by simp [Fence.wide] at hd, ?_⟩
  · rw [← hW1, hrec]; exact run_enterLoop_outer _ _ _ _ _
  · simp only [resolve, hg]
    simp [go_sem]
  · intro f' _; trivial
  · simp [invoke, go_sem]
  · refine (dirs_in (n - 1) (w.heap.size + 1) (w.heap.size + 2)
      (fun k W => I k W ∧ W.heap[w.heap.size + 1]? = some (.loop (rec .ready none)) ∧ W.heap[w.heap.size]? = some (.deferred (some [])))
      (fun k W => Ix k W ∧ W.heap[w.heap.size + 1]? = some (.loop (rec .done (some .ret))) ∧ W.heap[w.heap.size]? = some (.deferred (some [])))
      (fun k A B hs hb => ⟨hI k A B hs.1 (hb.mono (by omega)), (hb.block _ (by omega)).trans hs.2.1, (hb.block _ (by omega)).trans hs.2.2⟩)
      ?_ W1 (by omega) ⟨hI1, hL1, hK1⟩).mono ?_
    · -- ONE ROUND
      rintro k W hk16 hBW ⟨hi, hl, hk⟩
      have hy := run_yield (P := Try.prog) (args := #[P.dV k]) hl (by rw [hrec]; simp [hps])
      rw [hrec] at hy
      refine ⟨fn, _, assign, body, hy, roundIn_of_wpIn hfn (hassign _ k W _ hi hBW ?_)⟩
      clear hy
      intro a' Wa hba hax
      have hsa := hba.size
      have hla : Wa.heap[w.heap.size + 1]? = some (.loop (rec .ready none)) := (hba.block _ (by omega)).trans hl
      have hka : Wa.heap[w.heap.size]? = some (.deferred (some [])) := (hba.block _ (by omega)).trans hk
      have hia : I k Wa := hI _ _ _ hi (hba.mono (by omega))
      refine ⟨_, run_beginRound hla (by rw [hrec]), ?_⟩
      obtain ⟨Wb, hWb⟩ : ∃ Wb, Wa.putObj (w.heap.size + 1) (.loop { rec .ready none with state := .busy }) = Wb := ⟨_, rfl⟩
      have hsb : Wb.heap.size = Wa.heap.size := by rw [← hWb]; simp
      have hlb : Wb.heap[w.heap.size + 1]? = some (.loop { rec .ready none with state := .busy }) := by rw [← hWb]; exact World.putObj_heap_same (by omega)
      have hkb : Wb.heap[w.heap.size]? = some (.deferred (some [])) := by rw [← hWb]; exact (World.putObj_heap_other (by omega)).trans hka
      have hib : I k Wb := by rw [← hWb]; exact hI _ _ _ hia (Below.putObj (Below.refl _ _) (by omega) _)
      have hxb : Ax k a' Wb := by rw [← hWb]; exact hAx _ _ _ _ _ hax (by omega)
      have hup : KeepsUp (w.heap.size + 2) W Wb := ⟨by omega, fun j h1 h2 => by rw [← hWb]; exact (World.putObj_heap_other (by omega)).trans (hba.block _ h2)⟩
      rw [hWb]
      refine wpIn_mono (hbody _ k a' Wb hk16 (by omega) hib hxb) ?_
      have fin : ∀ (jump : Option Code) (W3 : World), KeepsUp w.heap.size Wb W3 →
          (Instr.endRound (w.heap.size + 1) jump).run Try.prog W3 = .ok (.bool jump.isNone) (W3.putObj (w.heap.size + 1) (.loop (rec (if jump.isNone then .ready else .done) jump))) ∧
          (W3.putObj (w.heap.size + 1) (.loop (rec (if jump.isNone then .ready else .done) jump))).heap[w.heap.size + 1]? = some (.loop (rec (if jump.isNone then .ready else .done) jump)) ∧
          (W3.putObj (w.heap.size + 1) (.loop (rec (if jump.isNone then .ready else .done) jump))).heap[w.heap.size]? = some (.deferred (some [])) ∧
          KeepsUp (w.heap.size + 2) W (W3.putObj (w.heap.size + 1) (.loop (rec (if jump.isNone then .ready else .done) jump))) := fun jump W3 hk3 => by
        have hl3 := (hk3.same _ (by omega) (by omega)).trans hlb
        have hs3 := hk3.size
        have := run_endRound (P := Try.prog) jump hl3
        rw [hrec] at this ⊢
        exact ⟨this, World.putObj_heap_same (by omega), (World.putObj_heap_other (by omega)).trans ((hk3.same _ (by omega) (by omega)).trans hkb),
          ⟨by simp; omega, fun j h1 h2 => (World.putObj_heap_other (by omega)).trans ((hk3.same _ (by omega) (by omega)).trans (hup.same _ h1 h2))⟩⟩
      rintro e a3 W3 hp
      cases e with
      | normal =>
        obtain ⟨hk3, hi3⟩ := hp
        obtain ⟨hr, hl4, hk4, hu4⟩ := fin none W3 hk3
        exact ⟨_, _, hr, .inl ⟨rfl, ⟨hI _ _ _ hi3 (Below.putObj (Below.refl _ _) (by omega) _), hl4, hk4⟩, hu4⟩⟩
      | ret =>
        obtain ⟨hk3, hi3⟩ := hp
        obtain ⟨hr, hl4, hk4, hu4⟩ := fin (some .ret) W3 hk3
        exact ⟨_, _, hr, .inr ⟨rfl, hIx _ _ _ hi3 (Below.putObj (Below.refl _ _) (by omega) _), hl4, hk4⟩⟩
      | exit id => exact hp.elim
      | goto t => exact hp.elim
      | panic ch => exact hp.elim
      | outgrown => exact hp.elim
    · -- BEHIND THE ITERATOR
      rintro e W2 ⟨⟨v, rfl⟩, (⟨hi, hl, hk⟩ | ⟨k, hk16, hi, hl, hk⟩)⟩
      · exact ⟨none, _, by have := run_endLoop (P := Try.prog) hl (by rw [hrec]; simp); rw [hrec] at this; exact this, hdone _ _ (Nat.le_refl _) (hI _ _ _ hi (Below.putObj (Below.refl _ _) (by omega) _)) ((World.putObj_heap_other (by omega)).trans hk)⟩
      · exact ⟨some .ret, _, by have := run_endLoop (P := Try.prog) hl (by rw [hrec]; simp); rw [hrec] at this; exact this, hstop _ k _ (Nat.le_refl _) hk16 (hIx _ _ _ hi (Below.putObj (Below.refl _ _) (by omega) _)) ((World.putObj_heap_other (by omega)).trans hk)⟩

namespace P
def dirB (d : Int) : Bool := decide (0 ≤ d ∧ d ≤ 15)
def dirX (d : Int) : Int := if 0 ≤ d ∧ d ≤ 15 then dX d.toNat else 0
def dirY (d : Int) : Int := if 0 ≤ d ∧ d ≤ 15 then dY d.toNat else 0
theorem dir_in {d : Int} {k : Nat} (h : d = k) (hk : k < 16) : dirB d = true ∧ dirX d = dX k ∧ dirY d = dY k := by
  subst h
  refine ⟨by simp [dirB]; omega, ?_, ?_⟩ <;> simp only [dirX, dirY] <;> rw [if_pos (by omega)] <;> simp
theorem dir_out {d : Int} (h : ∀ k : Nat, k < 16 → d ≠ k) : dirB d = false ∧ dirX d = 0 ∧ dirY d = 0 := by
  have h' : ¬ (0 ≤ d ∧ d ≤ 15) := fun ⟨h1, h2⟩ => h d.toNat (by omega) (by omega)
  exact ⟨by simp [dirB]; omega, by simp only [dirX]; rw [if_neg h'], by simp only [dirY]; rw [if_neg h']⟩
end P

/-- Between two rounds: no direction up to k was d; the parameter counts down. -/
def DirI (w : World) (d : Int) (k : Nat) (W : World) : Prop :=
  Below w.heap.size w W ∧ (∀ j : Nat, j < k → d ≠ j) ∧ w.heap.size + 3 ≤ W.heap.size ∧
  W.cell? ⟨w.heap.size, 0, none⟩ = some (.int .i64 (wrap64 (d - k))) ∧ W.frozen? ⟨w.heap.size, 0, none⟩ = false ∧
  W.cell? ⟨w.heap.size + 1, 0, none⟩ = some (.int .i64 0) ∧ W.cell? ⟨w.heap.size + 1, 1, none⟩ = some (.int .i64 0) ∧ W.cell? ⟨w.heap.size + 1 + 1, 0, none⟩ = some (.bool false) ∧
  W.frozen? ⟨w.heap.size + 1, 0, none⟩ = false ∧ W.frozen? ⟨w.heap.size + 1, 1, none⟩ = false ∧ W.frozen? ⟨w.heap.size + 1 + 1, 0, none⟩ = false
/-- A round has returned direction k. -/
def DirX (w : World) (d : Int) (k : Nat) (W : World) : Prop :=
  Below w.heap.size w W ∧ d = k ∧ w.heap.size + 3 ≤ W.heap.size ∧
  W.cell? ⟨w.heap.size + 1, 0, none⟩ = some (.int .i64 (P.dX k)) ∧ W.cell? ⟨w.heap.size + 1, 1, none⟩ = some (.int .i64 (P.dY k)) ∧ W.cell? ⟨w.heap.size + 1 + 1, 0, none⟩ = some (.bool true)
theorem DirI.below {w W W' : World} {d : Int} {k B : Nat} (h : DirI w d k W) (hB : w.heap.size + 3 ≤ B) (hb : Below B W W') : DirI w d k W' := by
  obtain ⟨h1, h2, h3, h4, h5, h6, h7, h8, h9, h10, h11⟩ := h
  have hc : ∀ b o, b < w.heap.size + 3 → W'.cell? ⟨b, o, none⟩ = W.cell? ⟨b, o, none⟩ := fun b o h => Below.cell (p := ⟨b, o, none⟩) hb (Nat.lt_of_lt_of_le h hB)
  have hf : ∀ b o, b < w.heap.size + 3 → W'.frozen? ⟨b, o, none⟩ = W.frozen? ⟨b, o, none⟩ := fun b o h => Below.frozen (p := ⟨b, o, none⟩) hb (Nat.lt_of_lt_of_le h hB)
  have hs := hb.size
  exact ⟨h1.trans (hb.mono (by omega)), h2, by omega, (hc _ _ (by omega)).trans h4, (hf _ _ (by omega)).trans h5, (hc _ _ (by omega)).trans h6, (hc _ _ (by omega)).trans h7, (hc _ _ (by omega)).trans h8,
    (hf _ _ (by omega)).trans h9, (hf _ _ (by omega)).trans h10, (hf _ _ (by omega)).trans h11⟩
theorem DirX.below {w W W' : World} {d : Int} {k B : Nat} (h : DirX w d k W) (hB : w.heap.size + 3 ≤ B) (hb : Below B W W') : DirX w d k W' := by
  obtain ⟨h1, h2, h3, h6, h7, h8⟩ := h
  have hc : ∀ b o, b < w.heap.size + 3 → W'.cell? ⟨b, o, none⟩ = W.cell? ⟨b, o, none⟩ := fun b o h => Below.cell (p := ⟨b, o, none⟩) hb (Nat.lt_of_lt_of_le h hB)
  have hs := hb.size
  exact ⟨h1.trans (hb.mono (by omega)), h2, by omega, (hc _ _ (by omega)).trans h6, (hc _ _ (by omega)).trans h7, (hc _ _ (by omega)).trans h8⟩

/-- 'directions()': the function value. -/
theorem directions_in (n : Nat) (w : World) : CallsIn Fence.wide n Try.prog 18 #[] w fun e w' => e = .returned (.func (.func 27) #[] #[]) ∧ w' = w := by
  refine callsIn_of_wp Try.func18 rfl trivial ?_ rfl
  simp only [Try.ntmps18, List.size_toArray, List.length_nil, Nat.reduceSub, Array.replicate_succ, Array.replicate_zero, List.push_toArray, List.append_toArray, List.nil_append]
  gi_wp2
  go_ret
  exact ⟨rfl, rfl⟩

set_option maxRecDepth 100000 in
set_option maxHeartbeats 4000000 in
theorem vecDirectionI (d : Int) (wd : (Lit.int .i64 d).wf = true) (w : World) :
    Calls Try.prog 9 #[.int .i64 d] w fun e w' => e = .returned (.tuple #[.agg #[.int .i64 (P.dirX d), .int .i64 (P.dirY d)], .bool (P.dirB d)]) ∧ Q w w' := by
  refine (callsIn_wide (n := 3)).1 ?_
  refine callsIn_of_wp_marks Try.func9 rfl trivial ?_ rfl
  simp only [Try.ntmps9, List.size_toArray, List.length_cons, List.length_nil, Nat.reduceAdd, Nat.reduceSub, Array.replicate_succ, Array.replicate_zero, List.push_toArray, List.append_toArray, List.nil_append, List.cons_append]
  gi_wp2_with (refine ⟨trivial, ?_⟩; gi_at_call 18; refine (directions_in _ _).mono ?_; rintro e w' ⟨rfl, rfl⟩)
  have hs0 : (((w.alloc (Obj.cells #[.int .i64 d] 3)).alloc (Obj.cells #[.int .i64 0, .int .i64 0] 23)).alloc (Obj.cells #[.bool false] 4)).heap.size = w.heap.size + 3 := by simp
  have hi0 : DirI w d 0 (((w.alloc (Obj.cells #[.int .i64 d] 3)).alloc (Obj.cells #[.int .i64 0, .int .i64 0] 23)).alloc (Obj.cells #[.bool false] 4)) := by
    refine ⟨(((Below.refl _ w).alloc (Nat.le_refl _) _).alloc (by simp) _).alloc (by simp; omega) _, by omega, by simp, ?_, by go_simp, by go_simp, by go_simp, by go_simp, by go_simp, by go_simp, by go_simp⟩
    obtain ⟨h1, h2⟩ := bd_i64 wd
    have e : wrap64 (d - (0 : Nat)) = d := by unfold wrap64; omega
    rw [e]; go_simp
  obtain ⟨W0, hW0⟩ : ∃ W0, ((w.alloc (Obj.cells #[.int .i64 d] 3)).alloc (Obj.cells #[.int .i64 0, .int .i64 0] 23)).alloc (Obj.cells #[.bool false] 4) = W0 := ⟨_, rfl⟩
  rw [hW0] at hs0 hi0 ⊢
  clear hW0
  refine wpIn_rangeDirs rfl rfl (DirI w d) (DirX w d) (fun k W W' hi hb => hi.below (by omega) hb) (fun k W W' hi hb => hi.below (by omega) hb) hi0
    (fun k a' W => ∃ Bx, W0.heap.size + 2 ≤ Bx ∧ W.cell? ⟨Bx, 0, none⟩ = some (.int .i64 (P.dX k)) ∧ W.cell? ⟨Bx, 1, none⟩ = some (.int .i64 (P.dY k)) ∧
      a' = { tmps := #[.int .i64 d, .pointer (some ⟨w.heap.size, 0, none⟩), .pointer (some ⟨w.heap.size + 1, 0, none⟩), .pointer (some ⟨w.heap.size + 1 + 1, 0, none⟩), .pointer (some ⟨Bx, 0, none⟩), .func (.func 27) #[] #[], P.dV k, undef, undef, undef, undef, undef, undef], defers := [] })
    (fun k a' W l o hx hl => by
      obtain ⟨Bx, hB, h0, h1, ha⟩ := hx
      exact ⟨Bx, hB, (World.cell?_of_block (World.putObj_heap_other (by dsimp only; omega))).trans h0, (World.cell?_of_block (World.putObj_heap_other (by dsimp only; omega))).trans h1, ha⟩)
    ?assign ?body ?done ?stop
  case assign =>
    rintro l k W K hi hs hK
    gi_wp2
    exact hK _ _ ((Below.refl _ W).alloc (Nat.le_refl _) _) ⟨W.heap.size, hs, by simp, by simp, rfl⟩
  case body =>
    rintro l k a' W hk hs ⟨hB, hne, hsz, cd, fd, r0, r1, r2, g0, g1, g2⟩ ⟨Bx, hBx, p0, p1, rfl⟩
    obtain ⟨h1, h2⟩ := bd_i64 wd
    by_cases hd : d = k
    · have e : wrap64 (d - k) = 0 := by rw [hd]; simp [wrap64]
      rw [e] at cd
      clear e h1 h2
      gi_wp2
      exact ⟨((KeepsUp.refl _ _).setCell (by dsimp only; omega) _).setCell (by dsimp only; omega) _ |>.setCell (by dsimp only; omega) _,
        ((hB.setCell (by dsimp only; omega) _).setCell (by dsimp only; omega) _).setCell (by dsimp only; omega) _, hd, by simpa using hsz, by go_simp, by go_simp, World.cell?_setCell_same' _ _ _ (by go_simp)⟩
    · have e : ¬ wrap64 (d - k) = 0 := by unfold wrap64; omega
      gi_wp2
      have e2 : wrap64 (wrap64 (d - k) - 1) = wrap64 (d - ((k + 1 : Nat) : Int)) := by unfold wrap64; omega
      rw [e2]
      refine ⟨(KeepsUp.refl _ _).setCell (by dsimp only; omega) _, hB.setCell (by dsimp only; omega) _, fun j hj => ?_, by simpa using hsz, ?_, (World.frozen?_setCell _ _ _ _).trans fd, by go_simp, by go_simp, by go_simp, (World.frozen?_setCell _ _ _ _).trans g0, (World.frozen?_setCell _ _ _ _).trans g1, (World.frozen?_setCell _ _ _ _).trans g2⟩
      · by_cases hjk : j = k
        · subst hjk; exact hd
        · exact hne j (by omega)
      · rw [World.cell?_setCell_same' _ _ _ (by rw [cd]; rfl)]
  case done =>
    rintro D W hD ⟨hB, hne, hsz, cd, fd, r0, r1, r2, g0, g1, g2⟩ hK
    obtain ⟨e1, e2, e3⟩ := P.dir_out hne
    gi_wp2
    refine ⟨by simp, .inl ⟨_, _, rfl, run_takeDeferred (b := D) ((Below.heap_setCell _ _ _ _ (by dsimp only; omega)).trans ((Below.heap_setCell _ _ _ _ (by dsimp only; omega)).trans ((Below.heap_setCell _ _ _ _ (by dsimp only; omega)).trans hK))), ?_⟩⟩
    rw [e1, e2, e3]
    refine ⟨_, ?_, rfl, Below.putObj (((hB.setCell (by dsimp only; omega) _).setCell (by dsimp only; omega) _).setCell (by dsimp only; omega) _) (by omega) _⟩
    have h0 : ∀ b o, b < w.heap.size + 3 → ((((W.setCell ⟨w.heap.size + 1, 0, none⟩ (.int .i64 0)).setCell ⟨w.heap.size + 1, 1, none⟩ (.int .i64 0)).setCell ⟨w.heap.size + 1 + 1, 0, none⟩ (.bool false)).putObj D (Obj.deferred none)).cell? ⟨b, o, none⟩ =
        (((W.setCell ⟨w.heap.size + 1, 0, none⟩ (.int .i64 0)).setCell ⟨w.heap.size + 1, 1, none⟩ (.int .i64 0)).setCell ⟨w.heap.size + 1 + 1, 0, none⟩ (.bool false)).cell? ⟨b, o, none⟩ := fun b o hb => World.cell?_of_block (World.putObj_heap_other (by dsimp only; omega))
    have c0 : (((W.setCell ⟨w.heap.size + 1, 0, none⟩ (.int .i64 0)).setCell ⟨w.heap.size + 1, 1, none⟩ (.int .i64 0)).setCell ⟨w.heap.size + 1 + 1, 0, none⟩ (.bool false)).cell? ⟨w.heap.size + 1, 0, none⟩ = some (.int .i64 0) := by go_simp
    have c1 : (((W.setCell ⟨w.heap.size + 1, 0, none⟩ (.int .i64 0)).setCell ⟨w.heap.size + 1, 1, none⟩ (.int .i64 0)).setCell ⟨w.heap.size + 1 + 1, 0, none⟩ (.bool false)).cell? ⟨w.heap.size + 1, 1, none⟩ = some (.int .i64 0) := by go_simp
    have c2 : (((W.setCell ⟨w.heap.size + 1, 0, none⟩ (.int .i64 0)).setCell ⟨w.heap.size + 1, 1, none⟩ (.int .i64 0)).setCell ⟨w.heap.size + 1 + 1, 0, none⟩ (.bool false)).cell? ⟨w.heap.size + 1 + 1, 0, none⟩ = some (.bool false) := World.cell?_setCell_same' _ _ _ (by go_simp)
    replace c0 := (h0 _ _ (by omega)).trans c0
    replace c1 := (h0 _ _ (by omega)).trans c1
    replace c2 := (h0 _ _ (by omega)).trans c2
    clear h0 r0 r1 r2
    simp [results, Try.f9, go_sem, c0, c1, c2]
  case stop =>
    rintro D k W hD hk ⟨hB, hd, hsz, r0, r1, r2⟩ hK
    obtain ⟨e1, e2, e3⟩ := P.dir_in hd hk
    gi_wp2
    refine ⟨by simp, .inl ⟨_, _, rfl, run_takeDeferred hK, ?_⟩⟩
    rw [e1, e2, e3]
    have h0 : ∀ b o, b < w.heap.size + 3 → (W.putObj D (Obj.deferred none)).cell? ⟨b, o, none⟩ = W.cell? ⟨b, o, none⟩ := fun b o hb => World.cell?_of_block (World.putObj_heap_other (by dsimp only; omega))
    have c0 := (h0 (w.heap.size + 1) 0 (by omega)).trans r0
    have c1 := (h0 (w.heap.size + 1) 1 (by omega)).trans r1
    have c2 := (h0 (w.heap.size + 1 + 1) 0 (by omega)).trans r2
    refine ⟨_, ?_, rfl, Below.putObj hB (by omega) _⟩
    clear h0
    simp [results, Try.f9, go_sem, c0, c1, c2]

end Go.Proofs.Ytheoabiohidadaa
