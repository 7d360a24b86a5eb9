/-
  The contracts of the functions on vectors: the program's and the reference's give the same.
-/
import Derived.Test.YtakmeajdkcojoaaFix
import Derived.RegionTactic
import Derived.Deep.RegionWith
import Derived.BigRegion
import Derived.ChangeAlike
import Derived.Deep.RegionHeld3
import Derived.Deep.QuietTactic
import Derived.BigQuiet
import Derived.IntWalk
namespace Go.Proofs.Ytakmeajdkcojoaa
open Go.RowKit

set_option maxHeartbeats 400000 in
theorem isCo_any (n : Int) (w : World) :
    Calls Try.prog 26 #[.int .i64 n] w fun e w' => e = .returned (.bool (P.inB n (-1000000) 1000000)) ∧ w = w' := by
  go_enter Try.func26, Try.ntmps26
  go_wp2_with (go_at_call 29; refine (inRange_any _ _ _ _).mono ?_; rintro e w' ⟨rfl, rfl⟩)
  go_ret
  exact ⟨rfl, rfl⟩
set_option maxHeartbeats 400000 in
theorem vecOkI (x y : Int) (w : World) :
    Calls Try.prog 15 #[.agg #[.int .i64 x, .int .i64 y]] w fun e w' => e = .returned (.bool (P.vOk x y)) ∧ Q w w' := by
  cases h : P.inB x (-1000000) 1000000
  · have hv := Lib.hid (P.vOk_out (y := y) h)
    go_enter Try.func15, Try.ntmps15
    go_wp2_with (go_at_call 26; refine (isCo_any _ _).mono ?_; rintro e w' ⟨rfl, rfl⟩)
    go_ret
    exact ⟨by (rw [hv.out]; try rfl), by (repeat' (first | exact Q.refl _ | assumption | refine Q.alloc ?_ _ | refine Q.drew ?_ | refine Q.drewN ?_ _ | refine Q.setCell ?_ ?_ _ | refine Q.trans ?_ (by assumption) | omega | (simp; done) | (simp; omega)))⟩
  · have hv := Lib.hid (P.vOk_in (y := y) h)
    go_enter Try.func15, Try.ntmps15
    go_wp2_with (go_at_call 26; refine (isCo_any _ _).mono ?_; rintro e w' ⟨rfl, rfl⟩)
    go_ret
    exact ⟨by (rw [hv.out]; try rfl), by (repeat' (first | exact Q.refl _ | assumption | refine Q.alloc ?_ _ | refine Q.drew ?_ | refine Q.drewN ?_ _ | refine Q.setCell ?_ ?_ _ | refine Q.trans ?_ (by assumption) | omega | (simp; done) | (simp; omega)))⟩
set_option maxHeartbeats 400000 in
theorem vecOkS (x y : Int) (w : World) :
    Calls Try.prog 18 #[.agg #[.int .i64 x, .int .i64 y]] w fun e w' => e = .returned (.bool (P.vOk x y)) ∧ Q w w' := by
  cases h : P.inB x (-1000000) 1000000
  · have hv := Lib.hid (P.vOk_out (y := y) h)
    go_enter Try.func18, Try.ntmps18
    go_wp2_with (go_at_call 27; refine (l6In_any _ _ _ _).mono ?_; rintro e w' ⟨rfl, rfl⟩)
    go_ret
    exact ⟨by (rw [hv.out]; try rfl), by (repeat' (first | exact Q.refl _ | assumption | refine Q.alloc ?_ _ | refine Q.drew ?_ | refine Q.drewN ?_ _ | refine Q.setCell ?_ ?_ _ | refine Q.trans ?_ (by assumption) | omega | (simp; done) | (simp; omega)))⟩
  · have hv := Lib.hid (P.vOk_in (y := y) h)
    go_enter Try.func18, Try.ntmps18
    go_wp2_with (go_at_call 27; refine (l6In_any _ _ _ _).mono ?_; rintro e w' ⟨rfl, rfl⟩)
    go_ret
    exact ⟨by (rw [hv.out]; try rfl), by (repeat' (first | exact Q.refl _ | assumption | refine Q.alloc ?_ _ | refine Q.drew ?_ | refine Q.drewN ?_ _ | refine Q.setCell ?_ ?_ _ | refine Q.trans ?_ (by assumption) | omega | (simp; done) | (simp; omega)))⟩
end Go.Proofs.Ytakmeajdkcojoaa
