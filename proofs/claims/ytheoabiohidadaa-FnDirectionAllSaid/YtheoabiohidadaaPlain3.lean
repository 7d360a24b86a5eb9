/-
  The plain laws of vectors. No Go in sight.
-/
import Derived.Test.YtheoabiohidadaaPlain2
namespace Go.Proofs.Ytheoabiohidadaa.P

/-! ## Sums and multiples -/
theorem vaddB_iff {ax ay bx bq : Int} : vaddB ax ay bx bq = true ↔ vOk ax ay = true ∧ vOk bx bq = true ∧ vOk (ax + bx) (ay + bq) = true := by simp [vaddB, and_assoc]
theorem vaddB_comm (ax ay bx bq : Int) : vaddB bx bq ax ay = vaddB ax ay bx bq := by
  unfold vaddB; rw [Int.add_comm bx, Int.add_comm bq, Bool.and_comm (vOk bx bq)]
theorem vOk_neg (x y : Int) : vOk (-x) (-y) = vOk x y := by
  rw [Bool.eq_iff_iff, vOk_iff, vOk_iff]; omega
theorem vadd_back {ax ay bx bq : Int} (h : vaddB ax ay bx bq = true) : vaddB (ax + bx) (ay + bq) (-bx) (-bq) = true ∧ ax + bx + -bx = ax ∧ ay + bq + -bq = ay := by
  obtain ⟨h1, h2, h3⟩ := vaddB_iff.1 h
  have e1 : ax + bx + -bx = ax := by omega
  have e2 : ay + bq + -bq = ay := by omega
  refine ⟨?_, e1, e2⟩
  rw [vaddB_iff, vOk_neg, e1, e2]; exact ⟨h3, h2, h1⟩
theorem vOk_zero : vOk 0 0 = true := vOk_iff.2 (by omega)
theorem vadd_zero {x y : Int} (h : vOk x y = true) : vaddB x y 0 0 = true ∧ x + 0 = x ∧ y + 0 = y := by
  refine ⟨?_, Int.add_zero _, Int.add_zero _⟩
  rw [vaddB_iff, Int.add_zero, Int.add_zero]; exact ⟨h, vOk_zero, h⟩
theorem vscaleB_iff {x y k : Int} : vscaleB x y k = true ↔ vOk x y = true ∧ fixOk k = true ∧ vOk ((x * k).tdiv 1000) ((y * k).tdiv 1000) = true := by simp [vscaleB, and_assoc]
theorem vscale_one {x y : Int} (h : vOk x y = true) : vscaleB x y 1000 = true ∧ (x * 1000).tdiv 1000 = x ∧ (y * 1000).tdiv 1000 = y := by
  have e1 : (x * 1000).tdiv 1000 = x := Int.mul_tdiv_cancel _ (by omega)
  have e2 : (y * 1000).tdiv 1000 = y := Int.mul_tdiv_cancel _ (by omega)
  refine ⟨?_, e1, e2⟩
  rw [vscaleB_iff, e1, e2]; exact ⟨h, fixOk_mk (by omega) (by omega), h⟩
theorem tdiv_minus (x : Int) : (x * -1000).tdiv 1000 = -x := by
  rw [Int.mul_neg, Int.neg_tdiv, Int.mul_tdiv_cancel _ (by omega)]
theorem vscale_minus {x y : Int} (h : vOk x y = true) : vscaleB x y (-1000) = true ∧ (x * -1000).tdiv 1000 = -x ∧ (y * -1000).tdiv 1000 = -y := by
  refine ⟨?_, tdiv_minus x, tdiv_minus y⟩
  rw [vscaleB_iff, tdiv_minus, tdiv_minus, vOk_neg]; exact ⟨h, fixOk_mk (by omega) (by omega), h⟩
theorem vscale_zero {x y : Int} (h : vOk x y = true) : vscaleB x y 0 = true ∧ (x * 0).tdiv 1000 = 0 ∧ (y * 0).tdiv 1000 = 0 := by
  rw [vscaleB_iff, Int.mul_zero, Int.mul_zero, Int.zero_tdiv]; exact ⟨⟨h, fixOk_zero, vOk_zero⟩, rfl, rfl⟩
theorem fixOk_co {x : Int} (h : -1000000 ≤ x) (h' : x ≤ 1000000) : fixOk x = true := fixOk_mk (by omega) (by omega)
theorem vscale_mul {x y k : Int} (h : vscaleB x y k = true) : mulB x k = true ∧ mulB y k = true ∧ mulV x k = (x * k).tdiv 1000 ∧ mulV y k = (y * k).tdiv 1000 := by
  obtain ⟨h1, h2, h3⟩ := vscaleB_iff.1 h
  obtain ⟨a1, a2, a3, a4⟩ := vOk_iff.1 h1
  obtain ⟨b1, b2, b3, b4⟩ := vOk_iff.1 h3
  have m1 : mulB x k = true := mulB_iff.2 ⟨fixOk_co a1 a2, h2, fixOk_co b1 b2⟩
  have m2 : mulB y k = true := mulB_iff.2 ⟨fixOk_co a3 a4, h2, fixOk_co b3 b4⟩
  exact ⟨m1, m2, mul_exact m1, mul_exact m2⟩

/-! ## Scalar products -/
theorem vdotB_iff {ax ay bx bq : Int} : vdotB ax ay bx bq = true ↔ vOk ax ay = true ∧ vOk bx bq = true := by simp [vdotB]
theorem vdotB_comm (ax ay bx bq : Int) : vdotB bx bq ax ay = vdotB ax ay bx bq := by unfold vdotB; rw [Bool.and_comm]
theorem vdotV_comm (ax ay bx bq : Int) : vdotV bx bq ax ay = vdotV ax ay bx bq := by
  unfold vdotV; rw [vdotB_comm, Int.mul_comm bx, Int.mul_comm bq]
theorem vdot_minus (ax ay bx bq : Int) : vdotV (-ax) (-ay) bx bq = -vdotV ax ay bx bq ∧ vdotB (-ax) (-ay) bx bq = vdotB ax ay bx bq := by
  have h : vdotB (-ax) (-ay) bx bq = vdotB ax ay bx bq := by unfold vdotB; rw [vOk_neg]
  refine ⟨?_, h⟩
  unfold vdotV
  rw [h, Int.neg_mul, Int.neg_mul, Int.neg_tdiv, Int.neg_tdiv]
  cases vdotB ax ay bx bq
  · rfl
  · show -_ + -_ = -(_ + _); omega
theorem vdotV_bd (ax ay bx bq : Int) : -2000000000000 ≤ vdotV ax ay bx bq ∧ vdotV ax ay bx bq ≤ 2000000000000 := by
  cases h : vdotB ax ay bx bq
  · rw [vdotV, h, sel_false]; omega
  · obtain ⟨ha, hb⟩ := vdotB_iff.1 h
    obtain ⟨a1, a2, a3, a4⟩ := vOk_iff.1 ha
    obtain ⟨b1, b2, b3, b4⟩ := vOk_iff.1 hb
    obtain ⟨k1, k2⟩ := cc_bd a1 a2 b1 b2
    obtain ⟨k3, k4⟩ := cc_bd a3 a4 b3 b4
    have := tdiv_bd 1000 k1 k2
    have := tdiv_bd 1000 k3 k4
    rw [vdotV_in ha hb]; omega
theorem vdot_self {x y : Int} (h : vOk x y = true) : 0 ≤ vdotV x y x y ∧ vdotB x y x y = true := by
  obtain ⟨a1, a2, a3, a4⟩ := vOk_iff.1 h
  rw [vdotV_in h h]
  have k1 := (ss_bd a1 a2).1
  have k2 := (ss_bd a3 a4).1
  rw [(tdiv1000 _).1 k1, (tdiv1000 _).1 k2]
  exact ⟨by omega, vdotB_in h h⟩
theorem vdot_zero {x y : Int} (h : vOk x y = true) : vdotV x y 0 0 = 0 ∧ vdotB x y 0 0 = true := by
  rw [vdotV_in h vOk_zero, Int.mul_zero, Int.mul_zero, Int.zero_tdiv]; exact ⟨rfl, vdotB_in h vOk_zero⟩
theorem vdot_right {x y : Int} (h : vOk x y = true) : vdotV x y (-y) x = 0 ∧ vdotB x y (-y) x = true := by
  obtain ⟨a1, a2, a3, a4⟩ := vOk_iff.1 h
  have h' : vOk (-y) x = true := vOk_iff.2 (by omega)
  rw [vdotV_in h h', Int.mul_neg, Int.neg_tdiv, Int.mul_comm y x]; exact ⟨by omega, vdotB_in h h'⟩

/-! ## Lengths -/
theorem sq_nonneg (a : Int) : 0 ≤ a * a := by
  rcases Int.le_total 0 a with h' | h'
  · exact Int.mul_nonneg h' h'
  · exact Int.mul_nonneg_of_nonpos_of_nonpos h' h'
theorem sum_sq_nonneg (x y : Int) : 0 ≤ x * x + y * y := by
  have := sq_nonneg x; have := sq_nonneg y; omega
theorem lenI_spec (x y : Int) : lenI x y * lenI x y ≤ x * x + y * y ∧ x * x + y * y < (lenI x y + 1) * (lenI x y + 1) :=
  ⟨isq_le (sum_sq_nonneg x y), isq_lt (sum_sq_nonneg x y)⟩
theorem lenI_bd {x y : Int} (h : vOk x y = true) : 0 ≤ lenI x y ∧ lenI x y ≤ 1414214 := by
  obtain ⟨a1, a2, a3, a4⟩ := vOk_iff.1 h
  have k1 := (ss_bd a1 a2).2
  have k2 := (ss_bd a3 a4).2
  exact ⟨lenI_nonneg x y, isq_lt_of (sum_sq_nonneg x y) (by omega) (by omega)⟩
theorem lenV_ok {x y : Int} (h : vOk x y = true) : lenV x y = lenI x y := by rw [lenV, h, sel_true]
theorem lenI_zero : lenI 0 0 = 0 := (isq_unique (by omega) (by omega) (by omega)).symm
theorem lenI_swap (x y : Int) : lenI y x = lenI x y := by unfold lenI; rw [Int.add_comm]
theorem lenI_minus (x y : Int) : lenI (-x) y = lenI x y := by unfold lenI; rw [Int.neg_mul_neg]
theorem vOk_swap (x y : Int) : vOk y x = vOk x y := by rw [Bool.eq_iff_iff, vOk_iff, vOk_iff]; omega
theorem vOk_minus (x y : Int) : vOk (-x) y = vOk x y := by rw [Bool.eq_iff_iff, vOk_iff, vOk_iff]; omega
theorem lenI_unique {x y k : Int} (hk : 0 ≤ k) (h1 : k * k ≤ x * x + y * y) (h2 : x * x + y * y < (k + 1) * (k + 1)) : lenI x y = k := (isq_unique hk h1 h2).symm
/-- A length is at least each coordinate and at most the sum of both. -/
theorem len_side (x y : Int) : x ≤ lenI x y ∧ -x ≤ lenI x y ∧ y ≤ lenI x y ∧ -y ≤ lenI x y ∧ lenI x y ≤ x.natAbs + y.natAbs := by
  obtain ⟨h1, h2⟩ := lenI_spec x y
  have h0 := lenI_nonneg x y
  have hx := sq_nonneg x
  have hy := sq_nonneg y
  have nx : (-x) * (-x) = x * x := Int.neg_mul_neg x x
  have ny : (-y) * (-y) = y * y := Int.neg_mul_neg y y
  refine ⟨le_of_sq_lt h0 (by omega), le_of_sq_lt h0 (by omega), le_of_sq_lt h0 (by omega), le_of_sq_lt h0 (by omega), ?_⟩
  have ex : ((x.natAbs : Int)) * (x.natAbs : Int) = x * x := Int.natAbs_mul_self' _
  have ey : ((y.natAbs : Int)) * (y.natAbs : Int) = y * y := Int.natAbs_mul_self' _
  have p : 0 ≤ (x.natAbs : Int) * (y.natAbs : Int) := Int.mul_nonneg (by omega) (by omega)
  refine le_of_sq_lt (by omega) ?_
  have e : ((x.natAbs : Int) + y.natAbs + 1) * ((x.natAbs : Int) + y.natAbs + 1) = (x.natAbs : Int) * x.natAbs + (y.natAbs : Int) * y.natAbs + 2 * ((x.natAbs : Int) * y.natAbs) + 2 * (x.natAbs : Int) + 2 * (y.natAbs : Int) + 1 := by
    generalize (x.natAbs : Int) = a
    generalize (y.natAbs : Int) = b
    rw [Int.add_mul, Int.add_mul, Int.mul_add, Int.mul_add, Int.mul_add, Int.mul_add, Int.mul_comm b a]; omega
  omega
/-- (a + b)² -/
theorem sq_add (a b : Int) : (a + b) * (a + b) = a * a + b * b + 2 * (a * b) := by
  rw [Int.add_mul, Int.mul_add, Int.mul_add, Int.mul_comm b a]; omega
theorem lt_of_sq_lt {a b : Int} (hb : 0 ≤ b) (h : a * a < b * b) : a < b := by
  rcases Int.lt_or_le a b with h' | h'
  · exact h'
  · have : b * b ≤ a * a := Int.mul_le_mul h' h' hb (by omega)
    omega
theorem mul_mul_comm4 (a b c d : Int) : (a * b) * (c * d) = (a * c) * (b * d) := by
  rw [Int.mul_assoc, Int.mul_assoc, Int.mul_left_comm b c d]
/-- Cauchy and Schwarz, for whole numbers. -/
theorem cauchy (a b c d : Int) : (a * c + b * d) * (a * c + b * d) ≤ (a * a + b * b) * (c * c + d * d) := by
  have h := sq_nonneg (a * d - b * c)
  have e1 : (a * c + b * d) * (a * c + b * d) = (a * c) * (a * c) + (b * d) * (b * d) + 2 * ((a * c) * (b * d)) := sq_add _ _
  have e2 : (a * d - b * c) * (a * d - b * c) = (a * d) * (a * d) + (b * c) * (b * c) - 2 * ((a * d) * (b * c)) := by
    have := sq_add (a * d) (-(b * c))
    rw [Int.neg_mul_neg, Int.mul_neg] at this
    have e : a * d - b * c = a * d + -(b * c) := by omega
    rw [e]; omega
  have e3 : (a * a + b * b) * (c * c + d * d) = (a * a) * (c * c) + (a * a) * (d * d) + ((b * b) * (c * c) + (b * b) * (d * d)) := by
    rw [Int.add_mul, Int.mul_add, Int.mul_add]
  have f1 := mul_mul_comm4 a a c c
  have f2 := mul_mul_comm4 a a d d
  have f3 := mul_mul_comm4 b b c c
  have f4 := mul_mul_comm4 b b d d
  have f5 : (a * d) * (b * c) = (a * c) * (b * d) := by
    rw [Int.mul_comm b c, mul_mul_comm4 a d c b, Int.mul_comm d b]
  omega
theorem len_sum (ax ay bx bq : Int) : lenI (ax + bx) (ay + bq) ≤ lenI ax ay + lenI bx bq + 2 := by
  obtain ⟨_, a2⟩ := lenI_spec ax ay
  obtain ⟨_, b2⟩ := lenI_spec bx bq
  have a0 := lenI_nonneg ax ay
  have b0 := lenI_nonneg bx bq
  generalize lenI ax ay = A at *
  generalize lenI bx bq = B at *
  have hc := cauchy ax ay bx bq
  have na := sum_sq_nonneg ax ay
  have nb := sum_sq_nonneg bx bq
  have hp : (ax * ax + ay * ay) * (bx * bx + bq * bq) ≤ ((A + 1) * (A + 1)) * ((B + 1) * (B + 1)) := Int.mul_le_mul (by omega) (by omega) nb (Int.mul_nonneg (by omega) (by omega))
  have hm := mul_mul_comm4 (A + 1) (A + 1) (B + 1) (B + 1)
  have hq : 0 ≤ (A + 1) * (B + 1) := Int.mul_nonneg (by omega) (by omega)
  have hd : ax * bx + ay * bq ≤ (A + 1) * (B + 1) := by
    refine le_of_sq_lt hq ?_
    have e := sq_add ((A + 1) * (B + 1)) 1
    omega
  have hs : (ax + bx) * (ax + bx) + (ay + bq) * (ay + bq) < (A + B + 2) * (A + B + 2) := by
    have e1 := sq_add ax bx
    have e2 := sq_add ay bq
    have e3 := sq_add (A + 1) (B + 1)
    have e4 : A + 1 + (B + 1) = A + B + 2 := by omega
    rw [e4] at e3
    omega
  have h1 := (lenI_spec (ax + bx) (ay + bq)).1
  have : lenI (ax + bx) (ay + bq) < A + B + 2 := lt_of_sq_lt (by omega) (by omega)
  omega

/-! ## Clamped vectors -/
theorem clampB_iff {x y m : Int} : clampB x y m = true ↔ vOk x y = true ∧ 0 ≤ m ∧ m ≤ 1000000 := by simp [clampB, inB]
/-- A quotient rounded towards zero, times the divisor. -/
theorem tdiv_mul_le {c L : Int} (hL : 0 < L) : (c.tdiv L * L) * (c.tdiv L * L) ≤ c * c ∧ (0 ≤ c → 0 ≤ c.tdiv L) ∧ (c ≤ 0 → c.tdiv L ≤ 0) := by
  obtain ⟨e, r1, r2, r3, r4⟩ := tdiv_spec c L (by omega)
  have e' : L * c.tdiv L = c.tdiv L * L := Int.mul_comm _ _
  have hpos : 0 ≤ c → 0 ≤ c.tdiv L := fun h => Int.tdiv_nonneg h (by omega)
  have hneg : c ≤ 0 → c.tdiv L ≤ 0 := fun h => by
    have : 0 ≤ (-c).tdiv L := Int.tdiv_nonneg (by omega) (by omega)
    rw [Int.neg_tdiv] at this; omega
  refine ⟨?_, hpos, hneg⟩
  rcases Int.le_total 0 c with h | h
  · have h1 := r1 h
    have h2 : 0 ≤ c.tdiv L * L := Int.mul_nonneg (hpos h) (by omega)
    exact Int.mul_le_mul (by omega) (by omega) h2 h
  · have h1 := r2 h
    have h2 : c.tdiv L * L ≤ 0 := Int.mul_nonpos_of_nonpos_of_nonneg (hneg h) (by omega)
    rw [← Int.neg_mul_neg, ← Int.neg_mul_neg c c]
    exact Int.mul_le_mul (by omega) (by omega) (by omega) (by omega)
theorem clamp_len {x y m : Int} (h : clampB x y m = true) : lenI (clampI x x y m) (clampI y x y m) ≤ m := by
  obtain ⟨_, m0, _⟩ := clampB_iff.1 h
  by_cases hl : lenI x y ≤ m
  · rw [clampI_le hl, clampI_le hl]; exact hl
  · have hl' : m < lenI x y := by omega
    rw [clampI_gt hl', clampI_gt hl']
    obtain ⟨_, h2⟩ := lenI_spec x y
    generalize lenI x y = L at *
    have hx := (tdiv_mul_le (c := x * m) (L := L) (by omega)).1
    have hy := (tdiv_mul_le (c := y * m) (L := L) (by omega)).1
    generalize (x * m).tdiv L = X at *
    generalize (y * m).tdiv L = Y at *
    rw [mul_mul_comm4 X L X L, mul_mul_comm4 x m x m] at hx
    rw [mul_mul_comm4 Y L Y L, mul_mul_comm4 y m y m] at hy
    have s1 : (X * X + Y * Y) * (L * L) ≤ (x * x + y * y) * (m * m) := by rw [Int.add_mul, Int.add_mul]; omega
    have hmm : 0 ≤ m * m := Int.mul_nonneg m0 m0
    have s2 : (x * x + y * y) * (m * m) ≤ (L * L + 2 * L) * (m * m) := by
      refine Int.mul_le_mul_of_nonneg_right ?_ hmm
      have := sq_add L 1
      omega
    refine isq_lt_of (sum_sq_nonneg X Y) m0 ?_
    rcases Int.lt_or_le (X * X + Y * Y) ((m + 1) * (m + 1)) with k | k
    · exact k
    · exfalso
      have s3 : ((m + 1) * (m + 1)) * (L * L) ≤ (X * X + Y * Y) * (L * L) := Int.mul_le_mul_of_nonneg_right k (Int.mul_nonneg (by omega) (by omega))
      have em := sq_add m 1
      have e1 : ((m + 1) * (m + 1)) * (L * L) = (m * m) * (L * L) + (2 * m + 1) * (L * L) := by
        rw [em, ← Int.add_mul]; congr 1; omega
      have e2 : (L * L + 2 * L) * (m * m) = (m * m) * (L * L) + 2 * L * (m * m) := by rw [Int.add_mul, Int.mul_comm (L * L)]
      have s4 : (2 * m + 1) * (L * L) ≤ 2 * L * (m * m) := by omega
      have e3 : (2 * m + 1) * (L * L) = L * ((2 * m + 1) * L) := by rw [Int.mul_left_comm]
      have e4 : 2 * L * (m * m) = L * (2 * (m * m)) := by rw [Int.mul_comm 2 L, Int.mul_assoc]
      rw [e3, e4] at s4
      have s5 : (2 * m + 1) * L ≤ 2 * (m * m) := Int.le_of_mul_le_mul_left s4 (by omega)
      have s6 : (2 * m + 1) * (m + 1) ≤ (2 * m + 1) * L := Int.mul_le_mul_of_nonneg_left (by omega) (by omega)
      have e5 : (2 * m + 1) * (m + 1) = 2 * (m * m) + 3 * m + 1 := by rw [Int.add_mul, Int.mul_add, Int.mul_assoc]; omega
      omega
theorem clampI_ok {x y m : Int} (h : clampB x y m = true) : vOk (clampI x x y m) (clampI y x y m) = true := by
  obtain ⟨_, m0, m1⟩ := clampB_iff.1 h
  have h1 := clamp_len h
  obtain ⟨s1, s2, s3, s4, _⟩ := len_side (clampI x x y m) (clampI y x y m)
  exact vOk_iff.2 (by omega)
theorem clamp_twice {x y m : Int} (h : clampB x y m = true) : clampB (clampI x x y m) (clampI y x y m) m = true ∧ clampI (clampI x x y m) (clampI x x y m) (clampI y x y m) m = clampI x x y m ∧ clampI (clampI y x y m) (clampI x x y m) (clampI y x y m) m = clampI y x y m := by
  obtain ⟨_, m0, m1⟩ := clampB_iff.1 h
  exact ⟨clampB_iff.2 ⟨clampI_ok h, m0, m1⟩, clampI_le (clamp_len h), clampI_le (clamp_len h)⟩
/-- Clamping keeps the side, and makes no coordinate greater. -/
theorem clamp_side {c x y m : Int} (h : clampB x y m = true) : 0 ≤ clampI c x y m * c ∧ clampI c x y m * clampI c x y m ≤ c * c := by
  obtain ⟨_, m0, m1⟩ := clampB_iff.1 h
  by_cases hl : lenI x y ≤ m
  · rw [clampI_le hl]; exact ⟨sq_nonneg c, Int.le_refl _⟩
  · have hl' : m < lenI x y := by omega
    rw [clampI_gt hl']
    generalize lenI x y = L at *
    obtain ⟨h1, h2, h3⟩ := tdiv_mul_le (c := c * m) (L := L) (by omega)
    generalize (c * m).tdiv L = X at *
    constructor
    · rcases Int.le_total 0 c with k | k
      · exact Int.mul_nonneg (h2 (Int.mul_nonneg k m0)) k
      · exact Int.mul_nonneg_of_nonpos_of_nonpos (h3 (Int.mul_nonpos_of_nonpos_of_nonneg k m0)) k
    · rw [mul_mul_comm4 X L X L, mul_mul_comm4 c m c m] at h1
      have hmm : m * m ≤ L * L := Int.mul_le_mul (by omega) (by omega) m0 (by omega)
      have s : (X * X) * (L * L) ≤ (c * c) * (L * L) := Int.le_trans h1 (Int.mul_le_mul_of_nonneg_left hmm (sq_nonneg c))
      exact Int.le_of_mul_le_mul_right s (Int.mul_pos (by omega) (by omega))
end Go.Proofs.Ytheoabiohidadaa.P
