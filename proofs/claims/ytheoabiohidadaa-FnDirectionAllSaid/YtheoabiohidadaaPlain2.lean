/-
  The plain laws of the functions on fixed-point numbers. No Go in sight.
-/
import Derived.Test.YtheoabiohidadaaPlain
namespace Go.Proofs.Ytheoabiohidadaa.P

theorem clampF_mono {m n : Int} (h : m ≤ n) : clampF m ≤ clampF n := by
  unfold clampF
  by_cases a : m < -2000000000 <;> by_cases b : 2000000000 < m <;> by_cases c : n < -2000000000 <;> by_cases d : 2000000000 < n <;> simp [a, b, c, d] <;> omega
theorem clampF_neg (n : Int) : clampF (-n) = -clampF n := by
  unfold clampF
  by_cases a : n < -2000000000
  · rw [if_pos a, if_neg (by omega), if_pos (by omega)]; rfl
  · by_cases b : 2000000000 < n
    · rw [if_neg a, if_pos b, if_pos (by omega)]
    · rw [if_neg a, if_neg b, if_neg (by omega), if_neg (by omega)]
theorem fixOk_neg (n : Int) : fixOk (-n) = fixOk n := by
  rw [Bool.eq_iff_iff, fixOk_iff, fixOk_iff]; omega

theorem fixOk_wrap {n : Int} (h : -9223372036854775808 ≤ n) (h' : n ≤ 9223372036854775807) : fixOk ((-n + 9223372036854775808) % 18446744073709551616 - 9223372036854775808) = fixOk n := by
  rw [Bool.eq_iff_iff, fixOk_iff, fixOk_iff]; omega
/-! ## Sums -/
theorem addB_iff {a b : Int} : addB a b = true ↔ fixOk a = true ∧ fixOk b = true ∧ fixOk (a + b) = true := by simp [addB, and_assoc]
theorem addV_comm (a b : Int) : addV b a = addV a b := by
  unfold addV; rw [Int.add_comm b a]
  by_cases h1 : fixOk a = true <;> by_cases h2 : fixOk b = true <;> simp [h1, h2]
theorem addB_comm (a b : Int) : addB b a = addB a b := by
  unfold addB; rw [Int.add_comm b a, Bool.and_comm (fixOk b)]
theorem fixOk_zero : fixOk 0 = true := fixOk_mk (by omega) (by omega)
theorem add_zero {a : Int} (h : fixOk a = true) : addV a 0 = a ∧ addB a 0 = true := by
  rw [addV_in h fixOk_zero, addB_in h fixOk_zero, Int.add_zero]; exact ⟨clampF_ok h, h⟩
theorem add_exact {a b : Int} (h : addB a b = true) : addV a b = a + b ∧ fixOk (addV a b) = true := by
  obtain ⟨h1, h2, h3⟩ := addB_iff.1 h
  rw [addV_in h1 h2, clampF_ok h3]; exact ⟨rfl, h3⟩
theorem add_back {a b : Int} (h : addB a b = true) : addV (addV a b) (-b) = a ∧ addB (addV a b) (-b) = true := by
  obtain ⟨h1, h2, h3⟩ := addB_iff.1 h
  have h4 : fixOk (-b) = true := by rw [fixOk_neg]; exact h2
  have e : a + b + -b = a := by omega
  rw [(add_exact h).1, addV_in h3 h4, addB_in h3 h4, e]; exact ⟨clampF_ok h1, h1⟩
theorem add_more {a b m : Int} (h1 : fixOk a = true) (h2 : fixOk b = true) (h : a ≤ m) (h' : m ≤ 2000000000) : addV a b ≤ addV m b := by
  obtain ⟨a1, a2⟩ := fixOk_iff.1 h1
  rw [addV_in h1 h2, addV_in (fixOk_mk (by omega) h') h2]; exact clampF_mono (by omega)
theorem add_over {a b : Int} (h1 : fixOk a = true) (h2 : fixOk b = true) (h : addB a b = false) : (2000000000 < a + b ∧ addV a b = 2000000000) ∨ (a + b < -2000000000 ∧ addV a b = -2000000000) := by
  rw [addB_in h1 h2] at h
  rw [addV_in h1 h2]
  rcases fixOk_not.1 h with h | h
  · exact Or.inr ⟨h, clampF_lt h⟩
  · exact Or.inl ⟨h, clampF_gt h⟩

/-! ## Products -/
theorem mulB_iff {a b : Int} : mulB a b = true ↔ fixOk a = true ∧ fixOk b = true ∧ fixOk ((a * b).tdiv 1000) = true := by simp [mulB, and_assoc]
theorem mul_exact {a b : Int} (h : mulB a b = true) : mulV a b = (a * b).tdiv 1000 := by
  obtain ⟨h1, h2, h3⟩ := mulB_iff.1 h
  rw [mulV_in h1 h2, clampF_ok h3]
theorem mulV_range (a b : Int) : -2000000000 ≤ mulV a b ∧ mulV a b ≤ 2000000000 := by
  unfold mulV; split
  · exact clampF_range _
  · omega
theorem addV_range (a b : Int) : -2000000000 ≤ addV a b ∧ addV a b ≤ 2000000000 := by
  unfold addV; split
  · exact clampF_range _
  · omega
theorem divV_range (a b : Int) : -2000000000 ≤ divV a b ∧ divV a b ≤ 2000000000 := by
  unfold divV; split
  · split
    · split
      · omega
      · split <;> omega
    · exact clampF_range _
  · omega
theorem mul_pos {a b : Int} (h : mulB a b = true) (h0 : 0 ≤ a * b) : 0 ≤ a * b - mulV a b * 1000 ∧ a * b - mulV a b * 1000 < 1000 ∧ 0 ≤ mulV a b := by
  rw [mul_exact h, (tdiv1000 _).1 h0]; omega
theorem mul_neg {a b : Int} (h : mulB a b = true) (h0 : a * b < 0) : a * b - mulV a b * 1000 ≤ 0 ∧ -1000 < a * b - mulV a b * 1000 ∧ mulV a b ≤ 0 := by
  rw [mul_exact h, (tdiv1000 _).2 h0]; omega
theorem mulV_comm (a b : Int) : mulV b a = mulV a b := by
  unfold mulV; rw [Int.mul_comm b a]
  by_cases h1 : fixOk a = true <;> by_cases h2 : fixOk b = true <;> simp [h1, h2]
theorem mulB_comm (a b : Int) : mulB b a = mulB a b := by
  unfold mulB; rw [Int.mul_comm b a, Bool.and_comm (fixOk b)]
theorem mul_one {a : Int} (h : fixOk a = true) : mulV a 1000 = a ∧ mulB a 1000 = true := by
  have h2 : fixOk 1000 = true := fixOk_mk (by omega) (by omega)
  rw [mulV_in h h2, mulB_in h h2, Int.mul_tdiv_cancel _ (by omega)]; exact ⟨clampF_ok h, h⟩
theorem mul_minus {a b : Int} (h1 : fixOk a = true) (h2 : fixOk b = true) : mulV (-a) b = -mulV a b ∧ mulB (-a) b = mulB a b := by
  have h3 : fixOk (-a) = true := by rw [fixOk_neg]; exact h1
  rw [mulV_in h3 h2, mulV_in h1 h2, mulB_in h3 h2, mulB_in h1 h2, Int.neg_mul, Int.neg_tdiv, clampF_neg, fixOk_neg]; exact ⟨rfl, rfl⟩
theorem mul_zero {a : Int} (h : fixOk a = true) : mulV a 0 = 0 ∧ mulB a 0 = true := by
  rw [mulV_in h fixOk_zero, mulB_in h fixOk_zero, Int.mul_zero]; exact ⟨clampF_ok fixOk_zero, fixOk_zero⟩
theorem mul_small : mulV 31 (-32) = 0 ∧ mulB 31 (-32) = true := by
  have h1 : fixOk 31 = true := fixOk_mk (by omega) (by omega)
  have h2 : fixOk (-32) = true := fixOk_mk (by omega) (by omega)
  have e : (31 * (-32) : Int).tdiv 1000 = 0 := by decide
  rw [mulV_in h1 h2, mulB_in h1 h2, e]; exact ⟨clampF_ok fixOk_zero, fixOk_zero⟩
theorem tdiv1000_mono {m n : Int} (h : m ≤ n) : m.tdiv 1000 ≤ n.tdiv 1000 := by
  rcases Int.lt_or_le m 0 with a | a
  · rw [(tdiv1000 m).2 a]
    rcases Int.lt_or_le n 0 with b | b
    · rw [(tdiv1000 n).2 b]; omega
    · rw [(tdiv1000 n).1 b]; omega
  · rw [(tdiv1000 m).1 a, (tdiv1000 n).1 (by omega)]; omega
theorem mul_more {a b m : Int} (h : mulB a b = true) (hb : 0 ≤ b) (h1 : a ≤ m) (h2 : m ≤ 2000000000) : mulV a b ≤ mulV m b := by
  obtain ⟨h3, h4, _⟩ := mulB_iff.1 h
  obtain ⟨a1, a2⟩ := fixOk_iff.1 h3
  rw [mulV_in h3 h4, mulV_in (fixOk_mk (by omega) h2) h4]
  exact clampF_mono (tdiv1000_mono (Int.mul_le_mul_of_nonneg_right h1 hb))

/-! ## Roots -/
theorem sqrtV_nonneg (a : Int) : 0 ≤ sqrtV a := by
  unfold sqrtV; split
  · exact isq_nonneg _
  · omega
theorem sqrt_spec {a : Int} (h : sqrtB a = true) : 0 ≤ sqrtV a ∧ sqrtV a ≤ 1414214 ∧ sqrtV a * sqrtV a ≤ a * 1000 ∧ a * 1000 < (sqrtV a + 1) * (sqrtV a + 1) := by
  obtain ⟨a1, a2⟩ := sqrtB_iff.1 h
  rw [sqrtV_in h]
  exact ⟨isq_nonneg _, isq_lt_of (by omega) (by omega) (by omega), isq_le (by omega), isq_lt (by omega)⟩
theorem sqrt_more {a m : Int} (h : sqrtB a = true) (h1 : a ≤ m) (h2 : m ≤ 2000000000) : sqrtB m = true ∧ sqrtV a ≤ sqrtV m := by
  obtain ⟨a1, a2⟩ := sqrtB_iff.1 h
  have hm : sqrtB m = true := sqrtB_iff.2 ⟨by omega, h2⟩
  rw [sqrtV_in h, sqrtV_in hm]
  exact ⟨hm, isq_mono (by omega) (by omega)⟩
theorem sqrt_square {n k : Int} (hk : 0 ≤ k) (hk' : k < 1000) (hn : n = 1000 * k) : mulB n n = true ∧ sqrtB (mulV n n) = true ∧ sqrtV (mulV n n) = n := by
  have e : n * n = 1000 * (1000 * (k * k)) := by
    subst hn
    rw [Int.mul_assoc, Int.mul_left_comm k]
  have hkk : 0 ≤ k * k := Int.mul_nonneg hk hk
  have hkk' : k * k ≤ 999 * 999 := Int.mul_le_mul (by omega) (by omega) hk (by omega)
  have hfn : fixOk n = true := fixOk_mk (by omega) (by omega)
  have ed : (n * n).tdiv 1000 = 1000 * (k * k) := by rw [e, Int.mul_comm 1000 (1000 * (k * k)), Int.mul_tdiv_cancel _ (by omega)]
  have hB : mulB n n = true := by rw [mulB_in hfn hfn, ed]; exact fixOk_mk (by omega) (by omega)
  have hV : mulV n n = 1000 * (k * k) := by rw [mul_exact hB, ed]
  have hS : sqrtB (mulV n n) = true := sqrtB_iff.2 ⟨by omega, by omega⟩
  refine ⟨hB, hS, ?_⟩
  rw [sqrtV_in hS, hV]
  refine (isq_unique (by omega) ?_ ?_).symm
  · rw [e]; omega
  · have : (n + 1) * (n + 1) = n * n + n + n + 1 := by rw [Int.add_mul, Int.mul_add]; omega
    rw [this, e]; omega

/-! ## Quotients -/
theorem divB_iff {a b : Int} : divB a b = true ↔ fixOk a = true ∧ fixOk b = true ∧ b ≠ 0 ∧ fixOk ((a * 1000).tdiv b) = true := by simp [divB, and_assoc]
theorem div_exact {a b : Int} (h : divB a b = true) : divV a b = (a * 1000).tdiv b := by
  obtain ⟨h1, h2, h3, h4⟩ := divB_iff.1 h
  rw [divV_in h1 h2 h3, clampF_ok h4]
/-- The remainder: of the dividend's sign, smaller than the divisor. -/
theorem div_rest {a b : Int} (h : divB a b = true) : (0 ≤ a → 0 ≤ a * 1000 - divV a b * b ∧ a * 1000 - divV a b * b < b.natAbs) ∧ (a < 0 → a * 1000 - divV a b * b ≤ 0 ∧ -(b.natAbs : Int) < a * 1000 - divV a b * b) ∧ -2000000000000 ≤ divV a b * b ∧ divV a b * b ≤ 2000000000000 := by
  obtain ⟨h1, h2, h3, h4⟩ := divB_iff.1 h
  obtain ⟨a1, a2⟩ := fixOk_iff.1 h1
  obtain ⟨e, r1, r2, r3, r4⟩ := tdiv_spec (a * 1000) b h3
  have hb : (a * 1000).tdiv b * b = b * (a * 1000).tdiv b := Int.mul_comm _ _
  have hr := Int.natAbs_tmod (a * 1000) b
  have hr2 : (a * 1000).natAbs % b.natAbs ≤ (a * 1000).natAbs := Nat.mod_le _ _
  rw [div_exact h, hb]
  refine ⟨fun k => ?_, fun k => ?_, ?_⟩
  · have := r1 (by omega); omega
  · have := r2 (by omega); omega
  · rcases Int.lt_or_le a 0 with k | k
    · have := r2 (by omega); omega
    · have := r1 (by omega); omega
theorem div_one {a : Int} (h : fixOk a = true) : divV a 1000 = a ∧ divB a 1000 = true := by
  have h2 : fixOk 1000 = true := fixOk_mk (by omega) (by omega)
  rw [divV_in h h2 (by omega), divB_in h h2 (by omega), Int.mul_tdiv_cancel _ (by omega)]; exact ⟨clampF_ok h, h⟩
theorem div_self {a : Int} (h : fixOk a = true) (h0 : a ≠ 0) : divV a a = 1000 ∧ divB a a = true := by
  have h2 : fixOk 1000 = true := fixOk_mk (by omega) (by omega)
  rw [divV_in h h h0, divB_in h h h0, Int.mul_tdiv_cancel_left _ h0]; exact ⟨clampF_ok h2, h2⟩
theorem div_mul {a b : Int} (h : divB a b = true) : mulB (divV a b) b = true ∧ (0 ≤ a → -a ≤ mulV (divV a b) b ∧ mulV (divV a b) b ≤ a) ∧ (a < 0 → a ≤ mulV (divV a b) b ∧ mulV (divV a b) b ≤ -a) := by
  obtain ⟨h1, h2, h3, h4⟩ := divB_iff.1 h
  obtain ⟨a1, a2⟩ := fixOk_iff.1 h1
  obtain ⟨r1, r2, r3, r4⟩ := div_rest h
  have hq : fixOk (divV a b) = true := by rw [div_exact h]; exact h4
  obtain ⟨e, s1, s2, s3, s4⟩ := tdiv_spec (a * 1000) b h3
  have hb : (a * 1000).tdiv b * b = b * (a * 1000).tdiv b := Int.mul_comm _ _
  have ex := div_exact h
  have hp : (0 ≤ a → 0 ≤ divV a b * b ∧ divV a b * b ≤ a * 1000) ∧ (a < 0 → a * 1000 ≤ divV a b * b ∧ divV a b * b ≤ 0) := by
    have hr := Int.natAbs_tmod (a * 1000) b
    have hr2 : (a * 1000).natAbs % b.natAbs ≤ (a * 1000).natAbs := Nat.mod_le _ _
    rw [ex, hb]
    refine ⟨fun k => ?_, fun k => ?_⟩
    · have := s1 (by omega); omega
    · have := s2 (by omega); omega
  have hd : (0 ≤ a → 0 ≤ (divV a b * b).tdiv 1000 ∧ (divV a b * b).tdiv 1000 ≤ a) ∧ (a < 0 → a ≤ (divV a b * b).tdiv 1000 ∧ (divV a b * b).tdiv 1000 ≤ 0) := by
    refine ⟨fun k => ?_, fun k => ?_⟩
    · have := hp.1 k
      rw [(tdiv1000 _).1 this.1]; omega
    · have := hp.2 k
      rcases Int.lt_or_le (divV a b * b) 0 with z | z
      · rw [(tdiv1000 _).2 z]; omega
      · rw [(tdiv1000 _).1 z]; omega
  have hm : mulB (divV a b) b = true := by
    rw [mulB_in hq h2]
    rcases Int.lt_or_le a 0 with k | k
    · have := hd.2 k; exact fixOk_mk (by omega) (by omega)
    · have := hd.1 k; exact fixOk_mk (by omega) (by omega)
  rw [mul_exact hm]
  exact ⟨hm, fun k => by have := hd.1 k; omega, fun k => by have := hd.2 k; omega⟩
end Go.Proofs.Ytheoabiohidadaa.P
