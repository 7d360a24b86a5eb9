/-
  Plain numbers: what the program's functions on fixed-point numbers, vectors and boxes compute, and the laws of these. No Go in sight.
-/
namespace Go.Proofs.Ytheoabiohidadaa.P

/-! ## Fixed-point numbers -/
def inB (n lo hi : Int) : Bool := decide (lo ≤ n ∧ n ≤ hi)
theorem inB_iff {n lo hi : Int} : inB n lo hi = true ↔ lo ≤ n ∧ n ≤ hi := by simp [inB]
theorem inB_not {n lo hi : Int} : inB n lo hi = false ↔ n < lo ∨ hi < n := by simp [inB]; omega
def fixOk (n : Int) : Bool := inB n (-2000000000) 2000000000
theorem fixOk_iff {n : Int} : fixOk n = true ↔ -2000000000 ≤ n ∧ n ≤ 2000000000 := by simp [fixOk, inB]
theorem fixOk_not {n : Int} : fixOk n = false ↔ n < -2000000000 ∨ 2000000000 < n := by simp [fixOk, inB]; omega
theorem fixOk_mk {n : Int} (h : -2000000000 ≤ n) (h' : n ≤ 2000000000) : fixOk n = true := fixOk_iff.2 ⟨h, h'⟩
theorem fixOk_lt {n : Int} (h : n < -2000000000) : fixOk n = false := fixOk_not.2 (Or.inl h)
theorem fixOk_gt {n : Int} (h : 2000000000 < n) : fixOk n = false := fixOk_not.2 (Or.inr h)

def clampF (n : Int) : Int := if n < -2000000000 then -2000000000 else if 2000000000 < n then 2000000000 else n
theorem clampF_lt {n : Int} (h : n < -2000000000) : clampF n = -2000000000 := by simp [clampF, h]
theorem clampF_gt {n : Int} (h : 2000000000 < n) : clampF n = 2000000000 := by
  unfold clampF; rw [if_neg (by omega), if_pos h]
theorem clampF_in {n : Int} (h : -2000000000 ≤ n) (h' : n ≤ 2000000000) : clampF n = n := by
  unfold clampF; rw [if_neg (by omega), if_neg (by omega)]
theorem clampF_ok {n : Int} (h : fixOk n = true) : clampF n = n := clampF_in (fixOk_iff.1 h).1 (fixOk_iff.1 h).2
theorem clampF_range (n : Int) : -2000000000 ≤ clampF n ∧ clampF n ≤ 2000000000 := by
  unfold clampF; split
  · omega
  · split <;> omega

/-! ## The greatest integer whose square is at most n -/
def isqN : Nat → Nat
  | 0 => 0
  | n + 1 => if (isqN n + 1) * (isqN n + 1) ≤ n + 1 then isqN n + 1 else isqN n
theorem isqN_spec (n : Nat) : isqN n * isqN n ≤ n ∧ n < (isqN n + 1) * (isqN n + 1) := by
  induction n with
  | zero => simp [isqN]
  | succ n ih =>
    obtain ⟨h1, h2⟩ := ih
    unfold isqN
    by_cases h : (isqN n + 1) * (isqN n + 1) ≤ n + 1
    · rw [if_pos h]
      refine ⟨h, ?_⟩
      have : (isqN n + 1 + 1) * (isqN n + 1 + 1) = (isqN n + 1) * (isqN n + 1) + 2 * (isqN n + 1) + 1 := by
        generalize isqN n + 1 = m
        rw [Nat.add_mul, Nat.mul_add]; omega
      omega
    · rw [if_neg h]; omega
theorem sq_le_of_lt_succ_sq {a b : Nat} (h : a * a < (b + 1) * (b + 1)) : a ≤ b := by
  rcases Nat.lt_or_ge b a with h' | h'
  · have h3 : (b + 1) * (b + 1) ≤ a * a := Nat.mul_le_mul h' h'
    omega
  · exact h'
def isq (n : Int) : Int := (isqN n.toNat : Int)
theorem isq_nonneg (n : Int) : 0 ≤ isq n := by unfold isq; omega
theorem isq_le {n : Int} (h : 0 ≤ n) : isq n * isq n ≤ n := by
  have h1 := (isqN_spec n.toNat).1
  unfold isq
  have : ((isqN n.toNat * isqN n.toNat : Nat) : Int) ≤ (n.toNat : Int) := by exact_mod_cast h1
  rw [Int.toNat_of_nonneg h] at this
  simpa using this
theorem isq_lt {n : Int} (h : 0 ≤ n) : n < (isq n + 1) * (isq n + 1) := by
  have h1 := (isqN_spec n.toNat).2
  unfold isq
  have : (n.toNat : Int) < (((isqN n.toNat + 1) * (isqN n.toNat + 1) : Nat) : Int) := by exact_mod_cast h1
  rw [Int.toNat_of_nonneg h] at this
  simpa using this
/-- Of two numbers that are not negative: the squares' order is theirs. -/
theorem le_of_sq_lt {a b : Int} (hb : 0 ≤ b) (h : a * a < (b + 1) * (b + 1)) : a ≤ b := by
  rcases Int.lt_or_le b a with h' | h'
  · have h1 : (b + 1) * (b + 1) ≤ a * a := Int.mul_le_mul (by omega) (by omega) (by omega) (by omega)
    omega
  · exact h'
theorem isq_unique {n k : Int} (hk : 0 ≤ k) (h1 : k * k ≤ n) (h2 : n < (k + 1) * (k + 1)) : k = isq n := by
  have hn : 0 ≤ n := Int.le_trans (Int.mul_nonneg hk hk) h1
  have a := isq_le hn
  have b := isq_lt hn
  have c := isq_nonneg n
  have d : k ≤ isq n := le_of_sq_lt c (by omega)
  have e : isq n ≤ k := le_of_sq_lt hk (by omega)
  omega
theorem isq_mono {m n : Int} (hm : 0 ≤ m) (h : m ≤ n) : isq m ≤ isq n :=
  le_of_sq_lt (isq_nonneg n) (by have := isq_le hm; have := isq_lt (Int.le_trans hm h); omega)
/-- A bound on the root from one on the number. -/
theorem isq_lt_of {n k : Int} (hn : 0 ≤ n) (hk : 0 ≤ k) (h : n < (k + 1) * (k + 1)) : isq n ≤ k :=
  le_of_sq_lt hk (by have := isq_le hn; omega)

/-! ## What the functions give -/
def addV (a b : Int) : Int := if fixOk a = true ∧ fixOk b = true then clampF (a + b) else 0
def addB (a b : Int) : Bool := fixOk a && fixOk b && fixOk (a + b)
def mulV (a b : Int) : Int := if fixOk a = true ∧ fixOk b = true then clampF ((a * b).tdiv 1000) else 0
def mulB (a b : Int) : Bool := fixOk a && fixOk b && fixOk ((a * b).tdiv 1000)
def divV (a b : Int) : Int :=
  if fixOk a = true ∧ fixOk b = true then
    if b = 0 then (if 0 < a then 2000000000 else if a < 0 then -2000000000 else 0) else clampF ((a * 1000).tdiv b)
  else 0
def divB (a b : Int) : Bool := fixOk a && fixOk b && (b != 0) && fixOk ((a * 1000).tdiv b)
def sqrtB (a : Int) : Bool := fixOk a && decide (0 ≤ a)
def sqrtV (a : Int) : Int := if sqrtB a = true then isq (a * 1000) else 0

theorem addV_in {a b : Int} (h1 : fixOk a = true) (h2 : fixOk b = true) : addV a b = clampF (a + b) := by simp [addV, h1, h2]
theorem addV_out1 {a b : Int} (h1 : fixOk a = false) : addV a b = 0 := by simp [addV, h1]
theorem addV_out2 {a b : Int} (h2 : fixOk b = false) : addV a b = 0 := by simp [addV, h2]
theorem addB_in {a b : Int} (h1 : fixOk a = true) (h2 : fixOk b = true) : addB a b = fixOk (a + b) := by simp [addB, h1, h2]
theorem addB_out1 {a b : Int} (h1 : fixOk a = false) : addB a b = false := by simp [addB, h1]
theorem addB_out2 {a b : Int} (h2 : fixOk b = false) : addB a b = false := by simp [addB, h2]
theorem mulV_in {a b : Int} (h1 : fixOk a = true) (h2 : fixOk b = true) : mulV a b = clampF ((a * b).tdiv 1000) := by simp [mulV, h1, h2]
theorem mulV_out1 {a b : Int} (h1 : fixOk a = false) : mulV a b = 0 := by simp [mulV, h1]
theorem mulV_out2 {a b : Int} (h2 : fixOk b = false) : mulV a b = 0 := by simp [mulV, h2]
theorem mulB_in {a b : Int} (h1 : fixOk a = true) (h2 : fixOk b = true) : mulB a b = fixOk ((a * b).tdiv 1000) := by simp [mulB, h1, h2]
theorem mulB_out1 {a b : Int} (h1 : fixOk a = false) : mulB a b = false := by simp [mulB, h1]
theorem mulB_out2 {a b : Int} (h2 : fixOk b = false) : mulB a b = false := by simp [mulB, h2]
theorem divV_in {a b : Int} (h1 : fixOk a = true) (h2 : fixOk b = true) (h : b ≠ 0) : divV a b = clampF ((a * 1000).tdiv b) := by simp [divV, h1, h2, h]
theorem divV_pos {a : Int} (h1 : fixOk a = true) (h : 0 < a) : divV a 0 = 2000000000 := by simp [divV, h1, fixOk_mk, h]
theorem divV_neg {a : Int} (h1 : fixOk a = true) (h : a < 0) : divV a 0 = -2000000000 := by
  have h' : ¬ 0 < a := by omega
  simp [divV, h1, fixOk_mk, h, h']
theorem divV_zero : divV 0 0 = 0 := by simp [divV]
theorem divV_out1 {a b : Int} (h1 : fixOk a = false) : divV a b = 0 := by simp [divV, h1]
theorem divV_out2 {a b : Int} (h2 : fixOk b = false) : divV a b = 0 := by simp [divV, h2]
theorem divB_in {a b : Int} (h1 : fixOk a = true) (h2 : fixOk b = true) (h : b ≠ 0) : divB a b = fixOk ((a * 1000).tdiv b) := by simp [divB, h1, h2, h]
theorem divB_zero (a : Int) : divB a 0 = false := by simp [divB]
theorem divB_out1 {a b : Int} (h1 : fixOk a = false) : divB a b = false := by simp [divB, h1]
theorem divB_out2 {a b : Int} (h2 : fixOk b = false) : divB a b = false := by simp [divB, h2]
theorem sqrtB_iff {a : Int} : sqrtB a = true ↔ 0 ≤ a ∧ a ≤ 2000000000 := by simp [sqrtB, fixOk, inB]; omega
theorem sqrtB_not {a : Int} : sqrtB a = false ↔ a < 0 ∨ 2000000000 < a := by
  rw [← Bool.not_eq_true, sqrtB_iff]; omega
theorem sqrtV_in {a : Int} (h : sqrtB a = true) : sqrtV a = isq (a * 1000) := by simp [sqrtV, h]
theorem sqrtV_out {a : Int} (h : sqrtB a = false) : sqrtV a = 0 := by simp [sqrtV, h]

/-! ## Products and quotients in range -/
theorem abs_mul_le {a b A B : Int} (ha : -A ≤ a) (ha' : a ≤ A) (hb : -B ≤ b) (hb' : b ≤ B) : -(A * B) ≤ a * b ∧ a * b ≤ A * B := by
  have hA : 0 ≤ A := by omega
  have hB : 0 ≤ B := by omega
  have h1 : (a * b).natAbs ≤ (A * B).natAbs := by
    rw [Int.natAbs_mul, Int.natAbs_mul]
    exact Nat.mul_le_mul (by omega) (by omega)
  have h2 : 0 ≤ A * B := Int.mul_nonneg hA hB
  omega
theorem mul_bd {a b : Int} (h1 : fixOk a = true) (h2 : fixOk b = true) : -4000000000000000000 ≤ a * b ∧ a * b ≤ 4000000000000000000 := by
  obtain ⟨p, q⟩ := fixOk_iff.1 h1
  obtain ⟨r, s⟩ := fixOk_iff.1 h2
  have := abs_mul_le (A := 2000000000) (B := 2000000000) p q r s
  omega
theorem sq_bd {m : Int} (h : 0 ≤ m) (h' : m ≤ 2147483648) : 0 ≤ m * m ∧ m * m ≤ 4611686018427387904 := by
  have := abs_mul_le (A := 2147483648) (B := 2147483648) (a := m) (b := m) (by omega) h' (by omega) h'
  have h2 := Int.mul_nonneg h h
  omega
/-- What 'tdiv' is, said for omega: the quotient q, the remainder r. -/
theorem tdiv_spec (a b : Int) (hb : b ≠ 0) : a = b * a.tdiv b + a.tmod b ∧ (0 ≤ a → 0 ≤ a.tmod b) ∧ (a ≤ 0 → a.tmod b ≤ 0) ∧ a.tmod b < b.natAbs ∧ -(b.natAbs : Int) < a.tmod b := by
  have e := Int.mul_tdiv_add_tmod a b
  refine ⟨e.symm, fun h => Int.tmod_nonneg b h, fun h => ?_, ?_, ?_⟩
  · have : 0 ≤ (-a).tmod b := Int.tmod_nonneg b (by omega)
    rw [Int.neg_tmod] at this
    omega
  · have := Int.natAbs_tmod a b
    have h2 : a.natAbs % b.natAbs < b.natAbs := Nat.mod_lt _ (by omega)
    omega
  · have := Int.natAbs_tmod a b
    have h2 : a.natAbs % b.natAbs < b.natAbs := Nat.mod_lt _ (by omega)
    omega
theorem tdiv1000 (a : Int) : (0 ≤ a → a.tdiv 1000 = a / 1000) ∧ (a < 0 → a.tdiv 1000 = -((-a) / 1000)) := by
  refine ⟨fun h => Int.tdiv_eq_ediv_of_nonneg h, fun h => ?_⟩
  have : (-a).tdiv 1000 = (-a) / 1000 := Int.tdiv_eq_ediv_of_nonneg (by omega)
  rw [← this, Int.neg_tdiv, Int.neg_neg]
theorem tdiv_bd {a : Int} (b : Int) {A : Int} (h : -A ≤ a) (h' : a ≤ A) : -A ≤ a.tdiv b ∧ a.tdiv b ≤ A := by
  have h1 : (a.tdiv b).natAbs ≤ a.natAbs := by
    rw [Int.natAbs_tdiv]; exact Nat.div_le_self _ _
  omega

/-! ## Vectors -/
def vOk (x y : Int) : Bool := inB x (-1000000) 1000000 && inB y (-1000000) 1000000
theorem vOk_iff {x y : Int} : vOk x y = true ↔ -1000000 ≤ x ∧ x ≤ 1000000 ∧ -1000000 ≤ y ∧ y ≤ 1000000 := by simp [vOk, inB]; omega
theorem vOk_not {x y : Int} : vOk x y = false ↔ x < -1000000 ∨ 1000000 < x ∨ y < -1000000 ∨ 1000000 < y := by
  rw [← Bool.not_eq_true, vOk_iff]; omega
theorem vOk_out {x y : Int} (h : inB x (-1000000) 1000000 = false) : vOk x y = false := by simp [vOk, h]
theorem vOk_in {x y : Int} (h : inB x (-1000000) 1000000 = true) : vOk x y = inB y (-1000000) 1000000 := by simp [vOk, h]
/-- n, or 0 where there is no value. -/
def sel (b : Bool) (n : Int) : Int := bif b then n else 0
theorem sel_true (n : Int) : sel true n = n := rfl
theorem sel_false (n : Int) : sel false n = 0 := rfl
def vaddB (ax ay bx bq : Int) : Bool := vOk ax ay && vOk bx bq && vOk (ax + bx) (ay + bq)
theorem vaddB_out1 {ax ay bx bq : Int} (h : vOk ax ay = false) : vaddB ax ay bx bq = false := by simp [vaddB, h]
theorem vaddB_out2 {ax ay bx bq : Int} (h : vOk bx bq = false) : vaddB ax ay bx bq = false := by simp [vaddB, h]
theorem vaddB_in {ax ay bx bq : Int} (h : vOk ax ay = true) (h' : vOk bx bq = true) : vaddB ax ay bx bq = vOk (ax + bx) (ay + bq) := by simp [vaddB, h, h']
def vscaleB (x y k : Int) : Bool := vOk x y && fixOk k && vOk ((x * k).tdiv 1000) ((y * k).tdiv 1000)
theorem vscaleB_out1 {x y k : Int} (h : vOk x y = false) : vscaleB x y k = false := by simp [vscaleB, h]
theorem vscaleB_out2 {x y k : Int} (h : fixOk k = false) : vscaleB x y k = false := by simp [vscaleB, h]
theorem vscaleB_in {x y k : Int} (h : vOk x y = true) (h' : fixOk k = true) : vscaleB x y k = vOk ((x * k).tdiv 1000) ((y * k).tdiv 1000) := by simp [vscaleB, h, h']
def vdotB (ax ay bx bq : Int) : Bool := vOk ax ay && vOk bx bq
def vdotV (ax ay bx bq : Int) : Int := sel (vdotB ax ay bx bq) ((ax * bx).tdiv 1000 + (ay * bq).tdiv 1000)
theorem vdotB_out1 {ax ay bx bq : Int} (h : vOk ax ay = false) : vdotB ax ay bx bq = false := by simp [vdotB, h]
theorem vdotB_out2 {ax ay bx bq : Int} (h : vOk bx bq = false) : vdotB ax ay bx bq = false := by simp [vdotB, h]
theorem vdotB_in {ax ay bx bq : Int} (h : vOk ax ay = true) (h' : vOk bx bq = true) : vdotB ax ay bx bq = true := by simp [vdotB, h, h']
theorem vdotV_out1 {ax ay bx bq : Int} (h : vOk ax ay = false) : vdotV ax ay bx bq = 0 := by simp [vdotV, vdotB_out1 h, sel]
theorem vdotV_out2 {ax ay bx bq : Int} (h : vOk bx bq = false) : vdotV ax ay bx bq = 0 := by simp [vdotV, vdotB_out2 h, sel]
theorem vdotV_in {ax ay bx bq : Int} (h : vOk ax ay = true) (h' : vOk bx bq = true) : vdotV ax ay bx bq = (ax * bx).tdiv 1000 + (ay * bq).tdiv 1000 := by simp [vdotV, vdotB_in h h', sel]
def sqV (x y : Int) : Int := x * x + y * y
def lenI (x y : Int) : Int := isq (x * x + y * y)
def lenV (x y : Int) : Int := sel (vOk x y) (lenI x y)
def clampB (x y m : Int) : Bool := vOk x y && inB m 0 1000000
/-- A coordinate c of the vector (x, y), clamped at m. -/
def clampI (c x y m : Int) : Int := if lenI x y ≤ m then c else (c * m).tdiv (lenI x y)
def clampV (c x y m : Int) : Int := sel (clampB x y m) (clampI c x y m)
theorem clampB_out1 {x y m : Int} (h : vOk x y = false) : clampB x y m = false := by simp [clampB, h]
theorem clampB_out2 {x y m : Int} (h : inB m 0 1000000 = false) : clampB x y m = false := by simp [clampB, h]
theorem clampB_in {x y m : Int} (h : vOk x y = true) (h' : inB m 0 1000000 = true) : clampB x y m = true := by simp [clampB, h, h']
theorem clampI_le {c x y m : Int} (h : lenI x y ≤ m) : clampI c x y m = c := by simp [clampI, h]
theorem clampI_gt {c x y m : Int} (h : m < lenI x y) : clampI c x y m = (c * m).tdiv (lenI x y) := by unfold clampI; rw [if_neg (by omega)]
/-- Products of coordinates. -/
theorem cc_bd {a b : Int} (h1 : -1000000 ≤ a) (h2 : a ≤ 1000000) (h3 : -1000000 ≤ b) (h4 : b ≤ 1000000) : -1000000000000 ≤ a * b ∧ a * b ≤ 1000000000000 := by
  have := abs_mul_le (A := 1000000) (B := 1000000) h1 h2 h3 h4
  omega
theorem ss_bd {a : Int} (h1 : -1000000 ≤ a) (h2 : a ≤ 1000000) : 0 ≤ a * a ∧ a * a ≤ 1000000000000 := by
  have h := cc_bd h1 h2 h1 h2
  refine ⟨?_, h.2⟩
  rcases Int.le_total 0 a with h' | h'
  · exact Int.mul_nonneg h' h'
  · exact Int.mul_nonneg_of_nonpos_of_nonpos h' h'
theorem ck_bd {a k : Int} (h1 : -1000000 ≤ a) (h2 : a ≤ 1000000) (h : fixOk k = true) : -2000000000000000 ≤ a * k ∧ a * k ≤ 2000000000000000 := by
  obtain ⟨h3, h4⟩ := fixOk_iff.1 h
  have := abs_mul_le (A := 1000000) (B := 2000000000) h1 h2 h3 h4
  omega
theorem lenI_nonneg (x y : Int) : 0 ≤ lenI x y := isq_nonneg _
end Go.Proofs.Ytheoabiohidadaa.P
