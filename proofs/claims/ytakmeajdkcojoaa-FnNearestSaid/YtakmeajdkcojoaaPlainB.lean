/-
  Plain boxes: what the functions on boxes compute, and the laws of these. No Go in sight.
-/
import Derived.Test.YtakmeajdkcojoaaPlain3
namespace Go.Proofs.Ytakmeajdkcojoaa.P

def boxOk (lx ly hx hy : Int) : Bool := vOk lx ly && vOk hx hy && decide (lx ≤ hx) && decide (ly ≤ hy)
theorem boxOk_iff {lx ly hx hy : Int} : boxOk lx ly hx hy = true ↔ vOk lx ly = true ∧ vOk hx hy = true ∧ lx ≤ hx ∧ ly ≤ hy := by simp [boxOk, and_assoc]
theorem boxOk_out1 {lx ly hx hy : Int} (h : vOk lx ly = false) : boxOk lx ly hx hy = false := by simp [boxOk, h]
theorem boxOk_out2 {lx ly hx hy : Int} (h : vOk hx hy = false) : boxOk lx ly hx hy = false := by simp [boxOk, h]
theorem boxOk_out3 {lx ly hx hy : Int} (h : hx < lx) : boxOk lx ly hx hy = false := by
  rw [← Bool.not_eq_true, boxOk_iff]; omega
theorem boxOk_out4 {lx ly hx hy : Int} (h : hy < ly) : boxOk lx ly hx hy = false := by
  rw [← Bool.not_eq_true, boxOk_iff]; omega
theorem boxOk_in {lx ly hx hy : Int} (h1 : vOk lx ly = true) (h2 : vOk hx hy = true) (h3 : lx ≤ hx) (h4 : ly ≤ hy) : boxOk lx ly hx hy = true := boxOk_iff.2 ⟨h1, h2, h3, h4⟩
theorem boxOk_bd {lx ly hx hy : Int} (h : boxOk lx ly hx hy = true) : -1000000 ≤ lx ∧ lx ≤ hx ∧ hx ≤ 1000000 ∧ -1000000 ≤ ly ∧ ly ≤ hy ∧ hy ≤ 1000000 := by
  obtain ⟨h1, h2, h3, h4⟩ := boxOk_iff.1 h
  have := vOk_iff.1 h1
  have := vOk_iff.1 h2
  omega
/-- The nearest number between two. -/
def near (c lo hi : Int) : Int := if c < lo then lo else if hi < c then hi else c
theorem near_cases {lo hi : Int} (h : lo ≤ hi) (c : Int) : (c < lo ∧ c ≤ hi ∧ near c lo hi = lo) ∨ (hi < c ∧ lo ≤ c ∧ near c lo hi = hi) ∨ (lo ≤ c ∧ c ≤ hi ∧ near c lo hi = c) := by
  unfold near
  by_cases h1 : c < lo
  · exact Or.inl ⟨h1, by omega, by rw [if_pos h1]⟩
  · by_cases h2 : hi < c
    · exact Or.inr (Or.inl ⟨h2, by omega, by rw [if_neg h1, if_pos h2]⟩)
    · exact Or.inr (Or.inr ⟨by omega, by omega, by rw [if_neg h1, if_neg h2]⟩)
theorem near_in {lo hi : Int} (h : lo ≤ hi) (c : Int) : lo ≤ near c lo hi ∧ near c lo hi ≤ hi := by
  rcases near_cases h c with ⟨a, b, e⟩ | ⟨a, b, e⟩ | ⟨a, b, e⟩ <;> omega
theorem near_eq_iff {lo hi c : Int} (h : lo ≤ hi) : near c lo hi = c ↔ lo ≤ c ∧ c ≤ hi := by
  rcases near_cases h c with ⟨a, b, e⟩ | ⟨a, b, e⟩ | ⟨a, b, e⟩ <;> omega
def hasB (lx ly hx hy x y : Int) : Bool := boxOk lx ly hx hy && vOk x y && inB x lx hx && inB y ly hy
theorem hasB_iff {lx ly hx hy x y : Int} : hasB lx ly hx hy x y = true ↔ boxOk lx ly hx hy = true ∧ vOk x y = true ∧ lx ≤ x ∧ x ≤ hx ∧ ly ≤ y ∧ y ≤ hy := by simp [hasB, inB, and_assoc]
theorem hasB_out1 {lx ly hx hy x y : Int} (h : boxOk lx ly hx hy = false) : hasB lx ly hx hy x y = false := by simp [hasB, h]
theorem hasB_out2 {lx ly hx hy x y : Int} (h : vOk x y = false) : hasB lx ly hx hy x y = false := by simp [hasB, h]
def hasI (lx ly hx hy x y : Int) : Bool := inB x lx hx && inB y ly hy
theorem hasI_out {lx ly hx hy x y : Int} (h : inB x lx hx = false) : hasI lx ly hx hy x y = false := by simp [hasI, h]
theorem hasI_in {lx ly hx hy x y : Int} (h : inB x lx hx = true) : hasI lx ly hx hy x y = inB y ly hy := by simp [hasI, h]
theorem hasB_in {lx ly hx hy x y : Int} (h : boxOk lx ly hx hy = true) (h' : vOk x y = true) : hasB lx ly hx hy x y = hasI lx ly hx hy x y := by simp [hasB, hasI, h, h']
def mx (a b : Int) : Int := if a < b then b else a
def mn (a b : Int) : Int := if b < a then b else a
theorem mx_cases (a b : Int) : (a < b ∧ mx a b = b) ∨ (b ≤ a ∧ mx a b = a) := by
  unfold mx
  by_cases h : a < b
  · exact Or.inl ⟨h, by rw [if_pos h]⟩
  · exact Or.inr ⟨by omega, by rw [if_neg h]⟩
theorem mn_cases (a b : Int) : (b < a ∧ mn a b = b) ∨ (a ≤ b ∧ mn a b = a) := by
  unfold mn
  by_cases h : b < a
  · exact Or.inl ⟨h, by rw [if_pos h]⟩
  · exact Or.inr ⟨by omega, by rw [if_neg h]⟩
def meetI (ax ay aX aY bx bq bX bY : Int) : Bool := boxOk (mx ax bx) (mx ay bq) (mn aX bX) (mn aY bY)
def meetB (ax ay aX aY bx bq bX bY : Int) : Bool := boxOk ax ay aX aY && boxOk bx bq bX bY && meetI ax ay aX aY bx bq bX bY
theorem meetB_out1 {ax ay aX aY bx bq bX bY : Int} (h : boxOk ax ay aX aY = false) : meetB ax ay aX aY bx bq bX bY = false := by simp [meetB, h]
theorem meetB_out2 {ax ay aX aY bx bq bX bY : Int} (h : boxOk bx bq bX bY = false) : meetB ax ay aX aY bx bq bX bY = false := by simp [meetB, h]
theorem meetB_in {ax ay aX aY bx bq bX bY : Int} (h : boxOk ax ay aX aY = true) (h' : boxOk bx bq bX bY = true) : meetB ax ay aX aY bx bq bX bY = meetI ax ay aX aY bx bq bX bY := by simp [meetB, h, h']
theorem meetB_iff {ax ay aX aY bx bq bX bY : Int} : meetB ax ay aX aY bx bq bX bY = true ↔ boxOk ax ay aX aY = true ∧ boxOk bx bq bX bY = true ∧ meetI ax ay aX aY bx bq bX bY = true := by simp [meetB, and_assoc]
def nearB (lx ly hx hy x y : Int) : Bool := boxOk lx ly hx hy && vOk x y
theorem nearB_iff {lx ly hx hy x y : Int} : nearB lx ly hx hy x y = true ↔ boxOk lx ly hx hy = true ∧ vOk x y = true := by simp [nearB]
theorem nearB_out1 {lx ly hx hy x y : Int} (h : boxOk lx ly hx hy = false) : nearB lx ly hx hy x y = false := by simp [nearB, h]
theorem nearB_out2 {lx ly hx hy x y : Int} (h : vOk x y = false) : nearB lx ly hx hy x y = false := by simp [nearB, h]
theorem nearB_in {lx ly hx hy x y : Int} (h : boxOk lx ly hx hy = true) (h' : vOk x y = true) : nearB lx ly hx hy x y = true := by simp [nearB, h, h']
/-- The square of the distance. -/
def dist (x y u v : Int) : Int := (x - u) * (x - u) + (y - v) * (y - v)
def touchI (lx ly hx hy x y r : Int) : Bool := decide (dist x y (near x lx hx) (near y ly hy) ≤ r * r)
def touchB (lx ly hx hy x y r : Int) : Bool := boxOk lx ly hx hy && vOk x y && inB r 0 1000000 && touchI lx ly hx hy x y r
theorem touchB_out1 {lx ly hx hy x y r : Int} (h : boxOk lx ly hx hy = false) : touchB lx ly hx hy x y r = false := by simp [touchB, h]
theorem touchB_out2 {lx ly hx hy x y r : Int} (h : vOk x y = false) : touchB lx ly hx hy x y r = false := by simp [touchB, h]
theorem touchB_out3 {lx ly hx hy x y r : Int} (h : inB r 0 1000000 = false) : touchB lx ly hx hy x y r = false := by simp [touchB, h]
theorem touchB_in {lx ly hx hy x y r : Int} (h : boxOk lx ly hx hy = true) (h' : vOk x y = true) (h'' : inB r 0 1000000 = true) : touchB lx ly hx hy x y r = touchI lx ly hx hy x y r := by simp [touchB, h, h', h'']
theorem touchB_iff {lx ly hx hy x y r : Int} : touchB lx ly hx hy x y r = true ↔ boxOk lx ly hx hy = true ∧ vOk x y = true ∧ 0 ≤ r ∧ r ≤ 1000000 ∧ dist x y (near x lx hx) (near y ly hy) ≤ r * r := by simp [touchB, touchI, inB, and_assoc]
/-- Coordinates of two points in range: differences and their squares. -/
theorem dd_bd {a b : Int} (h1 : -1000000 ≤ a) (h2 : a ≤ 1000000) (h3 : -1000000 ≤ b) (h4 : b ≤ 1000000) : 0 ≤ (a - b) * (a - b) ∧ (a - b) * (a - b) ≤ 4000000000000 := by
  have := abs_mul_le (A := 2000000) (B := 2000000) (a := a - b) (b := a - b) (by omega) (by omega) (by omega) (by omega)
  have h := sq_nonneg (a - b)
  omega
theorem sq_le_sq {a b : Int} (h : a.natAbs ≤ b.natAbs) : a * a ≤ b * b := by
  rw [← Int.natAbs_mul_self' a, ← Int.natAbs_mul_self' b]
  exact Int.mul_le_mul (by omega) (by omega) (by omega) (by omega)

/-! ## The laws -/
/-- No number between lo and hi is nearer than 'near'. -/
theorem near_least {lo hi c z : Int} (h : lo ≤ hi) (h1 : lo ≤ z) (h2 : z ≤ hi) : (near c lo hi - c) * (near c lo hi - c) ≤ (z - c) * (z - c) := by
  apply sq_le_sq
  rcases near_cases h c with ⟨a, b, e⟩ | ⟨a, b, e⟩ | ⟨a, b, e⟩ <;> omega
theorem dist_near_least {lx ly hx hy x y u v : Int} (h : boxOk lx ly hx hy = true) (h1 : lx ≤ u) (h2 : u ≤ hx) (h3 : ly ≤ v) (h4 : v ≤ hy) : dist (near x lx hx) (near y ly hy) x y ≤ dist u v x y := by
  obtain ⟨_, b2, _, _, b5, _⟩ := boxOk_bd h
  have := near_least (c := x) b2 h1 h2
  have := near_least (c := y) b5 h3 h4
  unfold dist; omega
theorem near_ok {lx ly hx hy : Int} (h : boxOk lx ly hx hy = true) (x y : Int) : vOk (near x lx hx) (near y ly hy) = true ∧ hasB lx ly hx hy (near x lx hx) (near y ly hy) = true := by
  obtain ⟨b1, b2, b3, b4, b5, b6⟩ := boxOk_bd h
  have h1 := near_in b2 x
  have h2 := near_in b5 y
  have h3 : vOk (near x lx hx) (near y ly hy) = true := vOk_iff.2 (by omega)
  exact ⟨h3, hasB_iff.2 ⟨h, h3, by omega, by omega, by omega, by omega⟩⟩
theorem near_twice {lo hi : Int} (h : lo ≤ hi) (c : Int) : near (near c lo hi) lo hi = near c lo hi := (near_eq_iff h).2 (near_in h c)
theorem has_iff_near {lx ly hx hy x y : Int} (h : boxOk lx ly hx hy = true) (hv : vOk x y = true) : hasB lx ly hx hy x y = true ↔ near x lx hx = x ∧ near y ly hy = y := by
  obtain ⟨b1, b2, b3, b4, b5, b6⟩ := boxOk_bd h
  rw [hasB_iff, near_eq_iff b2, near_eq_iff b5]
  simp only [h, hv, true_and, and_assoc]
theorem meetI_comm (ax ay aX aY bx bq bX bY : Int) : mx bx ax = mx ax bx ∧ mx bq ay = mx ay bq ∧ mn bX aX = mn aX bX ∧ mn bY aY = mn aY bY := by
  refine ⟨?_, ?_, ?_, ?_⟩
  · rcases mx_cases ax bx with ⟨a, b⟩ | ⟨a, b⟩ <;> rcases mx_cases bx ax with ⟨c, d⟩ | ⟨c, d⟩ <;> omega
  · rcases mx_cases ay bq with ⟨a, b⟩ | ⟨a, b⟩ <;> rcases mx_cases bq ay with ⟨c, d⟩ | ⟨c, d⟩ <;> omega
  · rcases mn_cases aX bX with ⟨a, b⟩ | ⟨a, b⟩ <;> rcases mn_cases bX aX with ⟨c, d⟩ | ⟨c, d⟩ <;> omega
  · rcases mn_cases aY bY with ⟨a, b⟩ | ⟨a, b⟩ <;> rcases mn_cases bY aY with ⟨c, d⟩ | ⟨c, d⟩ <;> omega
theorem meetB_comm (ax ay aX aY bx bq bX bY : Int) : meetB bx bq bX bY ax ay aX aY = meetB ax ay aX aY bx bq bX bY := by
  obtain ⟨e1, e2, e3, e4⟩ := meetI_comm ax ay aX aY bx bq bX bY
  unfold meetB meetI
  rw [e1, e2, e3, e4, Bool.and_comm (boxOk bx bq bX bY)]
theorem mx_spec (a b : Int) : a ≤ mx a b ∧ b ≤ mx a b ∧ (mx a b = a ∨ mx a b = b) := by
  rcases mx_cases a b with ⟨h, e⟩ | ⟨h, e⟩ <;> rw [e] <;> omega
theorem mn_spec (a b : Int) : mn a b ≤ a ∧ mn a b ≤ b ∧ (mn a b = a ∨ mn a b = b) := by
  rcases mn_cases a b with ⟨h, e⟩ | ⟨h, e⟩ <;> rw [e] <;> omega
theorem meet_has {ax ay aX aY bx bq bX bY : Int} (h : meetB ax ay aX aY bx bq bX bY = true) :
    hasB ax ay aX aY (mx ax bx) (mx ay bq) = true ∧ hasB bx bq bX bY (mx ax bx) (mx ay bq) = true ∧ hasB ax ay aX aY (mn aX bX) (mn aY bY) = true ∧ hasB bx bq bX bY (mn aX bX) (mn aY bY) = true := by
  obtain ⟨h1, h2, h3⟩ := meetB_iff.1 h
  unfold meetI at h3
  obtain ⟨v1, v2, _, _⟩ := boxOk_iff.1 h3
  obtain ⟨c1, c2, c3, c4, c5, c6⟩ := boxOk_bd h3
  have m1 := mx_spec ax bx
  have m2 := mx_spec ay bq
  have m3 := mn_spec aX bX
  have m4 := mn_spec aY bY
  refine ⟨hasB_iff.2 ⟨h1, v1, ?_⟩, hasB_iff.2 ⟨h2, v1, ?_⟩, hasB_iff.2 ⟨h1, v2, ?_⟩, hasB_iff.2 ⟨h2, v2, ?_⟩⟩ <;> omega
theorem meet_self {lx ly hx hy : Int} (h : boxOk lx ly hx hy = true) : meetB lx ly hx hy lx ly hx hy = true ∧ mx lx lx = lx ∧ mx ly ly = ly ∧ mn hx hx = hx ∧ mn hy hy = hy := by
  have e1 : mx lx lx = lx := by have := mx_spec lx lx; omega
  have e2 : mx ly ly = ly := by have := mx_spec ly ly; omega
  have e3 : mn hx hx = hx := by have := mn_spec hx hx; omega
  have e4 : mn hy hy = hy := by have := mn_spec hy hy; omega
  refine ⟨?_, e1, e2, e3, e4⟩
  rw [meetB_iff, meetI, e1, e2, e3, e4]; exact ⟨h, h, h⟩
theorem meet_none {ax ay aX aY bx bq bX bY : Int} (h : meetB ax ay aX aY bx bq bX bY = false) (h1 : boxOk ax ay aX aY = true) (h2 : boxOk bx bq bX bY = true) :
    hasB ax ay aX aY bx bq = false ∧ hasB ax ay aX aY bX bY = false ∧ hasB bx bq bX bY ax ay = false ∧ hasB bx bq bX bY aX aY = false := by
  rw [meetB_in h1 h2, meetI] at h
  obtain ⟨a1, a2, a3, a4, a5, a6⟩ := boxOk_bd h1
  obtain ⟨b1, b2, b3, b4, b5, b6⟩ := boxOk_bd h2
  have m1 := mx_spec ax bx
  have m2 := mx_spec ay bq
  have m3 := mn_spec aX bX
  have m4 := mn_spec aY bY
  have key : ¬ (mx ax bx ≤ mn aX bX ∧ mx ay bq ≤ mn aY bY) := fun ⟨k1, k2⟩ => by
    have : boxOk (mx ax bx) (mx ay bq) (mn aX bX) (mn aY bY) = true := boxOk_in (vOk_iff.2 (by omega)) (vOk_iff.2 (by omega)) k1 k2
    rw [this] at h; cases h
  refine ⟨?_, ?_, ?_, ?_⟩ <;> (rw [← Bool.not_eq_true, hasB_iff]; rintro ⟨_, _, k1, k2, k3, k4⟩; exact key ⟨by omega, by omega⟩)
theorem dist_comm (x y u v : Int) : dist x y u v = dist u v x y := by
  unfold dist
  have e1 : (x - u) * (x - u) = (u - x) * (u - x) := by rw [← Int.neg_mul_neg]; congr 1 <;> omega
  have e2 : (y - v) * (y - v) = (v - y) * (v - y) := by rw [← Int.neg_mul_neg]; congr 1 <;> omega
  omega
theorem touch_more {lx ly hx hy x y r s : Int} (h : touchB lx ly hx hy x y r = true) (h1 : r ≤ s) (h2 : s ≤ 1000000) : touchB lx ly hx hy x y s = true := by
  obtain ⟨a, b, c, d, e⟩ := touchB_iff.1 h
  have : r * r ≤ s * s := Int.mul_le_mul h1 h1 c (by omega)
  exact touchB_iff.2 ⟨a, b, by omega, h2, by omega⟩
theorem touch_zero {lx ly hx hy x y : Int} (h : boxOk lx ly hx hy = true) (hv : vOk x y = true) : touchB lx ly hx hy x y 0 = hasB lx ly hx hy x y := by
  rw [Bool.eq_iff_iff, touchB_iff, has_iff_near h hv]
  have h1 := sq_nonneg (x - near x lx hx)
  have h2 := sq_nonneg (y - near y ly hy)
  constructor
  · rintro ⟨_, _, _, _, e⟩
    unfold dist at e
    have e1 : (x - near x lx hx) * (x - near x lx hx) = 0 := by omega
    have e2 : (y - near y ly hy) * (y - near y ly hy) = 0 := by omega
    have k1 := Int.mul_eq_zero.1 e1
    have k2 := Int.mul_eq_zero.1 e2
    omega
  · rintro ⟨e1, e2⟩
    refine ⟨h, hv, by omega, by omega, ?_⟩
    rw [e1, e2]; unfold dist; simp
theorem touch_near {lx ly hx hy x y r : Int} (h : hasB lx ly hx hy x y = true) (h0 : 0 ≤ r) (h1 : r ≤ 1000000) : touchB lx ly hx hy x y r = true := by
  obtain ⟨a, b, _⟩ := hasB_iff.1 h
  have := touch_zero a b
  rw [h] at this
  exact touch_more this h0 h1
end Go.Proofs.Ytakmeajdkcojoaa.P
