/- Plain laws of rounding: rnd p q is the integer nearest to p / q, halves away from zero. No Go in it. -/
import Derived.Test.YtbbhppjamighdaaDoorPa
namespace Go.Proofs.YtbbhppjamighdaaDoor
set_option linter.unusedSimpArgs false
set_option linter.unusedVariables false
open Go.RowKit

theorem rndN_spec (p q : Int) (hp : 0 ≤ p) (hq : 0 < q) : 2 * p - q < 2 * (rndN p q * q) ∧ 2 * (rndN p q * q) ≤ 2 * p + q ∧ 0 ≤ rndN p q := by
  have h1 := Int.emod_nonneg p (Int.ne_of_gt hq)
  have h2 := Int.emod_lt_of_pos p hq
  have h3 := Int.mul_ediv_add_emod p q
  have h4 : 0 ≤ p / q := Int.ediv_nonneg hp (Int.le_of_lt hq)
  have h5 : q * (p / q) = p / q * q := Int.mul_comm _ _
  unfold rndN
  split
  · have h6 : (p / q + 1) * q = p / q * q + q := by rw [Int.add_mul, Int.one_mul]
    refine ⟨?_, ?_, ?_⟩ <;> omega
  · refine ⟨?_, ?_, ?_⟩ <;> omega

/-- Nearest, halves away from zero. -/
theorem rnd_near (p q : Int) (hq : 0 < q) : 2 * p - q ≤ 2 * (rnd p q * q) ∧ 2 * (rnd p q * q) ≤ 2 * p + q := by
  unfold rnd
  split
  · have h := rndN_spec (-p) q (by omega) hq
    have h6 : -rndN (-p) q * q = -(rndN (-p) q * q) := Int.neg_mul _ _
    refine ⟨?_, ?_⟩ <;> omega
  · have h := rndN_spec p q (by omega) hq
    refine ⟨?_, ?_⟩ <;> omega
theorem rnd_nonneg (p q : Int) (hp : 0 ≤ p) (hq : 0 < q) : 0 ≤ rnd p q := by
  unfold rnd; rw [if_neg (by omega)]; exact (rndN_spec p q hp hq).2.2
theorem rnd_nonpos (p q : Int) (hp : p ≤ 0) (hq : 0 < q) : rnd p q ≤ 0 := by
  unfold rnd
  split
  · have := (rndN_spec (-p) q (by omega) hq).2.2; omega
  · have e : p = 0 := by omega
    subst e
    unfold rndN
    simp; omega
theorem rnd_zero (q : Int) (hq : 0 < q) : rnd 0 q = 0 := by
  have := rnd_nonneg 0 q (by omega) hq
  have := rnd_nonpos 0 q (by omega) hq
  omega
theorem rnd_neg (p q : Int) (hq : 0 < q) : rnd (-p) q = -rnd p q := by
  by_cases h : p < 0
  · unfold rnd; rw [if_neg (by omega), if_pos h]; omega
  · by_cases h0 : p = 0
    · subst h0; have := rnd_zero q hq; simp only [Int.neg_zero]; omega
    · unfold rnd; rw [if_pos (by omega), if_neg h]; simp
/-- Two numbers that are nearest in this sense are one. -/
theorem near_unique (p q a b : Int) (hq : 0 < q) (h1 : 2 * p - q < 2 * (a * q)) (h2 : 2 * (a * q) ≤ 2 * p + q) (h3 : 2 * p - q < 2 * (b * q)) (h4 : 2 * (b * q) ≤ 2 * p + q) : a = b := by
  have l : ∀ x y : Int, 2 * p - q < 2 * (x * q) → 2 * (y * q) ≤ 2 * p + q → y ≤ x := fun x y hx hy => by
    have e : (y - x) * q = y * q - x * q := Int.sub_mul _ _ _
    have g : (y - x) * q < 1 * q := by omega
    have := Int.lt_of_mul_lt_mul_right g (Int.le_of_lt hq)
    omega
  have := l a b h1 h4
  have := l b a h3 h2
  omega
theorem rnd_pos_unique (p q n : Int) (hp : 0 ≤ p) (hq : 0 < q) (h1 : 2 * p - q < 2 * (n * q)) (h2 : 2 * (n * q) ≤ 2 * p + q) : rnd p q = n := by
  have h := rndN_spec p q hp hq
  unfold rnd; rw [if_neg (by omega)]
  exact near_unique p q _ _ hq h.1 h.2.1 h1 h2
theorem rnd_le (p q m : Int) (hq : 0 < q) (h : p ≤ m * q) : rnd p q ≤ m := by
  have h2 := (rnd_near p q hq).2
  have e : (rnd p q - m) * q = rnd p q * q - m * q := Int.sub_mul _ _ _
  have g : (rnd p q - m) * q < 1 * q := by omega
  have := Int.lt_of_mul_lt_mul_right g (Int.le_of_lt hq)
  omega
theorem rnd_ge (p q m : Int) (hq : 0 < q) (h : m * q ≤ p) : m ≤ rnd p q := by
  have h2 := (rnd_near p q hq).1
  have e : (m - rnd p q) * q = m * q - rnd p q * q := Int.sub_mul _ _ _
  have g : (m - rnd p q) * q < 1 * q := by omega
  have := Int.lt_of_mul_lt_mul_right g (Int.le_of_lt hq)
  omega
theorem rnd_mul (n q : Int) (hq : 0 < q) : rnd (n * q) q = n := by
  have := rnd_le (n * q) q n hq (Int.le_refl _)
  have := rnd_ge (n * q) q n hq (Int.le_refl _)
  omega
theorem rnd_one (p : Int) : rnd p 1 = p := by simpa using rnd_mul p 1 (by decide)
theorem rnd_mono (p p' q : Int) (hq : 0 < q) (h : p ≤ p') : rnd p q ≤ rnd p' q := by
  by_cases hp : 0 ≤ p
  · have a := rndN_spec p q hp hq
    have b := rndN_spec p' q (by omega) hq
    unfold rnd; rw [if_neg (by omega), if_neg (by omega)]
    have e : (rndN p q - rndN p' q) * q = rndN p q * q - rndN p' q * q := Int.sub_mul _ _ _
    have g : (rndN p q - rndN p' q) * q < 1 * q := by omega
    have := Int.lt_of_mul_lt_mul_right g (Int.le_of_lt hq)
    omega
  · by_cases hp' : 0 ≤ p'
    · have := rnd_nonpos p q (by omega) hq; have := rnd_nonneg p' q hp' hq; omega
    · have a := rndN_spec (-p) q (by omega) hq
      have b := rndN_spec (-p') q (by omega) hq
      unfold rnd; rw [if_pos (by omega), if_pos (by omega)]
      have e : (rndN (-p') q - rndN (-p) q) * q = rndN (-p') q * q - rndN (-p) q * q := Int.sub_mul _ _ _
      have g : (rndN (-p') q - rndN (-p) q) * q < 1 * q := by omega
      have := Int.lt_of_mul_lt_mul_right g (Int.le_of_lt hq)
      omega
/-- The bounds that a walk wants. -/
theorem rnd_size (p q m : Int) (hq : 1 ≤ q) (hm : 0 ≤ m) (h0 : -m ≤ p) (h1 : p ≤ m) : -m ≤ rnd p q ∧ rnd p q ≤ m := by
  have hmq : m ≤ m * q := by have := Int.mul_le_mul_of_nonneg_left hq hm; omega
  have e : -m * q = -(m * q) := Int.neg_mul _ _
  exact ⟨rnd_ge p q (-m) (by omega) (by omega), rnd_le p q m (by omega) (by omega)⟩
/-- Adding half of the divisor and cutting is rounding. -/
theorem half_eq (v h : Int) (hh : 0 < h) (hv : 0 ≤ v) : (v + h) / (2 * h) = rnd v (2 * h) := by
  refine (rnd_pos_unique v (2 * h) _ hv (by omega) ?_ ?_).symm
  · have h3 := Int.mul_ediv_add_emod (v + h) (2 * h)
    have h2 := Int.emod_lt_of_pos (v + h) (b := 2 * h) (by omega)
    rw [Int.mul_comm] at h3
    omega
  · have h3 := Int.mul_ediv_add_emod (v + h) (2 * h)
    have h1 := Int.emod_nonneg (v + h) (b := 2 * h) (by omega)
    rw [Int.mul_comm] at h3
    omega

/-! ### Powers of 2 -/
def pw (n : Int) : Int := 2 ^ n.toNat
theorem pw_pos (n : Int) : 1 ≤ pw n := by
  unfold pw; have : (0 : Int) < 2 ^ n.toNat := Int.pow_pos (by decide); omega
theorem pw_succ (n : Int) (h : 0 ≤ n) : pw (n + 1) = 2 * pw n := by
  unfold pw; rw [show (n + 1).toNat = n.toNat + 1 from by omega, Int.pow_succ]; omega
theorem pw_mono (n m : Int) (h : n ≤ m) : pw n ≤ pw m := by
  unfold pw
  have h1 : 2 ^ n.toNat ≤ 2 ^ m.toNat := Nat.pow_le_pow_right (by decide) (by omega)
  exact_mod_cast h1
theorem pw_le56 (n : Int) (h : n ≤ 56) : pw n ≤ 72057594037927936 := pw_mono n 56 h
theorem pw_le28 (n : Int) (h : n ≤ 28) : pw n ≤ 268435456 := pw_mono n 28 h
theorem pw_le29 (n : Int) (h : n ≤ 29) : pw n ≤ 536870912 := pw_mono n 29 h
theorem mul_size (a b x y : Int) (hx : 0 ≤ x) (_hy : 0 ≤ y) (h0 : -x ≤ a) (h1 : a ≤ x) (h2 : 0 ≤ b) (h3 : b ≤ y) : -(x * y) ≤ a * b ∧ a * b ≤ x * y := by
  have h4 : a * b ≤ x * b := Int.mul_le_mul_of_nonneg_right h1 h2
  have h5 : x * b ≤ x * y := Int.mul_le_mul_of_nonneg_left h3 hx
  have h6 : -x * b ≤ a * b := Int.mul_le_mul_of_nonneg_right h0 h2
  have h7 : -x * b = -(x * b) := Int.neg_mul _ _
  omega
theorem mul_size' (a b x y : Int) (hx : 0 ≤ x) (hy : 0 ≤ y) (h0 : -x ≤ a) (h1 : a ≤ x) (h2 : -y ≤ b) (h3 : b ≤ y) : -(x * y) ≤ a * b ∧ a * b ≤ x * y := by
  by_cases hb : 0 ≤ b
  · exact mul_size a b x y hx hy h0 h1 hb h3
  · have := mul_size a (-b) x y hx hy h0 h1 (by omega) (by omega)
    have e : a * -b = -(a * b) := Int.mul_neg _ _
    omega
end Go.Proofs.YtbbhppjamighdaaDoor
