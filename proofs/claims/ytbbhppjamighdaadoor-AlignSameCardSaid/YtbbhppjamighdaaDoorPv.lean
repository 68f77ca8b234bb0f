/- Plain facts on half units: the opposite, twice a vector, the length. -/
import Derived.Test.YtbbhppjamighdaaDoorVue
namespace Go.Proofs.YtbbhppjamighdaaDoor
set_option linter.unusedSimpArgs false
set_option linter.unusedVariables false
open Go.RowKit

theorem sat_ng (v m : Int) (h : 0 ≤ m) : sat (-v) m = -sat v m := by unfold sat; (repeat' split) <;> omega
theorem nrn_neg (v : Int) : nrn (-v) = nrn v := by unfold nrn; rw [Int.natAbs_neg]
theorem nrc_neg (v : Int) : nrc (-v) = nrc v := by
  unfold nrc
  by_cases h : v = 0
  · rw [if_pos h, if_pos (by omega)]
  · rw [if_neg h, if_neg (by omega), nrn_neg]
theorem ucnt_neg (x y z : Int) : ucnt (-x) (-y) (-z) = ucnt x y z := by
  unfold ucnt
  simp only [nrc_neg, Int.neg_eq_zero]
theorem usq_neg (x y z : Int) : usq (-x) (-y) (-z) = usq x y z := by
  unfold usq
  rw [ucnt_neg]
  simp only [Int.neg_mul, Int.mul_neg, Int.neg_neg]
theorem uni_neg (x y z v : Int) (h : 0 < isq (usq x y z)) : uni (-x) (-y) (-z) (-v) = -uni x y z v := by
  unfold uni
  rw [usq_neg, ucnt_neg, Int.neg_mul, Int.neg_mul, rnd_neg _ _ h, sat_ng _ _ (by omega)]

theorem mag_nonneg (v : Int) : 0 ≤ mag v := by unfold mag; split <;> omega
theorem mag_pos (v : Int) (h : v ≠ 0) : 1 ≤ mag v := by unfold mag; split <;> omega
theorem nrn_unique (v n : Int) (hv : v ≠ 0) (h0 : -268435455 ≤ v) (h1 : v ≤ 268435455) (hn : 0 ≤ n) (g0 : 134217728 ≤ mag v * pw n) (g1 : mag v * pw n < 268435456) : nrn v = n := by
  obtain ⟨a0, a1, a2, a3⟩ := nrn_spec v hv h0 h1
  have m0 := mag_nonneg v
  rcases (show nrn v = n ∨ nrn v + 1 ≤ n ∨ n + 1 ≤ nrn v by omega) with h | h | h
  · exact h
  · have e := pw_mono _ _ h
    rw [pw_succ _ a0] at e
    have := Int.mul_le_mul_of_nonneg_left e m0
    rw [Int.mul_left_comm] at this
    omega
  · have e := pw_mono _ _ h
    rw [pw_succ _ hn] at e
    have := Int.mul_le_mul_of_nonneg_left e m0
    rw [Int.mul_left_comm] at this
    omega
theorem nrc_dbl (v : Int) (hv : v ≠ 0) (h0 : -268435455 ≤ 2 * v) (h1 : 2 * v ≤ 268435455) : nrc (2 * v) = nrc v - 1 ∧ 1 ≤ nrc v := by
  unfold nrc
  rw [if_neg hv, if_neg (by omega)]
  obtain ⟨a0, a1, a2, a3⟩ := nrn_spec (2 * v) (by omega) h0 h1
  have em : mag (2 * v) = 2 * mag v := by unfold mag; split <;> split <;> omega
  have e : nrn v = nrn (2 * v) + 1 := by
    rw [em, Int.mul_comm 2 (mag v), Int.mul_assoc, ← pw_succ _ a0] at a2 a3
    exact nrn_unique v _ hv (by omega) (by omega) (by omega) a2 a3
  omega
theorem ucnt_dbl (x y z : Int) (h : ¬ (x = 0 ∧ y = 0 ∧ z = 0)) (hx0 : -268435455 ≤ 2 * x) (hx1 : 2 * x ≤ 268435455) (hy0 : -268435455 ≤ 2 * y) (hy1 : 2 * y ≤ 268435455) (hz0 : -268435455 ≤ 2 * z) (hz1 : 2 * z ≤ 268435455) :
    ucnt (2 * x) (2 * y) (2 * z) = ucnt x y z - 1 ∧ 1 ≤ ucnt x y z := by
  have ax := fun (e : x ≠ 0) => nrc_dbl x e hx0 hx1
  have ay := fun (e : y ≠ 0) => nrc_dbl y e hy0 hy1
  have az := fun (e : z ≠ 0) => nrc_dbl z e hz0 hz1
  have bx := fun (e : x ≠ 0) => nrc_in x e (by omega) (by omega)
  have by' := fun (e : y ≠ 0) => nrc_in y e (by omega) (by omega)
  have bz := fun (e : z ≠ 0) => nrc_in z e (by omega) (by omega)
  unfold ucnt
  dsimp only
  by_cases cx : x = 0 <;> by_cases cy : y = 0 <;> by_cases cz : z = 0
  · exact absurd ⟨cx, cy, cz⟩ h
  · obtain ⟨az0, az1⟩ := az cz
    obtain ⟨bz0, bz1, _⟩ := bz cz
    rw [if_pos (show 2 * x = 0 by omega), if_pos (show 2 * y = 0 by omega), if_neg (show ¬ 2 * z = 0 by omega), if_pos cx, if_pos cy, if_neg cz]; omega
  · obtain ⟨ay0, ay1⟩ := ay cy
    obtain ⟨by0, by1, _⟩ := by' cy
    rw [if_pos (show 2 * x = 0 by omega), if_neg (show ¬ 2 * y = 0 by omega), if_pos (show 2 * z = 0 by omega), if_pos cx, if_neg cy, if_pos cz]; omega
  · obtain ⟨ay0, ay1⟩ := ay cy
    obtain ⟨by0, by1, _⟩ := by' cy
    obtain ⟨az0, az1⟩ := az cz
    obtain ⟨bz0, bz1, _⟩ := bz cz
    rw [if_pos (show 2 * x = 0 by omega), if_neg (show ¬ 2 * y = 0 by omega), if_neg (show ¬ 2 * z = 0 by omega), if_pos cx, if_neg cy, if_neg cz]; omega
  · obtain ⟨ax0, ax1⟩ := ax cx
    obtain ⟨bx0, bx1, _⟩ := bx cx
    rw [if_neg (show ¬ 2 * x = 0 by omega), if_pos (show 2 * y = 0 by omega), if_pos (show 2 * z = 0 by omega), if_neg cx, if_pos cy, if_pos cz]; omega
  · obtain ⟨ax0, ax1⟩ := ax cx
    obtain ⟨bx0, bx1, _⟩ := bx cx
    obtain ⟨az0, az1⟩ := az cz
    obtain ⟨bz0, bz1, _⟩ := bz cz
    rw [if_neg (show ¬ 2 * x = 0 by omega), if_pos (show 2 * y = 0 by omega), if_neg (show ¬ 2 * z = 0 by omega), if_neg cx, if_pos cy, if_neg cz]; omega
  · obtain ⟨ax0, ax1⟩ := ax cx
    obtain ⟨bx0, bx1, _⟩ := bx cx
    obtain ⟨ay0, ay1⟩ := ay cy
    obtain ⟨by0, by1, _⟩ := by' cy
    rw [if_neg (show ¬ 2 * x = 0 by omega), if_neg (show ¬ 2 * y = 0 by omega), if_pos (show 2 * z = 0 by omega), if_neg cx, if_neg cy, if_pos cz]; omega
  · obtain ⟨ax0, ax1⟩ := ax cx
    obtain ⟨bx0, bx1, _⟩ := bx cx
    obtain ⟨ay0, ay1⟩ := ay cy
    obtain ⟨by0, by1, _⟩ := by' cy
    obtain ⟨az0, az1⟩ := az cz
    obtain ⟨bz0, bz1, _⟩ := bz cz
    rw [if_neg (show ¬ 2 * x = 0 by omega), if_neg (show ¬ 2 * y = 0 by omega), if_neg (show ¬ 2 * z = 0 by omega), if_neg cx, if_neg cy, if_neg cz]; omega
theorem dbl_pw (v E : Int) (h : 1 ≤ E) : 2 * v * pw (E - 1) = v * pw E := by
  have e := pw_succ (E - 1) (by omega)
  rw [show E - 1 + 1 = E by omega] at e
  rw [e, Int.mul_comm 2 v, Int.mul_assoc]
theorem uni_dbl (x y z v : Int) (h : ¬ (x = 0 ∧ y = 0 ∧ z = 0)) (hx0 : -268435455 ≤ 2 * x) (hx1 : 2 * x ≤ 268435455) (hy0 : -268435455 ≤ 2 * y) (hy1 : 2 * y ≤ 268435455) (hz0 : -268435455 ≤ 2 * z) (hz1 : 2 * z ≤ 268435455) :
    uni (2 * x) (2 * y) (2 * z) (2 * v) = uni x y z v := by
  obtain ⟨e1, e2⟩ := ucnt_dbl x y z h hx0 hx1 hy0 hy1 hz0 hz1
  unfold uni usq
  rw [e1, dbl_pw _ _ e2, dbl_pw _ _ e2, dbl_pw _ _ e2, dbl_pw _ _ e2]

/-- A vector that is not zero: what its count of places is. -/
theorem ucnt_spec (x y z : Int) (h : ¬ (x = 0 ∧ y = 0 ∧ z = 0)) (hx0 : -268435455 ≤ x) (hx1 : x ≤ 268435455) (hy0 : -268435455 ≤ y) (hy1 : y ≤ 268435455) (hz0 : -268435455 ≤ z) (hz1 : z ≤ 268435455) :
    (x = 0 ∨ ucnt x y z ≤ nrc x) ∧ (y = 0 ∨ ucnt x y z ≤ nrc y) ∧ (z = 0 ∨ ucnt x y z ≤ nrc z) ∧ (x ≠ 0 ∧ ucnt x y z = nrc x ∨ y ≠ 0 ∧ ucnt x y z = nrc y ∨ z ≠ 0 ∧ ucnt x y z = nrc z) := by
  have bx := fun (e : x ≠ 0) => nrc_in x e hx0 hx1
  have by' := fun (e : y ≠ 0) => nrc_in y e hy0 hy1
  have bz := fun (e : z ≠ 0) => nrc_in z e hz0 hz1
  unfold ucnt
  dsimp only
  by_cases cx : x = 0 <;> by_cases cy : y = 0 <;> by_cases cz : z = 0
  · exact absurd ⟨cx, cy, cz⟩ h
  · obtain ⟨bz0, bz1, _⟩ := bz cz
    rw [if_pos cx, if_pos cy, if_neg cz]; omega
  · obtain ⟨by0, by1, _⟩ := by' cy
    rw [if_pos cx, if_neg cy, if_pos cz]; omega
  · obtain ⟨by0, by1, _⟩ := by' cy
    obtain ⟨bz0, bz1, _⟩ := bz cz
    rw [if_pos cx, if_neg cy, if_neg cz]; omega
  · obtain ⟨bx0, bx1, _⟩ := bx cx
    rw [if_neg cx, if_pos cy, if_pos cz]; omega
  · obtain ⟨bx0, bx1, _⟩ := bx cx
    obtain ⟨bz0, bz1, _⟩ := bz cz
    rw [if_neg cx, if_pos cy, if_neg cz]; omega
  · obtain ⟨bx0, bx1, _⟩ := bx cx
    obtain ⟨by0, by1, _⟩ := by' cy
    rw [if_neg cx, if_neg cy, if_pos cz]; omega
  · obtain ⟨bx0, bx1, _⟩ := bx cx
    obtain ⟨by0, by1, _⟩ := by' cy
    obtain ⟨bz0, bz1, _⟩ := bz cz
    rw [if_neg cx, if_neg cy, if_neg cz]; omega

/-- The magnitude of a component is at most the root of the sum of the squares. -/
theorem comp_le (V N : Int) (h : V * V ≤ N) : -isq N ≤ V ∧ V ≤ isq N := by
  rcases Int.le_total 0 V with hv | hv
  · have := isq_ge N V hv h
    omega
  · have := isq_ge N (-V) (by omega) (by rw [Int.neg_mul_neg]; exact h)
    omega

/-- The length of a rounded half unit: r is the root, x y z the shifted vector, p q s its half unit. -/
theorem half_len (x y z r p q s : Int) (hr : 134217728 ≤ r) (n0 : r * r ≤ x * x + y * y + z * z) (n1 : x * x + y * y + z * z < (r + 1) * (r + 1))
    (p0 : 2 * (x * 134217728) - r ≤ 2 * (p * r)) (p1 : 2 * (p * r) ≤ 2 * (x * 134217728) + r)
    (q0 : 2 * (y * 134217728) - r ≤ 2 * (q * r)) (q1 : 2 * (q * r) ≤ 2 * (y * 134217728) + r)
    (s0 : 2 * (z * 134217728) - r ≤ 2 * (s * r)) (s1 : 2 * (s * r) ≤ 2 * (z * 134217728) + r) :
    18014397972611076 ≤ p * p + q * q + s * s ∧ p * p + q * q + s * s ≤ 18014399046352900 := by
  obtain ⟨dp, hp⟩ : ∃ dp, p * r = x * 134217728 + dp := ⟨p * r - x * 134217728, by omega⟩
  obtain ⟨dq, hq⟩ : ∃ dq, q * r = y * 134217728 + dq := ⟨q * r - y * 134217728, by omega⟩
  obtain ⟨ds, hs⟩ : ∃ ds, s * r = z * 134217728 + ds := ⟨s * r - z * 134217728, by omega⟩
  have e : r * r * (p * p + q * q + s * s) = 18014398509481984 * (x * x + y * y + z * z) + 268435456 * (x * dp + y * dq + z * ds) + (dp * dp + dq * dq + ds * ds) := by
    have : r * r * (p * p + q * q + s * s) = (p * r) * (p * r) + (q * r) * (q * r) + (s * r) * (s * r) := by grind
    rw [this, hp, hq, hs]
    grind
  have sq4 : ∀ d : Int, -r ≤ 2 * d → 2 * d ≤ r → 4 * (d * d) ≤ r * r := fun d a b => by
    have h : (2 * d) * (2 * d) ≤ r * r := by
      rcases Int.le_total 0 d with hd | hd
      · exact sq_le (2 * d) r (by omega) (by omega)
      · have := sq_le (-(2 * d)) r (by omega) (by omega)
        rw [Int.neg_mul_neg] at this
        exact this
    have e2 : (2 * d) * (2 * d) = 4 * (d * d) := by grind
    omega
  have g0 := sq4 dp (by omega) (by omega)
  have g1 := sq4 dq (by omega) (by omega)
  have g2 := sq4 ds (by omega) (by omega)
  have L : (x * dp + y * dq + z * ds) * (x * dp + y * dq + z * ds) ≤ (x * x + y * y + z * z) * (dp * dp + dq * dq + ds * ds) := by
    have i1 : (x * x + y * y + z * z) * (dp * dp + dq * dq + ds * ds) = (x * dp + y * dq + z * ds) * (x * dp + y * dq + z * ds) + (x * dq - y * dp) * (x * dq - y * dp) + (x * ds - z * dp) * (x * ds - z * dp) + (y * ds - z * dq) * (y * ds - z * dq) := by grind
    have := sqn (x * dq - y * dp)
    have := sqn (x * ds - z * dp)
    have := sqn (y * ds - z * dq)
    omega
  have nn : 0 ≤ x * x + y * y + z * z := by have := sqn x; have := sqn y; have := sqn z; omega
  have qq : 0 ≤ dp * dp + dq * dq + ds * ds := by have := sqn dp; have := sqn dq; have := sqn ds; omega
  have rr : 134217728 * r ≤ r * r := Int.mul_le_mul_of_nonneg_right hr (by omega)
  have ex : (r + 1) * (r + 1) = r * r + 2 * r + 1 := by grind
  generalize x * x + y * y + z * z = N at *
  generalize x * dp + y * dq + z * ds = D at *
  have q4 : 4 * (dp * dp + dq * dq + ds * ds) ≤ 3 * (r * r) := by omega
  generalize dp * dp + dq * dq + ds * ds = Q at *
  generalize p * p + q * q + s * s = S at *
  clear g0 g1 g2 hp hq hs sq4 p0 p1 q0 q1 s0 s1
  have b1 : N * (4 * Q) ≤ N * (3 * (r * r)) := Int.mul_le_mul_of_nonneg_left q4 nn
  have b2 : N * (r * r) ≤ ((r + 1) * (r + 1)) * (r * r) := Int.mul_le_mul_of_nonneg_right (by omega) (by omega)
  have b3 : (r + 1) * (r + 1) * (r * r) = (r * r + r) * (r * r + r) := by grind
  rw [b3] at b2
  rw [Int.mul_left_comm, Int.mul_left_comm N 3] at b1
  have b4 : (8 * D) * (8 * D) = 64 * (D * D) := by grind
  have b5 : (8 * D) * (8 * D) ≤ 48 * ((r * r + r) * (r * r + r)) := by omega
  have key : ∀ a T : Int, 0 ≤ T → a * a ≤ 48 * (T * T) → a ≤ 7 * T := fun a T hT h => by
    rcases Int.lt_or_le (7 * T) a with c | c
    · exfalso
      have h2 := sq_le (7 * T + 1) a (by omega) (by omega)
      have h3 : (7 * T + 1) * (7 * T + 1) = 49 * (T * T) + 14 * T + 1 := by grind
      have := sqn T
      omega
    · exact c
  have k1 := key (8 * D) (r * r + r) (by omega) b5
  have k2 := key (-(8 * D)) (r * r + r) (by omega) (by rw [Int.neg_mul_neg]; exact b5)
  clear b1 b2 b3 b4 b5 L key
  generalize hR : r * r = RR at *
  constructor
  · rcases Int.lt_or_le S 18014397972611076 with c | c
    · exfalso
      have h2 : RR * S ≤ RR * 18014397972611075 := Int.mul_le_mul_of_nonneg_left (by omega) (by omega)
      omega
    · exact c
  · rcases Int.lt_or_le 18014399046352900 S with c | c
    · exfalso
      have h2 : RR * 18014399046352901 ≤ RR * S := Int.mul_le_mul_of_nonneg_left (by omega) (by omega)
      omega
    · exact c
end Go.Proofs.YtbbhppjamighdaaDoor
