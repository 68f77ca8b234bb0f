/- Plain laws on frames: how nearly perpendicular a rounded unit of a rounded cross product is, the rows of a triad, the matrix of a frame times its transpose. No Go in it. -/
import Derived.Test.YtbbhppjamighdaaDoorPv
import Derived.Test.YtbbhppjamighdaaDoorVue
namespace Go.Proofs.YtbbhppjamighdaaDoor
set_option linter.unusedSimpArgs false
set_option linter.unusedVariables false
open Go.RowKit

theorem mag_sqs (v : Int) : mag v * mag v = v * v ∧ 0 ≤ mag v ∧ -mag v ≤ v ∧ v ≤ mag v := by
  unfold mag
  split
  · exact ⟨Int.neg_mul_neg v v, by omega, by omega, by omega⟩
  · exact ⟨rfl, by omega, by omega, by omega⟩
/-- The sum of the sizes of three numbers with a bounded sum of squares. -/
theorem sum_size (x y z : Int) (h : x * x + y * y + z * z ≤ 18014399046352900) : mag x + mag y + mag z ≤ 232471930 := by
  obtain ⟨a, a0, _⟩ := mag_sqs x
  obtain ⟨b, b0, _⟩ := mag_sqs y
  obtain ⟨c, c0, _⟩ := mag_sqs z
  rw [← a, ← b, ← c] at h
  clear a b c
  generalize mag x = p at *
  generalize mag y = q at *
  generalize mag z = r at *
  rcases Int.lt_or_le 232471930 (p + q + r) with g | g
  · exfalso
    have k := sq_le 232471931 (p + q + r) (by omega) (by omega)
    have e : (p + q + r) * (p + q + r) = 3 * (p * p + q * q + r * r) - (p - q) * (p - q) - (q - r) * (q - r) - (p - r) * (p - r) := by grind
    have := sqn (p - q)
    have := sqn (q - r)
    have := sqn (p - r)
    omega
  · exact g
/-- A scalar product with a small vector. -/
theorem dot_small (u v w p q r m : Int) (hm : 0 ≤ m) (p0 : -m ≤ p) (p1 : p ≤ m) (q0 : -m ≤ q) (q1 : q ≤ m) (r0 : -m ≤ r) (r1 : r ≤ m) :
    -(m * (mag u + mag v + mag w)) ≤ u * p + v * q + w * r ∧ u * p + v * q + w * r ≤ m * (mag u + mag v + mag w) := by
  have key : ∀ a b : Int, -m ≤ b → b ≤ m → -(m * mag a) ≤ a * b ∧ a * b ≤ m * mag a := fun a b h0 h1 => by
    have l := mag_sqs a
    have k := mul_size' a b (mag a) m l.2.1 hm l.2.2.1 l.2.2.2 h0 h1
    rw [Int.mul_comm m]; exact k
  have a := key u p p0 p1
  have b := key v q q0 q1
  have c := key w r r0 r1
  rw [Int.mul_add, Int.mul_add]
  omega
/-- The unit of a vector that is nearly perpendicular to u v w. E is the shift, r the root, M a lower bound of the vector's length. -/
theorem perp_unit (u v w x y z p q s E r M K S : Int) (hr : 1 ≤ r) (hE : 0 ≤ E) (hM : 0 ≤ M) (hK : 0 ≤ K) (hEM : E * M ≤ r)
    (p0 : 2 * (x * E * 134217728) - r ≤ 2 * (p * r)) (p1 : 2 * (p * r) ≤ 2 * (x * E * 134217728) + r)
    (q0 : 2 * (y * E * 134217728) - r ≤ 2 * (q * r)) (q1 : 2 * (q * r) ≤ 2 * (y * E * 134217728) + r)
    (s0 : 2 * (z * E * 134217728) - r ≤ 2 * (s * r)) (s1 : 2 * (s * r) ≤ 2 * (z * E * 134217728) + r)
    (hS : mag u + mag v + mag w ≤ S)
    (k0 : -K ≤ 2 * (u * x + v * y + w * z)) (k1 : 2 * (u * x + v * y + w * z) ≤ K) :
    -(134217728 * K + M * S) ≤ 2 * (M * (u * p + v * q + w * s)) ∧ 2 * (M * (u * p + v * q + w * s)) ≤ 134217728 * K + M * S := by
  have d := dot_small u v w (2 * (p * r) - 2 * (x * E * 134217728)) (2 * (q * r) - 2 * (y * E * 134217728)) (2 * (s * r) - 2 * (z * E * 134217728)) r (by omega) (by omega) (by omega) (by omega) (by omega) (by omega) (by omega)
  have e : u * (2 * (p * r) - 2 * (x * E * 134217728)) + v * (2 * (q * r) - 2 * (y * E * 134217728)) + w * (2 * (s * r) - 2 * (z * E * 134217728)) = 2 * (r * (u * p + v * q + w * s)) - 134217728 * (E * (2 * (u * x + v * y + w * z))) := by grind
  rw [e] at d
  have f := mul_size' E (2 * (u * x + v * y + w * z)) E K hE hK (by omega) (by omega) k0 k1
  have g : r * (mag u + mag v + mag w) ≤ r * S := Int.mul_le_mul_of_nonneg_left hS (by omega)
  generalize u * p + v * q + w * s = D at *
  generalize 2 * (u * x + v * y + w * z) = C at *
  -- 2 r D within 2^27 E K + r S
  have h0 : 2 * (r * D) ≤ 134217728 * (E * K) + r * S := by omega
  have h1 : -(134217728 * (E * K) + r * S) ≤ 2 * (r * D) := by omega
  have i0 : M * (2 * (r * D)) ≤ M * (134217728 * (E * K) + r * S) := Int.mul_le_mul_of_nonneg_left h0 hM
  have i1 : M * (-(134217728 * (E * K) + r * S)) ≤ M * (2 * (r * D)) := Int.mul_le_mul_of_nonneg_left h1 hM
  have j : E * M * K ≤ r * K := Int.mul_le_mul_of_nonneg_right hEM hK
  have a1 : M * (2 * (r * D)) = r * (2 * (M * D)) := by grind
  have a2 : M * (134217728 * (E * K) + r * S) = 134217728 * (E * M * K) + r * (M * S) := by grind
  have a3 : M * (-(134217728 * (E * K) + r * S)) = -(M * (134217728 * (E * K) + r * S)) := by grind
  have a4 : r * (134217728 * K + M * S) = 134217728 * (r * K) + r * (M * S) := by grind
  rw [a3, a2, a1] at i1
  rw [a2, a1] at i0
  constructor
  · refine Int.le_of_mul_le_mul_left (a := r) ?_ (by omega)
    rw [Int.mul_neg, a4]; omega
  · refine Int.le_of_mul_le_mul_left (a := r) ?_ (by omega)
    rw [a4]; omega
/-- A rounded cross product is nearly perpendicular to its factors: twice the scalar product with one of them is at most the sum of its sizes. -/
theorem cross_perp (u v w a b c x y z S : Int)
    (x0 : 2 * (v * c - w * b) - 268435456 ≤ 2 * (x * 268435456)) (x1 : 2 * (x * 268435456) ≤ 2 * (v * c - w * b) + 268435456)
    (y0 : 2 * (w * a - u * c) - 268435456 ≤ 2 * (y * 268435456)) (y1 : 2 * (y * 268435456) ≤ 2 * (w * a - u * c) + 268435456)
    (z0 : 2 * (u * b - v * a) - 268435456 ≤ 2 * (z * 268435456)) (z1 : 2 * (z * 268435456) ≤ 2 * (u * b - v * a) + 268435456)
    (hS : mag u + mag v + mag w ≤ S) : -S ≤ 2 * (u * x + v * y + w * z) ∧ 2 * (u * x + v * y + w * z) ≤ S := by
  have d := dot_small u v w (2 * (x * 268435456) - 2 * (v * c - w * b)) (2 * (y * 268435456) - 2 * (w * a - u * c)) (2 * (z * 268435456) - 2 * (u * b - v * a)) 268435456 (by omega) (by omega) (by omega) (by omega) (by omega) (by omega) (by omega)
  have e : u * (2 * (x * 268435456) - 2 * (v * c - w * b)) + v * (2 * (y * 268435456) - 2 * (w * a - u * c)) + w * (2 * (z * 268435456) - 2 * (u * b - v * a)) = 268435456 * (2 * (u * x + v * y + w * z)) := by grind
  rw [e] at d
  omega
/-- The rounded cross product of two long vectors that are nearly perpendicular is long. -/
theorem cross_long (u v w a b c x y z : Int)
    (x0 : 2 * (v * c - w * b) - 268435456 ≤ 2 * (x * 268435456)) (x1 : 2 * (x * 268435456) ≤ 2 * (v * c - w * b) + 268435456)
    (y0 : 2 * (w * a - u * c) - 268435456 ≤ 2 * (y * 268435456)) (y1 : 2 * (y * 268435456) ≤ 2 * (w * a - u * c) + 268435456)
    (z0 : 2 * (u * b - v * a) - 268435456 ≤ 2 * (z * 268435456)) (z1 : 2 * (z * 268435456) ≤ 2 * (u * b - v * a) + 268435456)
    (h1 : 18014397972611076 ≤ u * u + v * v + w * w) (h1' : u * u + v * v + w * w ≤ 18014399046352900) (h2 : 18014397972611076 ≤ a * a + b * b + c * c) (h2' : a * a + b * b + c * c ≤ 18014399046352900)
    (h3 : -4294967296 ≤ u * a + v * b + w * c) (h4 : u * a + v * b + w * c ≤ 4294967296) : 281474976710656 ≤ x * x + y * y + z * z := by
  have L : (v * c - w * b) * (v * c - w * b) + (w * a - u * c) * (w * a - u * c) + (u * b - v * a) * (u * b - v * a) = (u * u + v * v + w * w) * (a * a + b * b + c * c) - (u * a + v * b + w * c) * (u * a + v * b + w * c) := by grind
  have n1 : 18014397972611076 * 18014397972611076 ≤ (u * u + v * v + w * w) * (a * a + b * b + c * c) := Int.mul_le_mul h1 h2 (by omega) (by omega)
  have n2 := mul_size' (u * a + v * b + w * c) (u * a + v * b + w * c) 4294967296 4294967296 (by omega) (by omega) h3 h4 h3 h4
  have n4 := sqn (u * a + v * b + w * c)
  have n3 : (u * u + v * v + w * w) * (a * a + b * b + c * c) ≤ 18014399046352900 * 18014399046352900 := Int.mul_le_mul h1' h2' (by have := sqn a; have := sqn b; have := sqn c; omega) (by omega)
  generalize (u * u + v * v + w * w) * (a * a + b * b + c * c) = P at *
  generalize (u * a + v * b + w * c) * (u * a + v * b + w * c) = Q at *
  clear h1 h1' h2 h2' h3 h4
  generalize v * c - w * b = X at *
  generalize w * a - u * c = Y at *
  generalize u * b - v * a = Z at *
  have sX := sqn X
  have sY := sqn Y
  have sZ := sqn Z
  -- (2^28 x)^2 ≥ X^2 - 2^27 * 2 * |X|, and |X| ≤ 2^55
  have one : ∀ t T : Int, 2 * T - 268435456 ≤ 2 * (t * 268435456) → 2 * (t * 268435456) ≤ 2 * T + 268435456 → T * T ≤ 324518573001240272962791338410000 → T * T - 268435456 * 18014400000000000 ≤ 72057594037927936 * (t * t) := fun t T a0 a1 hT => by
    obtain ⟨m1, m2, m3, m4⟩ := mag_sqs T
    have mT : mag T ≤ 18014400000000000 := by
      rcases Int.lt_or_le 18014400000000000 (mag T) with g | g
      · exfalso
        have := sq_le 18014400000000001 (mag T) (by omega) (by omega)
        omega
      · exact g
    have e : 72057594037927936 * (t * t) = T * T + 2 * (T * (t * 268435456 - T)) + (t * 268435456 - T) * (t * 268435456 - T) := by grind
    have k := mul_size' T (t * 268435456 - T) (mag T) 134217728 m2 (by omega) m3 m4 (by omega) (by omega)
    have := sqn (t * 268435456 - T)
    omega
  have a1 := one x X x0 x1 (by omega)
  have a2 := one y Y y0 y1 (by omega)
  have a3 := one z Z z0 z1 (by omega)
  clear x0 x1 y0 y1 z0 z1 one
  omega
/-- A frame times its transpose: its sizes are those of the transpose times the frame. -/
theorem frob (a b c d e f g h i N : Int) : 
    (a * a + d * d + g * g - N) * (a * a + d * d + g * g - N) + (b * b + e * e + h * h - N) * (b * b + e * e + h * h - N) + (c * c + f * f + i * i - N) * (c * c + f * f + i * i - N) + 2 * ((a * b + d * e + g * h) * (a * b + d * e + g * h)) + 2 * ((a * c + d * f + g * i) * (a * c + d * f + g * i)) + 2 * ((b * c + e * f + h * i) * (b * c + e * f + h * i))
    = (a * a + b * b + c * c - N) * (a * a + b * b + c * c - N) + (d * d + e * e + f * f - N) * (d * d + e * e + f * f - N) + (g * g + h * h + i * i - N) * (g * g + h * h + i * i - N) + 2 * ((a * d + b * e + c * f) * (a * d + b * e + c * f)) + 2 * ((a * g + b * h + c * i) * (a * g + b * h + c * i)) + 2 * ((d * g + e * h + f * i) * (d * g + e * h + f * i)) := by grind
theorem sq_small (t m : Int) (hm : 0 ≤ m) (h : t * t ≤ m * m) : -m ≤ t ∧ t ≤ m := by
  constructor
  · rcases Int.lt_or_le t (-m) with g | g
    · exfalso
      have := sq_le (m + 1) (-t) (by omega) (by omega)
      have e : (m + 1) * (m + 1) = m * m + 2 * m + 1 := by grind
      rw [Int.neg_mul_neg] at this
      omega
    · exact g
  · rcases Int.lt_or_le m t with g | g
    · exfalso
      have := sq_le (m + 1) t (by omega) (by omega)
      have e : (m + 1) * (m + 1) = m * m + 2 * m + 1 := by grind
      omega
    · exact g
/-- The transpose of a frame times the frame is near a multiple of the identity. -/
theorem same_near (a b c d e f g h i : Int) (a0 : 18014397972611076 ≤ a * a + b * b + c * c) (a1 : a * a + b * b + c * c ≤ 18014399046352900) (d0 : 18014397972611076 ≤ d * d + e * e + f * f) (d1 : d * d + e * e + f * f ≤ 18014399046352900)
    (g0 : 18014397972611076 ≤ g * g + h * h + i * i) (g1 : g * g + h * h + i * i ≤ 18014399046352900)
    (p0 : -4294967296 ≤ a * d + b * e + c * f) (p1 : a * d + b * e + c * f ≤ 4294967296) (q0 : -4294967296 ≤ a * g + b * h + c * i) (q1 : a * g + b * h + c * i ≤ 4294967296) (r0 : -4294967296 ≤ d * g + e * h + f * i) (r1 : d * g + e * h + f * i ≤ 4294967296) :
    (-10737418240 ≤ a * a + d * d + g * g - 18014398509481984 ∧ a * a + d * d + g * g - 18014398509481984 ≤ 10737418240) ∧ (-10737418240 ≤ b * b + e * e + h * h - 18014398509481984 ∧ b * b + e * e + h * h - 18014398509481984 ≤ 10737418240) ∧ (-10737418240 ≤ c * c + f * f + i * i - 18014398509481984 ∧ c * c + f * f + i * i - 18014398509481984 ≤ 10737418240) ∧
    (-10737418240 ≤ a * b + d * e + g * h ∧ a * b + d * e + g * h ≤ 10737418240) ∧ (-10737418240 ≤ a * c + d * f + g * i ∧ a * c + d * f + g * i ≤ 10737418240) ∧ (-10737418240 ≤ b * c + e * f + h * i ∧ b * c + e * f + h * i ≤ 10737418240) := by
  have key := frob a b c d e f g h i 18014398509481984
  have s1 := mul_size' (a * a + b * b + c * c - 18014398509481984) (a * a + b * b + c * c - 18014398509481984) 536870916 536870916 (by omega) (by omega) (by omega) (by omega) (by omega) (by omega)
  have s2 := mul_size' (d * d + e * e + f * f - 18014398509481984) (d * d + e * e + f * f - 18014398509481984) 536870916 536870916 (by omega) (by omega) (by omega) (by omega) (by omega) (by omega)
  have s3 := mul_size' (g * g + h * h + i * i - 18014398509481984) (g * g + h * h + i * i - 18014398509481984) 536870916 536870916 (by omega) (by omega) (by omega) (by omega) (by omega) (by omega)
  have s4 := mul_size' (a * d + b * e + c * f) (a * d + b * e + c * f) 4294967296 4294967296 (by omega) (by omega) (by omega) (by omega) (by omega) (by omega)
  have s5 := mul_size' (a * g + b * h + c * i) (a * g + b * h + c * i) 4294967296 4294967296 (by omega) (by omega) (by omega) (by omega) (by omega) (by omega)
  have s6 := mul_size' (d * g + e * h + f * i) (d * g + e * h + f * i) 4294967296 4294967296 (by omega) (by omega) (by omega) (by omega) (by omega) (by omega)
  have n1 := sqn (a * a + d * d + g * g - 18014398509481984)
  have n2 := sqn (b * b + e * e + h * h - 18014398509481984)
  have n3 := sqn (c * c + f * f + i * i - 18014398509481984)
  have n4 := sqn (a * b + d * e + g * h)
  have n5 := sqn (a * c + d * f + g * i)
  have n6 := sqn (b * c + e * f + h * i)
  clear a0 a1 d0 d1 g0 g1 p0 p1 q0 q1 r0 r1
  exact ⟨sq_small _ _ (by omega) (by omega), sq_small _ _ (by omega) (by omega), sq_small _ _ (by omega) (by omega), sq_small _ _ (by omega) (by omega), sq_small _ _ (by omega) (by omega), sq_small _ _ (by omega) (by omega)⟩

theorem uni_near' (N V : Int) (h0 : 134217728 ≤ isq N) (h1 : V * V ≤ N) : sat (rnd (V * 134217728) (isq N)) 268435455 = rnd (V * 134217728) (isq N) := by
  obtain ⟨a, b⟩ := comp_le V N h1
  exact sat_in _ _ (rnd_ge _ _ _ (by omega) (by omega)) (rnd_le _ _ _ (by omega) (by omega))
/-- The half unit of a vector that is not zero: the shift, the root, each component to the nearest; its length. -/
theorem uni_full (x y z : Int) (h : ¬ (x = 0 ∧ y = 0 ∧ z = 0)) (hx0 : -268435455 ≤ x) (hx1 : x ≤ 268435455) (hy0 : -268435455 ≤ y) (hy1 : y ≤ 268435455) (hz0 : -268435455 ≤ z) (hz1 : z ≤ 268435455) :
    ∃ E r : Int, 1 ≤ E ∧ 134217728 ≤ r ∧ (∀ M, 0 ≤ M → M * M ≤ x * x + y * y + z * z → E * M ≤ r) ∧
      (2 * (x * E * 134217728) - r ≤ 2 * (uni x y z x * r) ∧ 2 * (uni x y z x * r) ≤ 2 * (x * E * 134217728) + r) ∧
      (2 * (y * E * 134217728) - r ≤ 2 * (uni x y z y * r) ∧ 2 * (uni x y z y * r) ≤ 2 * (y * E * 134217728) + r) ∧
      (2 * (z * E * 134217728) - r ≤ 2 * (uni x y z z * r) ∧ 2 * (uni x y z z * r) ≤ 2 * (z * E * 134217728) + r) ∧
      18014397972611076 ≤ uni x y z x * uni x y z x + uni x y z y * uni x y z y + uni x y z z * uni x y z z ∧ uni x y z x * uni x y z x + uni x y z y * uni x y z y + uni x y z z * uni x y z z ≤ 18014399046352900 := by
  obtain ⟨s0, s1, s2, s3⟩ := ucnt_spec x y z h hx0 hx1 hy0 hy1 hz0 hz1
  obtain ⟨_, ⟨x0, x1⟩, ⟨y0, y1⟩, ⟨z0, z1⟩, ⟨x2, x3⟩, ⟨y2, y3⟩, ⟨z2, z3⟩, n0, i0, i1⟩ := unit_facts x y z (ucnt x y z) hx0 hx1 hy0 hy1 hz0 hz1 s0 s1 s2 s3
  have hu : usq x y z = x * pw (ucnt x y z) * (x * pw (ucnt x y z)) + y * pw (ucnt x y z) * (y * pw (ucnt x y z)) + z * pw (ucnt x y z) * (z * pw (ucnt x y z)) := rfl
  rw [← hu] at n0 i0 i1
  obtain ⟨q0, q1, q2⟩ := isq_spec (usq x y z) (by omega)
  have a := rnd_near (x * pw (ucnt x y z) * 134217728) (isq (usq x y z)) (by omega)
  have b := rnd_near (y * pw (ucnt x y z) * 134217728) (isq (usq x y z)) (by omega)
  have c := rnd_near (z * pw (ucnt x y z) * 134217728) (isq (usq x y z)) (by omega)
  have ex : uni x y z x = rnd (x * pw (ucnt x y z) * 134217728) (isq (usq x y z)) := by unfold uni; rw [uni_near' _ _ i0 (by omega)]
  have ey : uni x y z y = rnd (y * pw (ucnt x y z) * 134217728) (isq (usq x y z)) := by unfold uni; rw [uni_near' _ _ i0 (by omega)]
  have ez : uni x y z z = rnd (z * pw (ucnt x y z) * 134217728) (isq (usq x y z)) := by unfold uni; rw [uni_near' _ _ i0 (by omega)]
  rw [ex, ey, ez]
  refine ⟨pw (ucnt x y z), isq (usq x y z), pw_pos _, i0, fun M hM hN => ?_, a, b, c, half_len (x * pw (ucnt x y z)) (y * pw (ucnt x y z)) (z * pw (ucnt x y z)) (isq (usq x y z)) _ _ _ i0 (by omega) (by omega) a.1 a.2 b.1 b.2 c.1 c.2⟩
  have hE := pw_pos (ucnt x y z)
  generalize pw (ucnt x y z) = E at *
  refine isq_ge _ _ (Int.mul_nonneg (by omega) hM) ?_
  rw [hu]
  have e1 : E * M * (E * M) = E * E * (M * M) := by grind
  have e2 : x * E * (x * E) + y * E * (y * E) + z * E * (z * E) = E * E * (x * x + y * y + z * z) := by grind
  rw [e1, e2]
  exact Int.mul_le_mul_of_nonneg_left hN (sqn E)

/-- A component of the cross product of two rounded half units is small. -/
theorem cross_bd (u v w a b c : Int) (h1 : u * u + v * v + w * w ≤ 18014399046352900) (h2 : a * a + b * b + c * c ≤ 18014399046352900) :
    (-18014399046352900 ≤ v * c - w * b ∧ v * c - w * b ≤ 18014399046352900) ∧ (-18014399046352900 ≤ w * a - u * c ∧ w * a - u * c ≤ 18014399046352900) ∧ (-18014399046352900 ≤ u * b - v * a ∧ u * b - v * a ≤ 18014399046352900) := by
  have L : (v * c - w * b) * (v * c - w * b) + (w * a - u * c) * (w * a - u * c) + (u * b - v * a) * (u * b - v * a) = (u * u + v * v + w * w) * (a * a + b * b + c * c) - (u * a + v * b + w * c) * (u * a + v * b + w * c) := by grind
  have n0 := sqn (u * a + v * b + w * c)
  have n3 : (u * u + v * v + w * w) * (a * a + b * b + c * c) ≤ 18014399046352900 * 18014399046352900 := Int.mul_le_mul h1 h2 (by have := sqn a; have := sqn b; have := sqn c; omega) (by omega)
  have n4 := sqn (v * c - w * b)
  have n5 := sqn (w * a - u * c)
  have n6 := sqn (u * b - v * a)
  clear h1 h2
  exact ⟨sq_small _ _ (by omega) (by omega), sq_small _ _ (by omega) (by omega), sq_small _ _ (by omega) (by omega)⟩
theorem cross_rnd (T : Int) (h0 : -18014399046352900 ≤ T) (h1 : T ≤ 18014399046352900) :
    sat (rnd T 268435456) 268435455 = rnd T 268435456 ∧ outb (rnd T 268435456) 268435455 = false ∧ (-67108868 ≤ rnd T 268435456 ∧ rnd T 268435456 ≤ 67108868) ∧ 2 * T - 268435456 ≤ 2 * (rnd T 268435456 * 268435456) ∧ 2 * (rnd T 268435456 * 268435456) ≤ 2 * T + 268435456 := by
  have n := rnd_near T 268435456 (by omega)
  have b : -67108868 ≤ rnd T 268435456 ∧ rnd T 268435456 ≤ 67108868 := ⟨rnd_ge _ _ _ (by omega) (by omega), rnd_le _ _ _ (by omega) (by omega)⟩
  exact ⟨sat_in _ _ (by omega) (by omega), outb_in _ _ (by omega) (by omega), b, n⟩
theorem long_sq (n : Int) (h : 0 ≤ n) (hq : 4194304 ≤ sat (nsq n) 268435455) : 4194303 * 4194303 ≤ n := by
  obtain ⟨q0, q1, q2⟩ := isq_spec n h
  have e : nsq n ≤ isq n + 1 := by unfold nsq; split <;> omega
  have g : 4194303 ≤ isq n := by
    unfold sat at hq
    split at hq
    · omega
    · split at hq <;> omega
  have := sq_le 4194303 (isq n) (by omega) g
  omega

/-- The rows of a triad: half units, nearly perpendicular to each other. -/
theorem frame_ok (u v w a b c x y z Z0 Z1 Z2 p q s Y0 Y1 Y2 : Int)
    (hu0 : 18014397972611076 ≤ u * u + v * v + w * w) (hu1 : u * u + v * v + w * w ≤ 18014399046352900) (ha1 : a * a + b * b + c * c ≤ 18014399046352900)
    (hx : x = sat (rnd (v * c - w * b) 268435456) 268435455) (hy : y = sat (rnd (w * a - u * c) 268435456) 268435455) (hz : z = sat (rnd (u * b - v * a) 268435456) 268435455)
    (hL : 4194304 ≤ sat (nsq (dot x y z x y z)) 268435455)
    (hZ0 : Z0 = uni x y z x) (hZ1 : Z1 = uni x y z y) (hZ2 : Z2 = uni x y z z)
    (hp : p = sat (rnd (Z1 * w - Z2 * v) 268435456) 268435455) (hq : q = sat (rnd (Z2 * u - Z0 * w) 268435456) 268435455) (hs : s = sat (rnd (Z0 * v - Z1 * u) 268435456) 268435455)
    (hY0 : Y0 = uni p q s p) (hY1 : Y1 = uni p q s q) (hY2 : Y2 = uni p q s s) :
    ¬ (x = 0 ∧ y = 0 ∧ z = 0) ∧ ¬ (p = 0 ∧ q = 0 ∧ s = 0) ∧
    (18014397972611076 ≤ Y0 * Y0 + Y1 * Y1 + Y2 * Y2 ∧ Y0 * Y0 + Y1 * Y1 + Y2 * Y2 ≤ 18014399046352900) ∧
    (18014397972611076 ≤ Z0 * Z0 + Z1 * Z1 + Z2 * Z2 ∧ Z0 * Z0 + Z1 * Z1 + Z2 * Z2 ≤ 18014399046352900) ∧
    (-4294967296 ≤ u * Z0 + v * Z1 + w * Z2 ∧ u * Z0 + v * Z1 + w * Z2 ≤ 4294967296) ∧
    (-2147483648 ≤ u * Y0 + v * Y1 + w * Y2 ∧ u * Y0 + v * Y1 + w * Y2 ≤ 2147483648) ∧
    (-2147483648 ≤ Z0 * Y0 + Z1 * Y1 + Z2 * Y2 ∧ Z0 * Y0 + Z1 * Y1 + Z2 * Y2 ≤ 2147483648) := by
  obtain ⟨⟨t0, t1⟩, ⟨t2, t3⟩, ⟨t4, t5⟩⟩ := cross_bd u v w a b c hu1 ha1
  obtain ⟨sx, _, ⟨x0, x1⟩, x2, x3⟩ := cross_rnd _ t0 t1
  obtain ⟨sy, _, ⟨y0, y1⟩, y2, y3⟩ := cross_rnd _ t2 t3
  obtain ⟨sz, _, ⟨z0, z1⟩, z2, z3⟩ := cross_rnd _ t4 t5
  rw [sx] at hx
  rw [sy] at hy
  rw [sz] at hz
  rw [← hx] at x0 x1 x2 x3
  rw [← hy] at y0 y1 y2 y3
  rw [← hz] at z0 z1 z2 z3
  clear sx sy sz hx hy hz
  have nc : 0 ≤ x * x + y * y + z * z := by have := sqn x; have := sqn y; have := sqn z; omega
  have lc : 4194303 * 4194303 ≤ x * x + y * y + z * z := long_sq _ nc (by unfold dot at hL; exact hL)
  have zc : ¬ (x = 0 ∧ y = 0 ∧ z = 0) := fun ⟨h0, h1, h2⟩ => by subst h0; subst h1; subst h2; omega
  obtain ⟨E, r, hE, hr, hM, ⟨p0, p1⟩, ⟨q0, q1⟩, ⟨r0, r1⟩, nZ0, nZ1⟩ := uni_full x y z zc (by omega) (by omega) (by omega) (by omega) (by omega) (by omega)
  rw [← hZ0, ← hZ1, ← hZ2] at nZ0 nZ1
  rw [← hZ0] at p0 p1
  rw [← hZ1] at q0 q1
  rw [← hZ2] at r0 r1
  have SU := sum_size u v w hu1
  have k1 := cross_perp u v w a b c x y z 232471930 x2 x3 y2 y3 z2 z3 SU
  have k2 := perp_unit u v w x y z Z0 Z1 Z2 E r 4194303 232471930 232471930 (by omega) (by omega) (by omega) (by omega) (hM 4194303 (by omega) lc) p0 p1 q0 q1 r0 r1 SU k1.1 k1.2
  have dUZ : -4294967296 ≤ u * Z0 + v * Z1 + w * Z2 ∧ u * Z0 + v * Z1 + w * Z2 ≤ 4294967296 := by
    generalize u * Z0 + v * Z1 + w * Z2 = D at *
    omega
  clear x0 x1 y0 y1 z0 z1 x2 x3 y2 y3 z2 z3 p0 p1 q0 q1 r0 r1 hM k1 k2 lc nc hL hZ0 hZ1 hZ2 t0 t1 t2 t3 t4 t5 ha1 hE hr
  obtain ⟨⟨t0, t1⟩, ⟨t2, t3⟩, ⟨t4, t5⟩⟩ := cross_bd Z0 Z1 Z2 u v w nZ1 hu1
  obtain ⟨sp, _, ⟨p0, p1⟩, p2, p3⟩ := cross_rnd _ t0 t1
  obtain ⟨sq', _, ⟨q0, q1⟩, q2, q3⟩ := cross_rnd _ t2 t3
  obtain ⟨ss, _, ⟨s0, s1⟩, s2, s3⟩ := cross_rnd _ t4 t5
  rw [sp] at hp
  rw [sq'] at hq
  rw [ss] at hs
  rw [← hp] at p0 p1 p2 p3
  rw [← hq] at q0 q1 q2 q3
  rw [← hs] at s0 s1 s2 s3
  clear sp sq' ss hp hq hs t0 t1 t2 t3 t4 t5
  have c1 : Z0 * u + Z1 * v + Z2 * w = u * Z0 + v * Z1 + w * Z2 := by grind
  have ld := cross_long Z0 Z1 Z2 u v w p q s p2 p3 q2 q3 s2 s3 nZ0 nZ1 hu0 hu1 (by omega) (by omega)
  have zd : ¬ (p = 0 ∧ q = 0 ∧ s = 0) := fun ⟨h0, h1, h2⟩ => by subst h0; subst h1; subst h2; omega
  obtain ⟨E', r', hE', hr', hM', ⟨a0, a1⟩, ⟨b0, b1⟩, ⟨d0, d1⟩, nY0, nY1⟩ := uni_full p q s zd (by omega) (by omega) (by omega) (by omega) (by omega) (by omega)
  rw [← hY0, ← hY1, ← hY2] at nY0 nY1
  rw [← hY0] at a0 a1
  rw [← hY1] at b0 b1
  rw [← hY2] at d0 d1
  have SZ := sum_size Z0 Z1 Z2 nZ1
  have k1 := cross_perp Z0 Z1 Z2 u v w p q s 232471930 p2 p3 q2 q3 s2 s3 SZ
  have hm := hM' 16777216 (by omega) (by omega)
  have k2 := perp_unit Z0 Z1 Z2 p q s Y0 Y1 Y2 E' r' 16777216 232471930 232471930 (by omega) (by omega) (by omega) (by omega) hm a0 a1 b0 b1 d0 d1 SZ k1.1 k1.2
  have k3 := cross_perp u v w Z0 Z1 Z2 (-p) (-q) (-s) 232471930 (by rw [show v * Z2 - w * Z1 = -(Z1 * w - Z2 * v) by grind]; omega) (by rw [show v * Z2 - w * Z1 = -(Z1 * w - Z2 * v) by grind]; omega)
    (by rw [show w * Z0 - u * Z2 = -(Z2 * u - Z0 * w) by grind]; omega) (by rw [show w * Z0 - u * Z2 = -(Z2 * u - Z0 * w) by grind]; omega)
    (by rw [show u * Z1 - v * Z0 = -(Z0 * v - Z1 * u) by grind]; omega) (by rw [show u * Z1 - v * Z0 = -(Z0 * v - Z1 * u) by grind]; omega) SU
  have e3 : u * -p + v * -q + w * -s = -(u * p + v * q + w * s) := by grind
  rw [e3] at k3
  have k4 := perp_unit u v w p q s Y0 Y1 Y2 E' r' 16777216 232471930 232471930 (by omega) (by omega) (by omega) (by omega) hm a0 a1 b0 b1 d0 d1 SU (by omega) (by omega)
  refine ⟨zc, zd, ⟨nY0, nY1⟩, ⟨nZ0, nZ1⟩, dUZ, ?_, ?_⟩
  · generalize u * Y0 + v * Y1 + w * Y2 = D at *
    omega
  · generalize Z0 * Y0 + Z1 * Y1 + Z2 * Y2 = D at *
    omega
end Go.Proofs.YtbbhppjamighdaaDoor
