/- The walk of the law VectorRules: for every input it returns true. -/
import Derived.Test.YtkgpdpengfdhbaaWb
import Derived.Test.YtkgpdpengfdhbaaVg
namespace Go.Proofs.Ytkgpdpengfdhbaa
set_option linter.unusedSimpArgs false
set_option linter.unusedVariables false
open Go.RowKit

theorem sat_neg (v m : Int) (h : 0 ≤ m) : sat (-v) m = -sat v m := by unfold sat; (repeat' split) <;> omega
theorem outb_neg (v m : Int) : outb (-v) m = outb v m := by unfold outb; exact decide_eq_decide.2 ⟨fun h => by omega, fun h => by omega⟩
theorem perp (v0 v1 v2 s0 s1 s2 : Int) (a0 : -268435455 ≤ v0) (a1 : v0 ≤ 268435455) (b0 : -268435455 ≤ v1) (b1 : v1 ≤ 268435455) (c0 : -268435455 ≤ v2) (c1 : v2 ≤ 268435455)
    (h : v0 * s0 + v1 * s1 + v2 * s2 = 0) : -2 ≤ rnd (dot v0 v1 v2 (rnd s0 268435456) (rnd s1 268435456) (rnd s2 268435456)) 268435456 ∧ rnd (dot v0 v1 v2 (rnd s0 268435456) (rnd s1 268435456) (rnd s2 268435456)) 268435456 ≤ 2 := by
  have n0 := rnd_near s0 268435456 (by omega)
  have n1 := rnd_near s1 268435456 (by omega)
  have n2 := rnd_near s2 268435456 (by omega)
  generalize rnd s0 268435456 = x0 at *
  generalize rnd s1 268435456 = x1 at *
  generalize rnd s2 268435456 = x2 at *
  have m0 := mul_bd v0 (x0 * 268435456 - s0) a0 a1 (by omega) (by omega)
  have m1 := mul_bd v1 (x1 * 268435456 - s1) b0 b1 (by omega) (by omega)
  have m2 := mul_bd v2 (x2 * 268435456 - s2) c0 c1 (by omega) (by omega)
  have t0 := mul_size' v0 (x0 * 268435456 - s0) 268435455 134217728 (by omega) (by omega) a0 a1 (by omega) (by omega)
  have t1 := mul_size' v1 (x1 * 268435456 - s1) 268435455 134217728 (by omega) (by omega) b0 b1 (by omega) (by omega)
  have t2 := mul_size' v2 (x2 * 268435456 - s2) 268435455 134217728 (by omega) (by omega) c0 c1 (by omega) (by omega)
  have e : v0 * (x0 * 268435456 - s0) + v1 * (x1 * 268435456 - s1) + v2 * (x2 * 268435456 - s2) = 268435456 * (v0 * x0 + v1 * x1 + v2 * x2) := by grind
  have d := rnd_near (dot v0 v1 v2 x0 x1 x2) 268435456 (by omega)
  unfold dot at *
  omega

theorem anti1 (p q r s : Int) : r * q - s * p = -(p * s - q * r) := by grind
theorem self1 (p q : Int) : p * q - q * p = 0 := by rw [Int.mul_comm p q, Int.sub_self]
theorem psum (v0 v1 v2 w0 w1 w2 : Int) : v0 * (v1 * w2 - v2 * w1) + v1 * (v2 * w0 - v0 * w2) + v2 * (v0 * w1 - v1 * w0) = 0 := by grind
theorem psum' (v0 v1 v2 w0 w1 w2 : Int) : w0 * (v1 * w2 - v2 * w1) + w1 * (v2 * w0 - v0 * w2) + w2 * (v0 * w1 - v1 * w0) = 0 := by grind
theorem dot_sym (a b c x y z : Int) : dot x y z a b c = dot a b c x y z := by unfold dot; grind
theorem rnd_anti (s t : Int) (h : t = -s) : sat (rnd t 268435456) 268435455 = -sat (rnd s 268435456) 268435455 ∧ outb (rnd t 268435456) 268435455 = outb (rnd s 268435456) 268435455 := by
  rw [h, rnd_neg s _ (by omega), sat_neg _ _ (by omega), outb_neg]; exact ⟨rfl, rfl⟩
theorem outb_out (v : Int) (h : outb v 268435455 = false) : sat v 268435455 = v := by
  have : ¬ (268435455 < v ∨ v < -268435455) := of_decide_eq_false h
  exact sat_in _ _ (by omega) (by omega)

set_option maxHeartbeats 2000000 in
theorem rules_facts (a b c d e f a' b' c' d' e' f' : Int) (ha0 : 0 ≤ a) (ha1 : a < 65536) (hb0 : 0 ≤ b) (hb1 : b < 65536) (hc0 : 0 ≤ c) (hc1 : c < 65536) (hd0 : 0 ≤ d) (hd1 : d < 65536) (he0 : 0 ≤ e) (he1 : e < 65536) (hf0 : 0 ≤ f) (hf1 : f < 65536) (ha'0 : 0 ≤ a') (ha'1 : a' < 65536) (hb'0 : 0 ≤ b') (hb'1 : b' < 65536) (hc'0 : 0 ≤ c') (hc'1 : c' < 65536) (hd'0 : 0 ≤ d') (hd'1 : d' < 65536) (he'0 : 0 ≤ e') (he'1 : e' < 65536) (hf'0 : 0 ≤ f') (hf'1 : f' < 65536) : ∃ (x0 x1 x2 : Int) (h : Bool) (p : Int) (o : Bool),
    ((-268435455 ≤ x0 ∧ x0 ≤ 268435455) ∧ (-268435455 ≤ x1 ∧ x1 ≤ 268435455) ∧ (-268435455 ≤ x2 ∧ x2 ≤ 268435455)) ∧
    (∀ w, Calls Try.prog 12 #[(.agg #[.int .u16 (a), .int .u16 (b), .int .u16 (c), .int .u16 (d), .int .u16 (e), .int .u16 (f)]), (.agg #[.int .u16 (a'), .int .u16 (b'), .int .u16 (c'), .int .u16 (d'), .int .u16 (e'), .int .u16 (f')])] w fun r w' => r = .returned (.tuple #[(.agg #[.int .u16 (hi (p)), .int .u16 (lo (p))]), .bool o]) ∧ Below w.heap.size w w') ∧
    (∀ w, Calls Try.prog 12 #[(.agg #[.int .u16 (a'), .int .u16 (b'), .int .u16 (c'), .int .u16 (d'), .int .u16 (e'), .int .u16 (f')]), (.agg #[.int .u16 (a), .int .u16 (b), .int .u16 (c), .int .u16 (d), .int .u16 (e), .int .u16 (f)])] w fun r w' => r = .returned (.tuple #[(.agg #[.int .u16 (hi (p)), .int .u16 (lo (p))]), .bool o]) ∧ Below w.heap.size w w') ∧
    (∀ w, Calls Try.prog 14 #[(.agg #[.int .u16 (a), .int .u16 (b), .int .u16 (c), .int .u16 (d), .int .u16 (e), .int .u16 (f)]), (.agg #[.int .u16 (a'), .int .u16 (b'), .int .u16 (c'), .int .u16 (d'), .int .u16 (e'), .int .u16 (f')])] w fun r w' => r = .returned (.tuple #[(.agg #[.int .u16 (hi (x0)), .int .u16 (lo (x0)), .int .u16 (hi (x1)), .int .u16 (lo (x1)), .int .u16 (hi (x2)), .int .u16 (lo (x2))]), .bool h]) ∧ Below w.heap.size w w') ∧
    (∀ w, Calls Try.prog 14 #[(.agg #[.int .u16 (a'), .int .u16 (b'), .int .u16 (c'), .int .u16 (d'), .int .u16 (e'), .int .u16 (f')]), (.agg #[.int .u16 (a), .int .u16 (b), .int .u16 (c), .int .u16 (d), .int .u16 (e), .int .u16 (f)])] w fun r w' => r = .returned (.tuple #[(.agg #[.int .u16 (hi (-x0)), .int .u16 (lo (-x0)), .int .u16 (hi (-x1)), .int .u16 (lo (-x1)), .int .u16 (hi (-x2)), .int .u16 (lo (-x2))]), .bool h]) ∧ Below w.heap.size w w') ∧
    (∀ w, Calls Try.prog 14 #[(.agg #[.int .u16 (a), .int .u16 (b), .int .u16 (c), .int .u16 (d), .int .u16 (e), .int .u16 (f)]), (.agg #[.int .u16 (a), .int .u16 (b), .int .u16 (c), .int .u16 (d), .int .u16 (e), .int .u16 (f)])] w fun r w' => r = .returned (.tuple #[(.agg #[.int .u16 (0), .int .u16 (0), .int .u16 (0), .int .u16 (0), .int .u16 (0), .int .u16 (0)]), .bool false]) ∧ Below w.heap.size w w') ∧
    (∀ w, Calls Try.prog 22 #[(.agg #[.int .u16 (hi (x0)), .int .u16 (lo (x0)), .int .u16 (hi (x1)), .int .u16 (lo (x1)), .int .u16 (hi (x2)), .int .u16 (lo (x2))])] w fun r w' => r = .returned (.agg #[.int .u16 (hi (-x0)), .int .u16 (lo (-x0)), .int .u16 (hi (-x1)), .int .u16 (lo (-x1)), .int .u16 (hi (-x2)), .int .u16 (lo (-x2))]) ∧ Below w.heap.size w w') ∧
    (h = false → ∃ q s : Int, (-2 ≤ q ∧ q ≤ 2) ∧ (-2 ≤ s ∧ s ≤ 2) ∧
      (∀ w, Calls Try.prog 12 #[(.agg #[.int .u16 (a), .int .u16 (b), .int .u16 (c), .int .u16 (d), .int .u16 (e), .int .u16 (f)]), (.agg #[.int .u16 (hi (x0)), .int .u16 (lo (x0)), .int .u16 (hi (x1)), .int .u16 (lo (x1)), .int .u16 (hi (x2)), .int .u16 (lo (x2))])] w fun r w' => r = .returned (.tuple #[(.agg #[.int .u16 (hi (q)), .int .u16 (lo (q))]), .bool false]) ∧ Below w.heap.size w w') ∧
      (∀ w, Calls Try.prog 12 #[(.agg #[.int .u16 (a'), .int .u16 (b'), .int .u16 (c'), .int .u16 (d'), .int .u16 (e'), .int .u16 (f')]), (.agg #[.int .u16 (hi (x0)), .int .u16 (lo (x0)), .int .u16 (hi (x1)), .int .u16 (lo (x1)), .int .u16 (hi (x2)), .int .u16 (lo (x2))])] w fun r w' => r = .returned (.tuple #[(.agg #[.int .u16 (hi (s)), .int .u16 (lo (s))]), .bool false]) ∧ Below w.heap.size w w')) := by
  obtain ⟨r0, g0⟩ := rnd_anti (val c d * val e' f' - val e f * val c' d') (val c' d' * val e f - val e' f' * val c d) (anti1 _ _ _ _)
  have z0 : val c d * val e f - val e f * val c d = 0 := self1 _ _
  have l0 := sat_lo (rnd (val c d * val e' f' - val e f * val c' d') 268435456) 268435455 (by omega)
  have u0 := sat_hi (rnd (val c d * val e' f' - val e f * val c' d') 268435456) 268435455 (by omega)
  obtain ⟨w0, w0', y0, y0'⟩ := hi_lo (sat (rnd (val c d * val e' f' - val e f * val c' d') 268435456) 268435455) (by omega) (by omega)
  have v0 := val_of (sat (rnd (val c d * val e' f' - val e f * val c' d') 268435456) 268435455) (by omega) (by omega)
  obtain ⟨r1, g1⟩ := rnd_anti (val e f * val a' b' - val a b * val e' f') (val e' f' * val a b - val a' b' * val e f) (anti1 _ _ _ _)
  have z1 : val e f * val a b - val a b * val e f = 0 := self1 _ _
  have l1 := sat_lo (rnd (val e f * val a' b' - val a b * val e' f') 268435456) 268435455 (by omega)
  have u1 := sat_hi (rnd (val e f * val a' b' - val a b * val e' f') 268435456) 268435455 (by omega)
  obtain ⟨w1, w1', y1, y1'⟩ := hi_lo (sat (rnd (val e f * val a' b' - val a b * val e' f') 268435456) 268435455) (by omega) (by omega)
  have v1 := val_of (sat (rnd (val e f * val a' b' - val a b * val e' f') 268435456) 268435455) (by omega) (by omega)
  obtain ⟨r2, g2⟩ := rnd_anti (val a b * val c' d' - val c d * val a' b') (val a' b' * val c d - val c' d' * val a b) (anti1 _ _ _ _)
  have z2 : val a b * val c d - val c d * val a b = 0 := self1 _ _
  have l2 := sat_lo (rnd (val a b * val c' d' - val c d * val a' b') 268435456) 268435455 (by omega)
  have u2 := sat_hi (rnd (val a b * val c' d' - val c d * val a' b') 268435456) 268435455 (by omega)
  obtain ⟨w2, w2', y2, y2'⟩ := hi_lo (sat (rnd (val a b * val c' d' - val c d * val a' b') 268435456) 268435455) (by omega) (by omega)
  have v2 := val_of (sat (rnd (val a b * val c' d' - val c d * val a' b') 268435456) 268435455) (by omega) (by omega)
  have zr : sat (rnd 0 268435456) 268435455 = 0 := by decide +kernel
  have zo : outb (rnd 0 268435456) 268435455 = false := by decide +kernel
  have zh : hi 0 = 0 := by decide +kernel
  have zl : lo 0 = 0 := by decide +kernel
  refine ⟨_, _, _, _, _, _, ⟨⟨l0, u0⟩, ⟨l1, u1⟩, ⟨l2, u2⟩⟩, fun w => dot_any a b c d e f a' b' c' d' e' f' ha0 ha1 hb0 hb1 hc0 hc1 hd0 hd1 he0 he1 hf0 hf1 ha'0 ha'1 hb'0 hb'1 hc'0 hc'1 hd'0 hd'1 he'0 he'1 hf'0 hf'1 w, fun w => ?_, fun w => cross_any a b c d e f a' b' c' d' e' f' ha0 ha1 hb0 hb1 hc0 hc1 hd0 hd1 he0 he1 hf0 hf1 ha'0 ha'1 hb'0 hb'1 hc'0 hc'1 hd'0 hd'1 he'0 he'1 hf'0 hf'1 w, fun w => ?_, fun w => ?_, fun w => ?_, fun hh => ?_⟩
  · have k := dot_any a' b' c' d' e' f' a b c d e f ha'0 ha'1 hb'0 hb'1 hc'0 hc'1 hd'0 hd'1 he'0 he'1 hf'0 hf'1 ha0 ha1 hb0 hb1 hc0 hc1 hd0 hd1 he0 he1 hf0 hf1 w
    rw [dot_sym (val a b) (val c d) (val e f) (val a' b') (val c' d') (val e' f')] at k
    exact k
  · have k := cross_any a' b' c' d' e' f' a b c d e f ha'0 ha'1 hb'0 hb'1 hc'0 hc'1 hd'0 hd'1 he'0 he'1 hf'0 hf'1 ha0 ha1 hb0 hb1 hc0 hc1 hd0 hd1 he0 he1 hf0 hf1 w
    rw [r0, r1, r2, g0, g1, g2] at k
    exact k
  · have k := cross_any a b c d e f a b c d e f ha0 ha1 hb0 hb1 hc0 hc1 hd0 hd1 he0 he1 hf0 hf1 ha0 ha1 hb0 hb1 hc0 hc1 hd0 hd1 he0 he1 hf0 hf1 w
    rw [z0, z1, z2, zr, zo, zh, zl] at k
    exact k
  · have k := vneg_any (hi (sat (rnd (val c d * val e' f' - val e f * val c' d') 268435456) 268435455)) (lo (sat (rnd (val c d * val e' f' - val e f * val c' d') 268435456) 268435455)) (hi (sat (rnd (val e f * val a' b' - val a b * val e' f') 268435456) 268435455)) (lo (sat (rnd (val e f * val a' b' - val a b * val e' f') 268435456) 268435455)) (hi (sat (rnd (val a b * val c' d' - val c d * val a' b') 268435456) 268435455)) (lo (sat (rnd (val a b * val c' d' - val c d * val a' b') 268435456) 268435455)) w0 (by omega) y0 (by omega) w1 (by omega) y1 (by omega) w2 (by omega) y2 (by omega) w
    rw [v0, v1, v2] at k
    exact k
  · have o0 : outb (rnd (val c d * val e' f' - val e f * val c' d') 268435456) 268435455 = false := by revert hh; cases outb (rnd (val c d * val e' f' - val e f * val c' d') 268435456) 268435455 <;> simp
    have o1 : outb (rnd (val e f * val a' b' - val a b * val e' f') 268435456) 268435455 = false := by revert hh; cases outb (rnd (val e f * val a' b' - val a b * val e' f') 268435456) 268435455 <;> cases outb (rnd (val c d * val e' f' - val e f * val c' d') 268435456) 268435455 <;> simp
    have o2 : outb (rnd (val a b * val c' d' - val c d * val a' b') 268435456) 268435455 = false := by revert hh; cases outb (rnd (val a b * val c' d' - val c d * val a' b') 268435456) 268435455 <;> cases outb (rnd (val e f * val a' b' - val a b * val e' f') 268435456) 268435455 <;> cases outb (rnd (val c d * val e' f' - val e f * val c' d') 268435456) 268435455 <;> simp
    have e0 := outb_out _ o0
    have e1 := outb_out _ o1
    have e2 := outb_out _ o2
    have p0 := perp (val a b) (val c d) (val e f) (val c d * val e' f' - val e f * val c' d') (val e f * val a' b' - val a b * val e' f') (val a b * val c' d' - val c d * val a' b') (val_lo _ _) (val_hi _ _) (val_lo _ _) (val_hi _ _) (val_lo _ _) (val_hi _ _) (psum _ _ _ _ _ _)
    have p1 := perp (val a' b') (val c' d') (val e' f') (val c d * val e' f' - val e f * val c' d') (val e f * val a' b' - val a b * val e' f') (val a b * val c' d' - val c d * val a' b') (val_lo _ _) (val_hi _ _) (val_lo _ _) (val_hi _ _) (val_lo _ _) (val_hi _ _) (psum' _ _ _ _ _ _)
    refine ⟨_, _, p0, p1, fun w => ?_, fun w => ?_⟩
    · have k := dot_any a b c d e f (hi (sat (rnd (val c d * val e' f' - val e f * val c' d') 268435456) 268435455)) (lo (sat (rnd (val c d * val e' f' - val e f * val c' d') 268435456) 268435455)) (hi (sat (rnd (val e f * val a' b' - val a b * val e' f') 268435456) 268435455)) (lo (sat (rnd (val e f * val a' b' - val a b * val e' f') 268435456) 268435455)) (hi (sat (rnd (val a b * val c' d' - val c d * val a' b') 268435456) 268435455)) (lo (sat (rnd (val a b * val c' d' - val c d * val a' b') 268435456) 268435455)) ha0 ha1 hb0 hb1 hc0 hc1 hd0 hd1 he0 he1 hf0 hf1 w0 (by omega) y0 (by omega) w1 (by omega) y1 (by omega) w2 (by omega) y2 (by omega) w
      have kk : rnd (dot (val a b) (val c d) (val e f) (val (hi (sat (rnd (val c d * val e' f' - val e f * val c' d') 268435456) 268435455)) (lo (sat (rnd (val c d * val e' f' - val e f * val c' d') 268435456) 268435455))) (val (hi (sat (rnd (val e f * val a' b' - val a b * val e' f') 268435456) 268435455)) (lo (sat (rnd (val e f * val a' b' - val a b * val e' f') 268435456) 268435455))) (val (hi (sat (rnd (val a b * val c' d' - val c d * val a' b') 268435456) 268435455)) (lo (sat (rnd (val a b * val c' d' - val c d * val a' b') 268435456) 268435455)))) 268435456 = rnd (dot (val a b) (val c d) (val e f) (rnd (val c d * val e' f' - val e f * val c' d') 268435456) (rnd (val e f * val a' b' - val a b * val e' f') 268435456) (rnd (val a b * val c' d' - val c d * val a' b') 268435456)) 268435456 := by rw [v0, v1, v2, e0, e1, e2]
      rw [kk, sat_in (rnd (dot (val a b) (val c d) (val e f) (rnd (val c d * val e' f' - val e f * val c' d') 268435456) (rnd (val e f * val a' b' - val a b * val e' f') 268435456) (rnd (val a b * val c' d' - val c d * val a' b') 268435456)) 268435456) _ (by omega) (by omega), outb_in (rnd (dot (val a b) (val c d) (val e f) (rnd (val c d * val e' f' - val e f * val c' d') 268435456) (rnd (val e f * val a' b' - val a b * val e' f') 268435456) (rnd (val a b * val c' d' - val c d * val a' b') 268435456)) 268435456) _ (by omega) (by omega)] at k
      exact k
    · have k := dot_any a' b' c' d' e' f' (hi (sat (rnd (val c d * val e' f' - val e f * val c' d') 268435456) 268435455)) (lo (sat (rnd (val c d * val e' f' - val e f * val c' d') 268435456) 268435455)) (hi (sat (rnd (val e f * val a' b' - val a b * val e' f') 268435456) 268435455)) (lo (sat (rnd (val e f * val a' b' - val a b * val e' f') 268435456) 268435455)) (hi (sat (rnd (val a b * val c' d' - val c d * val a' b') 268435456) 268435455)) (lo (sat (rnd (val a b * val c' d' - val c d * val a' b') 268435456) 268435455)) ha'0 ha'1 hb'0 hb'1 hc'0 hc'1 hd'0 hd'1 he'0 he'1 hf'0 hf'1 w0 (by omega) y0 (by omega) w1 (by omega) y1 (by omega) w2 (by omega) y2 (by omega) w
      have kk : rnd (dot (val a' b') (val c' d') (val e' f') (val (hi (sat (rnd (val c d * val e' f' - val e f * val c' d') 268435456) 268435455)) (lo (sat (rnd (val c d * val e' f' - val e f * val c' d') 268435456) 268435455))) (val (hi (sat (rnd (val e f * val a' b' - val a b * val e' f') 268435456) 268435455)) (lo (sat (rnd (val e f * val a' b' - val a b * val e' f') 268435456) 268435455))) (val (hi (sat (rnd (val a b * val c' d' - val c d * val a' b') 268435456) 268435455)) (lo (sat (rnd (val a b * val c' d' - val c d * val a' b') 268435456) 268435455)))) 268435456 = rnd (dot (val a' b') (val c' d') (val e' f') (rnd (val c d * val e' f' - val e f * val c' d') 268435456) (rnd (val e f * val a' b' - val a b * val e' f') 268435456) (rnd (val a b * val c' d' - val c d * val a' b') 268435456)) 268435456 := by rw [v0, v1, v2, e0, e1, e2]
      rw [kk, sat_in (rnd (dot (val a' b') (val c' d') (val e' f') (rnd (val c d * val e' f' - val e f * val c' d') 268435456) (rnd (val e f * val a' b' - val a b * val e' f') 268435456) (rnd (val a b * val c' d' - val c d * val a' b') 268435456)) 268435456) _ (by omega) (by omega), outb_in (rnd (dot (val a' b') (val c' d') (val e' f') (rnd (val c d * val e' f' - val e f * val c' d') 268435456) (rnd (val e f * val a' b' - val a b * val e' f') 268435456) (rnd (val a b * val c' d' - val c d * val a' b') 268435456)) 268435456) _ (by omega) (by omega)] at k
      exact k

theorem size_any (v : Int) (h0 : -268435455 ≤ v) (h1 : v ≤ 268435455) (w : World) :
    Calls Try.prog 21 #[.int .i64 v] w fun e w' => e = .returned (.int .i64 (mag v)) ∧ w = w' := by
  have hm : max v (-v) = mag v := by unfold mag; split <;> omega
  go_enter Try.func21, Try.ntmps21
  go_wp2
  go_ret
  exact ⟨rfl, rfl⟩

set_option maxRecDepth 100000 in
set_option maxHeartbeats 4000000 in
theorem rules_law (a b c d e f a' b' c' d' e' f' : Int) (ha0 : 0 ≤ a) (ha1 : a < 65536) (hb0 : 0 ≤ b) (hb1 : b < 65536) (hc0 : 0 ≤ c) (hc1 : c < 65536) (hd0 : 0 ≤ d) (hd1 : d < 65536) (he0 : 0 ≤ e) (he1 : e < 65536) (hf0 : 0 ≤ f) (hf1 : f < 65536) (ha'0 : 0 ≤ a') (ha'1 : a' < 65536) (hb'0 : 0 ≤ b') (hb'1 : b' < 65536) (hc'0 : 0 ≤ c') (hc'1 : c' < 65536) (hd'0 : 0 ≤ d') (hd'1 : d' < 65536) (he'0 : 0 ≤ e') (he'1 : e' < 65536) (hf'0 : 0 ≤ f') (hf'1 : f' < 65536) (w : World) :
    Calls Try.prog 5 #[(.agg #[.int .u16 (a), .int .u16 (b), .int .u16 (c), .int .u16 (d), .int .u16 (e), .int .u16 (f)]), (.agg #[.int .u16 (a'), .int .u16 (b'), .int .u16 (c'), .int .u16 (d'), .int .u16 (e'), .int .u16 (f')])] w fun r w' => r = .returned (.bool true) ∧ Below w.heap.size w w' := by
  obtain ⟨x0, x1, x2, h, p, o, ⟨⟨l0, u0⟩, ⟨l1, u1⟩, ⟨l2, u2⟩⟩, D1, D2, C1, C2, C3, N1, hf⟩ := rules_facts a b c d e f a' b' c' d' e' f' ha0 ha1 hb0 hb1 hc0 hc1 hd0 hd1 he0 he1 hf0 hf1 ha'0 ha'1 hb'0 hb'1 hc'0 hc'1 hd'0 hd'1 he'0 he'1 hf'0 hf'1
  have heq := @eq_dbl
  have hev := @eq_vec
  cases h
  · obtain ⟨q, s, ⟨qa, qb⟩, ⟨sa, sb⟩, E1, E2⟩ := hf rfl
    clear hf
    obtain ⟨q0, q1, q2, q3⟩ := hi_lo q (by omega) (by omega)
    obtain ⟨s0, s1, s2, s3⟩ := hi_lo s (by omega) (by omega)
    have vq := val_of q (by omega) (by omega)
    have vs := val_of s (by omega) (by omega)
    have mq : mag q ≤ 2 := by unfold mag; split <;> omega
    have ms : mag s ≤ 2 := by unfold mag; split <;> omega
    go_enter Try.func5, Try.ntmps5
    go_wp2_with fail
    refine (lives_any _).mono ?_
    rintro _ r1 ⟨rfl, hbr1⟩
    obtain ⟨hcr1, hfr1⟩ := bcell hbr1
    have hzr1 := hbr1.size
    try simp only [World.size_alloc, World.size_setCell, World.size_drew] at hzr1
    have hlr1w0 : w.heap.size < r1.heap.size := by omega
    have hlr1w1 : w.heap.size + 1 < r1.heap.size := by omega
    go_wp2_with fail
    refine (D1 _).mono ?_
    rintro _ r2 ⟨rfl, hbr2⟩
    obtain ⟨hcr2, hfr2⟩ := bcell hbr2
    have hzr2 := hbr2.size
    try simp only [World.size_alloc, World.size_setCell, World.size_drew] at hzr2
    have hlr2w0 : w.heap.size < r2.heap.size := by omega
    have hlr2w1 : w.heap.size + 1 < r2.heap.size := by omega
    go_wp2_with fail
    refine (D2 _).mono ?_
    rintro _ r3 ⟨rfl, hbr3⟩
    obtain ⟨hcr3, hfr3⟩ := bcell hbr3
    have hzr3 := hbr3.size
    try simp only [World.size_alloc, World.size_setCell, World.size_drew] at hzr3
    have hlr3w0 : w.heap.size < r3.heap.size := by omega
    have hlr3w1 : w.heap.size + 1 < r3.heap.size := by omega
    have hlr3r20 : r2.heap.size < r3.heap.size := by omega
    go_wp2_with fail
    refine (C1 _).mono ?_
    rintro _ r4 ⟨rfl, hbr4⟩
    obtain ⟨hcr4, hfr4⟩ := bcell hbr4
    have hzr4 := hbr4.size
    try simp only [World.size_alloc, World.size_setCell, World.size_drew] at hzr4
    have hlr4w0 : w.heap.size < r4.heap.size := by omega
    have hlr4w1 : w.heap.size + 1 < r4.heap.size := by omega
    have hlr4r20 : r2.heap.size < r4.heap.size := by omega
    have hlr4r30 : r3.heap.size < r4.heap.size := by omega
    go_wp2_with fail
    refine (C2 _).mono ?_
    rintro _ r5 ⟨rfl, hbr5⟩
    obtain ⟨hcr5, hfr5⟩ := bcell hbr5
    have hzr5 := hbr5.size
    try simp only [World.size_alloc, World.size_setCell, World.size_drew] at hzr5
    have hlr5w0 : w.heap.size < r5.heap.size := by omega
    have hlr5w1 : w.heap.size + 1 < r5.heap.size := by omega
    have hlr5r20 : r2.heap.size < r5.heap.size := by omega
    have hlr5r30 : r3.heap.size < r5.heap.size := by omega
    have hlr5r40 : r4.heap.size < r5.heap.size := by omega
    go_wp2_with fail
    refine (C3 _).mono ?_
    rintro _ r6 ⟨rfl, hbr6⟩
    obtain ⟨hcr6, hfr6⟩ := bcell hbr6
    have hzr6 := hbr6.size
    try simp only [World.size_alloc, World.size_setCell, World.size_drew] at hzr6
    have hlr6w0 : w.heap.size < r6.heap.size := by omega
    have hlr6w1 : w.heap.size + 1 < r6.heap.size := by omega
    have hlr6r20 : r2.heap.size < r6.heap.size := by omega
    have hlr6r30 : r3.heap.size < r6.heap.size := by omega
    have hlr6r40 : r4.heap.size < r6.heap.size := by omega
    have hlr6r50 : r5.heap.size < r6.heap.size := by omega
    go_wp2_with fail
    have hecr7 := @Ext.cell
    refine wp_region_ext (by kernel_rfl) (by kernel_rfl) ?_
    repeat (first | go_big_quiet_skip | (go_big_quiet_want; go_big_quiet_op; first | go_big_quiet_on | (go_big_quiet_call ((first | fail | (go_at_call 22; exact ext_call (N1 _)))))))
    clear hecr7
    refine wpQuiet_nil ?_
    rintro r7 ⟨⟨_, hbr7⟩, rfl⟩
    obtain ⟨hcr7, hfr7⟩ := bcell hbr7
    have hzr7 := hbr7.size
    try simp only [World.size_alloc, World.size_setCell, World.size_drew] at hzr7
    have hlr7w0 : w.heap.size < r7.heap.size := by omega
    have hlr7w1 : w.heap.size + 1 < r7.heap.size := by omega
    have hlr7r20 : r2.heap.size < r7.heap.size := by omega
    have hlr7r30 : r3.heap.size < r7.heap.size := by omega
    have hlr7r40 : r4.heap.size < r7.heap.size := by omega
    have hlr7r50 : r5.heap.size < r7.heap.size := by omega
    have hlr7r60 : r6.heap.size < r7.heap.size := by omega
    go_wp2_with fail
    refine (E1 _).mono ?_
    rintro _ r8 ⟨rfl, hbr8⟩
    obtain ⟨hcr8, hfr8⟩ := bcell hbr8
    have hzr8 := hbr8.size
    try simp only [World.size_alloc, World.size_setCell, World.size_drew] at hzr8
    have hlr8w0 : w.heap.size < r8.heap.size := by omega
    have hlr8w1 : w.heap.size + 1 < r8.heap.size := by omega
    have hlr8r40 : r4.heap.size < r8.heap.size := by omega
    go_wp2_with fail
    refine (E2 _).mono ?_
    rintro _ r9 ⟨rfl, hbr9⟩
    obtain ⟨hcr9, hfr9⟩ := bcell hbr9
    have hzr9 := hbr9.size
    try simp only [World.size_alloc, World.size_setCell, World.size_drew] at hzr9
    have hlr9w0 : w.heap.size < r9.heap.size := by omega
    have hlr9w1 : w.heap.size + 1 < r9.heap.size := by omega
    have hlr9r40 : r4.heap.size < r9.heap.size := by omega
    have hlr9r80 : r8.heap.size < r9.heap.size := by omega
    go_wp2_with fail
    refine (rvalue_any (hi q) (lo q) q0 (by omega) q2 (by omega) _).mono ?_
    rintro _ r10 ⟨rfl, hbr10⟩
    obtain ⟨hcr10, hfr10⟩ := bcell hbr10
    have hzr10 := hbr10.size
    try simp only [World.size_alloc, World.size_setCell, World.size_drew] at hzr10
    have hlr10w0 : w.heap.size < r10.heap.size := by omega
    have hlr10w1 : w.heap.size + 1 < r10.heap.size := by omega
    have hlr10r80 : r8.heap.size < r10.heap.size := by omega
    have hlr10r90 : r9.heap.size < r10.heap.size := by omega
    go_wp2_with fail
    refine (size_any q (by omega) (by omega) _).mono ?_
    rintro _ _ ⟨rfl, rfl⟩
    go_wp2_with fail
    refine (rvalue_any (hi s) (lo s) s0 (by omega) s2 (by omega) _).mono ?_
    rintro _ r11 ⟨rfl, hbr11⟩
    obtain ⟨hcr11, hfr11⟩ := bcell hbr11
    have hzr11 := hbr11.size
    try simp only [World.size_alloc, World.size_setCell, World.size_drew] at hzr11
    have hlr11w0 : w.heap.size < r11.heap.size := by omega
    have hlr11w1 : w.heap.size + 1 < r11.heap.size := by omega
    have hlr11r80 : r8.heap.size < r11.heap.size := by omega
    have hlr11r90 : r9.heap.size < r11.heap.size := by omega
    go_wp2_with fail
    refine (size_any s (by omega) (by omega) _).mono ?_
    rintro _ _ ⟨rfl, rfl⟩
    go_wp2
    all_goals go_ret
    all_goals exact ⟨rfl, (by repeat' (first | (with_reducible exact Below.refl _ _) | (with_reducible refine bl_set ?_ _ ?_) | (with_reducible refine bl_alloc ?_ _) | (with_reducible refine bl_drew ?_) | (with_reducible refine bl_via (by with_reducible assumption) ?_) | (with_reducible assumption) | omega | (simp only []; omega) | (simp; omega)))⟩
  · clear hf
    go_enter Try.func5, Try.ntmps5
    go_wp2_with fail
    refine (lives_any _).mono ?_
    rintro _ r1 ⟨rfl, hbr1⟩
    obtain ⟨hcr1, hfr1⟩ := bcell hbr1
    have hzr1 := hbr1.size
    try simp only [World.size_alloc, World.size_setCell, World.size_drew] at hzr1
    have hlr1w0 : w.heap.size < r1.heap.size := by omega
    have hlr1w1 : w.heap.size + 1 < r1.heap.size := by omega
    go_wp2_with fail
    refine (D1 _).mono ?_
    rintro _ r2 ⟨rfl, hbr2⟩
    obtain ⟨hcr2, hfr2⟩ := bcell hbr2
    have hzr2 := hbr2.size
    try simp only [World.size_alloc, World.size_setCell, World.size_drew] at hzr2
    have hlr2w0 : w.heap.size < r2.heap.size := by omega
    have hlr2w1 : w.heap.size + 1 < r2.heap.size := by omega
    go_wp2_with fail
    refine (D2 _).mono ?_
    rintro _ r3 ⟨rfl, hbr3⟩
    obtain ⟨hcr3, hfr3⟩ := bcell hbr3
    have hzr3 := hbr3.size
    try simp only [World.size_alloc, World.size_setCell, World.size_drew] at hzr3
    have hlr3w0 : w.heap.size < r3.heap.size := by omega
    have hlr3w1 : w.heap.size + 1 < r3.heap.size := by omega
    have hlr3r20 : r2.heap.size < r3.heap.size := by omega
    go_wp2_with fail
    refine (C1 _).mono ?_
    rintro _ r4 ⟨rfl, hbr4⟩
    obtain ⟨hcr4, hfr4⟩ := bcell hbr4
    have hzr4 := hbr4.size
    try simp only [World.size_alloc, World.size_setCell, World.size_drew] at hzr4
    have hlr4w0 : w.heap.size < r4.heap.size := by omega
    have hlr4w1 : w.heap.size + 1 < r4.heap.size := by omega
    have hlr4r20 : r2.heap.size < r4.heap.size := by omega
    have hlr4r30 : r3.heap.size < r4.heap.size := by omega
    go_wp2_with fail
    refine (C2 _).mono ?_
    rintro _ r5 ⟨rfl, hbr5⟩
    obtain ⟨hcr5, hfr5⟩ := bcell hbr5
    have hzr5 := hbr5.size
    try simp only [World.size_alloc, World.size_setCell, World.size_drew] at hzr5
    have hlr5w0 : w.heap.size < r5.heap.size := by omega
    have hlr5w1 : w.heap.size + 1 < r5.heap.size := by omega
    have hlr5r20 : r2.heap.size < r5.heap.size := by omega
    have hlr5r30 : r3.heap.size < r5.heap.size := by omega
    have hlr5r40 : r4.heap.size < r5.heap.size := by omega
    go_wp2_with fail
    refine (C3 _).mono ?_
    rintro _ r6 ⟨rfl, hbr6⟩
    obtain ⟨hcr6, hfr6⟩ := bcell hbr6
    have hzr6 := hbr6.size
    try simp only [World.size_alloc, World.size_setCell, World.size_drew] at hzr6
    have hlr6w0 : w.heap.size < r6.heap.size := by omega
    have hlr6w1 : w.heap.size + 1 < r6.heap.size := by omega
    have hlr6r20 : r2.heap.size < r6.heap.size := by omega
    have hlr6r30 : r3.heap.size < r6.heap.size := by omega
    have hlr6r40 : r4.heap.size < r6.heap.size := by omega
    have hlr6r50 : r5.heap.size < r6.heap.size := by omega
    go_wp2_with fail
    have hecr7 := @Ext.cell
    refine wp_region_ext (by kernel_rfl) (by kernel_rfl) ?_
    repeat (first | go_big_quiet_skip | (go_big_quiet_want; go_big_quiet_op; first | go_big_quiet_on | (go_big_quiet_call ((first | fail | (go_at_call 22; exact ext_call (N1 _)))))))
    clear hecr7
    refine wpQuiet_nil ?_
    rintro r7 ⟨⟨_, hbr7⟩, rfl⟩
    obtain ⟨hcr7, hfr7⟩ := bcell hbr7
    have hzr7 := hbr7.size
    try simp only [World.size_alloc, World.size_setCell, World.size_drew] at hzr7
    have hlr7w0 : w.heap.size < r7.heap.size := by omega
    have hlr7w1 : w.heap.size + 1 < r7.heap.size := by omega
    have hlr7r20 : r2.heap.size < r7.heap.size := by omega
    have hlr7r30 : r3.heap.size < r7.heap.size := by omega
    have hlr7r40 : r4.heap.size < r7.heap.size := by omega
    have hlr7r50 : r5.heap.size < r7.heap.size := by omega
    have hlr7r60 : r6.heap.size < r7.heap.size := by omega
    go_wp2
    all_goals go_ret
    all_goals exact ⟨rfl, (by repeat' (first | (with_reducible exact Below.refl _ _) | (with_reducible refine bl_set ?_ _ ?_) | (with_reducible refine bl_alloc ?_ _) | (with_reducible refine bl_drew ?_) | (with_reducible refine bl_via (by with_reducible assumption) ?_) | (with_reducible assumption) | omega | (simp only []; omega) | (simp; omega)))⟩
end Go.Proofs.Ytkgpdpengfdhbaa
