/- The walk of the law VectorUnits: for every input it returns true. -/
import Derived.Test.YtkgpdpengfdhbaaWb
import Derived.Test.YtkgpdpengfdhbaaWf
import Derived.Test.YtkgpdpengfdhbaaVg
import Derived.Test.YtkgpdpengfdhbaaVh
import Derived.Test.YtkgpdpengfdhbaaPv
namespace Go.Proofs.Ytkgpdpengfdhbaa
set_option linter.unusedSimpArgs false
set_option linter.unusedVariables false
open Go.RowKit

theorem shv_one (v : Int) (h : sho v 1 = false) : shv v 1 = 2 * v ∧ -268435455 ≤ 2 * v ∧ 2 * v ≤ 268435455 := by
  have e : shl v 1 = 2 * v := by unfold shl; rw [show min (1 : Int) 29 = 1 by omega, show pw 1 = 2 from rfl, Int.mul_comm]
  unfold sho at h
  rw [if_neg (by omega), e] at h
  have h2 : ¬ (268435455 < 2 * v ∨ 2 * v < -268435455) := of_decide_eq_false h
  unfold shv
  rw [if_neg (by omega), e, sat_in _ _ (by omega) (by omega)]
  omega
theorem unitV_shape (x y z : Int) : ∃ (w0 w1 w2 w3 w4 w5 : Int) (b : Bool), unitV x y z = (.tuple #[(.agg #[.int .u16 (w0), .int .u16 (w1), .int .u16 (w2), .int .u16 (w3), .int .u16 (w4), .int .u16 (w5)]), .bool b]) := by
  unfold unitV
  split
  · exact ⟨_, _, _, _, _, _, _, rfl⟩
  · exact ⟨_, _, _, _, _, _, _, rfl⟩
theorem uni_size (x y z v : Int) : -268435455 ≤ uni x y z v ∧ uni x y z v ≤ 268435455 := ⟨sat_lo _ _ (by omega), sat_hi _ _ (by omega)⟩
theorem uni_near (N V : Int) (h0 : 134217728 ≤ isq N) (h1 : V * V ≤ N) : sat (rnd (V * 134217728) (isq N)) 268435455 = rnd (V * 134217728) (isq N) := by
  obtain ⟨a, b⟩ := comp_le V N h1
  exact sat_in _ _ (rnd_ge _ _ _ (by omega) (by omega)) (rnd_le _ _ _ (by omega) (by omega))
theorem uni_len (x y z : Int) (h : ¬ (x = 0 ∧ y = 0 ∧ z = 0)) (hx0 : -268435455 ≤ x) (hx1 : x ≤ 268435455) (hy0 : -268435455 ≤ y) (hy1 : y ≤ 268435455) (hz0 : -268435455 ≤ z) (hz1 : z ≤ 268435455) :
    134217728 ≤ isq (usq x y z) ∧ 18014397972611076 ≤ dot (uni x y z x) (uni x y z y) (uni x y z z) (uni x y z x) (uni x y z y) (uni x y z z) ∧ dot (uni x y z x) (uni x y z y) (uni x y z z) (uni x y z x) (uni x y z y) (uni x y z z) ≤ 18014399046352900 := by
  obtain ⟨s0, s1, s2, s3⟩ := ucnt_spec x y z h hx0 hx1 hy0 hy1 hz0 hz1
  obtain ⟨_, ⟨x0, x1⟩, ⟨y0, y1⟩, ⟨z0, z1⟩, ⟨x2, x3⟩, ⟨y2, y3⟩, ⟨z2, z3⟩, n0, i0, i1⟩ := unit_facts x y z (ucnt x y z) hx0 hx1 hy0 hy1 hz0 hz1 s0 s1 s2 s3
  unfold uni
  have hu : usq x y z = x * pw (ucnt x y z) * (x * pw (ucnt x y z)) + y * pw (ucnt x y z) * (y * pw (ucnt x y z)) + z * pw (ucnt x y z) * (z * pw (ucnt x y z)) := rfl
  rw [← hu] at n0 i0 i1
  refine ⟨i0, ?_⟩
  rw [uni_near _ _ i0 (by omega), uni_near _ _ i0 (by omega), uni_near _ _ i0 (by omega)]
  obtain ⟨q0, q1, q2⟩ := isq_spec (usq x y z) (by omega)
  unfold dot
  have a := rnd_near (x * pw (ucnt x y z) * 134217728) (isq (usq x y z)) (by omega)
  have b := rnd_near (y * pw (ucnt x y z) * 134217728) (isq (usq x y z)) (by omega)
  have c := rnd_near (z * pw (ucnt x y z) * 134217728) (isq (usq x y z)) (by omega)
  exact half_len (x * pw (ucnt x y z)) (y * pw (ucnt x y z)) (z * pw (ucnt x y z)) (isq (usq x y z)) _ _ _ i0 (by omega) (by omega) a.1 a.2 b.1 b.2 c.1 c.2

set_option maxHeartbeats 1000000 in
theorem units_facts (a b c d e f : Int) (ha0 : 0 ≤ a) (ha1 : a < 65536) (hb0 : 0 ≤ b) (hb1 : b < 65536) (hc0 : 0 ≤ c) (hc1 : c < 65536) (hd0 : 0 ≤ d) (hd1 : d < 65536) (he0 : 0 ≤ e) (he1 : e < 65536) (hf0 : 0 ≤ f) (hf1 : f < 65536) (hnz : ¬ (val a b = 0 ∧ val c d = 0 ∧ val e f = 0)) : ∃ (u0 u1 u2 u3 u4 u5 k0 k1 k2 k3 k4 k5 m0 m1 m2 m3 m4 m5 b0 b1 b2 b3 b4 b5 w0 w1 w2 w3 w4 w5 q : Int) (z o : Bool),
    (∀ w, Calls Try.prog 25 #[(.agg #[.int .u16 (a), .int .u16 (b), .int .u16 (c), .int .u16 (d), .int .u16 (e), .int .u16 (f)])] w fun r w' => r = .returned (.tuple #[(.agg #[.int .u16 (u0), .int .u16 (u1), .int .u16 (u2), .int .u16 (u3), .int .u16 (u4), .int .u16 (u5)]), .bool false]) ∧ Below w.heap.size w w') ∧
    (∀ w, Calls Try.prog 34 #[(.agg #[.int .u16 (a), .int .u16 (b), .int .u16 (c), .int .u16 (d), .int .u16 (e), .int .u16 (f)])] w fun r w' => r = .returned (.tuple #[(.agg #[.int .u16 (u0), .int .u16 (u1), .int .u16 (u2), .int .u16 (u3), .int .u16 (u4), .int .u16 (u5)]), .bool false]) ∧ Below w.heap.size w w') ∧
    (∀ w, Calls Try.prog 22 #[(.agg #[.int .u16 (a), .int .u16 (b), .int .u16 (c), .int .u16 (d), .int .u16 (e), .int .u16 (f)])] w fun r w' => r = .returned (.agg #[.int .u16 (k0), .int .u16 (k1), .int .u16 (k2), .int .u16 (k3), .int .u16 (k4), .int .u16 (k5)]) ∧ Below w.heap.size w w') ∧
    (∀ w, Calls Try.prog 25 #[(.agg #[.int .u16 (k0), .int .u16 (k1), .int .u16 (k2), .int .u16 (k3), .int .u16 (k4), .int .u16 (k5)])] w fun r w' => r = .returned (.tuple #[(.agg #[.int .u16 (m0), .int .u16 (m1), .int .u16 (m2), .int .u16 (m3), .int .u16 (m4), .int .u16 (m5)]), .bool false]) ∧ Below w.heap.size w w') ∧
    (∀ w, Calls Try.prog 22 #[(.agg #[.int .u16 (u0), .int .u16 (u1), .int .u16 (u2), .int .u16 (u3), .int .u16 (u4), .int .u16 (u5)])] w fun r w' => r = .returned (.agg #[.int .u16 (m0), .int .u16 (m1), .int .u16 (m2), .int .u16 (m3), .int .u16 (m4), .int .u16 (m5)]) ∧ Below w.heap.size w w') ∧
    (∀ w, Calls Try.prog 20 #[(.agg #[.int .u16 (u0), .int .u16 (u1), .int .u16 (u2), .int .u16 (u3), .int .u16 (u4), .int .u16 (u5)]), (.agg #[.int .u16 (u0), .int .u16 (u1), .int .u16 (u2), .int .u16 (u3), .int .u16 (u4), .int .u16 (u5)])] w fun r w' => r = .returned (.int .i64 q) ∧ Below w.heap.size w w') ∧
    (18014397972611076 ≤ q ∧ q ≤ 18014399046352900) ∧
    (∀ w, Calls Try.prog 35 #[(.agg #[.int .u16 (a), .int .u16 (b), .int .u16 (c), .int .u16 (d), .int .u16 (e), .int .u16 (f)]), .int .i64 1] w fun r w' => r = .returned (.tuple #[(.agg #[.int .u16 (b0), .int .u16 (b1), .int .u16 (b2), .int .u16 (b3), .int .u16 (b4), .int .u16 (b5)]), .bool o]) ∧ Below w.heap.size w w') ∧
    (∀ w, Calls Try.prog 25 #[(.agg #[.int .u16 (b0), .int .u16 (b1), .int .u16 (b2), .int .u16 (b3), .int .u16 (b4), .int .u16 (b5)])] w fun r w' => r = .returned (.tuple #[(.agg #[.int .u16 (w0), .int .u16 (w1), .int .u16 (w2), .int .u16 (w3), .int .u16 (w4), .int .u16 (w5)]), .bool z]) ∧ Below w.heap.size w w') ∧
    (o = true ∨ o = false ∧ w0 = u0 ∧ w1 = u1 ∧ w2 = u2 ∧ w3 = u3 ∧ w4 = u4 ∧ w5 = u5) := by
  have l0 := val_lo a b
  have g0 := val_hi a b
  have l1 := val_lo c d
  have g1 := val_hi c d
  have l2 := val_lo e f
  have g2 := val_hi e f
  obtain ⟨i0, q0, q1⟩ := uni_len (val a b) (val c d) (val e f) hnz l0 g0 l1 g1 l2 g2
  obtain ⟨su0, tu0⟩ := uni_size (val a b) (val c d) (val e f) (val a b)
  obtain ⟨su1, tu1⟩ := uni_size (val a b) (val c d) (val e f) (val c d)
  obtain ⟨su2, tu2⟩ := uni_size (val a b) (val c d) (val e f) (val e f)
  obtain ⟨nw0, nx0, ny0, nz0⟩ := hi_lo (-val a b) (by omega) (by omega)
  have nv0 := val_of (-val a b) (by omega) (by omega)
  obtain ⟨uw0, ux0, uy0, uz0⟩ := hi_lo (uni (val a b) (val c d) (val e f) (val a b)) su0 tu0
  have uv0 := val_of (uni (val a b) (val c d) (val e f) (val a b)) su0 tu0
  obtain ⟨sl0, sh0⟩ := shv_size (val a b) 1 l0 g0
  obtain ⟨sw0, sx0, sy0, sz0⟩ := hi_lo (shv (val a b) 1) sl0 sh0
  have sv0 := val_of (shv (val a b) 1) sl0 sh0
  obtain ⟨nw1, nx1, ny1, nz1⟩ := hi_lo (-val c d) (by omega) (by omega)
  have nv1 := val_of (-val c d) (by omega) (by omega)
  obtain ⟨uw1, ux1, uy1, uz1⟩ := hi_lo (uni (val a b) (val c d) (val e f) (val c d)) su1 tu1
  have uv1 := val_of (uni (val a b) (val c d) (val e f) (val c d)) su1 tu1
  obtain ⟨sl1, sh1⟩ := shv_size (val c d) 1 l1 g1
  obtain ⟨sw1, sx1, sy1, sz1⟩ := hi_lo (shv (val c d) 1) sl1 sh1
  have sv1 := val_of (shv (val c d) 1) sl1 sh1
  obtain ⟨nw2, nx2, ny2, nz2⟩ := hi_lo (-val e f) (by omega) (by omega)
  have nv2 := val_of (-val e f) (by omega) (by omega)
  obtain ⟨uw2, ux2, uy2, uz2⟩ := hi_lo (uni (val a b) (val c d) (val e f) (val e f)) su2 tu2
  have uv2 := val_of (uni (val a b) (val c d) (val e f) (val e f)) su2 tu2
  obtain ⟨sl2, sh2⟩ := shv_size (val e f) 1 l2 g2
  obtain ⟨sw2, sx2, sy2, sz2⟩ := hi_lo (shv (val e f) 1) sl2 sh2
  have sv2 := val_of (shv (val e f) 1) sl2 sh2
  have hu : ∀ w, Calls Try.prog 25 #[(.agg #[.int .u16 (a), .int .u16 (b), .int .u16 (c), .int .u16 (d), .int .u16 (e), .int .u16 (f)])] w fun r w' => r = .returned (.tuple #[(.agg #[.int .u16 (hi (uni (val a b) (val c d) (val e f) (val a b))), .int .u16 (lo (uni (val a b) (val c d) (val e f) (val a b))), .int .u16 (hi (uni (val a b) (val c d) (val e f) (val c d))), .int .u16 (lo (uni (val a b) (val c d) (val e f) (val c d))), .int .u16 (hi (uni (val a b) (val c d) (val e f) (val e f))), .int .u16 (lo (uni (val a b) (val c d) (val e f) (val e f)))]), .bool false]) ∧ Below w.heap.size w w' := fun w => by
    have h := unit_any a b c d e f ha0 ha1 hb0 hb1 hc0 hc1 hd0 hd1 he0 he1 hf0 hf1 w
    unfold unitV at h
    rw [if_neg hnz] at h
    exact h
  have hru : ∀ w, Calls Try.prog 34 #[(.agg #[.int .u16 (a), .int .u16 (b), .int .u16 (c), .int .u16 (d), .int .u16 (e), .int .u16 (f)])] w fun r w' => r = .returned (.tuple #[(.agg #[.int .u16 (hi (uni (val a b) (val c d) (val e f) (val a b))), .int .u16 (lo (uni (val a b) (val c d) (val e f) (val a b))), .int .u16 (hi (uni (val a b) (val c d) (val e f) (val c d))), .int .u16 (lo (uni (val a b) (val c d) (val e f) (val c d))), .int .u16 (hi (uni (val a b) (val c d) (val e f) (val e f))), .int .u16 (lo (uni (val a b) (val c d) (val e f) (val e f)))]), .bool false]) ∧ Below w.heap.size w w' := fun w => by
    have h := runit_any a b c d e f ha0 ha1 hb0 hb1 hc0 hc1 hd0 hd1 he0 he1 hf0 hf1 w
    unfold unitV at h
    rw [if_neg hnz] at h
    exact h
  have hm : ∀ w, Calls Try.prog 25 #[(.agg #[.int .u16 (hi (-val a b)), .int .u16 (lo (-val a b)), .int .u16 (hi (-val c d)), .int .u16 (lo (-val c d)), .int .u16 (hi (-val e f)), .int .u16 (lo (-val e f))])] w fun r w' => r = .returned (.tuple #[(.agg #[.int .u16 (hi (-uni (val a b) (val c d) (val e f) (val a b))), .int .u16 (lo (-uni (val a b) (val c d) (val e f) (val a b))), .int .u16 (hi (-uni (val a b) (val c d) (val e f) (val c d))), .int .u16 (lo (-uni (val a b) (val c d) (val e f) (val c d))), .int .u16 (hi (-uni (val a b) (val c d) (val e f) (val e f))), .int .u16 (lo (-uni (val a b) (val c d) (val e f) (val e f)))]), .bool false]) ∧ Below w.heap.size w w' := fun w => by
    have h := unit_any (hi (-val a b)) (lo (-val a b)) (hi (-val c d)) (lo (-val c d)) (hi (-val e f)) (lo (-val e f)) (by omega) (by omega) (by omega) (by omega) (by omega) (by omega) (by omega) (by omega) (by omega) (by omega) (by omega) (by omega) w
    rw [nv0, nv1, nv2] at h
    unfold unitV at h
    rw [if_neg (by omega)] at h
    rw [uni_neg (val a b) (val c d) (val e f) _ (by omega), uni_neg (val a b) (val c d) (val e f) _ (by omega), uni_neg (val a b) (val c d) (val e f) _ (by omega)] at h
    exact h
  have hn : ∀ w, Calls Try.prog 22 #[(.agg #[.int .u16 (hi (uni (val a b) (val c d) (val e f) (val a b))), .int .u16 (lo (uni (val a b) (val c d) (val e f) (val a b))), .int .u16 (hi (uni (val a b) (val c d) (val e f) (val c d))), .int .u16 (lo (uni (val a b) (val c d) (val e f) (val c d))), .int .u16 (hi (uni (val a b) (val c d) (val e f) (val e f))), .int .u16 (lo (uni (val a b) (val c d) (val e f) (val e f)))])] w fun r w' => r = .returned (.agg #[.int .u16 (hi (-uni (val a b) (val c d) (val e f) (val a b))), .int .u16 (lo (-uni (val a b) (val c d) (val e f) (val a b))), .int .u16 (hi (-uni (val a b) (val c d) (val e f) (val c d))), .int .u16 (lo (-uni (val a b) (val c d) (val e f) (val c d))), .int .u16 (hi (-uni (val a b) (val c d) (val e f) (val e f))), .int .u16 (lo (-uni (val a b) (val c d) (val e f) (val e f)))]) ∧ Below w.heap.size w w' := fun w => by
    have h := vneg_any (hi (uni (val a b) (val c d) (val e f) (val a b))) (lo (uni (val a b) (val c d) (val e f) (val a b))) (hi (uni (val a b) (val c d) (val e f) (val c d))) (lo (uni (val a b) (val c d) (val e f) (val c d))) (hi (uni (val a b) (val c d) (val e f) (val e f))) (lo (uni (val a b) (val c d) (val e f) (val e f))) (by omega) (by omega) (by omega) (by omega) (by omega) (by omega) (by omega) (by omega) (by omega) (by omega) (by omega) (by omega) w
    rw [uv0, uv1, uv2] at h
    exact h
  have he : ∀ w, Calls Try.prog 20 #[(.agg #[.int .u16 (hi (uni (val a b) (val c d) (val e f) (val a b))), .int .u16 (lo (uni (val a b) (val c d) (val e f) (val a b))), .int .u16 (hi (uni (val a b) (val c d) (val e f) (val c d))), .int .u16 (lo (uni (val a b) (val c d) (val e f) (val c d))), .int .u16 (hi (uni (val a b) (val c d) (val e f) (val e f))), .int .u16 (lo (uni (val a b) (val c d) (val e f) (val e f)))]), (.agg #[.int .u16 (hi (uni (val a b) (val c d) (val e f) (val a b))), .int .u16 (lo (uni (val a b) (val c d) (val e f) (val a b))), .int .u16 (hi (uni (val a b) (val c d) (val e f) (val c d))), .int .u16 (lo (uni (val a b) (val c d) (val e f) (val c d))), .int .u16 (hi (uni (val a b) (val c d) (val e f) (val e f))), .int .u16 (lo (uni (val a b) (val c d) (val e f) (val e f)))])] w fun r w' => r = .returned (.int .i64 (dot (uni (val a b) (val c d) (val e f) (val a b)) (uni (val a b) (val c d) (val e f) (val c d)) (uni (val a b) (val c d) (val e f) (val e f)) (uni (val a b) (val c d) (val e f) (val a b)) (uni (val a b) (val c d) (val e f) (val c d)) (uni (val a b) (val c d) (val e f) (val e f)))) ∧ Below w.heap.size w w' := fun w => by
    have h := rexact_any (hi (uni (val a b) (val c d) (val e f) (val a b))) (lo (uni (val a b) (val c d) (val e f) (val a b))) (hi (uni (val a b) (val c d) (val e f) (val c d))) (lo (uni (val a b) (val c d) (val e f) (val c d))) (hi (uni (val a b) (val c d) (val e f) (val e f))) (lo (uni (val a b) (val c d) (val e f) (val e f))) (hi (uni (val a b) (val c d) (val e f) (val a b))) (lo (uni (val a b) (val c d) (val e f) (val a b))) (hi (uni (val a b) (val c d) (val e f) (val c d))) (lo (uni (val a b) (val c d) (val e f) (val c d))) (hi (uni (val a b) (val c d) (val e f) (val e f))) (lo (uni (val a b) (val c d) (val e f) (val e f))) (by omega) (by omega) (by omega) (by omega) (by omega) (by omega) (by omega) (by omega) (by omega) (by omega) (by omega) (by omega) (by omega) (by omega) (by omega) (by omega) (by omega) (by omega) (by omega) (by omega) (by omega) (by omega) (by omega) (by omega) w
    rw [uv0, uv1, uv2] at h
    exact h
  have hb : ∀ w, Calls Try.prog 25 #[(.agg #[.int .u16 (hi (shv (val a b) 1)), .int .u16 (lo (shv (val a b) 1)), .int .u16 (hi (shv (val c d) 1)), .int .u16 (lo (shv (val c d) 1)), .int .u16 (hi (shv (val e f) 1)), .int .u16 (lo (shv (val e f) 1))])] w fun r w' => r = .returned (unitV (shv (val a b) 1) (shv (val c d) 1) (shv (val e f) 1)) ∧ Below w.heap.size w w' := fun w => by
    have h := unit_any (hi (shv (val a b) 1)) (lo (shv (val a b) 1)) (hi (shv (val c d) 1)) (lo (shv (val c d) 1)) (hi (shv (val e f) 1)) (lo (shv (val e f) 1)) (by omega) (by omega) (by omega) (by omega) (by omega) (by omega) (by omega) (by omega) (by omega) (by omega) (by omega) (by omega) w
    rw [sv0, sv1, sv2] at h
    exact h
  have hs1 := fun w => vshift_any a b c d e f 1 ha0 ha1 hb0 hb1 hc0 hc1 hd0 hd1 he0 he1 hf0 hf1 (by omega) (by omega) w
  cases ho : ((sho (val a b) 1) || (sho (val c d) 1) || (sho (val e f) 1))
  · have o0 : sho (val a b) 1 = false := by revert ho; cases sho (val a b) 1 <;> simp
    have o1 : sho (val c d) 1 = false := by revert ho; cases sho (val c d) 1 <;> cases sho (val a b) 1 <;> simp
    have o2 : sho (val e f) 1 = false := by revert ho; cases sho (val e f) 1 <;> cases sho (val c d) 1 <;> cases sho (val a b) 1 <;> simp
    obtain ⟨d0, d1, d2⟩ := shv_one _ o0
    obtain ⟨d3, d4, d5⟩ := shv_one _ o1
    obtain ⟨d6, d7, d8⟩ := shv_one _ o2
    rw [ho] at hs1
    have hw : unitV (shv (val a b) 1) (shv (val c d) 1) (shv (val e f) 1) = (.tuple #[(.agg #[.int .u16 (hi (uni (val a b) (val c d) (val e f) (val a b))), .int .u16 (lo (uni (val a b) (val c d) (val e f) (val a b))), .int .u16 (hi (uni (val a b) (val c d) (val e f) (val c d))), .int .u16 (lo (uni (val a b) (val c d) (val e f) (val c d))), .int .u16 (hi (uni (val a b) (val c d) (val e f) (val e f))), .int .u16 (lo (uni (val a b) (val c d) (val e f) (val e f)))]), .bool false]) := by
      rw [d0, d3, d6]
      unfold unitV
      rw [if_neg (by omega), uni_dbl _ _ _ _ hnz d1 d2 d4 d5 d7 d8, uni_dbl _ _ _ _ hnz d1 d2 d4 d5 d7 d8, uni_dbl _ _ _ _ hnz d1 d2 d4 d5 d7 d8]
    rw [hw] at hb
    exact ⟨_, _, _, _, _, _, _, _, _, _, _, _, _, _, _, _, _, _, _, _, _, _, _, _, _, _, _, _, _, _, _, _, _, hu, hru, fun w => vneg_any a b c d e f ha0 ha1 hb0 hb1 hc0 hc1 hd0 hd1 he0 he1 hf0 hf1 w, hm, hn, he, ⟨q0, q1⟩, hs1, hb, .inr ⟨rfl, rfl, rfl, rfl, rfl, rfl, rfl⟩⟩
  · obtain ⟨w0, w1, w2, w3, w4, w5, bb, hw⟩ := unitV_shape (shv (val a b) 1) (shv (val c d) 1) (shv (val e f) 1)
    rw [hw] at hb
    rw [ho] at hs1
    exact ⟨_, _, _, _, _, _, _, _, _, _, _, _, _, _, _, _, _, _, _, _, _, _, _, _, _, _, _, _, _, _, _, _, _, hu, hru, fun w => vneg_any a b c d e f ha0 ha1 hb0 hb1 hc0 hc1 hd0 hd1 he0 he1 hf0 hf1 w, hm, hn, he, ⟨q0, q1⟩, hs1, hb, .inl rfl⟩

set_option maxRecDepth 100000 in
set_option maxHeartbeats 4000000 in
theorem units_law_n (a b c d e f : Int) (ha0 : 0 ≤ a) (ha1 : a < 65536) (hb0 : 0 ≤ b) (hb1 : b < 65536) (hc0 : 0 ≤ c) (hc1 : c < 65536) (hd0 : 0 ≤ d) (hd1 : d < 65536) (he0 : 0 ≤ e) (he1 : e < 65536) (hf0 : 0 ≤ f) (hf1 : f < 65536) (hnz : ¬ (val a b = 0 ∧ val c d = 0 ∧ val e f = 0)) (w : World) :
    Calls Try.prog 8 #[(.agg #[.int .u16 (a), .int .u16 (b), .int .u16 (c), .int .u16 (d), .int .u16 (e), .int .u16 (f)])] w fun r w' => r = .returned (.bool true) ∧ Below w.heap.size w w' := by
  obtain ⟨u0, u1, u2, u3, u4, u5, k0, k1, k2, k3, k4, k5, m0, m1, m2, m3, m4, m5, b0, b1, b2, b3, b4, b5, w0, w1, w2, w3, w4, w5, q, z, o, U1, U2, N1, U3, N2, E1, ⟨q0, q1⟩, S1, U4, hd⟩ := units_facts a b c d e f ha0 ha1 hb0 hb1 hc0 hc1 hd0 hd1 he0 he1 hf0 hf1 hnz
  clear hnz
  have hev := @eq_vec
  rcases hd with rfl | ⟨rfl, rfl, rfl, rfl, rfl, rfl, rfl⟩
  all_goals
    go_enter Try.func8, Try.ntmps8
    go_wp2_with fail
    refine (lives_any _).mono ?_
    rintro _ r1 ⟨rfl, hbr1⟩
    obtain ⟨hcr1, hfr1⟩ := bcell hbr1
    have hzr1 := hbr1.size
    try simp only [World.size_alloc, World.size_setCell, World.size_drew] at hzr1
    have hlr1w0 : w.heap.size < r1.heap.size := by omega
    go_wp2_with fail
    refine (U1 _).mono ?_
    rintro _ r2 ⟨rfl, hbr2⟩
    obtain ⟨hcr2, hfr2⟩ := bcell hbr2
    have hzr2 := hbr2.size
    try simp only [World.size_alloc, World.size_setCell, World.size_drew] at hzr2
    have hlr2w0 : w.heap.size < r2.heap.size := by omega
    go_wp2_with fail
    refine (U2 _).mono ?_
    rintro _ r3 ⟨rfl, hbr3⟩
    obtain ⟨hcr3, hfr3⟩ := bcell hbr3
    have hzr3 := hbr3.size
    try simp only [World.size_alloc, World.size_setCell, World.size_drew] at hzr3
    have hlr3w0 : w.heap.size < r3.heap.size := by omega
    have hlr3r20 : r2.heap.size < r3.heap.size := by omega
    go_wp2_with fail
    refine (N1 _).mono ?_
    rintro _ r4 ⟨rfl, hbr4⟩
    obtain ⟨hcr4, hfr4⟩ := bcell hbr4
    have hzr4 := hbr4.size
    try simp only [World.size_alloc, World.size_setCell, World.size_drew] at hzr4
    have hlr4w0 : w.heap.size < r4.heap.size := by omega
    have hlr4r20 : r2.heap.size < r4.heap.size := by omega
    have hlr4r30 : r3.heap.size < r4.heap.size := by omega
    go_wp2_with fail
    refine (U3 _).mono ?_
    rintro _ r5 ⟨rfl, hbr5⟩
    obtain ⟨hcr5, hfr5⟩ := bcell hbr5
    have hzr5 := hbr5.size
    try simp only [World.size_alloc, World.size_setCell, World.size_drew] at hzr5
    have hlr5w0 : w.heap.size < r5.heap.size := by omega
    have hlr5r20 : r2.heap.size < r5.heap.size := by omega
    have hlr5r30 : r3.heap.size < r5.heap.size := by omega
    go_wp2_with fail
    have hecr6 := @Ext.cell
    refine wp_region_ext (by kernel_rfl) (by kernel_rfl) ?_
    repeat (first | go_big_quiet_skip | (go_big_quiet_want; go_big_quiet_op; first | go_big_quiet_on | (go_big_quiet_call ((first | fail | (go_at_call 22; exact ext_call (N2 _)))))))
    clear hecr6
    refine wpQuiet_nil ?_
    rintro r6 ⟨⟨_, hbr6⟩, rfl⟩
    obtain ⟨hcr6, hfr6⟩ := bcell hbr6
    have hzr6 := hbr6.size
    try simp only [World.size_alloc, World.size_setCell, World.size_drew] at hzr6
    have hlr6w0 : w.heap.size < r6.heap.size := by omega
    have hlr6r20 : r2.heap.size < r6.heap.size := by omega
    have hlr6r30 : r3.heap.size < r6.heap.size := by omega
    have hlr6r50 : r5.heap.size < r6.heap.size := by omega
    go_wp2_with fail
    refine (E1 _).mono ?_
    rintro _ r7 ⟨rfl, hbr7⟩
    obtain ⟨hcr7, hfr7⟩ := bcell hbr7
    have hzr7 := hbr7.size
    try simp only [World.size_alloc, World.size_setCell, World.size_drew] at hzr7
    have hlr7w0 : w.heap.size < r7.heap.size := by omega
    have hlr7r20 : r2.heap.size < r7.heap.size := by omega
    have hlr7r30 : r3.heap.size < r7.heap.size := by omega
    have hlr7r50 : r5.heap.size < r7.heap.size := by omega
    go_wp2_with fail
    refine (S1 _).mono ?_
    rintro _ r8 ⟨rfl, hbr8⟩
    obtain ⟨hcr8, hfr8⟩ := bcell hbr8
    have hzr8 := hbr8.size
    try simp only [World.size_alloc, World.size_setCell, World.size_drew] at hzr8
    have hlr8w0 : w.heap.size < r8.heap.size := by omega
    have hlr8r20 : r2.heap.size < r8.heap.size := by omega
    have hlr8r30 : r3.heap.size < r8.heap.size := by omega
    have hlr8r50 : r5.heap.size < r8.heap.size := by omega
    go_wp2_with fail
    refine (U4 _).mono ?_
    rintro _ r9 ⟨rfl, hbr9⟩
    obtain ⟨hcr9, hfr9⟩ := bcell hbr9
    have hzr9 := hbr9.size
    try simp only [World.size_alloc, World.size_setCell, World.size_drew] at hzr9
    have hlr9w0 : w.heap.size < r9.heap.size := by omega
    have hlr9r20 : r2.heap.size < r9.heap.size := by omega
    have hlr9r30 : r3.heap.size < r9.heap.size := by omega
    have hlr9r50 : r5.heap.size < r9.heap.size := by omega
    have hlr9r80 : r8.heap.size < r9.heap.size := by omega
    go_wp2
    go_ret
    exact ⟨rfl, (by repeat' (first | (with_reducible exact Below.refl _ _) | (with_reducible refine bl_set ?_ _ ?_) | (with_reducible refine bl_alloc ?_ _) | (with_reducible refine bl_drew ?_) | (with_reducible refine bl_via (by with_reducible assumption) ?_) | (with_reducible assumption) | omega | (simp only []; omega) | (simp; omega)))⟩

set_option maxRecDepth 100000 in
set_option maxHeartbeats 4000000 in
theorem units_law_z (a b c d e f : Int) (ha0 : 0 ≤ a) (ha1 : a < 65536) (hb0 : 0 ≤ b) (hb1 : b < 65536) (hc0 : 0 ≤ c) (hc1 : c < 65536) (hd0 : 0 ≤ d) (hd1 : d < 65536) (he0 : 0 ≤ e) (he1 : e < 65536) (hf0 : 0 ≤ f) (hf1 : f < 65536) (hz : val a b = 0 ∧ val c d = 0 ∧ val e f = 0) (w : World) :
    Calls Try.prog 8 #[(.agg #[.int .u16 (a), .int .u16 (b), .int .u16 (c), .int .u16 (d), .int .u16 (e), .int .u16 (f)])] w fun r w' => r = .returned (.bool true) ∧ Below w.heap.size w w' := by
  have U1 : (∀ w, Calls Try.prog 25 #[(.agg #[.int .u16 (a), .int .u16 (b), .int .u16 (c), .int .u16 (d), .int .u16 (e), .int .u16 (f)])] w fun r w' => r = .returned (.tuple #[(.agg #[.int .u16 (0), .int .u16 (0), .int .u16 (0), .int .u16 (0), .int .u16 (0), .int .u16 (0)]), .bool true]) ∧ Below w.heap.size w w') := fun w => by
    have h := unit_any a b c d e f ha0 ha1 hb0 hb1 hc0 hc1 hd0 hd1 he0 he1 hf0 hf1 w
    unfold unitV at h
    rw [if_pos hz] at h
    exact h
  have U2 : (∀ w, Calls Try.prog 34 #[(.agg #[.int .u16 (a), .int .u16 (b), .int .u16 (c), .int .u16 (d), .int .u16 (e), .int .u16 (f)])] w fun r w' => r = .returned (.tuple #[(.agg #[.int .u16 (0), .int .u16 (0), .int .u16 (0), .int .u16 (0), .int .u16 (0), .int .u16 (0)]), .bool true]) ∧ Below w.heap.size w w') := fun w => by
    have h := runit_any a b c d e f ha0 ha1 hb0 hb1 hc0 hc1 hd0 hd1 he0 he1 hf0 hf1 w
    unfold unitV at h
    rw [if_pos hz] at h
    exact h
  have z0 : hi (-0) = 0 := by decide +kernel
  have z1 : lo (-0) = 0 := by decide +kernel
  have z2 : val 0 0 = 0 := by decide +kernel
  have N1 : (∀ w, Calls Try.prog 22 #[(.agg #[.int .u16 (a), .int .u16 (b), .int .u16 (c), .int .u16 (d), .int .u16 (e), .int .u16 (f)])] w fun r w' => r = .returned (.agg #[.int .u16 (0), .int .u16 (0), .int .u16 (0), .int .u16 (0), .int .u16 (0), .int .u16 (0)]) ∧ Below w.heap.size w w') := fun w => by
    have h := vneg_any a b c d e f ha0 ha1 hb0 hb1 hc0 hc1 hd0 hd1 he0 he1 hf0 hf1 w
    rw [hz.1, hz.2.1, hz.2.2, z0, z1] at h
    exact h
  have U3 : (∀ w, Calls Try.prog 25 #[(.agg #[.int .u16 (0), .int .u16 (0), .int .u16 (0), .int .u16 (0), .int .u16 (0), .int .u16 (0)])] w fun r w' => r = .returned (.tuple #[(.agg #[.int .u16 (0), .int .u16 (0), .int .u16 (0), .int .u16 (0), .int .u16 (0), .int .u16 (0)]), .bool true]) ∧ Below w.heap.size w w') := fun w => by
    have h := unit_any 0 0 0 0 0 0 (by omega) (by omega) (by omega) (by omega) (by omega) (by omega) (by omega) (by omega) (by omega) (by omega) (by omega) (by omega) w
    unfold unitV at h
    rw [if_pos ⟨z2, z2, z2⟩] at h
    exact h
  have N2 : (∀ w, Calls Try.prog 22 #[(.agg #[.int .u16 (0), .int .u16 (0), .int .u16 (0), .int .u16 (0), .int .u16 (0), .int .u16 (0)])] w fun r w' => r = .returned (.agg #[.int .u16 (0), .int .u16 (0), .int .u16 (0), .int .u16 (0), .int .u16 (0), .int .u16 (0)]) ∧ Below w.heap.size w w') := fun w => by
    have h := vneg_any 0 0 0 0 0 0 (by omega) (by omega) (by omega) (by omega) (by omega) (by omega) (by omega) (by omega) (by omega) (by omega) (by omega) (by omega) w
    rw [z2, z0, z1] at h
    exact h
  clear hz z0 z1 z2
  have hev := @eq_vec
  go_enter Try.func8, Try.ntmps8
  go_wp2_with fail
  refine (lives_any _).mono ?_
  rintro _ r1 ⟨rfl, hbr1⟩
  obtain ⟨hcr1, hfr1⟩ := bcell hbr1
  have hzr1 := hbr1.size
  try simp only [World.size_alloc, World.size_setCell, World.size_drew] at hzr1
  have hlr1w0 : w.heap.size < r1.heap.size := by omega
  go_wp2_with fail
  refine (U1 _).mono ?_
  rintro _ r2 ⟨rfl, hbr2⟩
  obtain ⟨hcr2, hfr2⟩ := bcell hbr2
  have hzr2 := hbr2.size
  try simp only [World.size_alloc, World.size_setCell, World.size_drew] at hzr2
  have hlr2w0 : w.heap.size < r2.heap.size := by omega
  go_wp2_with fail
  refine (U2 _).mono ?_
  rintro _ r3 ⟨rfl, hbr3⟩
  obtain ⟨hcr3, hfr3⟩ := bcell hbr3
  have hzr3 := hbr3.size
  try simp only [World.size_alloc, World.size_setCell, World.size_drew] at hzr3
  have hlr3w0 : w.heap.size < r3.heap.size := by omega
  have hlr3r20 : r2.heap.size < r3.heap.size := by omega
  go_wp2_with fail
  refine (N1 _).mono ?_
  rintro _ r4 ⟨rfl, hbr4⟩
  obtain ⟨hcr4, hfr4⟩ := bcell hbr4
  have hzr4 := hbr4.size
  try simp only [World.size_alloc, World.size_setCell, World.size_drew] at hzr4
  have hlr4w0 : w.heap.size < r4.heap.size := by omega
  have hlr4r20 : r2.heap.size < r4.heap.size := by omega
  have hlr4r30 : r3.heap.size < r4.heap.size := by omega
  go_wp2_with fail
  refine (U3 _).mono ?_
  rintro _ r5 ⟨rfl, hbr5⟩
  obtain ⟨hcr5, hfr5⟩ := bcell hbr5
  have hzr5 := hbr5.size
  try simp only [World.size_alloc, World.size_setCell, World.size_drew] at hzr5
  have hlr5w0 : w.heap.size < r5.heap.size := by omega
  have hlr5r20 : r2.heap.size < r5.heap.size := by omega
  have hlr5r30 : r3.heap.size < r5.heap.size := by omega
  go_wp2_with fail
  have hecr6 := @Ext.cell
  refine wp_region_ext (by kernel_rfl) (by kernel_rfl) ?_
  repeat (first | go_big_quiet_skip | (go_big_quiet_want; go_big_quiet_op; first | go_big_quiet_on | (go_big_quiet_call ((first | fail | (go_at_call 22; exact ext_call (N2 _)))))))
  clear hecr6
  refine wpQuiet_nil ?_
  rintro r6 ⟨⟨_, hbr6⟩, rfl⟩
  obtain ⟨hcr6, hfr6⟩ := bcell hbr6
  have hzr6 := hbr6.size
  try simp only [World.size_alloc, World.size_setCell, World.size_drew] at hzr6
  have hlr6w0 : w.heap.size < r6.heap.size := by omega
  have hlr6r20 : r2.heap.size < r6.heap.size := by omega
  have hlr6r30 : r3.heap.size < r6.heap.size := by omega
  have hlr6r50 : r5.heap.size < r6.heap.size := by omega
  go_wp2
  go_ret
  exact ⟨rfl, (by repeat' (first | (with_reducible exact Below.refl _ _) | (with_reducible refine bl_set ?_ _ ?_) | (with_reducible refine bl_alloc ?_ _) | (with_reducible refine bl_drew ?_) | (with_reducible refine bl_via (by with_reducible assumption) ?_) | (with_reducible assumption) | omega | (simp only []; omega) | (simp; omega)))⟩

theorem units_law (a b c d e f : Int) (ha0 : 0 ≤ a) (ha1 : a < 65536) (hb0 : 0 ≤ b) (hb1 : b < 65536) (hc0 : 0 ≤ c) (hc1 : c < 65536) (hd0 : 0 ≤ d) (hd1 : d < 65536) (he0 : 0 ≤ e) (he1 : e < 65536) (hf0 : 0 ≤ f) (hf1 : f < 65536) (w : World) :
    Calls Try.prog 8 #[(.agg #[.int .u16 (a), .int .u16 (b), .int .u16 (c), .int .u16 (d), .int .u16 (e), .int .u16 (f)])] w fun r w' => r = .returned (.bool true) ∧ Below w.heap.size w w' := by
  by_cases h : val a b = 0 ∧ val c d = 0 ∧ val e f = 0
  · exact units_law_z a b c d e f ha0 ha1 hb0 hb1 hc0 hc1 hd0 hd1 he0 he1 hf0 hf1 h w
  · exact units_law_n a b c d e f ha0 ha1 hb0 hb1 hc0 hc1 hd0 hd1 he0 he1 hf0 hf1 h w
end Go.Proofs.Ytkgpdpengfdhbaa
