/- Contract of the reference's Unit over this translation. -/
import Derived.Test.YtbbhppjamighdaaDoorWa
import Derived.Test.YtbbhppjamighdaaDoorPv
import Derived.Test.YtbbhppjamighdaaDoorRb
namespace Go.Proofs.YtbbhppjamighdaaDoor
set_option linter.unusedSimpArgs false
set_option linter.unusedVariables false
open Go.RowKit

theorem rsize17 (v : Int) (h0 : -268435455 ≤ v) (h1 : v ≤ 268435455) (w : World) :
    Calls Tryd.prog 86 #[.int .i64 v] w fun e w' => e = .returned (.int .i64 (mag v)) ∧ w = w' := by
  have hm : max v (-v) = mag v := by unfold mag; split <;> omega
  go_enter Tryd.func86, Tryd.ntmps86
  go_wp2
  go_ret
  exact ⟨rfl, rfl⟩

theorem mag_le (v : Int) (h0 : -268435455 ≤ v) (h1 : v ≤ 268435455) : 0 ≤ mag v ∧ mag v ≤ 268435455 := by unfold mag; split <;> omega
theorem mag_pw (v k : Int) : mag v * pw k = mag (v * pw k) := by
  have := pw_pos k
  unfold mag
  by_cases h : v < 0
  · have : v * pw k < 0 := Int.mul_neg_of_neg_of_pos h (by omega)
    rw [if_pos h, if_pos this, Int.neg_mul]
  · have : 0 ≤ v * pw k := Int.mul_nonneg (by omega) (by omega)
    rw [if_neg h, if_neg (by omega)]
/-- The loop's facts. -/
theorem most_facts (x y z : Int) (h : ¬ (x = 0 ∧ y = 0 ∧ z = 0)) (hx0 : -268435455 ≤ x) (hx1 : x ≤ 268435455) (hy0 : -268435455 ≤ y) (hy1 : y ≤ 268435455) (hz0 : -268435455 ≤ z) (hz1 : z ≤ 268435455) :
    (1 ≤ max (max (mag x) (mag y)) (mag z) ∧ max (max (mag x) (mag y)) (mag z) ≤ 268435455) ∧ (134217728 ≤ max (max (mag x) (mag y)) (mag z) * pw (ucnt x y z)) ∧
    (∀ k, 0 ≤ k → k < ucnt x y z → max (max (mag x) (mag y)) (mag z) * pw k < 134217728) ∧
    (∀ k, k ≤ ucnt x y z → (-268435455 ≤ x * pw k ∧ x * pw k ≤ 268435455) ∧ (-268435455 ≤ y * pw k ∧ y * pw k ≤ 268435455) ∧ (-268435455 ≤ z * pw k ∧ z * pw k ≤ 268435455)) := by
  obtain ⟨s0, s1, s2, s3⟩ := ucnt_spec x y z h hx0 hx1 hy0 hy1 hz0 hz1
  obtain ⟨⟨e0, e1⟩, ⟨a0, a1⟩, ⟨b0, b1⟩, ⟨c0, c1⟩, _⟩ := unit_facts x y z (ucnt x y z) hx0 hx1 hy0 hy1 hz0 hz1 s0 s1 s2 s3
  have mx := mag_le x hx0 hx1
  have my := mag_le y hy0 hy1
  have mz := mag_le z hz0 hz1
  have px := fun e => mag_pos x e
  have py := fun e => mag_pos y e
  have pz := fun e => mag_pos z e
  have low : ∀ v k, -268435455 ≤ v → v ≤ 268435455 → (v = 0 ∨ ucnt x y z ≤ nrc v) → 0 ≤ k → k < ucnt x y z → mag v * pw k < 134217728 := fun v k v0 v1 hv hk hl => by
    by_cases c : v = 0
    · rw [c]; show (0 : Int) * pw k < _; omega
    · have en : nrc v = nrn v := by
        unfold nrc
        rw [if_neg c]
      have := nrm_step v k c v0 v1 hk (by omega)
      rw [mag_pw]; unfold mag; split <;> omega
  have top : ∀ v, v ≠ 0 → -268435455 ≤ v → v ≤ 268435455 → ucnt x y z = nrc v → mag v ≤ max (max (mag x) (mag y)) (mag z) → 134217728 ≤ max (max (mag x) (mag y)) (mag z) * pw (ucnt x y z) := fun v c v0 v1 hv hm => by
    obtain ⟨_, _, _, _, g⟩ := nrc_in v c v0 v1
    have k1 : 134217728 ≤ mag v * pw (ucnt x y z) := by rw [mag_pw, hv]; unfold mag; split <;> omega
    have k2 : mag v * pw (ucnt x y z) ≤ max (max (mag x) (mag y)) (mag z) * pw (ucnt x y z) := Int.mul_le_mul_of_nonneg_right hm (by have := pw_pos (ucnt x y z); omega)
    omega
  refine ⟨⟨?_, by omega⟩, ?_, fun k k0 k1 => ?_, fun k k1 => ⟨shift_le x k _ k1 a0 a1, shift_le y k _ k1 b0 b1, shift_le z k _ k1 c0 c1⟩⟩
  · by_cases cx : x = 0
    · by_cases cy : y = 0
      · have := pz (by omega); omega
      · have := py cy; omega
    · have := px cx; omega
  · rcases s3 with ⟨c, g⟩ | ⟨c, g⟩ | ⟨c, g⟩
    · exact top x c hx0 hx1 g (by omega)
    · exact top y c hy0 hy1 g (by omega)
    · exact top z c hz0 hz1 g (by omega)
  · have lx := low x k hx0 hx1 s0 k0 k1
    have ly := low y k hy0 hy1 s1 k0 k1
    have lz := low z k hz0 hz1 s2 k0 k1
    rcases (show max (max (mag x) (mag y)) (mag z) = mag x ∨ max (max (mag x) (mag y)) (mag z) = mag y ∨ max (max (mag x) (mag y)) (mag z) = mag z by omega) with e | e | e <;> rw [e] <;> assumption

set_option maxHeartbeats 1000000 in
theorem runit_none (a b c d e f : Int) (ha0 : 0 ≤ a) (ha1 : a < 65536) (hb0 : 0 ≤ b) (hb1 : b < 65536) (hc0 : 0 ≤ c) (hc1 : c < 65536) (hd0 : 0 ≤ d) (hd1 : d < 65536) (he0 : 0 ≤ e) (he1 : e < 65536) (hf0 : 0 ≤ f) (hf1 : f < 65536) (h0 : val a b = 0) (h1 : val c d = 0) (h2 : val e f = 0) (w : World) :
    Calls Tryd.prog 74 #[(.agg #[.int .u16 (a), .int .u16 (b), .int .u16 (c), .int .u16 (d), .int .u16 (e), .int .u16 (f)])] w fun r w' => r = .returned (.tuple #[(.agg #[.int .u16 (0), .int .u16 (0), .int .u16 (0), .int .u16 (0), .int .u16 (0), .int .u16 (0)]), .bool true]) ∧ Below w.heap.size w w' := by
  have k : max (max (mag (val a b)) (mag (val c d))) (mag (val e f)) = 0 := by rw [h0, h1, h2]; decide +kernel
  have hif : (if (if mag (val a b) < mag (val c d) then mag (val c d) else mag (val a b)) < mag (val e f) then mag (val e f) else if mag (val a b) < mag (val c d) then mag (val c d) else mag (val a b)) = 0 := by rw [h0, h1, h2]; decide +kernel
  clear h0 h1 h2 k
  go_enter Tryd.func74, Tryd.ntmps74
  go_wp2_with fail
  refine (rvalues_any a b c d e f ha0 ha1 hb0 hb1 hc0 hc1 hd0 hd1 he0 he1 hf0 hf1 _).mono ?_
  rintro _ r1 ⟨rfl, hbr1⟩
  obtain ⟨hcr1, hfr1⟩ := bcell hbr1
  have hzr1 := hbr1.size
  try simp only [World.size_alloc, World.size_setCell, World.size_drew] at hzr1
  have hlr1w0 : w.heap.size < r1.heap.size := by omega
  have hlr1w1 : w.heap.size + 1 < r1.heap.size := by omega
  go_wp2_with fail
  have hecr2 := @Ext.cell
  refine wp_region_ext (by kernel_rfl) (by kernel_rfl) ?_
  repeat (first | go_big_quiet_skip | (go_big_quiet_want; go_big_quiet_op; first | go_big_quiet_on | (go_big_quiet_call ((first | fail | (go_at_call 86; exact ext_call_same (rsize17 _ (val_lo _ _) (val_hi _ _) _)))))))
  clear hecr2
  refine wpQuiet_nil ?_
  rintro r2 ⟨⟨_, hbr2⟩, rfl⟩
  obtain ⟨hcr2, hfr2⟩ := bcell hbr2
  have hzr2 := hbr2.size
  try simp only [World.size_alloc, World.size_setCell, World.size_drew] at hzr2
  have hlr2w0 : w.heap.size < r2.heap.size := by omega
  have hlr2w1 : w.heap.size + 1 < r2.heap.size := by omega
  have hlr2r10 : r1.heap.size < r2.heap.size := by omega
  go_wp2
  refine bodyPost_ret (v := .tuple #[(.agg #[.int .u16 (0), .int .u16 (0), .int .u16 (0), .int .u16 (0), .int .u16 (0), .int .u16 (0)]), .bool true]) (by simp [results, Tryd.results74, go_sem, *]) rfl ⟨rfl, ?_⟩; exact (by repeat' (first | (with_reducible exact Below.refl _ _) | (with_reducible refine bl_set ?_ _ ?_) | (with_reducible refine bl_alloc ?_ _) | (with_reducible refine bl_drew ?_) | (with_reducible refine bl_via (by with_reducible assumption) ?_) | (with_reducible assumption) | omega | (simp only []; omega) | (simp; omega)))

set_option maxRecDepth 100000 in
set_option maxHeartbeats 4000000 in
theorem runit_some (a b c d e f : Int) (ha0 : 0 ≤ a) (ha1 : a < 65536) (hb0 : 0 ≤ b) (hb1 : b < 65536) (hc0 : 0 ≤ c) (hc1 : c < 65536) (hd0 : 0 ≤ d) (hd1 : d < 65536) (he0 : 0 ≤ e) (he1 : e < 65536) (hf0 : 0 ≤ f) (hf1 : f < 65536) (hnz : ¬ (val a b = 0 ∧ val c d = 0 ∧ val e f = 0)) (w : World) :
    Calls Tryd.prog 74 #[(.agg #[.int .u16 (a), .int .u16 (b), .int .u16 (c), .int .u16 (d), .int .u16 (e), .int .u16 (f)])] w fun r w' => r = .returned (.tuple #[(.agg #[.int .u16 (hi (rnd (val a b * pw (ucnt (val a b) (val c d) (val e f)) * 134217728) (isq (val a b * pw (ucnt (val a b) (val c d) (val e f)) * (val a b * pw (ucnt (val a b) (val c d) (val e f))) + val c d * pw (ucnt (val a b) (val c d) (val e f)) * (val c d * pw (ucnt (val a b) (val c d) (val e f))) + val e f * pw (ucnt (val a b) (val c d) (val e f)) * (val e f * pw (ucnt (val a b) (val c d) (val e f))))))), .int .u16 (lo (rnd (val a b * pw (ucnt (val a b) (val c d) (val e f)) * 134217728) (isq (val a b * pw (ucnt (val a b) (val c d) (val e f)) * (val a b * pw (ucnt (val a b) (val c d) (val e f))) + val c d * pw (ucnt (val a b) (val c d) (val e f)) * (val c d * pw (ucnt (val a b) (val c d) (val e f))) + val e f * pw (ucnt (val a b) (val c d) (val e f)) * (val e f * pw (ucnt (val a b) (val c d) (val e f))))))), .int .u16 (hi (rnd (val c d * pw (ucnt (val a b) (val c d) (val e f)) * 134217728) (isq (val a b * pw (ucnt (val a b) (val c d) (val e f)) * (val a b * pw (ucnt (val a b) (val c d) (val e f))) + val c d * pw (ucnt (val a b) (val c d) (val e f)) * (val c d * pw (ucnt (val a b) (val c d) (val e f))) + val e f * pw (ucnt (val a b) (val c d) (val e f)) * (val e f * pw (ucnt (val a b) (val c d) (val e f))))))), .int .u16 (lo (rnd (val c d * pw (ucnt (val a b) (val c d) (val e f)) * 134217728) (isq (val a b * pw (ucnt (val a b) (val c d) (val e f)) * (val a b * pw (ucnt (val a b) (val c d) (val e f))) + val c d * pw (ucnt (val a b) (val c d) (val e f)) * (val c d * pw (ucnt (val a b) (val c d) (val e f))) + val e f * pw (ucnt (val a b) (val c d) (val e f)) * (val e f * pw (ucnt (val a b) (val c d) (val e f))))))), .int .u16 (hi (rnd (val e f * pw (ucnt (val a b) (val c d) (val e f)) * 134217728) (isq (val a b * pw (ucnt (val a b) (val c d) (val e f)) * (val a b * pw (ucnt (val a b) (val c d) (val e f))) + val c d * pw (ucnt (val a b) (val c d) (val e f)) * (val c d * pw (ucnt (val a b) (val c d) (val e f))) + val e f * pw (ucnt (val a b) (val c d) (val e f)) * (val e f * pw (ucnt (val a b) (val c d) (val e f))))))), .int .u16 (lo (rnd (val e f * pw (ucnt (val a b) (val c d) (val e f)) * 134217728) (isq (val a b * pw (ucnt (val a b) (val c d) (val e f)) * (val a b * pw (ucnt (val a b) (val c d) (val e f))) + val c d * pw (ucnt (val a b) (val c d) (val e f)) * (val c d * pw (ucnt (val a b) (val c d) (val e f))) + val e f * pw (ucnt (val a b) (val c d) (val e f)) * (val e f * pw (ucnt (val a b) (val c d) (val e f)))))))]), .bool false]) ∧ Below w.heap.size w w' := by
  obtain ⟨s0, s1, s2, s3⟩ := ucnt_spec (val a b) (val c d) (val e f) hnz (val_lo _ _) (val_hi _ _) (val_lo _ _) (val_hi _ _) (val_lo _ _) (val_hi _ _)
  obtain ⟨⟨u0, u1⟩, _, _, _, ⟨x2, x3⟩, ⟨y2, y3⟩, ⟨z2, z3⟩, n0, i0, i1⟩ := unit_facts (val a b) (val c d) (val e f) (ucnt (val a b) (val c d) (val e f)) (val_lo _ _) (val_hi _ _) (val_lo _ _) (val_hi _ _) (val_lo _ _) (val_hi _ _) s0 s1 s2 s3
  obtain ⟨⟨m0, m1⟩, hE, hN, hB⟩ := most_facts (val a b) (val c d) (val e f) hnz (val_lo _ _) (val_hi _ _) (val_lo _ _) (val_hi _ _) (val_lo _ _) (val_hi _ _)
  obtain ⟨c00, c01⟩ := comp_le (val a b * pw (ucnt (val a b) (val c d) (val e f))) (val a b * pw (ucnt (val a b) (val c d) (val e f)) * (val a b * pw (ucnt (val a b) (val c d) (val e f))) + val c d * pw (ucnt (val a b) (val c d) (val e f)) * (val c d * pw (ucnt (val a b) (val c d) (val e f))) + val e f * pw (ucnt (val a b) (val c d) (val e f)) * (val e f * pw (ucnt (val a b) (val c d) (val e f)))) (by omega)
  have rg0 := rnd_ge (val a b * pw (ucnt (val a b) (val c d) (val e f)) * 134217728) (isq (val a b * pw (ucnt (val a b) (val c d) (val e f)) * (val a b * pw (ucnt (val a b) (val c d) (val e f))) + val c d * pw (ucnt (val a b) (val c d) (val e f)) * (val c d * pw (ucnt (val a b) (val c d) (val e f))) + val e f * pw (ucnt (val a b) (val c d) (val e f)) * (val e f * pw (ucnt (val a b) (val c d) (val e f))))) (-268435455) (by omega) (by omega)
  have rl0 := rnd_le (val a b * pw (ucnt (val a b) (val c d) (val e f)) * 134217728) (isq (val a b * pw (ucnt (val a b) (val c d) (val e f)) * (val a b * pw (ucnt (val a b) (val c d) (val e f))) + val c d * pw (ucnt (val a b) (val c d) (val e f)) * (val c d * pw (ucnt (val a b) (val c d) (val e f))) + val e f * pw (ucnt (val a b) (val c d) (val e f)) * (val e f * pw (ucnt (val a b) (val c d) (val e f))))) 268435455 (by omega) (by omega)
  obtain ⟨c10, c11⟩ := comp_le (val c d * pw (ucnt (val a b) (val c d) (val e f))) (val a b * pw (ucnt (val a b) (val c d) (val e f)) * (val a b * pw (ucnt (val a b) (val c d) (val e f))) + val c d * pw (ucnt (val a b) (val c d) (val e f)) * (val c d * pw (ucnt (val a b) (val c d) (val e f))) + val e f * pw (ucnt (val a b) (val c d) (val e f)) * (val e f * pw (ucnt (val a b) (val c d) (val e f)))) (by omega)
  have rg1 := rnd_ge (val c d * pw (ucnt (val a b) (val c d) (val e f)) * 134217728) (isq (val a b * pw (ucnt (val a b) (val c d) (val e f)) * (val a b * pw (ucnt (val a b) (val c d) (val e f))) + val c d * pw (ucnt (val a b) (val c d) (val e f)) * (val c d * pw (ucnt (val a b) (val c d) (val e f))) + val e f * pw (ucnt (val a b) (val c d) (val e f)) * (val e f * pw (ucnt (val a b) (val c d) (val e f))))) (-268435455) (by omega) (by omega)
  have rl1 := rnd_le (val c d * pw (ucnt (val a b) (val c d) (val e f)) * 134217728) (isq (val a b * pw (ucnt (val a b) (val c d) (val e f)) * (val a b * pw (ucnt (val a b) (val c d) (val e f))) + val c d * pw (ucnt (val a b) (val c d) (val e f)) * (val c d * pw (ucnt (val a b) (val c d) (val e f))) + val e f * pw (ucnt (val a b) (val c d) (val e f)) * (val e f * pw (ucnt (val a b) (val c d) (val e f))))) 268435455 (by omega) (by omega)
  obtain ⟨c20, c21⟩ := comp_le (val e f * pw (ucnt (val a b) (val c d) (val e f))) (val a b * pw (ucnt (val a b) (val c d) (val e f)) * (val a b * pw (ucnt (val a b) (val c d) (val e f))) + val c d * pw (ucnt (val a b) (val c d) (val e f)) * (val c d * pw (ucnt (val a b) (val c d) (val e f))) + val e f * pw (ucnt (val a b) (val c d) (val e f)) * (val e f * pw (ucnt (val a b) (val c d) (val e f)))) (by omega)
  have rg2 := rnd_ge (val e f * pw (ucnt (val a b) (val c d) (val e f)) * 134217728) (isq (val a b * pw (ucnt (val a b) (val c d) (val e f)) * (val a b * pw (ucnt (val a b) (val c d) (val e f))) + val c d * pw (ucnt (val a b) (val c d) (val e f)) * (val c d * pw (ucnt (val a b) (val c d) (val e f))) + val e f * pw (ucnt (val a b) (val c d) (val e f)) * (val e f * pw (ucnt (val a b) (val c d) (val e f))))) (-268435455) (by omega) (by omega)
  have rl2 := rnd_le (val e f * pw (ucnt (val a b) (val c d) (val e f)) * 134217728) (isq (val a b * pw (ucnt (val a b) (val c d) (val e f)) * (val a b * pw (ucnt (val a b) (val c d) (val e f))) + val c d * pw (ucnt (val a b) (val c d) (val e f)) * (val c d * pw (ucnt (val a b) (val c d) (val e f))) + val e f * pw (ucnt (val a b) (val c d) (val e f)) * (val e f * pw (ucnt (val a b) (val c d) (val e f))))) 268435455 (by omega) (by omega)
  have HE := keep hE
  have HN := keep hN
  have HB := keep hB
  clear hE hN hB s0 s1 s2 s3 hnz
  generalize hM : max (max (mag (val a b)) (mag (val c d))) (mag (val e f)) = M at *
  have hif : (if (if mag (val a b) < mag (val c d) then mag (val c d) else mag (val a b)) < mag (val e f) then mag (val e f) else if mag (val a b) < mag (val c d) then mag (val c d) else mag (val a b)) = M := by rw [← hM]; (repeat' split) <;> omega
  clear hM
  have hM0 : (M == 0) = false := by simp; omega
  have hM1 : decide (M = 0) = false := decide_eq_false (by omega)
  go_enter Tryd.func74, Tryd.ntmps74
  go_wp2_with fail
  refine (rvalues_any a b c d e f ha0 ha1 hb0 hb1 hc0 hc1 hd0 hd1 he0 he1 hf0 hf1 _).mono ?_
  rintro _ r1 ⟨rfl, hbr1⟩
  obtain ⟨hcr1, hfr1⟩ := bcell hbr1
  have hzr1 := hbr1.size
  try simp only [World.size_alloc, World.size_setCell, World.size_drew] at hzr1
  have hlr1w0 : w.heap.size < r1.heap.size := by omega
  have hlr1w1 : w.heap.size + 1 < r1.heap.size := by omega
  go_wp2_with fail
  have hecr2 := @Ext.cell
  refine wp_region_ext (by kernel_rfl) (by kernel_rfl) ?_
  repeat (first | go_big_quiet_skip | (go_big_quiet_want; go_big_quiet_op; first | go_big_quiet_on | (go_big_quiet_call ((first | fail | (go_at_call 86; exact ext_call_same (rsize17 _ (val_lo _ _) (val_hi _ _) _)))))))
  clear hecr2
  refine wpQuiet_nil ?_
  rintro r2 ⟨⟨_, hbr2⟩, rfl⟩
  obtain ⟨hcr2, hfr2⟩ := bcell hbr2
  have hzr2 := hbr2.size
  try simp only [World.size_alloc, World.size_setCell, World.size_drew] at hzr2
  have hlr2w0 : w.heap.size < r2.heap.size := by omega
  have hlr2w1 : w.heap.size + 1 < r2.heap.size := by omega
  have hlr2r10 : r1.heap.size < r2.heap.size := by omega
  go_wp2_with fail
  go_loopw [5] (fun m wr => ∃ k u p0 p1 p2 : Int, 0 ≤ k ∧ k ≤ ucnt (val a b) (val c d) (val e f) ∧ m = .int .i64 u ∧ 1 ≤ u ∧ u ≤ 268435455 ∧ (-268435455 ≤ p0 ∧ p0 ≤ 268435455) ∧ (-268435455 ≤ p1 ∧ p1 ≤ 268435455) ∧ (-268435455 ≤ p2 ∧ p2 ≤ 268435455) ∧
      Hid (u = M * pw k ∧ p0 = val a b * pw k ∧ p1 = val c d * pw k ∧ p2 = val e f * pw k) ∧
      wr.cell? ⟨r1.heap.size, 0, none⟩ = some (.int .i64 p0) ∧ wr.cell? ⟨r1.heap.size, 1, none⟩ = some (.int .i64 p1) ∧ wr.cell? ⟨r1.heap.size, 2, none⟩ = some (.int .i64 p2) ∧
      wr.frozen? ⟨r1.heap.size, 0, none⟩ = false ∧ wr.frozen? ⟨r1.heap.size, 1, none⟩ = false ∧ wr.frozen? ⟨r1.heap.size, 2, none⟩ = false ∧ Below r1.heap.size r2 wr ∧ r1.heap.size < wr.heap.size) (fun m _ => (268435456 - intOf m).toNat)
  case atStart =>
    exact ⟨0, _, _, _, _, by omega, by omega, rfl, by omega, by omega, ⟨val_lo _ _, val_hi _ _⟩, ⟨val_lo _ _, val_hi _ _⟩, ⟨val_lo _ _, val_hi _ _⟩, ⟨(Int.mul_one _).symm, (Int.mul_one _).symm, (Int.mul_one _).symm, (Int.mul_one _).symm⟩,
      by go_simp, by go_simp, by go_simp, by go_simp, by go_simp, by go_simp, Below.refl _ _, by omega⟩
  case round =>
    obtain ⟨k, u, p0, p1, p2, hk0, hk1, rfl, hu0, hu1, ⟨pl0, pu0⟩, ⟨pl1, pu1⟩, ⟨pl2, pu2⟩, HH, hp0, hp1, hp2, hf0, hf1, hf2, hbw, hlw⟩ := hrel
    by_cases hk : k < ucnt (val a b) (val c d) (val e f)
    · have hu : u < 134217728 := by rw [HH.out.1]; exact HN.out k hk0 hk
      go_wp2_with fail
      refine wp_loop_rounds 4 ?_
      rw [rounds_succ]
      go_wp2_with fail
      rw [rounds_succ]
      go_wp2_with fail
      rw [rounds_succ]
      go_wp2_with fail
      rw [rounds_succ]
      go_wp2_with fail
      go_roundw
      case rel =>
        have f0 : val a b * pw (k + 1) = 2 * p0 := by rw [pw_succ k hk0, HH.out.2.1, Int.mul_left_comm]
        have f1 : val c d * pw (k + 1) = 2 * p1 := by rw [pw_succ k hk0, HH.out.2.2.1, Int.mul_left_comm]
        have f2 : val e f * pw (k + 1) = 2 * p2 := by rw [pw_succ k hk0, HH.out.2.2.2, Int.mul_left_comm]
        have fu : 2 * u = M * pw (k + 1) := by rw [pw_succ k hk0, HH.out.1, Int.mul_left_comm]
        have hb := HB.out (k + 1) (by omega)
        rw [f0, f1, f2] at hb
        exact ⟨k + 1, 2 * u, 2 * p0, 2 * p1, 2 * p2, by omega, by omega, rfl, by omega, by omega, hb.1, hb.2.1, hb.2.2, ⟨fu, f0.symm, f1.symm, f2.symm⟩, by go_simp, by go_simp, by go_simp, by go_simp, by go_simp, by go_simp,
          ((hbw.setCell (p := ⟨r1.heap.size, 0, none⟩) (Nat.le_refl _) _).setCell (p := ⟨r1.heap.size, 1, none⟩) (Nat.le_refl _) _).setCell (p := ⟨r1.heap.size, 2, none⟩) (Nat.le_refl _) _, by simp; omega⟩
      case measure => simp [intOf]; omega
    · obtain rfl : k = ucnt (val a b) (val c d) (val e f) := by omega
      obtain ⟨hu, rfl, rfl, rfl⟩ := HH.out
      have hge : ¬ u < 134217728 := by rw [hu]; have := HE.out; omega
      clear hu HH HN HB HE hk
      have hcw : ∀ b o, b < r1.heap.size → wr.cell? ⟨b, o, none⟩ = r2.cell? ⟨b, o, none⟩ := fun b o h => hbw.cell (p := ⟨b, o, none⟩) h
      have hfw : ∀ b o, b < r1.heap.size → wr.frozen? ⟨b, o, none⟩ = r2.frozen? ⟨b, o, none⟩ := fun b o h => hbw.frozen (p := ⟨b, o, none⟩) h
      have hlw0 : w.heap.size < wr.heap.size := by omega
      have hlw1 : w.heap.size + 1 < wr.heap.size := by omega
      have hBw : Below w.heap.size w wr := (((by repeat' (first | (with_reducible exact Below.refl _ _) | (with_reducible refine bl_set ?_ _ ?_) | (with_reducible refine bl_alloc ?_ _) | (with_reducible refine bl_drew ?_) | (with_reducible refine bl_via (by with_reducible assumption) ?_) | (with_reducible assumption) | omega | (simp only []; omega) | (simp; omega))) : Below w.heap.size w r2)).trans (hbw.mono (by omega))
      go_wp2_with fail
      go_wp2_with fail
      refine (rroot_any (val a b * pw (ucnt (val a b) (val c d) (val e f)) * (val a b * pw (ucnt (val a b) (val c d) (val e f))) + val c d * pw (ucnt (val a b) (val c d) (val e f)) * (val c d * pw (ucnt (val a b) (val c d) (val e f))) + val e f * pw (ucnt (val a b) (val c d) (val e f)) * (val e f * pw (ucnt (val a b) (val c d) (val e f)))) (by omega) (by omega) _).mono ?_
      rintro _ _ ⟨rfl, rfl⟩
      go_wp2_with fail
      refine wp_loop_rounds 4 ?_
      rw [rounds_succ]
      go_wp2_with fail
      refine (rround_any (val a b * pw (ucnt (val a b) (val c d) (val e f)) * 134217728) (isq (val a b * pw (ucnt (val a b) (val c d) (val e f)) * (val a b * pw (ucnt (val a b) (val c d) (val e f))) + val c d * pw (ucnt (val a b) (val c d) (val e f)) * (val c d * pw (ucnt (val a b) (val c d) (val e f))) + val e f * pw (ucnt (val a b) (val c d) (val e f)) * (val e f * pw (ucnt (val a b) (val c d) (val e f))))) (by omega) (by omega) (by omega) (by omega) _).mono ?_
      rintro _ r30 ⟨rfl, hbr30⟩
      obtain ⟨hcr30, hfr30⟩ := bcell hbr30
      have hzr30 := hbr30.size
      try simp only [World.size_alloc, World.size_setCell, World.size_drew] at hzr30
      have hlr30w0 : w.heap.size < r30.heap.size := by omega
      have hlr30w1 : w.heap.size + 1 < r30.heap.size := by omega
      have hlr30r10 : r1.heap.size < r30.heap.size := by omega
      have hlr30wr0 : wr.heap.size < r30.heap.size := by omega
      have gvr30_0 : r30.cell? ⟨r1.heap.size, 0, none⟩ = some (.int .i64 (val a b * pw (ucnt (val a b) (val c d) (val e f)))) := (hcr30 _ _ (by (try simp only [World.size_alloc, World.size_setCell]); omega)).trans (by with_reducible first | assumption | exact (World.cell?_alloc_lt _ _ _ (by omega)).trans (by assumption) | exact World.cell?_setCell_same _ _ _ (by assumption) | exact (World.cell?_setCell_other _ _ _ _ (by simp)).trans (by assumption) | exact (rcell_far _ _ _ _ (by dsimp only; omega)).trans ((rcell_far _ _ _ _ (by dsimp only; omega)).trans (by assumption)) | simp (disch := omega) [go_sem, *, List.getElem?_cons_zero, List.getElem?_cons_succ])
      have gvr30_1 : r30.cell? ⟨r1.heap.size, 1, none⟩ = some (.int .i64 (val c d * pw (ucnt (val a b) (val c d) (val e f)))) := (hcr30 _ _ (by (try simp only [World.size_alloc, World.size_setCell]); omega)).trans (by with_reducible first | assumption | exact (World.cell?_alloc_lt _ _ _ (by omega)).trans (by assumption) | exact World.cell?_setCell_same _ _ _ (by assumption) | exact (World.cell?_setCell_other _ _ _ _ (by simp)).trans (by assumption) | exact (rcell_far _ _ _ _ (by dsimp only; omega)).trans ((rcell_far _ _ _ _ (by dsimp only; omega)).trans (by assumption)) | simp (disch := omega) [go_sem, *, List.getElem?_cons_zero, List.getElem?_cons_succ])
      have gvr30_2 : r30.cell? ⟨r1.heap.size, 2, none⟩ = some (.int .i64 (val e f * pw (ucnt (val a b) (val c d) (val e f)))) := (hcr30 _ _ (by (try simp only [World.size_alloc, World.size_setCell]); omega)).trans (by with_reducible first | assumption | exact (World.cell?_alloc_lt _ _ _ (by omega)).trans (by assumption) | exact World.cell?_setCell_same _ _ _ (by assumption) | exact (World.cell?_setCell_other _ _ _ _ (by simp)).trans (by assumption) | exact (rcell_far _ _ _ _ (by dsimp only; omega)).trans ((rcell_far _ _ _ _ (by dsimp only; omega)).trans (by assumption)) | simp (disch := omega) [go_sem, *, List.getElem?_cons_zero, List.getElem?_cons_succ])
      go_wp2_with fail
      refine (rdouble_any (rnd (val a b * pw (ucnt (val a b) (val c d) (val e f)) * 134217728) (isq (val a b * pw (ucnt (val a b) (val c d) (val e f)) * (val a b * pw (ucnt (val a b) (val c d) (val e f))) + val c d * pw (ucnt (val a b) (val c d) (val e f)) * (val c d * pw (ucnt (val a b) (val c d) (val e f))) + val e f * pw (ucnt (val a b) (val c d) (val e f)) * (val e f * pw (ucnt (val a b) (val c d) (val e f)))))) (by omega) (by omega) _).mono ?_
      rintro _ r40 ⟨rfl, hbr40⟩
      obtain ⟨hcr40, hfr40⟩ := bcell hbr40
      have hzr40 := hbr40.size
      try simp only [World.size_alloc, World.size_setCell, World.size_drew] at hzr40
      have hlr40w0 : w.heap.size < r40.heap.size := by omega
      have hlr40w1 : w.heap.size + 1 < r40.heap.size := by omega
      have hlr40r10 : r1.heap.size < r40.heap.size := by omega
      have hlr40wr0 : wr.heap.size < r40.heap.size := by omega
      have gvr40_0 : r40.cell? ⟨r1.heap.size, 0, none⟩ = some (.int .i64 (val a b * pw (ucnt (val a b) (val c d) (val e f)))) := (hcr40 _ _ (by (try simp only [World.size_alloc, World.size_setCell]); omega)).trans (by with_reducible first | assumption | exact (World.cell?_alloc_lt _ _ _ (by omega)).trans (by assumption) | exact World.cell?_setCell_same _ _ _ (by assumption) | exact (World.cell?_setCell_other _ _ _ _ (by simp)).trans (by assumption) | exact (rcell_far _ _ _ _ (by dsimp only; omega)).trans ((rcell_far _ _ _ _ (by dsimp only; omega)).trans (by assumption)) | simp (disch := omega) [go_sem, *, List.getElem?_cons_zero, List.getElem?_cons_succ])
      have gvr40_1 : r40.cell? ⟨r1.heap.size, 1, none⟩ = some (.int .i64 (val c d * pw (ucnt (val a b) (val c d) (val e f)))) := (hcr40 _ _ (by (try simp only [World.size_alloc, World.size_setCell]); omega)).trans (by with_reducible first | assumption | exact (World.cell?_alloc_lt _ _ _ (by omega)).trans (by assumption) | exact World.cell?_setCell_same _ _ _ (by assumption) | exact (World.cell?_setCell_other _ _ _ _ (by simp)).trans (by assumption) | exact (rcell_far _ _ _ _ (by dsimp only; omega)).trans ((rcell_far _ _ _ _ (by dsimp only; omega)).trans (by assumption)) | simp (disch := omega) [go_sem, *, List.getElem?_cons_zero, List.getElem?_cons_succ])
      have gvr40_2 : r40.cell? ⟨r1.heap.size, 2, none⟩ = some (.int .i64 (val e f * pw (ucnt (val a b) (val c d) (val e f)))) := (hcr40 _ _ (by (try simp only [World.size_alloc, World.size_setCell]); omega)).trans (by with_reducible first | assumption | exact (World.cell?_alloc_lt _ _ _ (by omega)).trans (by assumption) | exact World.cell?_setCell_same _ _ _ (by assumption) | exact (World.cell?_setCell_other _ _ _ _ (by simp)).trans (by assumption) | exact (rcell_far _ _ _ _ (by dsimp only; omega)).trans ((rcell_far _ _ _ _ (by dsimp only; omega)).trans (by assumption)) | simp (disch := omega) [go_sem, *, List.getElem?_cons_zero, List.getElem?_cons_succ])
      go_wp2_with fail
      rw [rounds_succ]
      go_wp2_with fail
      refine (rround_any (val c d * pw (ucnt (val a b) (val c d) (val e f)) * 134217728) (isq (val a b * pw (ucnt (val a b) (val c d) (val e f)) * (val a b * pw (ucnt (val a b) (val c d) (val e f))) + val c d * pw (ucnt (val a b) (val c d) (val e f)) * (val c d * pw (ucnt (val a b) (val c d) (val e f))) + val e f * pw (ucnt (val a b) (val c d) (val e f)) * (val e f * pw (ucnt (val a b) (val c d) (val e f))))) (by omega) (by omega) (by omega) (by omega) _).mono ?_
      rintro _ r31 ⟨rfl, hbr31⟩
      obtain ⟨hcr31, hfr31⟩ := bcell hbr31
      have hzr31 := hbr31.size
      try simp only [World.size_alloc, World.size_setCell, World.size_drew] at hzr31
      have hlr31w0 : w.heap.size < r31.heap.size := by omega
      have hlr31w1 : w.heap.size + 1 < r31.heap.size := by omega
      have hlr31r10 : r1.heap.size < r31.heap.size := by omega
      have hlr31wr0 : wr.heap.size < r31.heap.size := by omega
      have gvr31_0 : r31.cell? ⟨r1.heap.size, 0, none⟩ = some (.int .i64 (val a b * pw (ucnt (val a b) (val c d) (val e f)))) := (hcr31 _ _ (by (try simp only [World.size_alloc, World.size_setCell]); omega)).trans (by with_reducible first | assumption | exact (World.cell?_alloc_lt _ _ _ (by omega)).trans (by assumption) | exact World.cell?_setCell_same _ _ _ (by assumption) | exact (World.cell?_setCell_other _ _ _ _ (by simp)).trans (by assumption) | exact (rcell_far _ _ _ _ (by dsimp only; omega)).trans ((rcell_far _ _ _ _ (by dsimp only; omega)).trans (by assumption)) | simp (disch := omega) [go_sem, *, List.getElem?_cons_zero, List.getElem?_cons_succ])
      have gvr31_1 : r31.cell? ⟨r1.heap.size, 1, none⟩ = some (.int .i64 (val c d * pw (ucnt (val a b) (val c d) (val e f)))) := (hcr31 _ _ (by (try simp only [World.size_alloc, World.size_setCell]); omega)).trans (by with_reducible first | assumption | exact (World.cell?_alloc_lt _ _ _ (by omega)).trans (by assumption) | exact World.cell?_setCell_same _ _ _ (by assumption) | exact (World.cell?_setCell_other _ _ _ _ (by simp)).trans (by assumption) | exact (rcell_far _ _ _ _ (by dsimp only; omega)).trans ((rcell_far _ _ _ _ (by dsimp only; omega)).trans (by assumption)) | simp (disch := omega) [go_sem, *, List.getElem?_cons_zero, List.getElem?_cons_succ])
      have gvr31_2 : r31.cell? ⟨r1.heap.size, 2, none⟩ = some (.int .i64 (val e f * pw (ucnt (val a b) (val c d) (val e f)))) := (hcr31 _ _ (by (try simp only [World.size_alloc, World.size_setCell]); omega)).trans (by with_reducible first | assumption | exact (World.cell?_alloc_lt _ _ _ (by omega)).trans (by assumption) | exact World.cell?_setCell_same _ _ _ (by assumption) | exact (World.cell?_setCell_other _ _ _ _ (by simp)).trans (by assumption) | exact (rcell_far _ _ _ _ (by dsimp only; omega)).trans ((rcell_far _ _ _ _ (by dsimp only; omega)).trans (by assumption)) | simp (disch := omega) [go_sem, *, List.getElem?_cons_zero, List.getElem?_cons_succ])
      go_wp2_with fail
      refine (rdouble_any (rnd (val c d * pw (ucnt (val a b) (val c d) (val e f)) * 134217728) (isq (val a b * pw (ucnt (val a b) (val c d) (val e f)) * (val a b * pw (ucnt (val a b) (val c d) (val e f))) + val c d * pw (ucnt (val a b) (val c d) (val e f)) * (val c d * pw (ucnt (val a b) (val c d) (val e f))) + val e f * pw (ucnt (val a b) (val c d) (val e f)) * (val e f * pw (ucnt (val a b) (val c d) (val e f)))))) (by omega) (by omega) _).mono ?_
      rintro _ r41 ⟨rfl, hbr41⟩
      obtain ⟨hcr41, hfr41⟩ := bcell hbr41
      have hzr41 := hbr41.size
      try simp only [World.size_alloc, World.size_setCell, World.size_drew] at hzr41
      have hlr41w0 : w.heap.size < r41.heap.size := by omega
      have hlr41w1 : w.heap.size + 1 < r41.heap.size := by omega
      have hlr41r10 : r1.heap.size < r41.heap.size := by omega
      have hlr41wr0 : wr.heap.size < r41.heap.size := by omega
      have gvr41_0 : r41.cell? ⟨r1.heap.size, 0, none⟩ = some (.int .i64 (val a b * pw (ucnt (val a b) (val c d) (val e f)))) := (hcr41 _ _ (by (try simp only [World.size_alloc, World.size_setCell]); omega)).trans (by with_reducible first | assumption | exact (World.cell?_alloc_lt _ _ _ (by omega)).trans (by assumption) | exact World.cell?_setCell_same _ _ _ (by assumption) | exact (World.cell?_setCell_other _ _ _ _ (by simp)).trans (by assumption) | exact (rcell_far _ _ _ _ (by dsimp only; omega)).trans ((rcell_far _ _ _ _ (by dsimp only; omega)).trans (by assumption)) | simp (disch := omega) [go_sem, *, List.getElem?_cons_zero, List.getElem?_cons_succ])
      have gvr41_1 : r41.cell? ⟨r1.heap.size, 1, none⟩ = some (.int .i64 (val c d * pw (ucnt (val a b) (val c d) (val e f)))) := (hcr41 _ _ (by (try simp only [World.size_alloc, World.size_setCell]); omega)).trans (by with_reducible first | assumption | exact (World.cell?_alloc_lt _ _ _ (by omega)).trans (by assumption) | exact World.cell?_setCell_same _ _ _ (by assumption) | exact (World.cell?_setCell_other _ _ _ _ (by simp)).trans (by assumption) | exact (rcell_far _ _ _ _ (by dsimp only; omega)).trans ((rcell_far _ _ _ _ (by dsimp only; omega)).trans (by assumption)) | simp (disch := omega) [go_sem, *, List.getElem?_cons_zero, List.getElem?_cons_succ])
      have gvr41_2 : r41.cell? ⟨r1.heap.size, 2, none⟩ = some (.int .i64 (val e f * pw (ucnt (val a b) (val c d) (val e f)))) := (hcr41 _ _ (by (try simp only [World.size_alloc, World.size_setCell]); omega)).trans (by with_reducible first | assumption | exact (World.cell?_alloc_lt _ _ _ (by omega)).trans (by assumption) | exact World.cell?_setCell_same _ _ _ (by assumption) | exact (World.cell?_setCell_other _ _ _ _ (by simp)).trans (by assumption) | exact (rcell_far _ _ _ _ (by dsimp only; omega)).trans ((rcell_far _ _ _ _ (by dsimp only; omega)).trans (by assumption)) | simp (disch := omega) [go_sem, *, List.getElem?_cons_zero, List.getElem?_cons_succ])
      go_wp2_with fail
      rw [rounds_succ]
      go_wp2_with fail
      refine (rround_any (val e f * pw (ucnt (val a b) (val c d) (val e f)) * 134217728) (isq (val a b * pw (ucnt (val a b) (val c d) (val e f)) * (val a b * pw (ucnt (val a b) (val c d) (val e f))) + val c d * pw (ucnt (val a b) (val c d) (val e f)) * (val c d * pw (ucnt (val a b) (val c d) (val e f))) + val e f * pw (ucnt (val a b) (val c d) (val e f)) * (val e f * pw (ucnt (val a b) (val c d) (val e f))))) (by omega) (by omega) (by omega) (by omega) _).mono ?_
      rintro _ r32 ⟨rfl, hbr32⟩
      obtain ⟨hcr32, hfr32⟩ := bcell hbr32
      have hzr32 := hbr32.size
      try simp only [World.size_alloc, World.size_setCell, World.size_drew] at hzr32
      have hlr32w0 : w.heap.size < r32.heap.size := by omega
      have hlr32w1 : w.heap.size + 1 < r32.heap.size := by omega
      have hlr32r10 : r1.heap.size < r32.heap.size := by omega
      have hlr32wr0 : wr.heap.size < r32.heap.size := by omega
      have gvr32_0 : r32.cell? ⟨r1.heap.size, 0, none⟩ = some (.int .i64 (val a b * pw (ucnt (val a b) (val c d) (val e f)))) := (hcr32 _ _ (by (try simp only [World.size_alloc, World.size_setCell]); omega)).trans (by with_reducible first | assumption | exact (World.cell?_alloc_lt _ _ _ (by omega)).trans (by assumption) | exact World.cell?_setCell_same _ _ _ (by assumption) | exact (World.cell?_setCell_other _ _ _ _ (by simp)).trans (by assumption) | exact (rcell_far _ _ _ _ (by dsimp only; omega)).trans ((rcell_far _ _ _ _ (by dsimp only; omega)).trans (by assumption)) | simp (disch := omega) [go_sem, *, List.getElem?_cons_zero, List.getElem?_cons_succ])
      have gvr32_1 : r32.cell? ⟨r1.heap.size, 1, none⟩ = some (.int .i64 (val c d * pw (ucnt (val a b) (val c d) (val e f)))) := (hcr32 _ _ (by (try simp only [World.size_alloc, World.size_setCell]); omega)).trans (by with_reducible first | assumption | exact (World.cell?_alloc_lt _ _ _ (by omega)).trans (by assumption) | exact World.cell?_setCell_same _ _ _ (by assumption) | exact (World.cell?_setCell_other _ _ _ _ (by simp)).trans (by assumption) | exact (rcell_far _ _ _ _ (by dsimp only; omega)).trans ((rcell_far _ _ _ _ (by dsimp only; omega)).trans (by assumption)) | simp (disch := omega) [go_sem, *, List.getElem?_cons_zero, List.getElem?_cons_succ])
      have gvr32_2 : r32.cell? ⟨r1.heap.size, 2, none⟩ = some (.int .i64 (val e f * pw (ucnt (val a b) (val c d) (val e f)))) := (hcr32 _ _ (by (try simp only [World.size_alloc, World.size_setCell]); omega)).trans (by with_reducible first | assumption | exact (World.cell?_alloc_lt _ _ _ (by omega)).trans (by assumption) | exact World.cell?_setCell_same _ _ _ (by assumption) | exact (World.cell?_setCell_other _ _ _ _ (by simp)).trans (by assumption) | exact (rcell_far _ _ _ _ (by dsimp only; omega)).trans ((rcell_far _ _ _ _ (by dsimp only; omega)).trans (by assumption)) | simp (disch := omega) [go_sem, *, List.getElem?_cons_zero, List.getElem?_cons_succ])
      go_wp2_with fail
      refine (rdouble_any (rnd (val e f * pw (ucnt (val a b) (val c d) (val e f)) * 134217728) (isq (val a b * pw (ucnt (val a b) (val c d) (val e f)) * (val a b * pw (ucnt (val a b) (val c d) (val e f))) + val c d * pw (ucnt (val a b) (val c d) (val e f)) * (val c d * pw (ucnt (val a b) (val c d) (val e f))) + val e f * pw (ucnt (val a b) (val c d) (val e f)) * (val e f * pw (ucnt (val a b) (val c d) (val e f)))))) (by omega) (by omega) _).mono ?_
      rintro _ r42 ⟨rfl, hbr42⟩
      obtain ⟨hcr42, hfr42⟩ := bcell hbr42
      have hzr42 := hbr42.size
      try simp only [World.size_alloc, World.size_setCell, World.size_drew] at hzr42
      have hlr42w0 : w.heap.size < r42.heap.size := by omega
      have hlr42w1 : w.heap.size + 1 < r42.heap.size := by omega
      have hlr42r10 : r1.heap.size < r42.heap.size := by omega
      have hlr42wr0 : wr.heap.size < r42.heap.size := by omega
      have gvr42_0 : r42.cell? ⟨r1.heap.size, 0, none⟩ = some (.int .i64 (val a b * pw (ucnt (val a b) (val c d) (val e f)))) := (hcr42 _ _ (by (try simp only [World.size_alloc, World.size_setCell]); omega)).trans (by with_reducible first | assumption | exact (World.cell?_alloc_lt _ _ _ (by omega)).trans (by assumption) | exact World.cell?_setCell_same _ _ _ (by assumption) | exact (World.cell?_setCell_other _ _ _ _ (by simp)).trans (by assumption) | exact (rcell_far _ _ _ _ (by dsimp only; omega)).trans ((rcell_far _ _ _ _ (by dsimp only; omega)).trans (by assumption)) | simp (disch := omega) [go_sem, *, List.getElem?_cons_zero, List.getElem?_cons_succ])
      have gvr42_1 : r42.cell? ⟨r1.heap.size, 1, none⟩ = some (.int .i64 (val c d * pw (ucnt (val a b) (val c d) (val e f)))) := (hcr42 _ _ (by (try simp only [World.size_alloc, World.size_setCell]); omega)).trans (by with_reducible first | assumption | exact (World.cell?_alloc_lt _ _ _ (by omega)).trans (by assumption) | exact World.cell?_setCell_same _ _ _ (by assumption) | exact (World.cell?_setCell_other _ _ _ _ (by simp)).trans (by assumption) | exact (rcell_far _ _ _ _ (by dsimp only; omega)).trans ((rcell_far _ _ _ _ (by dsimp only; omega)).trans (by assumption)) | simp (disch := omega) [go_sem, *, List.getElem?_cons_zero, List.getElem?_cons_succ])
      have gvr42_2 : r42.cell? ⟨r1.heap.size, 2, none⟩ = some (.int .i64 (val e f * pw (ucnt (val a b) (val c d) (val e f)))) := (hcr42 _ _ (by (try simp only [World.size_alloc, World.size_setCell]); omega)).trans (by with_reducible first | assumption | exact (World.cell?_alloc_lt _ _ _ (by omega)).trans (by assumption) | exact World.cell?_setCell_same _ _ _ (by assumption) | exact (World.cell?_setCell_other _ _ _ _ (by simp)).trans (by assumption) | exact (rcell_far _ _ _ _ (by dsimp only; omega)).trans ((rcell_far _ _ _ _ (by dsimp only; omega)).trans (by assumption)) | simp (disch := omega) [go_sem, *, List.getElem?_cons_zero, List.getElem?_cons_succ])
      go_wp2_with fail
      rw [rounds_succ]
      go_wp2
      refine bodyPost_ret (v := (.tuple #[(.agg #[.int .u16 (hi (rnd (val a b * pw (ucnt (val a b) (val c d) (val e f)) * 134217728) (isq (val a b * pw (ucnt (val a b) (val c d) (val e f)) * (val a b * pw (ucnt (val a b) (val c d) (val e f))) + val c d * pw (ucnt (val a b) (val c d) (val e f)) * (val c d * pw (ucnt (val a b) (val c d) (val e f))) + val e f * pw (ucnt (val a b) (val c d) (val e f)) * (val e f * pw (ucnt (val a b) (val c d) (val e f))))))), .int .u16 (lo (rnd (val a b * pw (ucnt (val a b) (val c d) (val e f)) * 134217728) (isq (val a b * pw (ucnt (val a b) (val c d) (val e f)) * (val a b * pw (ucnt (val a b) (val c d) (val e f))) + val c d * pw (ucnt (val a b) (val c d) (val e f)) * (val c d * pw (ucnt (val a b) (val c d) (val e f))) + val e f * pw (ucnt (val a b) (val c d) (val e f)) * (val e f * pw (ucnt (val a b) (val c d) (val e f))))))), .int .u16 (hi (rnd (val c d * pw (ucnt (val a b) (val c d) (val e f)) * 134217728) (isq (val a b * pw (ucnt (val a b) (val c d) (val e f)) * (val a b * pw (ucnt (val a b) (val c d) (val e f))) + val c d * pw (ucnt (val a b) (val c d) (val e f)) * (val c d * pw (ucnt (val a b) (val c d) (val e f))) + val e f * pw (ucnt (val a b) (val c d) (val e f)) * (val e f * pw (ucnt (val a b) (val c d) (val e f))))))), .int .u16 (lo (rnd (val c d * pw (ucnt (val a b) (val c d) (val e f)) * 134217728) (isq (val a b * pw (ucnt (val a b) (val c d) (val e f)) * (val a b * pw (ucnt (val a b) (val c d) (val e f))) + val c d * pw (ucnt (val a b) (val c d) (val e f)) * (val c d * pw (ucnt (val a b) (val c d) (val e f))) + val e f * pw (ucnt (val a b) (val c d) (val e f)) * (val e f * pw (ucnt (val a b) (val c d) (val e f))))))), .int .u16 (hi (rnd (val e f * pw (ucnt (val a b) (val c d) (val e f)) * 134217728) (isq (val a b * pw (ucnt (val a b) (val c d) (val e f)) * (val a b * pw (ucnt (val a b) (val c d) (val e f))) + val c d * pw (ucnt (val a b) (val c d) (val e f)) * (val c d * pw (ucnt (val a b) (val c d) (val e f))) + val e f * pw (ucnt (val a b) (val c d) (val e f)) * (val e f * pw (ucnt (val a b) (val c d) (val e f))))))), .int .u16 (lo (rnd (val e f * pw (ucnt (val a b) (val c d) (val e f)) * 134217728) (isq (val a b * pw (ucnt (val a b) (val c d) (val e f)) * (val a b * pw (ucnt (val a b) (val c d) (val e f))) + val c d * pw (ucnt (val a b) (val c d) (val e f)) * (val c d * pw (ucnt (val a b) (val c d) (val e f))) + val e f * pw (ucnt (val a b) (val c d) (val e f)) * (val e f * pw (ucnt (val a b) (val c d) (val e f)))))))]), .bool false])) (by simp [results, Tryd.results74, go_sem, *]) rfl ⟨rfl, ?_⟩; exact (by repeat' (first | (with_reducible exact Below.refl _ _) | (with_reducible refine bl_set ?_ _ ?_) | (with_reducible refine bl_alloc ?_ _) | (with_reducible refine bl_drew ?_) | (with_reducible refine bl_via (by with_reducible assumption) ?_) | (with_reducible assumption) | omega | (simp only []; omega) | (simp; omega)))

theorem runit_any (a b c d e f : Int) (ha0 : 0 ≤ a) (ha1 : a < 65536) (hb0 : 0 ≤ b) (hb1 : b < 65536) (hc0 : 0 ≤ c) (hc1 : c < 65536) (hd0 : 0 ≤ d) (hd1 : d < 65536) (he0 : 0 ≤ e) (he1 : e < 65536) (hf0 : 0 ≤ f) (hf1 : f < 65536) (w : World) :
    Calls Tryd.prog 74 #[(.agg #[.int .u16 (a), .int .u16 (b), .int .u16 (c), .int .u16 (d), .int .u16 (e), .int .u16 (f)])] w fun r w' => r = .returned (unitV (val a b) (val c d) (val e f)) ∧ Below w.heap.size w w' := by
  unfold unitV
  by_cases h : val a b = 0 ∧ val c d = 0 ∧ val e f = 0
  · rw [if_pos h]
    exact runit_none a b c d e f ha0 ha1 hb0 hb1 hc0 hc1 hd0 hd1 he0 he1 hf0 hf1 h.1 h.2.1 h.2.2 w
  · rw [if_neg h]
    have k := runit_some a b c d e f ha0 ha1 hb0 hb1 hc0 hc1 hd0 hd1 he0 he1 hf0 hf1 h w
    obtain ⟨s0, s1, s2, s3⟩ := ucnt_spec (val a b) (val c d) (val e f) h (val_lo _ _) (val_hi _ _) (val_lo _ _) (val_hi _ _) (val_lo _ _) (val_hi _ _)
    obtain ⟨_, _, _, _, ⟨x2, x3⟩, ⟨y2, y3⟩, ⟨z2, z3⟩, n0, i0, i1⟩ := unit_facts (val a b) (val c d) (val e f) (ucnt (val a b) (val c d) (val e f)) (val_lo _ _) (val_hi _ _) (val_lo _ _) (val_hi _ _) (val_lo _ _) (val_hi _ _) s0 s1 s2 s3
    have near : ∀ N V : Int, 134217728 ≤ isq N → V * V ≤ N → sat (rnd (V * 134217728) (isq N)) 268435455 = rnd (V * 134217728) (isq N) := fun N V h0 h1 => by
      obtain ⟨a, b⟩ := comp_le V N h1
      exact sat_in _ _ (rnd_ge _ _ _ (by omega) (by omega)) (rnd_le _ _ _ (by omega) (by omega))
    unfold uni usq
    rw [near _ _ i0 (by omega), near _ _ i0 (by omega), near _ _ i0 (by omega)]
    exact k

end Go.Proofs.YtbbhppjamighdaaDoor
