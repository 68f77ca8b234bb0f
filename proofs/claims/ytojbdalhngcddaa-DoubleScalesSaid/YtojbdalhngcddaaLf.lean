/- The walk of DoubleScales: for all words and counts it returns true. -/
import Derived.Test.YtojbdalhngcddaaLa
namespace Go.Proofs.Ytojbdalhngcddaa
set_option linter.unusedSimpArgs false
set_option linter.unusedVariables false
open Go.RowKit

theorem scale_up (v : Int) (hv : ¬ v = 0) (h0 : -268435455 ≤ v) (h1 : v ≤ 268435455) : shv v (nrn v) = nrv v ∧ sho v (nrn v) = false ∧ shv (nrv v) (-nrn v) = v ∧ sho (nrv v) (-nrn v) = false := by
  obtain ⟨a, b, c, d⟩ := nrn_spec v hv h0 h1
  obtain ⟨e, f, _⟩ := nrv_size v hv h0 h1
  have es : shl v (nrn v) = nrv v := by unfold shl nrv; rw [show min (nrn v) 29 = nrn v from by omega]
  have p := pw_pos (nrn v)
  refine ⟨by rw [shv_nn _ _ a, es, sat_in _ _ e f], by rw [sho_nn _ _ a, es, outb_in _ _ e f], ?_, ?_⟩
  · by_cases hz : nrn v = 0
    · rw [hz, Int.neg_zero, shv_nn _ _ (by omega)]
      have : nrv v = v := by unfold nrv; rw [hz, show pw 0 = 1 from rfl, Int.mul_one]
      rw [this]
      unfold shl
      rw [show min (0 : Int) 29 = 0 from by omega, show pw 0 = 1 from rfl, Int.mul_one, sat_in _ _ h0 h1]
    · rw [shv_neg _ _ (by omega), Int.neg_neg, show min (nrn v) 56 = nrn v from by omega]
      unfold nrv
      exact rnd_mul v _ (by omega)
  · by_cases hz : nrn v = 0
    · rw [hz, Int.neg_zero, sho_nn _ _ (by omega)]
      have : nrv v = v := by unfold nrv; rw [hz, show pw 0 = 1 from rfl, Int.mul_one]
      rw [this]
      unfold shl
      rw [show min (0 : Int) 29 = 0 from by omega, show pw 0 = 1 from rfl, Int.mul_one, outb_in _ _ h0 h1]
    · exact sho_neg _ _ (by omega)

theorem scale_down (v m : Int) (h0 : -268435455 ≤ v) (h1 : v ≤ 268435455) (m0 : 0 ≤ m) (m1 : m ≤ 28) :
    sho v (-m) = false ∧ (sho (shv v (-m)) m = false → shv (shv v (-m)) m - v = 0 ∨ 0 < m ∧ -(pw m) ≤ 2 * (shv (shv v (-m)) m - v) ∧ 2 * (shv (shv v (-m)) m - v) ≤ pw m) := by
  by_cases hm : m = 0
  · subst hm
    have e1 : shv v 0 = v := by rw [shv_nn _ _ (by omega)]; unfold shl; rw [show min (0 : Int) 29 = 0 from by omega, show pw 0 = 1 from rfl, Int.mul_one, sat_in _ _ h0 h1]
    refine ⟨?_, fun _ => .inl ?_⟩
    · rw [Int.neg_zero, sho_nn _ _ (by omega)]; unfold shl; rw [show min (0 : Int) 29 = 0 from by omega, show pw 0 = 1 from rfl, Int.mul_one, outb_in _ _ h0 h1]
    · rw [Int.neg_zero, e1, e1]; omega
  · refine ⟨sho_neg _ _ (by omega), fun h => .inr ⟨by omega, ?_⟩⟩
    have p := pw_pos m
    have e1 : shv v (-m) = rnd v (pw m) := by rw [shv_neg _ _ (by omega), Int.neg_neg, show min m 56 = m from by omega]
    rw [e1] at h ⊢
    rw [sho_nn _ _ m0] at h
    rw [shv_nn _ _ m0]
    have e2 : shl (rnd v (pw m)) m = rnd v (pw m) * pw m := by unfold shl; rw [show min m 29 = m from by omega]
    rw [e2] at h ⊢
    have h' : -268435455 ≤ rnd v (pw m) * pw m ∧ rnd v (pw m) * pw m ≤ 268435455 := by have := of_decide_eq_false h; omega
    rw [sat_in _ _ h'.1 h'.2]
    have := rnd_near v (pw m) (by omega)
    omega

set_option maxRecDepth 100000 in
set_option maxHeartbeats 1000000 in
theorem scales_Z_out (x y c : Int) (hx0 : 0 ≤ x) (hx1 : x < 65536) (hy0 : 0 ≤ y) (hy1 : y < 65536) (c0 : 0 ≤ c) (c1 : c ≤ 255) (w : World) (hv : val x y = 0) (hj : sho (shv 0 (-(c % 29))) (c % 29) = true) :
    Calls Try.prog 4 #[(.agg #[.int .u16 (x), .int .u16 (y)]), .int .u8 c] w fun e w' => e = .returned (.bool true) ∧ Below w.heap.size w w' := by
  have heq := @eq_dbl
  have k0 := val_lo x y
  have k1 := val_hi x y
  have m0 : 0 ≤ c % 29 := by omega
  have m1 : c % 29 ≤ 28 := by omega
  have p1 : wrap64 (2 ^ (c % 29).toNat) = pw (c % 29) := wrap64_in _ (by show _ ≤ pw _; have := pw_pos (c % 29); omega) (by show pw _ ≤ _; have := pw_le28 (c % 29) m1; omega)
  obtain ⟨sd, sd2⟩ := scale_down 0 (c % 29) (by omega) (by omega) m0 m1
  obtain ⟨s0, s1⟩ := shv_size 0 (-(c % 29)) (by omega) (by omega)
  obtain ⟨l0, l1', l2, l3'⟩ := hi_lo (shv 0 (-(c % 29))) s0 s1
  have l1 : hi (shv 0 (-(c % 29))) < 65536 := by omega
  have l3 : lo (shv 0 (-(c % 29))) < 65536 := by omega
  have lv := val_of (shv 0 (-(c % 29))) s0 s1
  obtain ⟨t0, t1⟩ := shv_size (shv 0 (-(c % 29))) (c % 29) s0 s1
  obtain ⟨q0, q1', q2, q3'⟩ := hi_lo (shv (shv 0 (-(c % 29))) (c % 29)) t0 t1
  have q1 : hi (shv (shv 0 (-(c % 29))) (c % 29)) < 65536 := by omega
  have q3 : lo (shv (shv 0 (-(c % 29))) (c % 29)) < 65536 := by omega
  have qv := val_of (shv (shv 0 (-(c % 29))) (c % 29)) t0 t1
  have HS := keep sd2
  clear sd2
  have z0 : hi 0 = 0 := by decide +kernel
  have z1 : lo 0 = 0 := by decide +kernel
  have z4 : val 0 0 = 0 := by decide +kernel
  have z5 : shv 0 0 = 0 := by decide +kernel
  have z6 : sho 0 0 = false := by decide +kernel
  have z2 : (0 : Int) ≤ 0 := by omega
  have z3 : (0 : Int) < 65536 := by omega
  go_enter Try.func4, Try.ntmps4
  go_wp2_with fail
  refine (lives_any _).mono ?_
  rintro _ r1 ⟨rfl, hbr1⟩
  obtain ⟨hcr1, hfr1⟩ := bcell hbr1
  have hzr1 := hbr1.size
  try simp only [World.size_alloc, World.size_setCell, World.size_drew] at hzr1
  have hlr1w0 : w.heap.size < r1.heap.size := by omega
  go_wp2_with fail
  refine (normal_zero x y hx0 hx1 hy0 hy1 hv _).mono ?_
  rintro _ r2 ⟨rfl, hbr2⟩
  obtain ⟨hcr2, hfr2⟩ := bcell hbr2
  have hzr2 := hbr2.size
  try simp only [World.size_alloc, World.size_setCell, World.size_drew] at hzr2
  have hlr2w0 : w.heap.size < r2.heap.size := by omega
  go_wp2_with fail
  refine (shift_any x y 0 hx0 hx1 hy0 hy1 (by omega) (by omega) _).mono ?_
  rintro _ r3 ⟨rfl, hbr3⟩
  obtain ⟨hcr3, hfr3⟩ := bcell hbr3
  have hzr3 := hbr3.size
  try simp only [World.size_alloc, World.size_setCell, World.size_drew] at hzr3
  have hlr3w0 : w.heap.size < r3.heap.size := by omega
  have hlr3r20 : r2.heap.size < r3.heap.size := by omega
  go_wp2_with fail
  refine (shift_any 0 0 (0) z2 z3 z2 z3 (by omega) (by omega) _).mono ?_
  rintro _ r4 ⟨rfl, hbr4⟩
  obtain ⟨hcr4, hfr4⟩ := bcell hbr4
  have hzr4 := hbr4.size
  try simp only [World.size_alloc, World.size_setCell, World.size_drew] at hzr4
  have hlr4w0 : w.heap.size < r4.heap.size := by omega
  have hlr4r20 : r2.heap.size < r4.heap.size := by omega
  have hlr4r30 : r3.heap.size < r4.heap.size := by omega
  go_wp2_with fail
  refine (value_any x y hx0 hx1 hy0 hy1 _).mono ?_
  rintro _ r5 ⟨rfl, hbr5⟩
  obtain ⟨hcr5, hfr5⟩ := bcell hbr5
  have hzr5 := hbr5.size
  try simp only [World.size_alloc, World.size_setCell, World.size_drew] at hzr5
  have hlr5w0 : w.heap.size < r5.heap.size := by omega
  have hlr5r20 : r2.heap.size < r5.heap.size := by omega
  have hlr5r30 : r3.heap.size < r5.heap.size := by omega
  have hlr5r40 : r4.heap.size < r5.heap.size := by omega
  go_wp2_with fail
  have hecr6 := @Ext.cell
  refine wp_region_ext (by kernel_rfl) (by kernel_rfl) ?_
  repeat (first | go_big_quiet_skip | (go_big_quiet_want; go_big_quiet_op; first | go_big_quiet_on | (go_big_quiet_call ((first | fail | (go_at_call 17; exact ext_call (canon_any _ _ (by assumption) (by assumption) (by assumption) (by assumption) _)))))))
  clear hecr6
  refine wpQuiet_nil ?_
  rintro r6 ⟨⟨_, hbr6⟩, rfl⟩
  obtain ⟨hcr6, hfr6⟩ := bcell hbr6
  have hzr6 := hbr6.size
  try simp only [World.size_alloc, World.size_setCell, World.size_drew] at hzr6
  have hlr6w0 : w.heap.size < r6.heap.size := by omega
  have hlr6r20 : r2.heap.size < r6.heap.size := by omega
  have hlr6r30 : r3.heap.size < r6.heap.size := by omega
  have hlr6r40 : r4.heap.size < r6.heap.size := by omega
  go_wp2_with fail
  refine (value_any 0 0 z2 z3 z2 z3 _).mono ?_
  rintro _ r7 ⟨rfl, hbr7⟩
  obtain ⟨hcr7, hfr7⟩ := bcell hbr7
  have hzr7 := hbr7.size
  try simp only [World.size_alloc, World.size_setCell, World.size_drew] at hzr7
  have hlr7w0 : w.heap.size < r7.heap.size := by omega
  have hlr7r20 : r2.heap.size < r7.heap.size := by omega
  have hlr7r30 : r3.heap.size < r7.heap.size := by omega
  have hlr7r40 : r4.heap.size < r7.heap.size := by omega
  go_wp2_with fail
  refine (shift_any x y (-(c % 29)) hx0 hx1 hy0 hy1 (by omega) (by omega) _).mono ?_
  rintro _ r8 ⟨rfl, hbr8⟩
  obtain ⟨hcr8, hfr8⟩ := bcell hbr8
  have hzr8 := hbr8.size
  try simp only [World.size_alloc, World.size_setCell, World.size_drew] at hzr8
  have hlr8w0 : w.heap.size < r8.heap.size := by omega
  have hlr8r20 : r2.heap.size < r8.heap.size := by omega
  have hlr8r30 : r3.heap.size < r8.heap.size := by omega
  have hlr8r40 : r4.heap.size < r8.heap.size := by omega
  go_wp2_with fail
  refine (shift_any (hi (shv 0 (-(c % 29)))) (lo (shv 0 (-(c % 29)))) (c % 29) l0 l1 l2 l3 (by omega) (by omega) _).mono ?_
  rintro _ r9 ⟨rfl, hbr9⟩
  obtain ⟨hcr9, hfr9⟩ := bcell hbr9
  have hzr9 := hbr9.size
  try simp only [World.size_alloc, World.size_setCell, World.size_drew] at hzr9
  have hlr9w0 : w.heap.size < r9.heap.size := by omega
  have hlr9r20 : r2.heap.size < r9.heap.size := by omega
  have hlr9r30 : r3.heap.size < r9.heap.size := by omega
  have hlr9r40 : r4.heap.size < r9.heap.size := by omega
  have hlr9r80 : r8.heap.size < r9.heap.size := by omega
  go_wp2
  go_ret
  exact ⟨rfl, (by repeat' (first | exact Below.refl _ _ | refine bl_alloc ?_ _ | refine bl_drew ?_ | refine bl_set ?_ _ ?_ | refine bl_via (by assumption) ?_ | (simp only []; omega) | omega | (simp; omega)))⟩

set_option maxRecDepth 100000 in
set_option maxHeartbeats 1000000 in
theorem scales_Z_same (x y c : Int) (hx0 : 0 ≤ x) (hx1 : x < 65536) (hy0 : 0 ≤ y) (hy1 : y < 65536) (c0 : 0 ≤ c) (c1 : c ≤ 255) (w : World) (hv : val x y = 0) (hj : sho (shv 0 (-(c % 29))) (c % 29) = false) (hf : shv (shv 0 (-(c % 29))) (c % 29) = 0) :
    Calls Try.prog 4 #[(.agg #[.int .u16 (x), .int .u16 (y)]), .int .u8 c] w fun e w' => e = .returned (.bool true) ∧ Below w.heap.size w w' := by
  have heq := @eq_dbl
  have k0 := val_lo x y
  have k1 := val_hi x y
  have m0 : 0 ≤ c % 29 := by omega
  have m1 : c % 29 ≤ 28 := by omega
  have p1 : wrap64 (2 ^ (c % 29).toNat) = pw (c % 29) := wrap64_in _ (by show _ ≤ pw _; have := pw_pos (c % 29); omega) (by show pw _ ≤ _; have := pw_le28 (c % 29) m1; omega)
  obtain ⟨sd, sd2⟩ := scale_down 0 (c % 29) (by omega) (by omega) m0 m1
  obtain ⟨s0, s1⟩ := shv_size 0 (-(c % 29)) (by omega) (by omega)
  obtain ⟨l0, l1', l2, l3'⟩ := hi_lo (shv 0 (-(c % 29))) s0 s1
  have l1 : hi (shv 0 (-(c % 29))) < 65536 := by omega
  have l3 : lo (shv 0 (-(c % 29))) < 65536 := by omega
  have lv := val_of (shv 0 (-(c % 29))) s0 s1
  obtain ⟨t0, t1⟩ := shv_size (shv 0 (-(c % 29))) (c % 29) s0 s1
  obtain ⟨q0, q1', q2, q3'⟩ := hi_lo (shv (shv 0 (-(c % 29))) (c % 29)) t0 t1
  have q1 : hi (shv (shv 0 (-(c % 29))) (c % 29)) < 65536 := by omega
  have q3 : lo (shv (shv 0 (-(c % 29))) (c % 29)) < 65536 := by omega
  have qv := val_of (shv (shv 0 (-(c % 29))) (c % 29)) t0 t1
  have HS := keep sd2
  clear sd2
  have z0 : hi 0 = 0 := by decide +kernel
  have z1 : lo 0 = 0 := by decide +kernel
  have z4 : val 0 0 = 0 := by decide +kernel
  have z5 : shv 0 0 = 0 := by decide +kernel
  have z6 : sho 0 0 = false := by decide +kernel
  have z2 : (0 : Int) ≤ 0 := by omega
  have z3 : (0 : Int) < 65536 := by omega
  have hb2 : (shv (shv 0 (-(c % 29))) (c % 29) == 0) = true := beq_iff_eq.2 hf
  clear hf
  go_enter Try.func4, Try.ntmps4
  go_wp2_with fail
  refine (lives_any _).mono ?_
  rintro _ r1 ⟨rfl, hbr1⟩
  obtain ⟨hcr1, hfr1⟩ := bcell hbr1
  have hzr1 := hbr1.size
  try simp only [World.size_alloc, World.size_setCell, World.size_drew] at hzr1
  have hlr1w0 : w.heap.size < r1.heap.size := by omega
  go_wp2_with fail
  refine (normal_zero x y hx0 hx1 hy0 hy1 hv _).mono ?_
  rintro _ r2 ⟨rfl, hbr2⟩
  obtain ⟨hcr2, hfr2⟩ := bcell hbr2
  have hzr2 := hbr2.size
  try simp only [World.size_alloc, World.size_setCell, World.size_drew] at hzr2
  have hlr2w0 : w.heap.size < r2.heap.size := by omega
  go_wp2_with fail
  refine (shift_any x y 0 hx0 hx1 hy0 hy1 (by omega) (by omega) _).mono ?_
  rintro _ r3 ⟨rfl, hbr3⟩
  obtain ⟨hcr3, hfr3⟩ := bcell hbr3
  have hzr3 := hbr3.size
  try simp only [World.size_alloc, World.size_setCell, World.size_drew] at hzr3
  have hlr3w0 : w.heap.size < r3.heap.size := by omega
  have hlr3r20 : r2.heap.size < r3.heap.size := by omega
  go_wp2_with fail
  refine (shift_any 0 0 (0) z2 z3 z2 z3 (by omega) (by omega) _).mono ?_
  rintro _ r4 ⟨rfl, hbr4⟩
  obtain ⟨hcr4, hfr4⟩ := bcell hbr4
  have hzr4 := hbr4.size
  try simp only [World.size_alloc, World.size_setCell, World.size_drew] at hzr4
  have hlr4w0 : w.heap.size < r4.heap.size := by omega
  have hlr4r20 : r2.heap.size < r4.heap.size := by omega
  have hlr4r30 : r3.heap.size < r4.heap.size := by omega
  go_wp2_with fail
  refine (value_any x y hx0 hx1 hy0 hy1 _).mono ?_
  rintro _ r5 ⟨rfl, hbr5⟩
  obtain ⟨hcr5, hfr5⟩ := bcell hbr5
  have hzr5 := hbr5.size
  try simp only [World.size_alloc, World.size_setCell, World.size_drew] at hzr5
  have hlr5w0 : w.heap.size < r5.heap.size := by omega
  have hlr5r20 : r2.heap.size < r5.heap.size := by omega
  have hlr5r30 : r3.heap.size < r5.heap.size := by omega
  have hlr5r40 : r4.heap.size < r5.heap.size := by omega
  go_wp2_with fail
  have hecr6 := @Ext.cell
  refine wp_region_ext (by kernel_rfl) (by kernel_rfl) ?_
  repeat (first | go_big_quiet_skip | (go_big_quiet_want; go_big_quiet_op; first | go_big_quiet_on | (go_big_quiet_call ((first | fail | (go_at_call 17; exact ext_call (canon_any _ _ (by assumption) (by assumption) (by assumption) (by assumption) _)))))))
  clear hecr6
  refine wpQuiet_nil ?_
  rintro r6 ⟨⟨_, hbr6⟩, rfl⟩
  obtain ⟨hcr6, hfr6⟩ := bcell hbr6
  have hzr6 := hbr6.size
  try simp only [World.size_alloc, World.size_setCell, World.size_drew] at hzr6
  have hlr6w0 : w.heap.size < r6.heap.size := by omega
  have hlr6r20 : r2.heap.size < r6.heap.size := by omega
  have hlr6r30 : r3.heap.size < r6.heap.size := by omega
  have hlr6r40 : r4.heap.size < r6.heap.size := by omega
  go_wp2_with fail
  refine (value_any 0 0 z2 z3 z2 z3 _).mono ?_
  rintro _ r7 ⟨rfl, hbr7⟩
  obtain ⟨hcr7, hfr7⟩ := bcell hbr7
  have hzr7 := hbr7.size
  try simp only [World.size_alloc, World.size_setCell, World.size_drew] at hzr7
  have hlr7w0 : w.heap.size < r7.heap.size := by omega
  have hlr7r20 : r2.heap.size < r7.heap.size := by omega
  have hlr7r30 : r3.heap.size < r7.heap.size := by omega
  have hlr7r40 : r4.heap.size < r7.heap.size := by omega
  go_wp2_with fail
  refine (shift_any x y (-(c % 29)) hx0 hx1 hy0 hy1 (by omega) (by omega) _).mono ?_
  rintro _ r8 ⟨rfl, hbr8⟩
  obtain ⟨hcr8, hfr8⟩ := bcell hbr8
  have hzr8 := hbr8.size
  try simp only [World.size_alloc, World.size_setCell, World.size_drew] at hzr8
  have hlr8w0 : w.heap.size < r8.heap.size := by omega
  have hlr8r20 : r2.heap.size < r8.heap.size := by omega
  have hlr8r30 : r3.heap.size < r8.heap.size := by omega
  have hlr8r40 : r4.heap.size < r8.heap.size := by omega
  go_wp2_with fail
  refine (shift_any (hi (shv 0 (-(c % 29)))) (lo (shv 0 (-(c % 29)))) (c % 29) l0 l1 l2 l3 (by omega) (by omega) _).mono ?_
  rintro _ r9 ⟨rfl, hbr9⟩
  obtain ⟨hcr9, hfr9⟩ := bcell hbr9
  have hzr9 := hbr9.size
  try simp only [World.size_alloc, World.size_setCell, World.size_drew] at hzr9
  have hlr9w0 : w.heap.size < r9.heap.size := by omega
  have hlr9r20 : r2.heap.size < r9.heap.size := by omega
  have hlr9r30 : r3.heap.size < r9.heap.size := by omega
  have hlr9r40 : r4.heap.size < r9.heap.size := by omega
  have hlr9r80 : r8.heap.size < r9.heap.size := by omega
  go_wp2_with fail
  refine (value_any (hi (shv (shv 0 (-(c % 29))) (c % 29))) (lo (shv (shv 0 (-(c % 29))) (c % 29))) q0 q1 q2 q3 _).mono ?_
  rintro _ r10 ⟨rfl, hbr10⟩
  obtain ⟨hcr10, hfr10⟩ := bcell hbr10
  have hzr10 := hbr10.size
  try simp only [World.size_alloc, World.size_setCell, World.size_drew] at hzr10
  have hlr10w0 : w.heap.size < r10.heap.size := by omega
  have hlr10r20 : r2.heap.size < r10.heap.size := by omega
  have hlr10r30 : r3.heap.size < r10.heap.size := by omega
  have hlr10r40 : r4.heap.size < r10.heap.size := by omega
  have hlr10r80 : r8.heap.size < r10.heap.size := by omega
  have hlr10r90 : r9.heap.size < r10.heap.size := by omega
  go_wp2
  go_ret
  exact ⟨rfl, (by repeat' (first | exact Below.refl _ _ | refine bl_alloc ?_ _ | refine bl_drew ?_ | refine bl_set ?_ _ ?_ | refine bl_via (by assumption) ?_ | (simp only []; omega) | omega | (simp; omega)))⟩

set_option maxRecDepth 100000 in
set_option maxHeartbeats 1000000 in
theorem scales_Z_far (x y c : Int) (hx0 : 0 ≤ x) (hx1 : x < 65536) (hy0 : 0 ≤ y) (hy1 : y < 65536) (c0 : 0 ≤ c) (c1 : c ≤ 255) (w : World) (hv : val x y = 0) (hj : sho (shv 0 (-(c % 29))) (c % 29) = false) (hm : 0 < c % 29) (hf : ¬ shv (shv 0 (-(c % 29))) (c % 29) = 0) (f1 : -(pw (c % 29)) ≤ 2 * (shv (shv 0 (-(c % 29))) (c % 29))) (f2 : 2 * (shv (shv 0 (-(c % 29))) (c % 29)) ≤ pw (c % 29)) :
    Calls Try.prog 4 #[(.agg #[.int .u16 (x), .int .u16 (y)]), .int .u8 c] w fun e w' => e = .returned (.bool true) ∧ Below w.heap.size w w' := by
  have heq := @eq_dbl
  have k0 := val_lo x y
  have k1 := val_hi x y
  have m0 : 0 ≤ c % 29 := by omega
  have m1 : c % 29 ≤ 28 := by omega
  have p1 : wrap64 (2 ^ (c % 29).toNat) = pw (c % 29) := wrap64_in _ (by show _ ≤ pw _; have := pw_pos (c % 29); omega) (by show pw _ ≤ _; have := pw_le28 (c % 29) m1; omega)
  obtain ⟨sd, sd2⟩ := scale_down 0 (c % 29) (by omega) (by omega) m0 m1
  obtain ⟨s0, s1⟩ := shv_size 0 (-(c % 29)) (by omega) (by omega)
  obtain ⟨l0, l1', l2, l3'⟩ := hi_lo (shv 0 (-(c % 29))) s0 s1
  have l1 : hi (shv 0 (-(c % 29))) < 65536 := by omega
  have l3 : lo (shv 0 (-(c % 29))) < 65536 := by omega
  have lv := val_of (shv 0 (-(c % 29))) s0 s1
  obtain ⟨t0, t1⟩ := shv_size (shv 0 (-(c % 29))) (c % 29) s0 s1
  obtain ⟨q0, q1', q2, q3'⟩ := hi_lo (shv (shv 0 (-(c % 29))) (c % 29)) t0 t1
  have q1 : hi (shv (shv 0 (-(c % 29))) (c % 29)) < 65536 := by omega
  have q3 : lo (shv (shv 0 (-(c % 29))) (c % 29)) < 65536 := by omega
  have qv := val_of (shv (shv 0 (-(c % 29))) (c % 29)) t0 t1
  have HS := keep sd2
  clear sd2
  have z0 : hi 0 = 0 := by decide +kernel
  have z1 : lo 0 = 0 := by decide +kernel
  have z4 : val 0 0 = 0 := by decide +kernel
  have z5 : shv 0 0 = 0 := by decide +kernel
  have z6 : sho 0 0 = false := by decide +kernel
  have z2 : (0 : Int) ≤ 0 := by omega
  have z3 : (0 : Int) < 65536 := by omega
  have hb1 : decide (0 < c % 29) = true := decide_eq_true hm
  have hb2 : (shv (shv 0 (-(c % 29))) (c % 29) == 0) = false := beq_eq_false_iff_ne.2 hf
  have hb3 : decide (2 * max (shv (shv 0 (-(c % 29))) (c % 29)) (-(shv (shv 0 (-(c % 29))) (c % 29))) ≤ pw (c % 29)) = true := decide_eq_true (by omega)
  go_enter Try.func4, Try.ntmps4
  go_wp2_with fail
  refine (lives_any _).mono ?_
  rintro _ r1 ⟨rfl, hbr1⟩
  obtain ⟨hcr1, hfr1⟩ := bcell hbr1
  have hzr1 := hbr1.size
  try simp only [World.size_alloc, World.size_setCell, World.size_drew] at hzr1
  have hlr1w0 : w.heap.size < r1.heap.size := by omega
  go_wp2_with fail
  refine (normal_zero x y hx0 hx1 hy0 hy1 hv _).mono ?_
  rintro _ r2 ⟨rfl, hbr2⟩
  obtain ⟨hcr2, hfr2⟩ := bcell hbr2
  have hzr2 := hbr2.size
  try simp only [World.size_alloc, World.size_setCell, World.size_drew] at hzr2
  have hlr2w0 : w.heap.size < r2.heap.size := by omega
  go_wp2_with fail
  refine (shift_any x y 0 hx0 hx1 hy0 hy1 (by omega) (by omega) _).mono ?_
  rintro _ r3 ⟨rfl, hbr3⟩
  obtain ⟨hcr3, hfr3⟩ := bcell hbr3
  have hzr3 := hbr3.size
  try simp only [World.size_alloc, World.size_setCell, World.size_drew] at hzr3
  have hlr3w0 : w.heap.size < r3.heap.size := by omega
  have hlr3r20 : r2.heap.size < r3.heap.size := by omega
  go_wp2_with fail
  refine (shift_any 0 0 (0) z2 z3 z2 z3 (by omega) (by omega) _).mono ?_
  rintro _ r4 ⟨rfl, hbr4⟩
  obtain ⟨hcr4, hfr4⟩ := bcell hbr4
  have hzr4 := hbr4.size
  try simp only [World.size_alloc, World.size_setCell, World.size_drew] at hzr4
  have hlr4w0 : w.heap.size < r4.heap.size := by omega
  have hlr4r20 : r2.heap.size < r4.heap.size := by omega
  have hlr4r30 : r3.heap.size < r4.heap.size := by omega
  go_wp2_with fail
  refine (value_any x y hx0 hx1 hy0 hy1 _).mono ?_
  rintro _ r5 ⟨rfl, hbr5⟩
  obtain ⟨hcr5, hfr5⟩ := bcell hbr5
  have hzr5 := hbr5.size
  try simp only [World.size_alloc, World.size_setCell, World.size_drew] at hzr5
  have hlr5w0 : w.heap.size < r5.heap.size := by omega
  have hlr5r20 : r2.heap.size < r5.heap.size := by omega
  have hlr5r30 : r3.heap.size < r5.heap.size := by omega
  have hlr5r40 : r4.heap.size < r5.heap.size := by omega
  go_wp2_with fail
  have hecr6 := @Ext.cell
  refine wp_region_ext (by kernel_rfl) (by kernel_rfl) ?_
  repeat (first | go_big_quiet_skip | (go_big_quiet_want; go_big_quiet_op; first | go_big_quiet_on | (go_big_quiet_call ((first | fail | (go_at_call 17; exact ext_call (canon_any _ _ (by assumption) (by assumption) (by assumption) (by assumption) _)))))))
  clear hecr6
  refine wpQuiet_nil ?_
  rintro r6 ⟨⟨_, hbr6⟩, rfl⟩
  obtain ⟨hcr6, hfr6⟩ := bcell hbr6
  have hzr6 := hbr6.size
  try simp only [World.size_alloc, World.size_setCell, World.size_drew] at hzr6
  have hlr6w0 : w.heap.size < r6.heap.size := by omega
  have hlr6r20 : r2.heap.size < r6.heap.size := by omega
  have hlr6r30 : r3.heap.size < r6.heap.size := by omega
  have hlr6r40 : r4.heap.size < r6.heap.size := by omega
  go_wp2_with fail
  refine (value_any 0 0 z2 z3 z2 z3 _).mono ?_
  rintro _ r7 ⟨rfl, hbr7⟩
  obtain ⟨hcr7, hfr7⟩ := bcell hbr7
  have hzr7 := hbr7.size
  try simp only [World.size_alloc, World.size_setCell, World.size_drew] at hzr7
  have hlr7w0 : w.heap.size < r7.heap.size := by omega
  have hlr7r20 : r2.heap.size < r7.heap.size := by omega
  have hlr7r30 : r3.heap.size < r7.heap.size := by omega
  have hlr7r40 : r4.heap.size < r7.heap.size := by omega
  go_wp2_with fail
  refine (shift_any x y (-(c % 29)) hx0 hx1 hy0 hy1 (by omega) (by omega) _).mono ?_
  rintro _ r8 ⟨rfl, hbr8⟩
  obtain ⟨hcr8, hfr8⟩ := bcell hbr8
  have hzr8 := hbr8.size
  try simp only [World.size_alloc, World.size_setCell, World.size_drew] at hzr8
  have hlr8w0 : w.heap.size < r8.heap.size := by omega
  have hlr8r20 : r2.heap.size < r8.heap.size := by omega
  have hlr8r30 : r3.heap.size < r8.heap.size := by omega
  have hlr8r40 : r4.heap.size < r8.heap.size := by omega
  go_wp2_with fail
  refine (shift_any (hi (shv 0 (-(c % 29)))) (lo (shv 0 (-(c % 29)))) (c % 29) l0 l1 l2 l3 (by omega) (by omega) _).mono ?_
  rintro _ r9 ⟨rfl, hbr9⟩
  obtain ⟨hcr9, hfr9⟩ := bcell hbr9
  have hzr9 := hbr9.size
  try simp only [World.size_alloc, World.size_setCell, World.size_drew] at hzr9
  have hlr9w0 : w.heap.size < r9.heap.size := by omega
  have hlr9r20 : r2.heap.size < r9.heap.size := by omega
  have hlr9r30 : r3.heap.size < r9.heap.size := by omega
  have hlr9r40 : r4.heap.size < r9.heap.size := by omega
  have hlr9r80 : r8.heap.size < r9.heap.size := by omega
  go_wp2_with fail
  refine (value_any (hi (shv (shv 0 (-(c % 29))) (c % 29))) (lo (shv (shv 0 (-(c % 29))) (c % 29))) q0 q1 q2 q3 _).mono ?_
  rintro _ r10 ⟨rfl, hbr10⟩
  obtain ⟨hcr10, hfr10⟩ := bcell hbr10
  have hzr10 := hbr10.size
  try simp only [World.size_alloc, World.size_setCell, World.size_drew] at hzr10
  have hlr10w0 : w.heap.size < r10.heap.size := by omega
  have hlr10r20 : r2.heap.size < r10.heap.size := by omega
  have hlr10r30 : r3.heap.size < r10.heap.size := by omega
  have hlr10r40 : r4.heap.size < r10.heap.size := by omega
  have hlr10r80 : r8.heap.size < r10.heap.size := by omega
  have hlr10r90 : r9.heap.size < r10.heap.size := by omega
  go_wp2
  go_ret
  exact ⟨rfl, (by repeat' (first | exact Below.refl _ _ | refine bl_alloc ?_ _ | refine bl_drew ?_ | refine bl_set ?_ _ ?_ | refine bl_via (by assumption) ?_ | (simp only []; omega) | omega | (simp; omega)))⟩

set_option maxRecDepth 100000 in
set_option maxHeartbeats 1000000 in
theorem scales_A_out (x y c : Int) (hx0 : 0 ≤ x) (hx1 : x < 65536) (hy0 : 0 ≤ y) (hy1 : y < 65536) (c0 : 0 ≤ c) (c1 : c ≤ 255) (w : World) (hv : ¬ val x y = 0) (g2 : nrv (val x y) ≤ -134217728) (hj : sho (shv (val x y) (-(c % 29))) (c % 29) = true) :
    Calls Try.prog 4 #[(.agg #[.int .u16 (x), .int .u16 (y)]), .int .u8 c] w fun e w' => e = .returned (.bool true) ∧ Below w.heap.size w w' := by
  have heq := @eq_dbl
  have k0 := val_lo x y
  have k1 := val_hi x y
  have m0 : 0 ≤ c % 29 := by omega
  have m1 : c % 29 ≤ 28 := by omega
  have p1 : wrap64 (2 ^ (c % 29).toNat) = pw (c % 29) := wrap64_in _ (by show _ ≤ pw _; have := pw_pos (c % 29); omega) (by show pw _ ≤ _; have := pw_le28 (c % 29) m1; omega)
  obtain ⟨sd, sd2⟩ := scale_down (val x y) (c % 29) (by omega) (by omega) m0 m1
  obtain ⟨s0, s1⟩ := shv_size (val x y) (-(c % 29)) (by omega) (by omega)
  obtain ⟨l0, l1', l2, l3'⟩ := hi_lo (shv (val x y) (-(c % 29))) s0 s1
  have l1 : hi (shv (val x y) (-(c % 29))) < 65536 := by omega
  have l3 : lo (shv (val x y) (-(c % 29))) < 65536 := by omega
  have lv := val_of (shv (val x y) (-(c % 29))) s0 s1
  obtain ⟨t0, t1⟩ := shv_size (shv (val x y) (-(c % 29))) (c % 29) s0 s1
  obtain ⟨q0, q1', q2, q3'⟩ := hi_lo (shv (shv (val x y) (-(c % 29))) (c % 29)) t0 t1
  have q1 : hi (shv (shv (val x y) (-(c % 29))) (c % 29)) < 65536 := by omega
  have q3 : lo (shv (shv (val x y) (-(c % 29))) (c % 29)) < 65536 := by omega
  have qv := val_of (shv (shv (val x y) (-(c % 29))) (c % 29)) t0 t1
  have HS := keep sd2
  clear sd2
  obtain ⟨u1, u2, u3, u4⟩ := scale_up (val x y) hv k0 k1
  obtain ⟨n0, n1, _, _⟩ := nrn_spec (val x y) hv k0 k1
  obtain ⟨g0, g1, _⟩ := nrv_size (val x y) hv k0 k1
  obtain ⟨d0, d1', d2, d3'⟩ := hi_lo (nrv (val x y)) g0 g1
  have d1 : hi (nrv (val x y)) < 65536 := by omega
  have d3 : lo (nrv (val x y)) < 65536 := by omega
  have dv := val_of (nrv (val x y)) g0 g1
  have dd1 : decide (nrn (val x y) < 0) = false := decide_eq_false (by omega)
  have dd2 : decide (27 < nrn (val x y)) = false := decide_eq_false (by omega)
  have dd3 : decide (-134217728 < nrv (val x y)) = false := decide_eq_false (by omega)
  go_enter Try.func4, Try.ntmps4
  go_wp2_with fail
  refine (lives_any _).mono ?_
  rintro _ r1 ⟨rfl, hbr1⟩
  obtain ⟨hcr1, hfr1⟩ := bcell hbr1
  have hzr1 := hbr1.size
  try simp only [World.size_alloc, World.size_setCell, World.size_drew] at hzr1
  have hlr1w0 : w.heap.size < r1.heap.size := by omega
  go_wp2_with fail
  refine (normal_any x y hx0 hx1 hy0 hy1 hv _).mono ?_
  rintro _ r2 ⟨rfl, hbr2⟩
  obtain ⟨hcr2, hfr2⟩ := bcell hbr2
  have hzr2 := hbr2.size
  try simp only [World.size_alloc, World.size_setCell, World.size_drew] at hzr2
  have hlr2w0 : w.heap.size < r2.heap.size := by omega
  go_wp2_with fail
  refine (shift_any x y (nrn (val x y)) hx0 hx1 hy0 hy1 (by omega) (by omega) _).mono ?_
  rintro _ r3 ⟨rfl, hbr3⟩
  obtain ⟨hcr3, hfr3⟩ := bcell hbr3
  have hzr3 := hbr3.size
  try simp only [World.size_alloc, World.size_setCell, World.size_drew] at hzr3
  have hlr3w0 : w.heap.size < r3.heap.size := by omega
  have hlr3r20 : r2.heap.size < r3.heap.size := by omega
  go_wp2_with fail
  refine (shift_any (hi (nrv (val x y))) (lo (nrv (val x y))) (-nrn (val x y)) d0 d1 d2 d3 (by omega) (by omega) _).mono ?_
  rintro _ r4 ⟨rfl, hbr4⟩
  obtain ⟨hcr4, hfr4⟩ := bcell hbr4
  have hzr4 := hbr4.size
  try simp only [World.size_alloc, World.size_setCell, World.size_drew] at hzr4
  have hlr4w0 : w.heap.size < r4.heap.size := by omega
  have hlr4r20 : r2.heap.size < r4.heap.size := by omega
  have hlr4r30 : r3.heap.size < r4.heap.size := by omega
  go_wp2_with fail
  refine (value_any x y hx0 hx1 hy0 hy1 _).mono ?_
  rintro _ r5 ⟨rfl, hbr5⟩
  obtain ⟨hcr5, hfr5⟩ := bcell hbr5
  have hzr5 := hbr5.size
  try simp only [World.size_alloc, World.size_setCell, World.size_drew] at hzr5
  have hlr5w0 : w.heap.size < r5.heap.size := by omega
  have hlr5r20 : r2.heap.size < r5.heap.size := by omega
  have hlr5r30 : r3.heap.size < r5.heap.size := by omega
  have hlr5r40 : r4.heap.size < r5.heap.size := by omega
  go_wp2_with fail
  have hecr6 := @Ext.cell
  refine wp_region_ext (by kernel_rfl) (by kernel_rfl) ?_
  repeat (first | go_big_quiet_skip | (go_big_quiet_want; go_big_quiet_op; first | go_big_quiet_on | (go_big_quiet_call ((first | fail | (go_at_call 17; exact ext_call (canon_any _ _ (by assumption) (by assumption) (by assumption) (by assumption) _)))))))
  clear hecr6
  refine wpQuiet_nil ?_
  rintro r6 ⟨⟨_, hbr6⟩, rfl⟩
  obtain ⟨hcr6, hfr6⟩ := bcell hbr6
  have hzr6 := hbr6.size
  try simp only [World.size_alloc, World.size_setCell, World.size_drew] at hzr6
  have hlr6w0 : w.heap.size < r6.heap.size := by omega
  have hlr6r20 : r2.heap.size < r6.heap.size := by omega
  have hlr6r30 : r3.heap.size < r6.heap.size := by omega
  have hlr6r40 : r4.heap.size < r6.heap.size := by omega
  go_wp2_with fail
  refine (value_any (hi (nrv (val x y))) (lo (nrv (val x y))) d0 d1 d2 d3 _).mono ?_
  rintro _ r7 ⟨rfl, hbr7⟩
  obtain ⟨hcr7, hfr7⟩ := bcell hbr7
  have hzr7 := hbr7.size
  try simp only [World.size_alloc, World.size_setCell, World.size_drew] at hzr7
  have hlr7w0 : w.heap.size < r7.heap.size := by omega
  have hlr7r20 : r2.heap.size < r7.heap.size := by omega
  have hlr7r30 : r3.heap.size < r7.heap.size := by omega
  have hlr7r40 : r4.heap.size < r7.heap.size := by omega
  go_wp2_with fail
  refine (shift_any x y (-(c % 29)) hx0 hx1 hy0 hy1 (by omega) (by omega) _).mono ?_
  rintro _ r8 ⟨rfl, hbr8⟩
  obtain ⟨hcr8, hfr8⟩ := bcell hbr8
  have hzr8 := hbr8.size
  try simp only [World.size_alloc, World.size_setCell, World.size_drew] at hzr8
  have hlr8w0 : w.heap.size < r8.heap.size := by omega
  have hlr8r20 : r2.heap.size < r8.heap.size := by omega
  have hlr8r30 : r3.heap.size < r8.heap.size := by omega
  have hlr8r40 : r4.heap.size < r8.heap.size := by omega
  go_wp2_with fail
  refine (shift_any (hi (shv (val x y) (-(c % 29)))) (lo (shv (val x y) (-(c % 29)))) (c % 29) l0 l1 l2 l3 (by omega) (by omega) _).mono ?_
  rintro _ r9 ⟨rfl, hbr9⟩
  obtain ⟨hcr9, hfr9⟩ := bcell hbr9
  have hzr9 := hbr9.size
  try simp only [World.size_alloc, World.size_setCell, World.size_drew] at hzr9
  have hlr9w0 : w.heap.size < r9.heap.size := by omega
  have hlr9r20 : r2.heap.size < r9.heap.size := by omega
  have hlr9r30 : r3.heap.size < r9.heap.size := by omega
  have hlr9r40 : r4.heap.size < r9.heap.size := by omega
  have hlr9r80 : r8.heap.size < r9.heap.size := by omega
  go_wp2
  go_ret
  exact ⟨rfl, (by repeat' (first | exact Below.refl _ _ | refine bl_alloc ?_ _ | refine bl_drew ?_ | refine bl_set ?_ _ ?_ | refine bl_via (by assumption) ?_ | (simp only []; omega) | omega | (simp; omega)))⟩

set_option maxRecDepth 100000 in
set_option maxHeartbeats 1000000 in
theorem scales_A_same (x y c : Int) (hx0 : 0 ≤ x) (hx1 : x < 65536) (hy0 : 0 ≤ y) (hy1 : y < 65536) (c0 : 0 ≤ c) (c1 : c ≤ 255) (w : World) (hv : ¬ val x y = 0) (g2 : nrv (val x y) ≤ -134217728) (hj : sho (shv (val x y) (-(c % 29))) (c % 29) = false) (hf : shv (shv (val x y) (-(c % 29))) (c % 29) - val x y = 0) :
    Calls Try.prog 4 #[(.agg #[.int .u16 (x), .int .u16 (y)]), .int .u8 c] w fun e w' => e = .returned (.bool true) ∧ Below w.heap.size w w' := by
  have heq := @eq_dbl
  have k0 := val_lo x y
  have k1 := val_hi x y
  have m0 : 0 ≤ c % 29 := by omega
  have m1 : c % 29 ≤ 28 := by omega
  have p1 : wrap64 (2 ^ (c % 29).toNat) = pw (c % 29) := wrap64_in _ (by show _ ≤ pw _; have := pw_pos (c % 29); omega) (by show pw _ ≤ _; have := pw_le28 (c % 29) m1; omega)
  obtain ⟨sd, sd2⟩ := scale_down (val x y) (c % 29) (by omega) (by omega) m0 m1
  obtain ⟨s0, s1⟩ := shv_size (val x y) (-(c % 29)) (by omega) (by omega)
  obtain ⟨l0, l1', l2, l3'⟩ := hi_lo (shv (val x y) (-(c % 29))) s0 s1
  have l1 : hi (shv (val x y) (-(c % 29))) < 65536 := by omega
  have l3 : lo (shv (val x y) (-(c % 29))) < 65536 := by omega
  have lv := val_of (shv (val x y) (-(c % 29))) s0 s1
  obtain ⟨t0, t1⟩ := shv_size (shv (val x y) (-(c % 29))) (c % 29) s0 s1
  obtain ⟨q0, q1', q2, q3'⟩ := hi_lo (shv (shv (val x y) (-(c % 29))) (c % 29)) t0 t1
  have q1 : hi (shv (shv (val x y) (-(c % 29))) (c % 29)) < 65536 := by omega
  have q3 : lo (shv (shv (val x y) (-(c % 29))) (c % 29)) < 65536 := by omega
  have qv := val_of (shv (shv (val x y) (-(c % 29))) (c % 29)) t0 t1
  have HS := keep sd2
  clear sd2
  obtain ⟨u1, u2, u3, u4⟩ := scale_up (val x y) hv k0 k1
  obtain ⟨n0, n1, _, _⟩ := nrn_spec (val x y) hv k0 k1
  obtain ⟨g0, g1, _⟩ := nrv_size (val x y) hv k0 k1
  obtain ⟨d0, d1', d2, d3'⟩ := hi_lo (nrv (val x y)) g0 g1
  have d1 : hi (nrv (val x y)) < 65536 := by omega
  have d3 : lo (nrv (val x y)) < 65536 := by omega
  have dv := val_of (nrv (val x y)) g0 g1
  have dd1 : decide (nrn (val x y) < 0) = false := decide_eq_false (by omega)
  have dd2 : decide (27 < nrn (val x y)) = false := decide_eq_false (by omega)
  have dd3 : decide (-134217728 < nrv (val x y)) = false := decide_eq_false (by omega)
  go_enter Try.func4, Try.ntmps4
  go_wp2_with fail
  refine (lives_any _).mono ?_
  rintro _ r1 ⟨rfl, hbr1⟩
  obtain ⟨hcr1, hfr1⟩ := bcell hbr1
  have hzr1 := hbr1.size
  try simp only [World.size_alloc, World.size_setCell, World.size_drew] at hzr1
  have hlr1w0 : w.heap.size < r1.heap.size := by omega
  go_wp2_with fail
  refine (normal_any x y hx0 hx1 hy0 hy1 hv _).mono ?_
  rintro _ r2 ⟨rfl, hbr2⟩
  obtain ⟨hcr2, hfr2⟩ := bcell hbr2
  have hzr2 := hbr2.size
  try simp only [World.size_alloc, World.size_setCell, World.size_drew] at hzr2
  have hlr2w0 : w.heap.size < r2.heap.size := by omega
  go_wp2_with fail
  refine (shift_any x y (nrn (val x y)) hx0 hx1 hy0 hy1 (by omega) (by omega) _).mono ?_
  rintro _ r3 ⟨rfl, hbr3⟩
  obtain ⟨hcr3, hfr3⟩ := bcell hbr3
  have hzr3 := hbr3.size
  try simp only [World.size_alloc, World.size_setCell, World.size_drew] at hzr3
  have hlr3w0 : w.heap.size < r3.heap.size := by omega
  have hlr3r20 : r2.heap.size < r3.heap.size := by omega
  go_wp2_with fail
  refine (shift_any (hi (nrv (val x y))) (lo (nrv (val x y))) (-nrn (val x y)) d0 d1 d2 d3 (by omega) (by omega) _).mono ?_
  rintro _ r4 ⟨rfl, hbr4⟩
  obtain ⟨hcr4, hfr4⟩ := bcell hbr4
  have hzr4 := hbr4.size
  try simp only [World.size_alloc, World.size_setCell, World.size_drew] at hzr4
  have hlr4w0 : w.heap.size < r4.heap.size := by omega
  have hlr4r20 : r2.heap.size < r4.heap.size := by omega
  have hlr4r30 : r3.heap.size < r4.heap.size := by omega
  go_wp2_with fail
  refine (value_any x y hx0 hx1 hy0 hy1 _).mono ?_
  rintro _ r5 ⟨rfl, hbr5⟩
  obtain ⟨hcr5, hfr5⟩ := bcell hbr5
  have hzr5 := hbr5.size
  try simp only [World.size_alloc, World.size_setCell, World.size_drew] at hzr5
  have hlr5w0 : w.heap.size < r5.heap.size := by omega
  have hlr5r20 : r2.heap.size < r5.heap.size := by omega
  have hlr5r30 : r3.heap.size < r5.heap.size := by omega
  have hlr5r40 : r4.heap.size < r5.heap.size := by omega
  go_wp2_with fail
  have hecr6 := @Ext.cell
  refine wp_region_ext (by kernel_rfl) (by kernel_rfl) ?_
  repeat (first | go_big_quiet_skip | (go_big_quiet_want; go_big_quiet_op; first | go_big_quiet_on | (go_big_quiet_call ((first | fail | (go_at_call 17; exact ext_call (canon_any _ _ (by assumption) (by assumption) (by assumption) (by assumption) _)))))))
  clear hecr6
  refine wpQuiet_nil ?_
  rintro r6 ⟨⟨_, hbr6⟩, rfl⟩
  obtain ⟨hcr6, hfr6⟩ := bcell hbr6
  have hzr6 := hbr6.size
  try simp only [World.size_alloc, World.size_setCell, World.size_drew] at hzr6
  have hlr6w0 : w.heap.size < r6.heap.size := by omega
  have hlr6r20 : r2.heap.size < r6.heap.size := by omega
  have hlr6r30 : r3.heap.size < r6.heap.size := by omega
  have hlr6r40 : r4.heap.size < r6.heap.size := by omega
  go_wp2_with fail
  refine (value_any (hi (nrv (val x y))) (lo (nrv (val x y))) d0 d1 d2 d3 _).mono ?_
  rintro _ r7 ⟨rfl, hbr7⟩
  obtain ⟨hcr7, hfr7⟩ := bcell hbr7
  have hzr7 := hbr7.size
  try simp only [World.size_alloc, World.size_setCell, World.size_drew] at hzr7
  have hlr7w0 : w.heap.size < r7.heap.size := by omega
  have hlr7r20 : r2.heap.size < r7.heap.size := by omega
  have hlr7r30 : r3.heap.size < r7.heap.size := by omega
  have hlr7r40 : r4.heap.size < r7.heap.size := by omega
  go_wp2_with fail
  refine (shift_any x y (-(c % 29)) hx0 hx1 hy0 hy1 (by omega) (by omega) _).mono ?_
  rintro _ r8 ⟨rfl, hbr8⟩
  obtain ⟨hcr8, hfr8⟩ := bcell hbr8
  have hzr8 := hbr8.size
  try simp only [World.size_alloc, World.size_setCell, World.size_drew] at hzr8
  have hlr8w0 : w.heap.size < r8.heap.size := by omega
  have hlr8r20 : r2.heap.size < r8.heap.size := by omega
  have hlr8r30 : r3.heap.size < r8.heap.size := by omega
  have hlr8r40 : r4.heap.size < r8.heap.size := by omega
  go_wp2_with fail
  refine (shift_any (hi (shv (val x y) (-(c % 29)))) (lo (shv (val x y) (-(c % 29)))) (c % 29) l0 l1 l2 l3 (by omega) (by omega) _).mono ?_
  rintro _ r9 ⟨rfl, hbr9⟩
  obtain ⟨hcr9, hfr9⟩ := bcell hbr9
  have hzr9 := hbr9.size
  try simp only [World.size_alloc, World.size_setCell, World.size_drew] at hzr9
  have hlr9w0 : w.heap.size < r9.heap.size := by omega
  have hlr9r20 : r2.heap.size < r9.heap.size := by omega
  have hlr9r30 : r3.heap.size < r9.heap.size := by omega
  have hlr9r40 : r4.heap.size < r9.heap.size := by omega
  have hlr9r80 : r8.heap.size < r9.heap.size := by omega
  go_wp2_with fail
  refine (value_any (hi (shv (shv (val x y) (-(c % 29))) (c % 29))) (lo (shv (shv (val x y) (-(c % 29))) (c % 29))) q0 q1 q2 q3 _).mono ?_
  rintro _ r10 ⟨rfl, hbr10⟩
  obtain ⟨hcr10, hfr10⟩ := bcell hbr10
  have hzr10 := hbr10.size
  try simp only [World.size_alloc, World.size_setCell, World.size_drew] at hzr10
  have hlr10w0 : w.heap.size < r10.heap.size := by omega
  have hlr10r20 : r2.heap.size < r10.heap.size := by omega
  have hlr10r30 : r3.heap.size < r10.heap.size := by omega
  have hlr10r40 : r4.heap.size < r10.heap.size := by omega
  have hlr10r80 : r8.heap.size < r10.heap.size := by omega
  have hlr10r90 : r9.heap.size < r10.heap.size := by omega
  go_wp2
  go_ret
  exact ⟨rfl, (by repeat' (first | exact Below.refl _ _ | refine bl_alloc ?_ _ | refine bl_drew ?_ | refine bl_set ?_ _ ?_ | refine bl_via (by assumption) ?_ | (simp only []; omega) | omega | (simp; omega)))⟩

set_option maxRecDepth 100000 in
set_option maxHeartbeats 1000000 in
theorem scales_A_far (x y c : Int) (hx0 : 0 ≤ x) (hx1 : x < 65536) (hy0 : 0 ≤ y) (hy1 : y < 65536) (c0 : 0 ≤ c) (c1 : c ≤ 255) (w : World) (hv : ¬ val x y = 0) (g2 : nrv (val x y) ≤ -134217728) (hj : sho (shv (val x y) (-(c % 29))) (c % 29) = false) (hm : 0 < c % 29) (hf : ¬ shv (shv (val x y) (-(c % 29))) (c % 29) - val x y = 0) (f1 : -(pw (c % 29)) ≤ 2 * (shv (shv (val x y) (-(c % 29))) (c % 29) - val x y)) (f2 : 2 * (shv (shv (val x y) (-(c % 29))) (c % 29) - val x y) ≤ pw (c % 29)) :
    Calls Try.prog 4 #[(.agg #[.int .u16 (x), .int .u16 (y)]), .int .u8 c] w fun e w' => e = .returned (.bool true) ∧ Below w.heap.size w w' := by
  have heq := @eq_dbl
  have k0 := val_lo x y
  have k1 := val_hi x y
  have m0 : 0 ≤ c % 29 := by omega
  have m1 : c % 29 ≤ 28 := by omega
  have p1 : wrap64 (2 ^ (c % 29).toNat) = pw (c % 29) := wrap64_in _ (by show _ ≤ pw _; have := pw_pos (c % 29); omega) (by show pw _ ≤ _; have := pw_le28 (c % 29) m1; omega)
  obtain ⟨sd, sd2⟩ := scale_down (val x y) (c % 29) (by omega) (by omega) m0 m1
  obtain ⟨s0, s1⟩ := shv_size (val x y) (-(c % 29)) (by omega) (by omega)
  obtain ⟨l0, l1', l2, l3'⟩ := hi_lo (shv (val x y) (-(c % 29))) s0 s1
  have l1 : hi (shv (val x y) (-(c % 29))) < 65536 := by omega
  have l3 : lo (shv (val x y) (-(c % 29))) < 65536 := by omega
  have lv := val_of (shv (val x y) (-(c % 29))) s0 s1
  obtain ⟨t0, t1⟩ := shv_size (shv (val x y) (-(c % 29))) (c % 29) s0 s1
  obtain ⟨q0, q1', q2, q3'⟩ := hi_lo (shv (shv (val x y) (-(c % 29))) (c % 29)) t0 t1
  have q1 : hi (shv (shv (val x y) (-(c % 29))) (c % 29)) < 65536 := by omega
  have q3 : lo (shv (shv (val x y) (-(c % 29))) (c % 29)) < 65536 := by omega
  have qv := val_of (shv (shv (val x y) (-(c % 29))) (c % 29)) t0 t1
  have HS := keep sd2
  clear sd2
  obtain ⟨u1, u2, u3, u4⟩ := scale_up (val x y) hv k0 k1
  obtain ⟨n0, n1, _, _⟩ := nrn_spec (val x y) hv k0 k1
  obtain ⟨g0, g1, _⟩ := nrv_size (val x y) hv k0 k1
  obtain ⟨d0, d1', d2, d3'⟩ := hi_lo (nrv (val x y)) g0 g1
  have d1 : hi (nrv (val x y)) < 65536 := by omega
  have d3 : lo (nrv (val x y)) < 65536 := by omega
  have dv := val_of (nrv (val x y)) g0 g1
  have dd1 : decide (nrn (val x y) < 0) = false := decide_eq_false (by omega)
  have dd2 : decide (27 < nrn (val x y)) = false := decide_eq_false (by omega)
  have dd3 : decide (-134217728 < nrv (val x y)) = false := decide_eq_false (by omega)
  have hb1 : decide (0 < c % 29) = true := decide_eq_true hm
  have hb2 : (shv (shv (val x y) (-(c % 29))) (c % 29) - val x y == 0) = false := beq_eq_false_iff_ne.2 hf
  have hb3 : decide (2 * max (shv (shv (val x y) (-(c % 29))) (c % 29) - val x y) (-(shv (shv (val x y) (-(c % 29))) (c % 29) - val x y)) ≤ pw (c % 29)) = true := decide_eq_true (by omega)
  go_enter Try.func4, Try.ntmps4
  go_wp2_with fail
  refine (lives_any _).mono ?_
  rintro _ r1 ⟨rfl, hbr1⟩
  obtain ⟨hcr1, hfr1⟩ := bcell hbr1
  have hzr1 := hbr1.size
  try simp only [World.size_alloc, World.size_setCell, World.size_drew] at hzr1
  have hlr1w0 : w.heap.size < r1.heap.size := by omega
  go_wp2_with fail
  refine (normal_any x y hx0 hx1 hy0 hy1 hv _).mono ?_
  rintro _ r2 ⟨rfl, hbr2⟩
  obtain ⟨hcr2, hfr2⟩ := bcell hbr2
  have hzr2 := hbr2.size
  try simp only [World.size_alloc, World.size_setCell, World.size_drew] at hzr2
  have hlr2w0 : w.heap.size < r2.heap.size := by omega
  go_wp2_with fail
  refine (shift_any x y (nrn (val x y)) hx0 hx1 hy0 hy1 (by omega) (by omega) _).mono ?_
  rintro _ r3 ⟨rfl, hbr3⟩
  obtain ⟨hcr3, hfr3⟩ := bcell hbr3
  have hzr3 := hbr3.size
  try simp only [World.size_alloc, World.size_setCell, World.size_drew] at hzr3
  have hlr3w0 : w.heap.size < r3.heap.size := by omega
  have hlr3r20 : r2.heap.size < r3.heap.size := by omega
  go_wp2_with fail
  refine (shift_any (hi (nrv (val x y))) (lo (nrv (val x y))) (-nrn (val x y)) d0 d1 d2 d3 (by omega) (by omega) _).mono ?_
  rintro _ r4 ⟨rfl, hbr4⟩
  obtain ⟨hcr4, hfr4⟩ := bcell hbr4
  have hzr4 := hbr4.size
  try simp only [World.size_alloc, World.size_setCell, World.size_drew] at hzr4
  have hlr4w0 : w.heap.size < r4.heap.size := by omega
  have hlr4r20 : r2.heap.size < r4.heap.size := by omega
  have hlr4r30 : r3.heap.size < r4.heap.size := by omega
  go_wp2_with fail
  refine (value_any x y hx0 hx1 hy0 hy1 _).mono ?_
  rintro _ r5 ⟨rfl, hbr5⟩
  obtain ⟨hcr5, hfr5⟩ := bcell hbr5
  have hzr5 := hbr5.size
  try simp only [World.size_alloc, World.size_setCell, World.size_drew] at hzr5
  have hlr5w0 : w.heap.size < r5.heap.size := by omega
  have hlr5r20 : r2.heap.size < r5.heap.size := by omega
  have hlr5r30 : r3.heap.size < r5.heap.size := by omega
  have hlr5r40 : r4.heap.size < r5.heap.size := by omega
  go_wp2_with fail
  have hecr6 := @Ext.cell
  refine wp_region_ext (by kernel_rfl) (by kernel_rfl) ?_
  repeat (first | go_big_quiet_skip | (go_big_quiet_want; go_big_quiet_op; first | go_big_quiet_on | (go_big_quiet_call ((first | fail | (go_at_call 17; exact ext_call (canon_any _ _ (by assumption) (by assumption) (by assumption) (by assumption) _)))))))
  clear hecr6
  refine wpQuiet_nil ?_
  rintro r6 ⟨⟨_, hbr6⟩, rfl⟩
  obtain ⟨hcr6, hfr6⟩ := bcell hbr6
  have hzr6 := hbr6.size
  try simp only [World.size_alloc, World.size_setCell, World.size_drew] at hzr6
  have hlr6w0 : w.heap.size < r6.heap.size := by omega
  have hlr6r20 : r2.heap.size < r6.heap.size := by omega
  have hlr6r30 : r3.heap.size < r6.heap.size := by omega
  have hlr6r40 : r4.heap.size < r6.heap.size := by omega
  go_wp2_with fail
  refine (value_any (hi (nrv (val x y))) (lo (nrv (val x y))) d0 d1 d2 d3 _).mono ?_
  rintro _ r7 ⟨rfl, hbr7⟩
  obtain ⟨hcr7, hfr7⟩ := bcell hbr7
  have hzr7 := hbr7.size
  try simp only [World.size_alloc, World.size_setCell, World.size_drew] at hzr7
  have hlr7w0 : w.heap.size < r7.heap.size := by omega
  have hlr7r20 : r2.heap.size < r7.heap.size := by omega
  have hlr7r30 : r3.heap.size < r7.heap.size := by omega
  have hlr7r40 : r4.heap.size < r7.heap.size := by omega
  go_wp2_with fail
  refine (shift_any x y (-(c % 29)) hx0 hx1 hy0 hy1 (by omega) (by omega) _).mono ?_
  rintro _ r8 ⟨rfl, hbr8⟩
  obtain ⟨hcr8, hfr8⟩ := bcell hbr8
  have hzr8 := hbr8.size
  try simp only [World.size_alloc, World.size_setCell, World.size_drew] at hzr8
  have hlr8w0 : w.heap.size < r8.heap.size := by omega
  have hlr8r20 : r2.heap.size < r8.heap.size := by omega
  have hlr8r30 : r3.heap.size < r8.heap.size := by omega
  have hlr8r40 : r4.heap.size < r8.heap.size := by omega
  go_wp2_with fail
  refine (shift_any (hi (shv (val x y) (-(c % 29)))) (lo (shv (val x y) (-(c % 29)))) (c % 29) l0 l1 l2 l3 (by omega) (by omega) _).mono ?_
  rintro _ r9 ⟨rfl, hbr9⟩
  obtain ⟨hcr9, hfr9⟩ := bcell hbr9
  have hzr9 := hbr9.size
  try simp only [World.size_alloc, World.size_setCell, World.size_drew] at hzr9
  have hlr9w0 : w.heap.size < r9.heap.size := by omega
  have hlr9r20 : r2.heap.size < r9.heap.size := by omega
  have hlr9r30 : r3.heap.size < r9.heap.size := by omega
  have hlr9r40 : r4.heap.size < r9.heap.size := by omega
  have hlr9r80 : r8.heap.size < r9.heap.size := by omega
  go_wp2_with fail
  refine (value_any (hi (shv (shv (val x y) (-(c % 29))) (c % 29))) (lo (shv (shv (val x y) (-(c % 29))) (c % 29))) q0 q1 q2 q3 _).mono ?_
  rintro _ r10 ⟨rfl, hbr10⟩
  obtain ⟨hcr10, hfr10⟩ := bcell hbr10
  have hzr10 := hbr10.size
  try simp only [World.size_alloc, World.size_setCell, World.size_drew] at hzr10
  have hlr10w0 : w.heap.size < r10.heap.size := by omega
  have hlr10r20 : r2.heap.size < r10.heap.size := by omega
  have hlr10r30 : r3.heap.size < r10.heap.size := by omega
  have hlr10r40 : r4.heap.size < r10.heap.size := by omega
  have hlr10r80 : r8.heap.size < r10.heap.size := by omega
  have hlr10r90 : r9.heap.size < r10.heap.size := by omega
  go_wp2
  go_ret
  exact ⟨rfl, (by repeat' (first | exact Below.refl _ _ | refine bl_alloc ?_ _ | refine bl_drew ?_ | refine bl_set ?_ _ ?_ | refine bl_via (by assumption) ?_ | (simp only []; omega) | omega | (simp; omega)))⟩

set_option maxRecDepth 100000 in
set_option maxHeartbeats 1000000 in
theorem scales_B_out (x y c : Int) (hx0 : 0 ≤ x) (hx1 : x < 65536) (hy0 : 0 ≤ y) (hy1 : y < 65536) (c0 : 0 ≤ c) (c1 : c ≤ 255) (w : World) (hv : ¬ val x y = 0) (g2 : 134217728 ≤ nrv (val x y)) (hj : sho (shv (val x y) (-(c % 29))) (c % 29) = true) :
    Calls Try.prog 4 #[(.agg #[.int .u16 (x), .int .u16 (y)]), .int .u8 c] w fun e w' => e = .returned (.bool true) ∧ Below w.heap.size w w' := by
  have heq := @eq_dbl
  have k0 := val_lo x y
  have k1 := val_hi x y
  have m0 : 0 ≤ c % 29 := by omega
  have m1 : c % 29 ≤ 28 := by omega
  have p1 : wrap64 (2 ^ (c % 29).toNat) = pw (c % 29) := wrap64_in _ (by show _ ≤ pw _; have := pw_pos (c % 29); omega) (by show pw _ ≤ _; have := pw_le28 (c % 29) m1; omega)
  obtain ⟨sd, sd2⟩ := scale_down (val x y) (c % 29) (by omega) (by omega) m0 m1
  obtain ⟨s0, s1⟩ := shv_size (val x y) (-(c % 29)) (by omega) (by omega)
  obtain ⟨l0, l1', l2, l3'⟩ := hi_lo (shv (val x y) (-(c % 29))) s0 s1
  have l1 : hi (shv (val x y) (-(c % 29))) < 65536 := by omega
  have l3 : lo (shv (val x y) (-(c % 29))) < 65536 := by omega
  have lv := val_of (shv (val x y) (-(c % 29))) s0 s1
  obtain ⟨t0, t1⟩ := shv_size (shv (val x y) (-(c % 29))) (c % 29) s0 s1
  obtain ⟨q0, q1', q2, q3'⟩ := hi_lo (shv (shv (val x y) (-(c % 29))) (c % 29)) t0 t1
  have q1 : hi (shv (shv (val x y) (-(c % 29))) (c % 29)) < 65536 := by omega
  have q3 : lo (shv (shv (val x y) (-(c % 29))) (c % 29)) < 65536 := by omega
  have qv := val_of (shv (shv (val x y) (-(c % 29))) (c % 29)) t0 t1
  have HS := keep sd2
  clear sd2
  obtain ⟨u1, u2, u3, u4⟩ := scale_up (val x y) hv k0 k1
  obtain ⟨n0, n1, _, _⟩ := nrn_spec (val x y) hv k0 k1
  obtain ⟨g0, g1, _⟩ := nrv_size (val x y) hv k0 k1
  obtain ⟨d0, d1', d2, d3'⟩ := hi_lo (nrv (val x y)) g0 g1
  have d1 : hi (nrv (val x y)) < 65536 := by omega
  have d3 : lo (nrv (val x y)) < 65536 := by omega
  have dv := val_of (nrv (val x y)) g0 g1
  have dd1 : decide (nrn (val x y) < 0) = false := decide_eq_false (by omega)
  have dd2 : decide (27 < nrn (val x y)) = false := decide_eq_false (by omega)
  have dd3 : decide (nrv (val x y) < 134217728) = false := decide_eq_false (by omega)
  go_enter Try.func4, Try.ntmps4
  go_wp2_with fail
  refine (lives_any _).mono ?_
  rintro _ r1 ⟨rfl, hbr1⟩
  obtain ⟨hcr1, hfr1⟩ := bcell hbr1
  have hzr1 := hbr1.size
  try simp only [World.size_alloc, World.size_setCell, World.size_drew] at hzr1
  have hlr1w0 : w.heap.size < r1.heap.size := by omega
  go_wp2_with fail
  refine (normal_any x y hx0 hx1 hy0 hy1 hv _).mono ?_
  rintro _ r2 ⟨rfl, hbr2⟩
  obtain ⟨hcr2, hfr2⟩ := bcell hbr2
  have hzr2 := hbr2.size
  try simp only [World.size_alloc, World.size_setCell, World.size_drew] at hzr2
  have hlr2w0 : w.heap.size < r2.heap.size := by omega
  go_wp2_with fail
  refine (shift_any x y (nrn (val x y)) hx0 hx1 hy0 hy1 (by omega) (by omega) _).mono ?_
  rintro _ r3 ⟨rfl, hbr3⟩
  obtain ⟨hcr3, hfr3⟩ := bcell hbr3
  have hzr3 := hbr3.size
  try simp only [World.size_alloc, World.size_setCell, World.size_drew] at hzr3
  have hlr3w0 : w.heap.size < r3.heap.size := by omega
  have hlr3r20 : r2.heap.size < r3.heap.size := by omega
  go_wp2_with fail
  refine (shift_any (hi (nrv (val x y))) (lo (nrv (val x y))) (-nrn (val x y)) d0 d1 d2 d3 (by omega) (by omega) _).mono ?_
  rintro _ r4 ⟨rfl, hbr4⟩
  obtain ⟨hcr4, hfr4⟩ := bcell hbr4
  have hzr4 := hbr4.size
  try simp only [World.size_alloc, World.size_setCell, World.size_drew] at hzr4
  have hlr4w0 : w.heap.size < r4.heap.size := by omega
  have hlr4r20 : r2.heap.size < r4.heap.size := by omega
  have hlr4r30 : r3.heap.size < r4.heap.size := by omega
  go_wp2_with fail
  refine (value_any x y hx0 hx1 hy0 hy1 _).mono ?_
  rintro _ r5 ⟨rfl, hbr5⟩
  obtain ⟨hcr5, hfr5⟩ := bcell hbr5
  have hzr5 := hbr5.size
  try simp only [World.size_alloc, World.size_setCell, World.size_drew] at hzr5
  have hlr5w0 : w.heap.size < r5.heap.size := by omega
  have hlr5r20 : r2.heap.size < r5.heap.size := by omega
  have hlr5r30 : r3.heap.size < r5.heap.size := by omega
  have hlr5r40 : r4.heap.size < r5.heap.size := by omega
  go_wp2_with fail
  have hecr6 := @Ext.cell
  refine wp_region_ext (by kernel_rfl) (by kernel_rfl) ?_
  repeat (first | go_big_quiet_skip | (go_big_quiet_want; go_big_quiet_op; first | go_big_quiet_on | (go_big_quiet_call ((first | fail | (go_at_call 17; exact ext_call (canon_any _ _ (by assumption) (by assumption) (by assumption) (by assumption) _)))))))
  clear hecr6
  refine wpQuiet_nil ?_
  rintro r6 ⟨⟨_, hbr6⟩, rfl⟩
  obtain ⟨hcr6, hfr6⟩ := bcell hbr6
  have hzr6 := hbr6.size
  try simp only [World.size_alloc, World.size_setCell, World.size_drew] at hzr6
  have hlr6w0 : w.heap.size < r6.heap.size := by omega
  have hlr6r20 : r2.heap.size < r6.heap.size := by omega
  have hlr6r30 : r3.heap.size < r6.heap.size := by omega
  have hlr6r40 : r4.heap.size < r6.heap.size := by omega
  go_wp2_with fail
  refine (value_any (hi (nrv (val x y))) (lo (nrv (val x y))) d0 d1 d2 d3 _).mono ?_
  rintro _ r7 ⟨rfl, hbr7⟩
  obtain ⟨hcr7, hfr7⟩ := bcell hbr7
  have hzr7 := hbr7.size
  try simp only [World.size_alloc, World.size_setCell, World.size_drew] at hzr7
  have hlr7w0 : w.heap.size < r7.heap.size := by omega
  have hlr7r20 : r2.heap.size < r7.heap.size := by omega
  have hlr7r30 : r3.heap.size < r7.heap.size := by omega
  have hlr7r40 : r4.heap.size < r7.heap.size := by omega
  go_wp2_with fail
  refine (shift_any x y (-(c % 29)) hx0 hx1 hy0 hy1 (by omega) (by omega) _).mono ?_
  rintro _ r8 ⟨rfl, hbr8⟩
  obtain ⟨hcr8, hfr8⟩ := bcell hbr8
  have hzr8 := hbr8.size
  try simp only [World.size_alloc, World.size_setCell, World.size_drew] at hzr8
  have hlr8w0 : w.heap.size < r8.heap.size := by omega
  have hlr8r20 : r2.heap.size < r8.heap.size := by omega
  have hlr8r30 : r3.heap.size < r8.heap.size := by omega
  have hlr8r40 : r4.heap.size < r8.heap.size := by omega
  go_wp2_with fail
  refine (shift_any (hi (shv (val x y) (-(c % 29)))) (lo (shv (val x y) (-(c % 29)))) (c % 29) l0 l1 l2 l3 (by omega) (by omega) _).mono ?_
  rintro _ r9 ⟨rfl, hbr9⟩
  obtain ⟨hcr9, hfr9⟩ := bcell hbr9
  have hzr9 := hbr9.size
  try simp only [World.size_alloc, World.size_setCell, World.size_drew] at hzr9
  have hlr9w0 : w.heap.size < r9.heap.size := by omega
  have hlr9r20 : r2.heap.size < r9.heap.size := by omega
  have hlr9r30 : r3.heap.size < r9.heap.size := by omega
  have hlr9r40 : r4.heap.size < r9.heap.size := by omega
  have hlr9r80 : r8.heap.size < r9.heap.size := by omega
  go_wp2
  go_ret
  exact ⟨rfl, (by repeat' (first | exact Below.refl _ _ | refine bl_alloc ?_ _ | refine bl_drew ?_ | refine bl_set ?_ _ ?_ | refine bl_via (by assumption) ?_ | (simp only []; omega) | omega | (simp; omega)))⟩

set_option maxRecDepth 100000 in
set_option maxHeartbeats 1000000 in
theorem scales_B_same (x y c : Int) (hx0 : 0 ≤ x) (hx1 : x < 65536) (hy0 : 0 ≤ y) (hy1 : y < 65536) (c0 : 0 ≤ c) (c1 : c ≤ 255) (w : World) (hv : ¬ val x y = 0) (g2 : 134217728 ≤ nrv (val x y)) (hj : sho (shv (val x y) (-(c % 29))) (c % 29) = false) (hf : shv (shv (val x y) (-(c % 29))) (c % 29) - val x y = 0) :
    Calls Try.prog 4 #[(.agg #[.int .u16 (x), .int .u16 (y)]), .int .u8 c] w fun e w' => e = .returned (.bool true) ∧ Below w.heap.size w w' := by
  have heq := @eq_dbl
  have k0 := val_lo x y
  have k1 := val_hi x y
  have m0 : 0 ≤ c % 29 := by omega
  have m1 : c % 29 ≤ 28 := by omega
  have p1 : wrap64 (2 ^ (c % 29).toNat) = pw (c % 29) := wrap64_in _ (by show _ ≤ pw _; have := pw_pos (c % 29); omega) (by show pw _ ≤ _; have := pw_le28 (c % 29) m1; omega)
  obtain ⟨sd, sd2⟩ := scale_down (val x y) (c % 29) (by omega) (by omega) m0 m1
  obtain ⟨s0, s1⟩ := shv_size (val x y) (-(c % 29)) (by omega) (by omega)
  obtain ⟨l0, l1', l2, l3'⟩ := hi_lo (shv (val x y) (-(c % 29))) s0 s1
  have l1 : hi (shv (val x y) (-(c % 29))) < 65536 := by omega
  have l3 : lo (shv (val x y) (-(c % 29))) < 65536 := by omega
  have lv := val_of (shv (val x y) (-(c % 29))) s0 s1
  obtain ⟨t0, t1⟩ := shv_size (shv (val x y) (-(c % 29))) (c % 29) s0 s1
  obtain ⟨q0, q1', q2, q3'⟩ := hi_lo (shv (shv (val x y) (-(c % 29))) (c % 29)) t0 t1
  have q1 : hi (shv (shv (val x y) (-(c % 29))) (c % 29)) < 65536 := by omega
  have q3 : lo (shv (shv (val x y) (-(c % 29))) (c % 29)) < 65536 := by omega
  have qv := val_of (shv (shv (val x y) (-(c % 29))) (c % 29)) t0 t1
  have HS := keep sd2
  clear sd2
  obtain ⟨u1, u2, u3, u4⟩ := scale_up (val x y) hv k0 k1
  obtain ⟨n0, n1, _, _⟩ := nrn_spec (val x y) hv k0 k1
  obtain ⟨g0, g1, _⟩ := nrv_size (val x y) hv k0 k1
  obtain ⟨d0, d1', d2, d3'⟩ := hi_lo (nrv (val x y)) g0 g1
  have d1 : hi (nrv (val x y)) < 65536 := by omega
  have d3 : lo (nrv (val x y)) < 65536 := by omega
  have dv := val_of (nrv (val x y)) g0 g1
  have dd1 : decide (nrn (val x y) < 0) = false := decide_eq_false (by omega)
  have dd2 : decide (27 < nrn (val x y)) = false := decide_eq_false (by omega)
  have dd3 : decide (nrv (val x y) < 134217728) = false := decide_eq_false (by omega)
  go_enter Try.func4, Try.ntmps4
  go_wp2_with fail
  refine (lives_any _).mono ?_
  rintro _ r1 ⟨rfl, hbr1⟩
  obtain ⟨hcr1, hfr1⟩ := bcell hbr1
  have hzr1 := hbr1.size
  try simp only [World.size_alloc, World.size_setCell, World.size_drew] at hzr1
  have hlr1w0 : w.heap.size < r1.heap.size := by omega
  go_wp2_with fail
  refine (normal_any x y hx0 hx1 hy0 hy1 hv _).mono ?_
  rintro _ r2 ⟨rfl, hbr2⟩
  obtain ⟨hcr2, hfr2⟩ := bcell hbr2
  have hzr2 := hbr2.size
  try simp only [World.size_alloc, World.size_setCell, World.size_drew] at hzr2
  have hlr2w0 : w.heap.size < r2.heap.size := by omega
  go_wp2_with fail
  refine (shift_any x y (nrn (val x y)) hx0 hx1 hy0 hy1 (by omega) (by omega) _).mono ?_
  rintro _ r3 ⟨rfl, hbr3⟩
  obtain ⟨hcr3, hfr3⟩ := bcell hbr3
  have hzr3 := hbr3.size
  try simp only [World.size_alloc, World.size_setCell, World.size_drew] at hzr3
  have hlr3w0 : w.heap.size < r3.heap.size := by omega
  have hlr3r20 : r2.heap.size < r3.heap.size := by omega
  go_wp2_with fail
  refine (shift_any (hi (nrv (val x y))) (lo (nrv (val x y))) (-nrn (val x y)) d0 d1 d2 d3 (by omega) (by omega) _).mono ?_
  rintro _ r4 ⟨rfl, hbr4⟩
  obtain ⟨hcr4, hfr4⟩ := bcell hbr4
  have hzr4 := hbr4.size
  try simp only [World.size_alloc, World.size_setCell, World.size_drew] at hzr4
  have hlr4w0 : w.heap.size < r4.heap.size := by omega
  have hlr4r20 : r2.heap.size < r4.heap.size := by omega
  have hlr4r30 : r3.heap.size < r4.heap.size := by omega
  go_wp2_with fail
  refine (value_any x y hx0 hx1 hy0 hy1 _).mono ?_
  rintro _ r5 ⟨rfl, hbr5⟩
  obtain ⟨hcr5, hfr5⟩ := bcell hbr5
  have hzr5 := hbr5.size
  try simp only [World.size_alloc, World.size_setCell, World.size_drew] at hzr5
  have hlr5w0 : w.heap.size < r5.heap.size := by omega
  have hlr5r20 : r2.heap.size < r5.heap.size := by omega
  have hlr5r30 : r3.heap.size < r5.heap.size := by omega
  have hlr5r40 : r4.heap.size < r5.heap.size := by omega
  go_wp2_with fail
  have hecr6 := @Ext.cell
  refine wp_region_ext (by kernel_rfl) (by kernel_rfl) ?_
  repeat (first | go_big_quiet_skip | (go_big_quiet_want; go_big_quiet_op; first | go_big_quiet_on | (go_big_quiet_call ((first | fail | (go_at_call 17; exact ext_call (canon_any _ _ (by assumption) (by assumption) (by assumption) (by assumption) _)))))))
  clear hecr6
  refine wpQuiet_nil ?_
  rintro r6 ⟨⟨_, hbr6⟩, rfl⟩
  obtain ⟨hcr6, hfr6⟩ := bcell hbr6
  have hzr6 := hbr6.size
  try simp only [World.size_alloc, World.size_setCell, World.size_drew] at hzr6
  have hlr6w0 : w.heap.size < r6.heap.size := by omega
  have hlr6r20 : r2.heap.size < r6.heap.size := by omega
  have hlr6r30 : r3.heap.size < r6.heap.size := by omega
  have hlr6r40 : r4.heap.size < r6.heap.size := by omega
  go_wp2_with fail
  refine (value_any (hi (nrv (val x y))) (lo (nrv (val x y))) d0 d1 d2 d3 _).mono ?_
  rintro _ r7 ⟨rfl, hbr7⟩
  obtain ⟨hcr7, hfr7⟩ := bcell hbr7
  have hzr7 := hbr7.size
  try simp only [World.size_alloc, World.size_setCell, World.size_drew] at hzr7
  have hlr7w0 : w.heap.size < r7.heap.size := by omega
  have hlr7r20 : r2.heap.size < r7.heap.size := by omega
  have hlr7r30 : r3.heap.size < r7.heap.size := by omega
  have hlr7r40 : r4.heap.size < r7.heap.size := by omega
  go_wp2_with fail
  refine (shift_any x y (-(c % 29)) hx0 hx1 hy0 hy1 (by omega) (by omega) _).mono ?_
  rintro _ r8 ⟨rfl, hbr8⟩
  obtain ⟨hcr8, hfr8⟩ := bcell hbr8
  have hzr8 := hbr8.size
  try simp only [World.size_alloc, World.size_setCell, World.size_drew] at hzr8
  have hlr8w0 : w.heap.size < r8.heap.size := by omega
  have hlr8r20 : r2.heap.size < r8.heap.size := by omega
  have hlr8r30 : r3.heap.size < r8.heap.size := by omega
  have hlr8r40 : r4.heap.size < r8.heap.size := by omega
  go_wp2_with fail
  refine (shift_any (hi (shv (val x y) (-(c % 29)))) (lo (shv (val x y) (-(c % 29)))) (c % 29) l0 l1 l2 l3 (by omega) (by omega) _).mono ?_
  rintro _ r9 ⟨rfl, hbr9⟩
  obtain ⟨hcr9, hfr9⟩ := bcell hbr9
  have hzr9 := hbr9.size
  try simp only [World.size_alloc, World.size_setCell, World.size_drew] at hzr9
  have hlr9w0 : w.heap.size < r9.heap.size := by omega
  have hlr9r20 : r2.heap.size < r9.heap.size := by omega
  have hlr9r30 : r3.heap.size < r9.heap.size := by omega
  have hlr9r40 : r4.heap.size < r9.heap.size := by omega
  have hlr9r80 : r8.heap.size < r9.heap.size := by omega
  go_wp2_with fail
  refine (value_any (hi (shv (shv (val x y) (-(c % 29))) (c % 29))) (lo (shv (shv (val x y) (-(c % 29))) (c % 29))) q0 q1 q2 q3 _).mono ?_
  rintro _ r10 ⟨rfl, hbr10⟩
  obtain ⟨hcr10, hfr10⟩ := bcell hbr10
  have hzr10 := hbr10.size
  try simp only [World.size_alloc, World.size_setCell, World.size_drew] at hzr10
  have hlr10w0 : w.heap.size < r10.heap.size := by omega
  have hlr10r20 : r2.heap.size < r10.heap.size := by omega
  have hlr10r30 : r3.heap.size < r10.heap.size := by omega
  have hlr10r40 : r4.heap.size < r10.heap.size := by omega
  have hlr10r80 : r8.heap.size < r10.heap.size := by omega
  have hlr10r90 : r9.heap.size < r10.heap.size := by omega
  go_wp2
  go_ret
  exact ⟨rfl, (by repeat' (first | exact Below.refl _ _ | refine bl_alloc ?_ _ | refine bl_drew ?_ | refine bl_set ?_ _ ?_ | refine bl_via (by assumption) ?_ | (simp only []; omega) | omega | (simp; omega)))⟩

set_option maxRecDepth 100000 in
set_option maxHeartbeats 1000000 in
theorem scales_B_far (x y c : Int) (hx0 : 0 ≤ x) (hx1 : x < 65536) (hy0 : 0 ≤ y) (hy1 : y < 65536) (c0 : 0 ≤ c) (c1 : c ≤ 255) (w : World) (hv : ¬ val x y = 0) (g2 : 134217728 ≤ nrv (val x y)) (hj : sho (shv (val x y) (-(c % 29))) (c % 29) = false) (hm : 0 < c % 29) (hf : ¬ shv (shv (val x y) (-(c % 29))) (c % 29) - val x y = 0) (f1 : -(pw (c % 29)) ≤ 2 * (shv (shv (val x y) (-(c % 29))) (c % 29) - val x y)) (f2 : 2 * (shv (shv (val x y) (-(c % 29))) (c % 29) - val x y) ≤ pw (c % 29)) :
    Calls Try.prog 4 #[(.agg #[.int .u16 (x), .int .u16 (y)]), .int .u8 c] w fun e w' => e = .returned (.bool true) ∧ Below w.heap.size w w' := by
  have heq := @eq_dbl
  have k0 := val_lo x y
  have k1 := val_hi x y
  have m0 : 0 ≤ c % 29 := by omega
  have m1 : c % 29 ≤ 28 := by omega
  have p1 : wrap64 (2 ^ (c % 29).toNat) = pw (c % 29) := wrap64_in _ (by show _ ≤ pw _; have := pw_pos (c % 29); omega) (by show pw _ ≤ _; have := pw_le28 (c % 29) m1; omega)
  obtain ⟨sd, sd2⟩ := scale_down (val x y) (c % 29) (by omega) (by omega) m0 m1
  obtain ⟨s0, s1⟩ := shv_size (val x y) (-(c % 29)) (by omega) (by omega)
  obtain ⟨l0, l1', l2, l3'⟩ := hi_lo (shv (val x y) (-(c % 29))) s0 s1
  have l1 : hi (shv (val x y) (-(c % 29))) < 65536 := by omega
  have l3 : lo (shv (val x y) (-(c % 29))) < 65536 := by omega
  have lv := val_of (shv (val x y) (-(c % 29))) s0 s1
  obtain ⟨t0, t1⟩ := shv_size (shv (val x y) (-(c % 29))) (c % 29) s0 s1
  obtain ⟨q0, q1', q2, q3'⟩ := hi_lo (shv (shv (val x y) (-(c % 29))) (c % 29)) t0 t1
  have q1 : hi (shv (shv (val x y) (-(c % 29))) (c % 29)) < 65536 := by omega
  have q3 : lo (shv (shv (val x y) (-(c % 29))) (c % 29)) < 65536 := by omega
  have qv := val_of (shv (shv (val x y) (-(c % 29))) (c % 29)) t0 t1
  have HS := keep sd2
  clear sd2
  obtain ⟨u1, u2, u3, u4⟩ := scale_up (val x y) hv k0 k1
  obtain ⟨n0, n1, _, _⟩ := nrn_spec (val x y) hv k0 k1
  obtain ⟨g0, g1, _⟩ := nrv_size (val x y) hv k0 k1
  obtain ⟨d0, d1', d2, d3'⟩ := hi_lo (nrv (val x y)) g0 g1
  have d1 : hi (nrv (val x y)) < 65536 := by omega
  have d3 : lo (nrv (val x y)) < 65536 := by omega
  have dv := val_of (nrv (val x y)) g0 g1
  have dd1 : decide (nrn (val x y) < 0) = false := decide_eq_false (by omega)
  have dd2 : decide (27 < nrn (val x y)) = false := decide_eq_false (by omega)
  have dd3 : decide (nrv (val x y) < 134217728) = false := decide_eq_false (by omega)
  have hb1 : decide (0 < c % 29) = true := decide_eq_true hm
  have hb2 : (shv (shv (val x y) (-(c % 29))) (c % 29) - val x y == 0) = false := beq_eq_false_iff_ne.2 hf
  have hb3 : decide (2 * max (shv (shv (val x y) (-(c % 29))) (c % 29) - val x y) (-(shv (shv (val x y) (-(c % 29))) (c % 29) - val x y)) ≤ pw (c % 29)) = true := decide_eq_true (by omega)
  go_enter Try.func4, Try.ntmps4
  go_wp2_with fail
  refine (lives_any _).mono ?_
  rintro _ r1 ⟨rfl, hbr1⟩
  obtain ⟨hcr1, hfr1⟩ := bcell hbr1
  have hzr1 := hbr1.size
  try simp only [World.size_alloc, World.size_setCell, World.size_drew] at hzr1
  have hlr1w0 : w.heap.size < r1.heap.size := by omega
  go_wp2_with fail
  refine (normal_any x y hx0 hx1 hy0 hy1 hv _).mono ?_
  rintro _ r2 ⟨rfl, hbr2⟩
  obtain ⟨hcr2, hfr2⟩ := bcell hbr2
  have hzr2 := hbr2.size
  try simp only [World.size_alloc, World.size_setCell, World.size_drew] at hzr2
  have hlr2w0 : w.heap.size < r2.heap.size := by omega
  go_wp2_with fail
  refine (shift_any x y (nrn (val x y)) hx0 hx1 hy0 hy1 (by omega) (by omega) _).mono ?_
  rintro _ r3 ⟨rfl, hbr3⟩
  obtain ⟨hcr3, hfr3⟩ := bcell hbr3
  have hzr3 := hbr3.size
  try simp only [World.size_alloc, World.size_setCell, World.size_drew] at hzr3
  have hlr3w0 : w.heap.size < r3.heap.size := by omega
  have hlr3r20 : r2.heap.size < r3.heap.size := by omega
  go_wp2_with fail
  refine (shift_any (hi (nrv (val x y))) (lo (nrv (val x y))) (-nrn (val x y)) d0 d1 d2 d3 (by omega) (by omega) _).mono ?_
  rintro _ r4 ⟨rfl, hbr4⟩
  obtain ⟨hcr4, hfr4⟩ := bcell hbr4
  have hzr4 := hbr4.size
  try simp only [World.size_alloc, World.size_setCell, World.size_drew] at hzr4
  have hlr4w0 : w.heap.size < r4.heap.size := by omega
  have hlr4r20 : r2.heap.size < r4.heap.size := by omega
  have hlr4r30 : r3.heap.size < r4.heap.size := by omega
  go_wp2_with fail
  refine (value_any x y hx0 hx1 hy0 hy1 _).mono ?_
  rintro _ r5 ⟨rfl, hbr5⟩
  obtain ⟨hcr5, hfr5⟩ := bcell hbr5
  have hzr5 := hbr5.size
  try simp only [World.size_alloc, World.size_setCell, World.size_drew] at hzr5
  have hlr5w0 : w.heap.size < r5.heap.size := by omega
  have hlr5r20 : r2.heap.size < r5.heap.size := by omega
  have hlr5r30 : r3.heap.size < r5.heap.size := by omega
  have hlr5r40 : r4.heap.size < r5.heap.size := by omega
  go_wp2_with fail
  have hecr6 := @Ext.cell
  refine wp_region_ext (by kernel_rfl) (by kernel_rfl) ?_
  repeat (first | go_big_quiet_skip | (go_big_quiet_want; go_big_quiet_op; first | go_big_quiet_on | (go_big_quiet_call ((first | fail | (go_at_call 17; exact ext_call (canon_any _ _ (by assumption) (by assumption) (by assumption) (by assumption) _)))))))
  clear hecr6
  refine wpQuiet_nil ?_
  rintro r6 ⟨⟨_, hbr6⟩, rfl⟩
  obtain ⟨hcr6, hfr6⟩ := bcell hbr6
  have hzr6 := hbr6.size
  try simp only [World.size_alloc, World.size_setCell, World.size_drew] at hzr6
  have hlr6w0 : w.heap.size < r6.heap.size := by omega
  have hlr6r20 : r2.heap.size < r6.heap.size := by omega
  have hlr6r30 : r3.heap.size < r6.heap.size := by omega
  have hlr6r40 : r4.heap.size < r6.heap.size := by omega
  go_wp2_with fail
  refine (value_any (hi (nrv (val x y))) (lo (nrv (val x y))) d0 d1 d2 d3 _).mono ?_
  rintro _ r7 ⟨rfl, hbr7⟩
  obtain ⟨hcr7, hfr7⟩ := bcell hbr7
  have hzr7 := hbr7.size
  try simp only [World.size_alloc, World.size_setCell, World.size_drew] at hzr7
  have hlr7w0 : w.heap.size < r7.heap.size := by omega
  have hlr7r20 : r2.heap.size < r7.heap.size := by omega
  have hlr7r30 : r3.heap.size < r7.heap.size := by omega
  have hlr7r40 : r4.heap.size < r7.heap.size := by omega
  go_wp2_with fail
  refine (shift_any x y (-(c % 29)) hx0 hx1 hy0 hy1 (by omega) (by omega) _).mono ?_
  rintro _ r8 ⟨rfl, hbr8⟩
  obtain ⟨hcr8, hfr8⟩ := bcell hbr8
  have hzr8 := hbr8.size
  try simp only [World.size_alloc, World.size_setCell, World.size_drew] at hzr8
  have hlr8w0 : w.heap.size < r8.heap.size := by omega
  have hlr8r20 : r2.heap.size < r8.heap.size := by omega
  have hlr8r30 : r3.heap.size < r8.heap.size := by omega
  have hlr8r40 : r4.heap.size < r8.heap.size := by omega
  go_wp2_with fail
  refine (shift_any (hi (shv (val x y) (-(c % 29)))) (lo (shv (val x y) (-(c % 29)))) (c % 29) l0 l1 l2 l3 (by omega) (by omega) _).mono ?_
  rintro _ r9 ⟨rfl, hbr9⟩
  obtain ⟨hcr9, hfr9⟩ := bcell hbr9
  have hzr9 := hbr9.size
  try simp only [World.size_alloc, World.size_setCell, World.size_drew] at hzr9
  have hlr9w0 : w.heap.size < r9.heap.size := by omega
  have hlr9r20 : r2.heap.size < r9.heap.size := by omega
  have hlr9r30 : r3.heap.size < r9.heap.size := by omega
  have hlr9r40 : r4.heap.size < r9.heap.size := by omega
  have hlr9r80 : r8.heap.size < r9.heap.size := by omega
  go_wp2_with fail
  refine (value_any (hi (shv (shv (val x y) (-(c % 29))) (c % 29))) (lo (shv (shv (val x y) (-(c % 29))) (c % 29))) q0 q1 q2 q3 _).mono ?_
  rintro _ r10 ⟨rfl, hbr10⟩
  obtain ⟨hcr10, hfr10⟩ := bcell hbr10
  have hzr10 := hbr10.size
  try simp only [World.size_alloc, World.size_setCell, World.size_drew] at hzr10
  have hlr10w0 : w.heap.size < r10.heap.size := by omega
  have hlr10r20 : r2.heap.size < r10.heap.size := by omega
  have hlr10r30 : r3.heap.size < r10.heap.size := by omega
  have hlr10r40 : r4.heap.size < r10.heap.size := by omega
  have hlr10r80 : r8.heap.size < r10.heap.size := by omega
  have hlr10r90 : r9.heap.size < r10.heap.size := by omega
  go_wp2
  go_ret
  exact ⟨rfl, (by repeat' (first | exact Below.refl _ _ | refine bl_alloc ?_ _ | refine bl_drew ?_ | refine bl_set ?_ _ ?_ | refine bl_via (by assumption) ?_ | (simp only []; omega) | omega | (simp; omega)))⟩

theorem scales_law (x y c : Int) (hx0 : 0 ≤ x) (hx1 : x < 65536) (hy0 : 0 ≤ y) (hy1 : y < 65536) (c0 : 0 ≤ c) (c1 : c ≤ 255) (w : World) :
    Calls Try.prog 4 #[(.agg #[.int .u16 (x), .int .u16 (y)]), .int .u8 c] w fun e w' => e = .returned (.bool true) ∧ Below w.heap.size w w' := by
  have k0 := val_lo x y
  have k1 := val_hi x y
  have m0 : 0 ≤ c % 29 := by omega
  have m1 : c % 29 ≤ 28 := by omega
  by_cases hv : val x y = 0
  ·
    have sd := (scale_down 0 (c % 29) (by omega) (by omega) m0 m1).2
    cases hj : sho (shv 0 (-(c % 29))) (c % 29) with
    | true => exact scales_Z_out x y c hx0 hx1 hy0 hy1 c0 c1 w hv hj
    | false =>
      by_cases hf : shv (shv 0 (-(c % 29))) (c % 29) = 0
      · exact scales_Z_same x y c hx0 hx1 hy0 hy1 c0 c1 w hv hj hf
      · have h := sd hj
        rw [Int.sub_zero] at h
        rcases h with h | ⟨h1, h2, h3⟩
        · exact absurd h hf
        · exact scales_Z_far x y c hx0 hx1 hy0 hy1 c0 c1 w hv hj h1 hf h2 h3
  · obtain ⟨_, _, g2⟩ := nrv_size (val x y) hv k0 k1
    rcases g2 with g2 | g2
    ·
      have sd := (scale_down (val x y) (c % 29) (by omega) (by omega) m0 m1).2
      cases hj : sho (shv (val x y) (-(c % 29))) (c % 29) with
      | true => exact scales_A_out x y c hx0 hx1 hy0 hy1 c0 c1 w hv g2 hj
      | false =>
        by_cases hf : shv (shv (val x y) (-(c % 29))) (c % 29) - val x y = 0
        · exact scales_A_same x y c hx0 hx1 hy0 hy1 c0 c1 w hv g2 hj hf
        · have h := sd hj
          rcases h with h | ⟨h1, h2, h3⟩
          · exact absurd h hf
          · exact scales_A_far x y c hx0 hx1 hy0 hy1 c0 c1 w hv g2 hj h1 hf h2 h3
    ·
      have sd := (scale_down (val x y) (c % 29) (by omega) (by omega) m0 m1).2
      cases hj : sho (shv (val x y) (-(c % 29))) (c % 29) with
      | true => exact scales_B_out x y c hx0 hx1 hy0 hy1 c0 c1 w hv g2 hj
      | false =>
        by_cases hf : shv (shv (val x y) (-(c % 29))) (c % 29) - val x y = 0
        · exact scales_B_same x y c hx0 hx1 hy0 hy1 c0 c1 w hv g2 hj hf
        · have h := sd hj
          rcases h with h | ⟨h1, h2, h3⟩
          · exact absurd h hf
          · exact scales_B_far x y c hx0 hx1 hy0 hy1 c0 c1 w hv g2 hj h1 hf h2 h3
end Go.Proofs.Ytojbdalhngcddaa
