/- The walks of the laws of chapter 15 on doubles: for every input each returns true. -/
import Derived.Test.YtojbdalhngcddaaLa
namespace Go.Proofs.Ytojbdalhngcddaa
set_option linter.unusedSimpArgs false
set_option linter.unusedVariables false
open Go.RowKit

theorem mag_max (v : Int) : max v (-v) = mag v := by unfold mag; split <;> omega

set_option maxHeartbeats 1000000 in
theorem sums_law (x y z u : Int) (hx0 : 0 ≤ x) (hx1 : x < 65536) (hy0 : 0 ≤ y) (hy1 : y < 65536) (hz0 : 0 ≤ z) (hz1 : z < 65536) (hu0 : 0 ≤ u) (hu1 : u < 65536) (w : World) :
    Calls Try.prog 6 #[(.agg #[.int .u16 (x), .int .u16 (y)]), (.agg #[.int .u16 (z), .int .u16 (u)])] w fun e w' => e = .returned (.bool true) ∧ Below w.heap.size w w' := by
  have heq := @eq_dbl
  have k0 := val_lo x y
  have k1 := val_hi x y
  have k2 := val_lo z u
  have k3 := val_hi z u
  have hm := mag_max (val x y)
  have m0 : 0 ≤ mag (val x y) := by unfold mag; split <;> omega
  have m1 : mag (val x y) ≤ 268435455 := by unfold mag; split <;> omega
  rcases (show val x y < val z u ∨ val z u < val x y ∨ val x y = val z u by omega) with hv | hv | hv
  · have hc : cmpv (val x y) (val z u) = -1 := by unfold cmpv; rw [if_neg (by omega), if_pos hv]
    go_enter Try.func6, Try.ntmps6
    go_wp2_with fail
    refine (lives_any _).mono ?_
    rintro _ r1 ⟨rfl, hbr1⟩
    obtain ⟨hcr1, hfr1⟩ := bcell hbr1
    have hzr1 := hbr1.size
    try simp only [World.size_alloc, World.size_setCell, World.size_drew] at hzr1
    have hlr1w0 : w.heap.size < r1.heap.size := by omega
    have hlr1w1 : w.heap.size + 1 < r1.heap.size := by omega
    go_wp2_with fail
    have hecr2 := @Ext.cell
    refine wp_region_ext (by kernel_rfl) (by kernel_rfl) ?_
    repeat (first | go_big_quiet_skip | (go_big_quiet_want; go_big_quiet_op; first | go_big_quiet_on | (go_big_quiet_call ((first | fail | (go_at_call 21; exact ext_call (rvalue_any _ _ (by assumption) (by assumption) (by assumption) (by assumption) _)))))))
    clear hecr2
    refine wpQuiet_nil ?_
    rintro r2 ⟨⟨_, hbr2⟩, rfl⟩
    obtain ⟨hcr2, hfr2⟩ := bcell hbr2
    have hzr2 := hbr2.size
    try simp only [World.size_alloc, World.size_setCell, World.size_drew] at hzr2
    have hlr2w0 : w.heap.size < r2.heap.size := by omega
    have hlr2w1 : w.heap.size + 1 < r2.heap.size := by omega
    go_wp2_with fail
    refine (add_any x y z u hx0 hx1 hy0 hy1 hz0 hz1 hu0 hu1 _).mono ?_
    rintro _ r3 ⟨rfl, hbr3⟩
    obtain ⟨hcr3, hfr3⟩ := bcell hbr3
    have hzr3 := hbr3.size
    try simp only [World.size_alloc, World.size_setCell, World.size_drew] at hzr3
    have hlr3w0 : w.heap.size < r3.heap.size := by omega
    have hlr3w1 : w.heap.size + 1 < r3.heap.size := by omega
    go_wp2_with fail
    refine (sub_any x y z u hx0 hx1 hy0 hy1 hz0 hz1 hu0 hu1 _).mono ?_
    rintro _ r4 ⟨rfl, hbr4⟩
    obtain ⟨hcr4, hfr4⟩ := bcell hbr4
    have hzr4 := hbr4.size
    try simp only [World.size_alloc, World.size_setCell, World.size_drew] at hzr4
    have hlr4w0 : w.heap.size < r4.heap.size := by omega
    have hlr4w1 : w.heap.size + 1 < r4.heap.size := by omega
    have hlr4r30 : r3.heap.size < r4.heap.size := by omega
    go_wp2_with fail
    refine (rclamp_any _ _).mono ?_
    rintro _ r5 ⟨rfl, hbr5⟩
    obtain ⟨hcr5, hfr5⟩ := bcell hbr5
    have hzr5 := hbr5.size
    try simp only [World.size_alloc, World.size_setCell, World.size_drew] at hzr5
    have hlr5w0 : w.heap.size < r5.heap.size := by omega
    have hlr5w1 : w.heap.size + 1 < r5.heap.size := by omega
    have hlr5r30 : r3.heap.size < r5.heap.size := by omega
    have hlr5r40 : r4.heap.size < r5.heap.size := by omega
    go_wp2_with fail
    refine (rclamp_any _ _).mono ?_
    rintro _ r6 ⟨rfl, hbr6⟩
    obtain ⟨hcr6, hfr6⟩ := bcell hbr6
    have hzr6 := hbr6.size
    try simp only [World.size_alloc, World.size_setCell, World.size_drew] at hzr6
    have hlr6w0 : w.heap.size < r6.heap.size := by omega
    have hlr6w1 : w.heap.size + 1 < r6.heap.size := by omega
    have hlr6r30 : r3.heap.size < r6.heap.size := by omega
    have hlr6r40 : r4.heap.size < r6.heap.size := by omega
    have hlr6r50 : r5.heap.size < r6.heap.size := by omega
    go_wp2_with fail
    refine (value_any x y hx0 hx1 hy0 hy1 _).mono ?_
    rintro _ r7 ⟨rfl, hbr7⟩
    obtain ⟨hcr7, hfr7⟩ := bcell hbr7
    have hzr7 := hbr7.size
    try simp only [World.size_alloc, World.size_setCell, World.size_drew] at hzr7
    have hlr7w0 : w.heap.size < r7.heap.size := by omega
    have hlr7w1 : w.heap.size + 1 < r7.heap.size := by omega
    have hlr7r30 : r3.heap.size < r7.heap.size := by omega
    have hlr7r40 : r4.heap.size < r7.heap.size := by omega
    have hlr7r50 : r5.heap.size < r7.heap.size := by omega
    have hlr7r60 : r6.heap.size < r7.heap.size := by omega
    go_wp2_with fail
    refine (canon_any x y hx0 hx1 hy0 hy1 _).mono ?_
    rintro _ r8 ⟨rfl, hbr8⟩
    obtain ⟨hcr8, hfr8⟩ := bcell hbr8
    have hzr8 := hbr8.size
    try simp only [World.size_alloc, World.size_setCell, World.size_drew] at hzr8
    have hlr8w0 : w.heap.size < r8.heap.size := by omega
    have hlr8w1 : w.heap.size + 1 < r8.heap.size := by omega
    go_wp2_with fail
    refine (rdouble_any (val x y) k0 k1 _).mono ?_
    rintro _ r9 ⟨rfl, hbr9⟩
    obtain ⟨hcr9, hfr9⟩ := bcell hbr9
    have hzr9 := hbr9.size
    try simp only [World.size_alloc, World.size_setCell, World.size_drew] at hzr9
    have hlr9w0 : w.heap.size < r9.heap.size := by omega
    have hlr9w1 : w.heap.size + 1 < r9.heap.size := by omega
    go_wp2_with fail
    refine (neg_any x y hx0 hx1 hy0 hy1 _).mono ?_
    rintro _ r10 ⟨rfl, hbr10⟩
    obtain ⟨hcr10, hfr10⟩ := bcell hbr10
    have hzr10 := hbr10.size
    try simp only [World.size_alloc, World.size_setCell, World.size_drew] at hzr10
    have hlr10w0 : w.heap.size < r10.heap.size := by omega
    have hlr10w1 : w.heap.size + 1 < r10.heap.size := by omega
    go_wp2_with fail
    refine (rdouble_any (-val x y) (by omega) (by omega) _).mono ?_
    rintro _ r11 ⟨rfl, hbr11⟩
    obtain ⟨hcr11, hfr11⟩ := bcell hbr11
    have hzr11 := hbr11.size
    try simp only [World.size_alloc, World.size_setCell, World.size_drew] at hzr11
    have hlr11w0 : w.heap.size < r11.heap.size := by omega
    have hlr11w1 : w.heap.size + 1 < r11.heap.size := by omega
    go_wp2_with fail
    refine (abs_any x y hx0 hx1 hy0 hy1 _).mono ?_
    rintro _ r12 ⟨rfl, hbr12⟩
    obtain ⟨hcr12, hfr12⟩ := bcell hbr12
    have hzr12 := hbr12.size
    try simp only [World.size_alloc, World.size_setCell, World.size_drew] at hzr12
    have hlr12w0 : w.heap.size < r12.heap.size := by omega
    have hlr12w1 : w.heap.size + 1 < r12.heap.size := by omega
    go_wp2_with fail
    refine (rdouble_any (mag (val x y)) (by omega) m1 _).mono ?_
    rintro _ r13 ⟨rfl, hbr13⟩
    obtain ⟨hcr13, hfr13⟩ := bcell hbr13
    have hzr13 := hbr13.size
    try simp only [World.size_alloc, World.size_setCell, World.size_drew] at hzr13
    have hlr13w0 : w.heap.size < r13.heap.size := by omega
    have hlr13w1 : w.heap.size + 1 < r13.heap.size := by omega
    go_wp2_with fail
    refine (cmp_any x y z u hx0 hx1 hy0 hy1 hz0 hz1 hu0 hu1 _).mono ?_
    rintro _ r14 ⟨rfl, hbr14⟩
    obtain ⟨hcr14, hfr14⟩ := bcell hbr14
    have hzr14 := hbr14.size
    try simp only [World.size_alloc, World.size_setCell, World.size_drew] at hzr14
    have hlr14w0 : w.heap.size < r14.heap.size := by omega
    have hlr14w1 : w.heap.size + 1 < r14.heap.size := by omega
    go_wp2
    go_ret
    exact ⟨rfl, (by repeat' (first | exact Below.refl _ _ | refine bl_alloc ?_ _ | refine bl_drew ?_ | refine bl_set ?_ _ ?_ | refine bl_via (by assumption) ?_ | (simp only []; omega) | omega | (simp; omega)))⟩
  · have hc : cmpv (val x y) (val z u) = 1 := by unfold cmpv; rw [if_neg (by omega), if_neg (by omega)]
    go_enter Try.func6, Try.ntmps6
    go_wp2_with fail
    refine (lives_any _).mono ?_
    rintro _ r1 ⟨rfl, hbr1⟩
    obtain ⟨hcr1, hfr1⟩ := bcell hbr1
    have hzr1 := hbr1.size
    try simp only [World.size_alloc, World.size_setCell, World.size_drew] at hzr1
    have hlr1w0 : w.heap.size < r1.heap.size := by omega
    have hlr1w1 : w.heap.size + 1 < r1.heap.size := by omega
    go_wp2_with fail
    have hecr2 := @Ext.cell
    refine wp_region_ext (by kernel_rfl) (by kernel_rfl) ?_
    repeat (first | go_big_quiet_skip | (go_big_quiet_want; go_big_quiet_op; first | go_big_quiet_on | (go_big_quiet_call ((first | fail | (go_at_call 21; exact ext_call (rvalue_any _ _ (by assumption) (by assumption) (by assumption) (by assumption) _)))))))
    clear hecr2
    refine wpQuiet_nil ?_
    rintro r2 ⟨⟨_, hbr2⟩, rfl⟩
    obtain ⟨hcr2, hfr2⟩ := bcell hbr2
    have hzr2 := hbr2.size
    try simp only [World.size_alloc, World.size_setCell, World.size_drew] at hzr2
    have hlr2w0 : w.heap.size < r2.heap.size := by omega
    have hlr2w1 : w.heap.size + 1 < r2.heap.size := by omega
    go_wp2_with fail
    refine (add_any x y z u hx0 hx1 hy0 hy1 hz0 hz1 hu0 hu1 _).mono ?_
    rintro _ r3 ⟨rfl, hbr3⟩
    obtain ⟨hcr3, hfr3⟩ := bcell hbr3
    have hzr3 := hbr3.size
    try simp only [World.size_alloc, World.size_setCell, World.size_drew] at hzr3
    have hlr3w0 : w.heap.size < r3.heap.size := by omega
    have hlr3w1 : w.heap.size + 1 < r3.heap.size := by omega
    go_wp2_with fail
    refine (sub_any x y z u hx0 hx1 hy0 hy1 hz0 hz1 hu0 hu1 _).mono ?_
    rintro _ r4 ⟨rfl, hbr4⟩
    obtain ⟨hcr4, hfr4⟩ := bcell hbr4
    have hzr4 := hbr4.size
    try simp only [World.size_alloc, World.size_setCell, World.size_drew] at hzr4
    have hlr4w0 : w.heap.size < r4.heap.size := by omega
    have hlr4w1 : w.heap.size + 1 < r4.heap.size := by omega
    have hlr4r30 : r3.heap.size < r4.heap.size := by omega
    go_wp2_with fail
    refine (rclamp_any _ _).mono ?_
    rintro _ r5 ⟨rfl, hbr5⟩
    obtain ⟨hcr5, hfr5⟩ := bcell hbr5
    have hzr5 := hbr5.size
    try simp only [World.size_alloc, World.size_setCell, World.size_drew] at hzr5
    have hlr5w0 : w.heap.size < r5.heap.size := by omega
    have hlr5w1 : w.heap.size + 1 < r5.heap.size := by omega
    have hlr5r30 : r3.heap.size < r5.heap.size := by omega
    have hlr5r40 : r4.heap.size < r5.heap.size := by omega
    go_wp2_with fail
    refine (rclamp_any _ _).mono ?_
    rintro _ r6 ⟨rfl, hbr6⟩
    obtain ⟨hcr6, hfr6⟩ := bcell hbr6
    have hzr6 := hbr6.size
    try simp only [World.size_alloc, World.size_setCell, World.size_drew] at hzr6
    have hlr6w0 : w.heap.size < r6.heap.size := by omega
    have hlr6w1 : w.heap.size + 1 < r6.heap.size := by omega
    have hlr6r30 : r3.heap.size < r6.heap.size := by omega
    have hlr6r40 : r4.heap.size < r6.heap.size := by omega
    have hlr6r50 : r5.heap.size < r6.heap.size := by omega
    go_wp2_with fail
    refine (value_any x y hx0 hx1 hy0 hy1 _).mono ?_
    rintro _ r7 ⟨rfl, hbr7⟩
    obtain ⟨hcr7, hfr7⟩ := bcell hbr7
    have hzr7 := hbr7.size
    try simp only [World.size_alloc, World.size_setCell, World.size_drew] at hzr7
    have hlr7w0 : w.heap.size < r7.heap.size := by omega
    have hlr7w1 : w.heap.size + 1 < r7.heap.size := by omega
    have hlr7r30 : r3.heap.size < r7.heap.size := by omega
    have hlr7r40 : r4.heap.size < r7.heap.size := by omega
    have hlr7r50 : r5.heap.size < r7.heap.size := by omega
    have hlr7r60 : r6.heap.size < r7.heap.size := by omega
    go_wp2_with fail
    refine (canon_any x y hx0 hx1 hy0 hy1 _).mono ?_
    rintro _ r8 ⟨rfl, hbr8⟩
    obtain ⟨hcr8, hfr8⟩ := bcell hbr8
    have hzr8 := hbr8.size
    try simp only [World.size_alloc, World.size_setCell, World.size_drew] at hzr8
    have hlr8w0 : w.heap.size < r8.heap.size := by omega
    have hlr8w1 : w.heap.size + 1 < r8.heap.size := by omega
    go_wp2_with fail
    refine (rdouble_any (val x y) k0 k1 _).mono ?_
    rintro _ r9 ⟨rfl, hbr9⟩
    obtain ⟨hcr9, hfr9⟩ := bcell hbr9
    have hzr9 := hbr9.size
    try simp only [World.size_alloc, World.size_setCell, World.size_drew] at hzr9
    have hlr9w0 : w.heap.size < r9.heap.size := by omega
    have hlr9w1 : w.heap.size + 1 < r9.heap.size := by omega
    go_wp2_with fail
    refine (neg_any x y hx0 hx1 hy0 hy1 _).mono ?_
    rintro _ r10 ⟨rfl, hbr10⟩
    obtain ⟨hcr10, hfr10⟩ := bcell hbr10
    have hzr10 := hbr10.size
    try simp only [World.size_alloc, World.size_setCell, World.size_drew] at hzr10
    have hlr10w0 : w.heap.size < r10.heap.size := by omega
    have hlr10w1 : w.heap.size + 1 < r10.heap.size := by omega
    go_wp2_with fail
    refine (rdouble_any (-val x y) (by omega) (by omega) _).mono ?_
    rintro _ r11 ⟨rfl, hbr11⟩
    obtain ⟨hcr11, hfr11⟩ := bcell hbr11
    have hzr11 := hbr11.size
    try simp only [World.size_alloc, World.size_setCell, World.size_drew] at hzr11
    have hlr11w0 : w.heap.size < r11.heap.size := by omega
    have hlr11w1 : w.heap.size + 1 < r11.heap.size := by omega
    go_wp2_with fail
    refine (abs_any x y hx0 hx1 hy0 hy1 _).mono ?_
    rintro _ r12 ⟨rfl, hbr12⟩
    obtain ⟨hcr12, hfr12⟩ := bcell hbr12
    have hzr12 := hbr12.size
    try simp only [World.size_alloc, World.size_setCell, World.size_drew] at hzr12
    have hlr12w0 : w.heap.size < r12.heap.size := by omega
    have hlr12w1 : w.heap.size + 1 < r12.heap.size := by omega
    go_wp2_with fail
    refine (rdouble_any (mag (val x y)) (by omega) m1 _).mono ?_
    rintro _ r13 ⟨rfl, hbr13⟩
    obtain ⟨hcr13, hfr13⟩ := bcell hbr13
    have hzr13 := hbr13.size
    try simp only [World.size_alloc, World.size_setCell, World.size_drew] at hzr13
    have hlr13w0 : w.heap.size < r13.heap.size := by omega
    have hlr13w1 : w.heap.size + 1 < r13.heap.size := by omega
    go_wp2_with fail
    refine (cmp_any x y z u hx0 hx1 hy0 hy1 hz0 hz1 hu0 hu1 _).mono ?_
    rintro _ r14 ⟨rfl, hbr14⟩
    obtain ⟨hcr14, hfr14⟩ := bcell hbr14
    have hzr14 := hbr14.size
    try simp only [World.size_alloc, World.size_setCell, World.size_drew] at hzr14
    have hlr14w0 : w.heap.size < r14.heap.size := by omega
    have hlr14w1 : w.heap.size + 1 < r14.heap.size := by omega
    go_wp2
    go_ret
    exact ⟨rfl, (by repeat' (first | exact Below.refl _ _ | refine bl_alloc ?_ _ | refine bl_drew ?_ | refine bl_set ?_ _ ?_ | refine bl_via (by assumption) ?_ | (simp only []; omega) | omega | (simp; omega)))⟩
  · have hc : cmpv (val x y) (val z u) = 0 := by unfold cmpv; rw [if_pos hv]
    have hv1 : ¬ val x y < val z u := by omega
    have hv2 : ¬ val z u < val x y := by omega
    clear hv
    go_enter Try.func6, Try.ntmps6
    go_wp2_with fail
    refine (lives_any _).mono ?_
    rintro _ r1 ⟨rfl, hbr1⟩
    obtain ⟨hcr1, hfr1⟩ := bcell hbr1
    have hzr1 := hbr1.size
    try simp only [World.size_alloc, World.size_setCell, World.size_drew] at hzr1
    have hlr1w0 : w.heap.size < r1.heap.size := by omega
    have hlr1w1 : w.heap.size + 1 < r1.heap.size := by omega
    go_wp2_with fail
    have hecr2 := @Ext.cell
    refine wp_region_ext (by kernel_rfl) (by kernel_rfl) ?_
    repeat (first | go_big_quiet_skip | (go_big_quiet_want; go_big_quiet_op; first | go_big_quiet_on | (go_big_quiet_call ((first | fail | (go_at_call 21; exact ext_call (rvalue_any _ _ (by assumption) (by assumption) (by assumption) (by assumption) _)))))))
    clear hecr2
    refine wpQuiet_nil ?_
    rintro r2 ⟨⟨_, hbr2⟩, rfl⟩
    obtain ⟨hcr2, hfr2⟩ := bcell hbr2
    have hzr2 := hbr2.size
    try simp only [World.size_alloc, World.size_setCell, World.size_drew] at hzr2
    have hlr2w0 : w.heap.size < r2.heap.size := by omega
    have hlr2w1 : w.heap.size + 1 < r2.heap.size := by omega
    go_wp2_with fail
    refine (add_any x y z u hx0 hx1 hy0 hy1 hz0 hz1 hu0 hu1 _).mono ?_
    rintro _ r3 ⟨rfl, hbr3⟩
    obtain ⟨hcr3, hfr3⟩ := bcell hbr3
    have hzr3 := hbr3.size
    try simp only [World.size_alloc, World.size_setCell, World.size_drew] at hzr3
    have hlr3w0 : w.heap.size < r3.heap.size := by omega
    have hlr3w1 : w.heap.size + 1 < r3.heap.size := by omega
    go_wp2_with fail
    refine (sub_any x y z u hx0 hx1 hy0 hy1 hz0 hz1 hu0 hu1 _).mono ?_
    rintro _ r4 ⟨rfl, hbr4⟩
    obtain ⟨hcr4, hfr4⟩ := bcell hbr4
    have hzr4 := hbr4.size
    try simp only [World.size_alloc, World.size_setCell, World.size_drew] at hzr4
    have hlr4w0 : w.heap.size < r4.heap.size := by omega
    have hlr4w1 : w.heap.size + 1 < r4.heap.size := by omega
    have hlr4r30 : r3.heap.size < r4.heap.size := by omega
    go_wp2_with fail
    refine (rclamp_any _ _).mono ?_
    rintro _ r5 ⟨rfl, hbr5⟩
    obtain ⟨hcr5, hfr5⟩ := bcell hbr5
    have hzr5 := hbr5.size
    try simp only [World.size_alloc, World.size_setCell, World.size_drew] at hzr5
    have hlr5w0 : w.heap.size < r5.heap.size := by omega
    have hlr5w1 : w.heap.size + 1 < r5.heap.size := by omega
    have hlr5r30 : r3.heap.size < r5.heap.size := by omega
    have hlr5r40 : r4.heap.size < r5.heap.size := by omega
    go_wp2_with fail
    refine (rclamp_any _ _).mono ?_
    rintro _ r6 ⟨rfl, hbr6⟩
    obtain ⟨hcr6, hfr6⟩ := bcell hbr6
    have hzr6 := hbr6.size
    try simp only [World.size_alloc, World.size_setCell, World.size_drew] at hzr6
    have hlr6w0 : w.heap.size < r6.heap.size := by omega
    have hlr6w1 : w.heap.size + 1 < r6.heap.size := by omega
    have hlr6r30 : r3.heap.size < r6.heap.size := by omega
    have hlr6r40 : r4.heap.size < r6.heap.size := by omega
    have hlr6r50 : r5.heap.size < r6.heap.size := by omega
    go_wp2_with fail
    refine (value_any x y hx0 hx1 hy0 hy1 _).mono ?_
    rintro _ r7 ⟨rfl, hbr7⟩
    obtain ⟨hcr7, hfr7⟩ := bcell hbr7
    have hzr7 := hbr7.size
    try simp only [World.size_alloc, World.size_setCell, World.size_drew] at hzr7
    have hlr7w0 : w.heap.size < r7.heap.size := by omega
    have hlr7w1 : w.heap.size + 1 < r7.heap.size := by omega
    have hlr7r30 : r3.heap.size < r7.heap.size := by omega
    have hlr7r40 : r4.heap.size < r7.heap.size := by omega
    have hlr7r50 : r5.heap.size < r7.heap.size := by omega
    have hlr7r60 : r6.heap.size < r7.heap.size := by omega
    go_wp2_with fail
    refine (canon_any x y hx0 hx1 hy0 hy1 _).mono ?_
    rintro _ r8 ⟨rfl, hbr8⟩
    obtain ⟨hcr8, hfr8⟩ := bcell hbr8
    have hzr8 := hbr8.size
    try simp only [World.size_alloc, World.size_setCell, World.size_drew] at hzr8
    have hlr8w0 : w.heap.size < r8.heap.size := by omega
    have hlr8w1 : w.heap.size + 1 < r8.heap.size := by omega
    go_wp2_with fail
    refine (rdouble_any (val x y) k0 k1 _).mono ?_
    rintro _ r9 ⟨rfl, hbr9⟩
    obtain ⟨hcr9, hfr9⟩ := bcell hbr9
    have hzr9 := hbr9.size
    try simp only [World.size_alloc, World.size_setCell, World.size_drew] at hzr9
    have hlr9w0 : w.heap.size < r9.heap.size := by omega
    have hlr9w1 : w.heap.size + 1 < r9.heap.size := by omega
    go_wp2_with fail
    refine (neg_any x y hx0 hx1 hy0 hy1 _).mono ?_
    rintro _ r10 ⟨rfl, hbr10⟩
    obtain ⟨hcr10, hfr10⟩ := bcell hbr10
    have hzr10 := hbr10.size
    try simp only [World.size_alloc, World.size_setCell, World.size_drew] at hzr10
    have hlr10w0 : w.heap.size < r10.heap.size := by omega
    have hlr10w1 : w.heap.size + 1 < r10.heap.size := by omega
    go_wp2_with fail
    refine (rdouble_any (-val x y) (by omega) (by omega) _).mono ?_
    rintro _ r11 ⟨rfl, hbr11⟩
    obtain ⟨hcr11, hfr11⟩ := bcell hbr11
    have hzr11 := hbr11.size
    try simp only [World.size_alloc, World.size_setCell, World.size_drew] at hzr11
    have hlr11w0 : w.heap.size < r11.heap.size := by omega
    have hlr11w1 : w.heap.size + 1 < r11.heap.size := by omega
    go_wp2_with fail
    refine (abs_any x y hx0 hx1 hy0 hy1 _).mono ?_
    rintro _ r12 ⟨rfl, hbr12⟩
    obtain ⟨hcr12, hfr12⟩ := bcell hbr12
    have hzr12 := hbr12.size
    try simp only [World.size_alloc, World.size_setCell, World.size_drew] at hzr12
    have hlr12w0 : w.heap.size < r12.heap.size := by omega
    have hlr12w1 : w.heap.size + 1 < r12.heap.size := by omega
    go_wp2_with fail
    refine (rdouble_any (mag (val x y)) (by omega) m1 _).mono ?_
    rintro _ r13 ⟨rfl, hbr13⟩
    obtain ⟨hcr13, hfr13⟩ := bcell hbr13
    have hzr13 := hbr13.size
    try simp only [World.size_alloc, World.size_setCell, World.size_drew] at hzr13
    have hlr13w0 : w.heap.size < r13.heap.size := by omega
    have hlr13w1 : w.heap.size + 1 < r13.heap.size := by omega
    go_wp2_with fail
    refine (cmp_any x y z u hx0 hx1 hy0 hy1 hz0 hz1 hu0 hu1 _).mono ?_
    rintro _ r14 ⟨rfl, hbr14⟩
    obtain ⟨hcr14, hfr14⟩ := bcell hbr14
    have hzr14 := hbr14.size
    try simp only [World.size_alloc, World.size_setCell, World.size_drew] at hzr14
    have hlr14w0 : w.heap.size < r14.heap.size := by omega
    have hlr14w1 : w.heap.size + 1 < r14.heap.size := by omega
    go_wp2
    go_ret
    exact ⟨rfl, (by repeat' (first | exact Below.refl _ _ | refine bl_alloc ?_ _ | refine bl_drew ?_ | refine bl_set ?_ _ ?_ | refine bl_via (by assumption) ?_ | (simp only []; omega) | omega | (simp; omega)))⟩
end Go.Proofs.Ytojbdalhngcddaa
