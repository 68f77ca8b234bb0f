/- The walk of DoubleBack: for every number and all words it returns true. -/
import Derived.Test.YtojbdalhngcddaaLa
namespace Go.Proofs.Ytojbdalhngcddaa
set_option linter.unusedSimpArgs false
set_option linter.unusedVariables false
open Go.RowKit

set_option maxHeartbeats 1000000 in
theorem back_law (v x y p q r : Int) (hx0 : 0 ≤ x) (hx1 : x < 65536) (hy0 : 0 ≤ y) (hy1 : y < 65536) (hp0 : 0 ≤ p) (hp1 : p < 65536) (hq0 : 0 ≤ q) (hq1 : q < 65536) (hr0 : 0 ≤ r) (hr1 : r < 65536) (_g0 : -9223372036854775808 ≤ v) (_g1 : v ≤ 9223372036854775807) (w : World) :
    Calls Try.prog 8 #[.int .i64 v, (.agg #[.int .u16 (x), .int .u16 (y)]), (.agg #[.int .u16 (p), .int .u16 (q), .int .u16 (r)])] w fun e w' => e = .returned (.bool true) ∧ Below w.heap.size w w' := by
  have heq := @eq_dbl
  have het := @eq_tri
  have k0 := val_lo x y
  have k1 := val_hi x y
  have k2 := tval_lo p q r
  have k3 := tval_hi p q r
  obtain ⟨d0, d1', d2, d3'⟩ := hi_lo (val x y) k0 k1
  have d1 : hi (val x y) < 65536 := by omega
  have d3 : lo (val x y) < 65536 := by omega
  have dv := val_of (val x y) k0 k1
  obtain ⟨e0, e1', e2, e3', e4, e5'⟩ := tri_lo (tval p q r) k2 k3
  have e1 : th (tval p q r) < 65536 := by omega
  have e3 : tm (tval p q r) < 65536 := by omega
  have e5 : lo (tval p q r) < 65536 := by omega
  have ev := tval_of (tval p q r) k2 k3
  by_cases c1 : -268435455 ≤ v ∧ v ≤ 268435455
  · obtain ⟨h0, h1⟩ := c1
    have t0 : -4398046511103 ≤ v := by omega
    have t1 : v ≤ 4398046511103 := by omega
    obtain ⟨v0, v1', v2, v3'⟩ := hi_lo v h0 h1
    have v1 : hi v < 65536 := by omega
    have v3 : lo v < 65536 := by omega
    have vv := val_of v h0 h1
    obtain ⟨s0, s1', s2, s3', _, _⟩ := tri_lo v t0 t1
    have s1 : th v < 65536 := by omega
    have s3 : tm v < 65536 := by omega
    have sv := tval_of v t0 t1
    go_enter Try.func8, Try.ntmps8
    go_wp2_with fail
    refine (lives_any _).mono ?_
    rintro _ r1 ⟨rfl, hbr1⟩
    obtain ⟨hcr1, hfr1⟩ := bcell hbr1
    have hzr1 := hbr1.size
    try simp only [World.size_alloc, World.size_setCell, World.size_drew] at hzr1
    have hlr1w0 : w.heap.size < r1.heap.size := by omega
    have hlr1w1 : w.heap.size + 1 < r1.heap.size := by omega
    go_wp2_with fail
    refine (make_in v h0 h1 _).mono ?_
    rintro _ r2 ⟨rfl, hbr2⟩
    obtain ⟨hcr2, hfr2⟩ := bcell hbr2
    have hzr2 := hbr2.size
    try simp only [World.size_alloc, World.size_setCell, World.size_drew] at hzr2
    have hlr2w0 : w.heap.size < r2.heap.size := by omega
    have hlr2w1 : w.heap.size + 1 < r2.heap.size := by omega
    go_wp2_with fail
    refine (maketri_in v t0 t1 _).mono ?_
    rintro _ r3 ⟨rfl, hbr3⟩
    obtain ⟨hcr3, hfr3⟩ := bcell hbr3
    have hzr3 := hbr3.size
    try simp only [World.size_alloc, World.size_setCell, World.size_drew] at hzr3
    have hlr3w0 : w.heap.size < r3.heap.size := by omega
    have hlr3w1 : w.heap.size + 1 < r3.heap.size := by omega
    have hlr3r20 : r2.heap.size < r3.heap.size := by omega
    go_wp2_with fail
    refine (value_any (hi v) (lo v) v0 v1 v2 v3 _).mono ?_
    rintro _ r4 ⟨rfl, hbr4⟩
    obtain ⟨hcr4, hfr4⟩ := bcell hbr4
    have hzr4 := hbr4.size
    try simp only [World.size_alloc, World.size_setCell, World.size_drew] at hzr4
    have hlr4w0 : w.heap.size < r4.heap.size := by omega
    have hlr4w1 : w.heap.size + 1 < r4.heap.size := by omega
    have hlr4r20 : r2.heap.size < r4.heap.size := by omega
    have hlr4r30 : r3.heap.size < r4.heap.size := by omega
    go_wp2_with fail
    refine (tvalue_any (th v) (tm v) (lo v) s0 s1 s2 s3 v2 v3 _).mono ?_
    rintro _ r5 ⟨rfl, hbr5⟩
    obtain ⟨hcr5, hfr5⟩ := bcell hbr5
    have hzr5 := hbr5.size
    try simp only [World.size_alloc, World.size_setCell, World.size_drew] at hzr5
    have hlr5w0 : w.heap.size < r5.heap.size := by omega
    have hlr5w1 : w.heap.size + 1 < r5.heap.size := by omega
    have hlr5r20 : r2.heap.size < r5.heap.size := by omega
    have hlr5r30 : r3.heap.size < r5.heap.size := by omega
    go_wp2_with fail
    refine (value_any x y hx0 hx1 hy0 hy1 _).mono ?_
    rintro _ r6 ⟨rfl, hbr6⟩
    obtain ⟨hcr6, hfr6⟩ := bcell hbr6
    have hzr6 := hbr6.size
    try simp only [World.size_alloc, World.size_setCell, World.size_drew] at hzr6
    have hlr6w0 : w.heap.size < r6.heap.size := by omega
    have hlr6w1 : w.heap.size + 1 < r6.heap.size := by omega
    have hlr6r20 : r2.heap.size < r6.heap.size := by omega
    have hlr6r30 : r3.heap.size < r6.heap.size := by omega
    go_wp2_with fail
    refine (make_in (val x y) k0 k1 _).mono ?_
    rintro _ r7 ⟨rfl, hbr7⟩
    obtain ⟨hcr7, hfr7⟩ := bcell hbr7
    have hzr7 := hbr7.size
    try simp only [World.size_alloc, World.size_setCell, World.size_drew] at hzr7
    have hlr7w0 : w.heap.size < r7.heap.size := by omega
    have hlr7w1 : w.heap.size + 1 < r7.heap.size := by omega
    have hlr7r20 : r2.heap.size < r7.heap.size := by omega
    have hlr7r30 : r3.heap.size < r7.heap.size := by omega
    go_wp2_with fail
    refine (tvalue_any p q r hp0 hp1 hq0 hq1 hr0 hr1 _).mono ?_
    rintro _ r8 ⟨rfl, hbr8⟩
    obtain ⟨hcr8, hfr8⟩ := bcell hbr8
    have hzr8 := hbr8.size
    try simp only [World.size_alloc, World.size_setCell, World.size_drew] at hzr8
    have hlr8w0 : w.heap.size < r8.heap.size := by omega
    have hlr8w1 : w.heap.size + 1 < r8.heap.size := by omega
    have hlr8r20 : r2.heap.size < r8.heap.size := by omega
    have hlr8r30 : r3.heap.size < r8.heap.size := by omega
    have hlr8r70 : r7.heap.size < r8.heap.size := by omega
    go_wp2_with fail
    refine (maketri_in (tval p q r) k2 k3 _).mono ?_
    rintro _ r9 ⟨rfl, hbr9⟩
    obtain ⟨hcr9, hfr9⟩ := bcell hbr9
    have hzr9 := hbr9.size
    try simp only [World.size_alloc, World.size_setCell, World.size_drew] at hzr9
    have hlr9w0 : w.heap.size < r9.heap.size := by omega
    have hlr9w1 : w.heap.size + 1 < r9.heap.size := by omega
    have hlr9r20 : r2.heap.size < r9.heap.size := by omega
    have hlr9r30 : r3.heap.size < r9.heap.size := by omega
    have hlr9r70 : r7.heap.size < r9.heap.size := by omega
    go_wp2_with fail
    have hecr10 := @Ext.cell
    refine wp_region_ext (by kernel_rfl) (by kernel_rfl) ?_
    repeat (first | go_big_quiet_skip | (go_big_quiet_want; go_big_quiet_op; first | go_big_quiet_on | (go_big_quiet_call ((first | fail | (go_at_call 17; exact ext_call (canon_any _ _ (by assumption) (by assumption) (by assumption) (by assumption) _)) | (go_at_call 16; exact ext_call (value_any _ _ (by assumption) (by assumption) (by assumption) (by assumption) _)) | (go_at_call 31; exact ext_call (tvalue_any _ _ _ (by assumption) (by assumption) (by assumption) (by assumption) (by assumption) (by assumption) _)))))))
    clear hecr10
    refine wpQuiet_nil ?_
    rintro r10 ⟨⟨_, hbr10⟩, rfl⟩
    obtain ⟨hcr10, hfr10⟩ := bcell hbr10
    have hzr10 := hbr10.size
    try simp only [World.size_alloc, World.size_setCell, World.size_drew] at hzr10
    go_wp2
    go_ret
    exact ⟨rfl, (by repeat' (first | exact Below.refl _ _ | refine bl_alloc ?_ _ | refine bl_drew ?_ | refine bl_set ?_ _ ?_ | refine bl_via (by assumption) ?_ | (simp only []; omega) | omega | (simp; omega)))⟩
  · have ho : outb v 268435455 = true := decide_eq_true (by omega)
    by_cases c2 : -4398046511103 ≤ v ∧ v ≤ 4398046511103
    · obtain ⟨t0, t1⟩ := c2
      clear c1
      obtain ⟨s0, s1', s2, s3', v2, v3'⟩ := tri_lo v t0 t1
      have s1 : th v < 65536 := by omega
      have s3 : tm v < 65536 := by omega
      have v3 : lo v < 65536 := by omega
      have sv := tval_of v t0 t1
      go_enter Try.func8, Try.ntmps8
      go_wp2_with fail
      refine (lives_any _).mono ?_
      rintro _ r1 ⟨rfl, hbr1⟩
      obtain ⟨hcr1, hfr1⟩ := bcell hbr1
      have hzr1 := hbr1.size
      try simp only [World.size_alloc, World.size_setCell, World.size_drew] at hzr1
      have hlr1w0 : w.heap.size < r1.heap.size := by omega
      have hlr1w1 : w.heap.size + 1 < r1.heap.size := by omega
      go_wp2_with fail
      refine (make_out v ho _).mono ?_
      rintro _ r2 ⟨rfl, hbr2⟩
      obtain ⟨hcr2, hfr2⟩ := bcell hbr2
      have hzr2 := hbr2.size
      try simp only [World.size_alloc, World.size_setCell, World.size_drew] at hzr2
      have hlr2w0 : w.heap.size < r2.heap.size := by omega
      have hlr2w1 : w.heap.size + 1 < r2.heap.size := by omega
      go_wp2_with fail
      refine (maketri_in v t0 t1 _).mono ?_
      rintro _ r3 ⟨rfl, hbr3⟩
      obtain ⟨hcr3, hfr3⟩ := bcell hbr3
      have hzr3 := hbr3.size
      try simp only [World.size_alloc, World.size_setCell, World.size_drew] at hzr3
      have hlr3w0 : w.heap.size < r3.heap.size := by omega
      have hlr3w1 : w.heap.size + 1 < r3.heap.size := by omega
      have hlr3r20 : r2.heap.size < r3.heap.size := by omega
      go_wp2_with fail
      refine (tvalue_any (th v) (tm v) (lo v) s0 s1 s2 s3 v2 v3 _).mono ?_
      rintro _ r5 ⟨rfl, hbr5⟩
      obtain ⟨hcr5, hfr5⟩ := bcell hbr5
      have hzr5 := hbr5.size
      try simp only [World.size_alloc, World.size_setCell, World.size_drew] at hzr5
      have hlr5w0 : w.heap.size < r5.heap.size := by omega
      have hlr5w1 : w.heap.size + 1 < r5.heap.size := by omega
      have hlr5r20 : r2.heap.size < r5.heap.size := by omega
      have hlr5r30 : r3.heap.size < r5.heap.size := by omega
      go_wp2_with fail
      refine (value_any x y hx0 hx1 hy0 hy1 _).mono ?_
      rintro _ r6 ⟨rfl, hbr6⟩
      obtain ⟨hcr6, hfr6⟩ := bcell hbr6
      have hzr6 := hbr6.size
      try simp only [World.size_alloc, World.size_setCell, World.size_drew] at hzr6
      have hlr6w0 : w.heap.size < r6.heap.size := by omega
      have hlr6w1 : w.heap.size + 1 < r6.heap.size := by omega
      have hlr6r20 : r2.heap.size < r6.heap.size := by omega
      have hlr6r30 : r3.heap.size < r6.heap.size := by omega
      go_wp2_with fail
      refine (make_in (val x y) k0 k1 _).mono ?_
      rintro _ r7 ⟨rfl, hbr7⟩
      obtain ⟨hcr7, hfr7⟩ := bcell hbr7
      have hzr7 := hbr7.size
      try simp only [World.size_alloc, World.size_setCell, World.size_drew] at hzr7
      have hlr7w0 : w.heap.size < r7.heap.size := by omega
      have hlr7w1 : w.heap.size + 1 < r7.heap.size := by omega
      have hlr7r20 : r2.heap.size < r7.heap.size := by omega
      have hlr7r30 : r3.heap.size < r7.heap.size := by omega
      go_wp2_with fail
      refine (tvalue_any p q r hp0 hp1 hq0 hq1 hr0 hr1 _).mono ?_
      rintro _ r8 ⟨rfl, hbr8⟩
      obtain ⟨hcr8, hfr8⟩ := bcell hbr8
      have hzr8 := hbr8.size
      try simp only [World.size_alloc, World.size_setCell, World.size_drew] at hzr8
      have hlr8w0 : w.heap.size < r8.heap.size := by omega
      have hlr8w1 : w.heap.size + 1 < r8.heap.size := by omega
      have hlr8r20 : r2.heap.size < r8.heap.size := by omega
      have hlr8r30 : r3.heap.size < r8.heap.size := by omega
      have hlr8r70 : r7.heap.size < r8.heap.size := by omega
      go_wp2_with fail
      refine (maketri_in (tval p q r) k2 k3 _).mono ?_
      rintro _ r9 ⟨rfl, hbr9⟩
      obtain ⟨hcr9, hfr9⟩ := bcell hbr9
      have hzr9 := hbr9.size
      try simp only [World.size_alloc, World.size_setCell, World.size_drew] at hzr9
      have hlr9w0 : w.heap.size < r9.heap.size := by omega
      have hlr9w1 : w.heap.size + 1 < r9.heap.size := by omega
      have hlr9r20 : r2.heap.size < r9.heap.size := by omega
      have hlr9r30 : r3.heap.size < r9.heap.size := by omega
      have hlr9r70 : r7.heap.size < r9.heap.size := by omega
      go_wp2_with fail
      have hecr10 := @Ext.cell
      refine wp_region_ext (by kernel_rfl) (by kernel_rfl) ?_
      repeat (first | go_big_quiet_skip | (go_big_quiet_want; go_big_quiet_op; first | go_big_quiet_on | (go_big_quiet_call ((first | fail | (go_at_call 17; exact ext_call (canon_any _ _ (by assumption) (by assumption) (by assumption) (by assumption) _)) | (go_at_call 16; exact ext_call (value_any _ _ (by assumption) (by assumption) (by assumption) (by assumption) _)) | (go_at_call 31; exact ext_call (tvalue_any _ _ _ (by assumption) (by assumption) (by assumption) (by assumption) (by assumption) (by assumption) _)))))))
      clear hecr10
      refine wpQuiet_nil ?_
      rintro r10 ⟨⟨_, hbr10⟩, rfl⟩
      obtain ⟨hcr10, hfr10⟩ := bcell hbr10
      have hzr10 := hbr10.size
      try simp only [World.size_alloc, World.size_setCell, World.size_drew] at hzr10
      go_wp2
      go_ret
      exact ⟨rfl, (by repeat' (first | exact Below.refl _ _ | refine bl_alloc ?_ _ | refine bl_drew ?_ | refine bl_set ?_ _ ?_ | refine bl_via (by assumption) ?_ | (simp only []; omega) | omega | (simp; omega)))⟩
    · have ht : outb v 4398046511103 = true := decide_eq_true (by omega)
      clear c1 c2
      go_enter Try.func8, Try.ntmps8
      go_wp2_with fail
      refine (lives_any _).mono ?_
      rintro _ r1 ⟨rfl, hbr1⟩
      obtain ⟨hcr1, hfr1⟩ := bcell hbr1
      have hzr1 := hbr1.size
      try simp only [World.size_alloc, World.size_setCell, World.size_drew] at hzr1
      have hlr1w0 : w.heap.size < r1.heap.size := by omega
      have hlr1w1 : w.heap.size + 1 < r1.heap.size := by omega
      go_wp2_with fail
      refine (make_out v ho _).mono ?_
      rintro _ r2 ⟨rfl, hbr2⟩
      obtain ⟨hcr2, hfr2⟩ := bcell hbr2
      have hzr2 := hbr2.size
      try simp only [World.size_alloc, World.size_setCell, World.size_drew] at hzr2
      have hlr2w0 : w.heap.size < r2.heap.size := by omega
      have hlr2w1 : w.heap.size + 1 < r2.heap.size := by omega
      go_wp2_with fail
      refine (maketri_out v ht _).mono ?_
      rintro _ r3 ⟨rfl, hbr3⟩
      obtain ⟨hcr3, hfr3⟩ := bcell hbr3
      have hzr3 := hbr3.size
      try simp only [World.size_alloc, World.size_setCell, World.size_drew] at hzr3
      have hlr3w0 : w.heap.size < r3.heap.size := by omega
      have hlr3w1 : w.heap.size + 1 < r3.heap.size := by omega
      have hlr3r20 : r2.heap.size < r3.heap.size := by omega
      go_wp2_with fail
      refine (value_any x y hx0 hx1 hy0 hy1 _).mono ?_
      rintro _ r6 ⟨rfl, hbr6⟩
      obtain ⟨hcr6, hfr6⟩ := bcell hbr6
      have hzr6 := hbr6.size
      try simp only [World.size_alloc, World.size_setCell, World.size_drew] at hzr6
      have hlr6w0 : w.heap.size < r6.heap.size := by omega
      have hlr6w1 : w.heap.size + 1 < r6.heap.size := by omega
      have hlr6r20 : r2.heap.size < r6.heap.size := by omega
      have hlr6r30 : r3.heap.size < r6.heap.size := by omega
      go_wp2_with fail
      refine (make_in (val x y) k0 k1 _).mono ?_
      rintro _ r7 ⟨rfl, hbr7⟩
      obtain ⟨hcr7, hfr7⟩ := bcell hbr7
      have hzr7 := hbr7.size
      try simp only [World.size_alloc, World.size_setCell, World.size_drew] at hzr7
      have hlr7w0 : w.heap.size < r7.heap.size := by omega
      have hlr7w1 : w.heap.size + 1 < r7.heap.size := by omega
      have hlr7r20 : r2.heap.size < r7.heap.size := by omega
      have hlr7r30 : r3.heap.size < r7.heap.size := by omega
      go_wp2_with fail
      refine (tvalue_any p q r hp0 hp1 hq0 hq1 hr0 hr1 _).mono ?_
      rintro _ r8 ⟨rfl, hbr8⟩
      obtain ⟨hcr8, hfr8⟩ := bcell hbr8
      have hzr8 := hbr8.size
      try simp only [World.size_alloc, World.size_setCell, World.size_drew] at hzr8
      have hlr8w0 : w.heap.size < r8.heap.size := by omega
      have hlr8w1 : w.heap.size + 1 < r8.heap.size := by omega
      have hlr8r20 : r2.heap.size < r8.heap.size := by omega
      have hlr8r30 : r3.heap.size < r8.heap.size := by omega
      have hlr8r70 : r7.heap.size < r8.heap.size := by omega
      go_wp2_with fail
      refine (maketri_in (tval p q r) k2 k3 _).mono ?_
      rintro _ r9 ⟨rfl, hbr9⟩
      obtain ⟨hcr9, hfr9⟩ := bcell hbr9
      have hzr9 := hbr9.size
      try simp only [World.size_alloc, World.size_setCell, World.size_drew] at hzr9
      have hlr9w0 : w.heap.size < r9.heap.size := by omega
      have hlr9w1 : w.heap.size + 1 < r9.heap.size := by omega
      have hlr9r20 : r2.heap.size < r9.heap.size := by omega
      have hlr9r30 : r3.heap.size < r9.heap.size := by omega
      have hlr9r70 : r7.heap.size < r9.heap.size := by omega
      go_wp2_with fail
      have hecr10 := @Ext.cell
      refine wp_region_ext (by kernel_rfl) (by kernel_rfl) ?_
      repeat (first | go_big_quiet_skip | (go_big_quiet_want; go_big_quiet_op; first | go_big_quiet_on | (go_big_quiet_call ((first | fail | (go_at_call 17; exact ext_call (canon_any _ _ (by assumption) (by assumption) (by assumption) (by assumption) _)) | (go_at_call 16; exact ext_call (value_any _ _ (by assumption) (by assumption) (by assumption) (by assumption) _)) | (go_at_call 31; exact ext_call (tvalue_any _ _ _ (by assumption) (by assumption) (by assumption) (by assumption) (by assumption) (by assumption) _)))))))
      clear hecr10
      refine wpQuiet_nil ?_
      rintro r10 ⟨⟨_, hbr10⟩, rfl⟩
      obtain ⟨hcr10, hfr10⟩ := bcell hbr10
      have hzr10 := hbr10.size
      try simp only [World.size_alloc, World.size_setCell, World.size_drew] at hzr10
      go_wp2
      go_ret
      exact ⟨rfl, (by repeat' (first | exact Below.refl _ _ | refine bl_alloc ?_ _ | refine bl_drew ?_ | refine bl_set ?_ _ ?_ | refine bl_via (by assumption) ?_ | (simp only []; omega) | omega | (simp; omega)))⟩

end Go.Proofs.Ytojbdalhngcddaa
