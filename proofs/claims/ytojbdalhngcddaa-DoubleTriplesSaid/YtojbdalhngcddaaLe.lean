/- The walk of DoubleTriples: for all words it returns true. -/
import Derived.Test.YtojbdalhngcddaaLa
namespace Go.Proofs.Ytojbdalhngcddaa
set_option linter.unusedSimpArgs false
set_option linter.unusedVariables false
open Go.RowKit

set_option maxHeartbeats 1000000 in
theorem triples_law (x y p q r s u v : Int) (hx0 : 0 ≤ x) (hx1 : x < 65536) (hy0 : 0 ≤ y) (hy1 : y < 65536) (hp0 : 0 ≤ p) (hp1 : p < 65536) (hq0 : 0 ≤ q) (hq1 : q < 65536) (hr0 : 0 ≤ r) (hr1 : r < 65536) (hs0 : 0 ≤ s) (hs1 : s < 65536) (hu0 : 0 ≤ u) (hu1 : u < 65536) (hv0 : 0 ≤ v) (hv1 : v < 65536) (w : World) :
    Calls Try.prog 9 #[(.agg #[.int .u16 (x), .int .u16 (y)]), (.agg #[.int .u16 (p), .int .u16 (q), .int .u16 (r)]), (.agg #[.int .u16 (s), .int .u16 (u), .int .u16 (v)])] w fun e w' => e = .returned (.bool true) ∧ Below w.heap.size w w' := by
  have heq := @eq_dbl
  have het := @eq_tri
  have k0 := val_lo x y
  have k1 := val_hi x y
  have k2 := tval_lo p q r
  have k3 := tval_hi p q r
  have k4 := tval_lo s u v
  have k5 := tval_hi s u v
  have s0 := sat_lo (tval p q r + tval s u v) 4398046511103 (by omega)
  have s1 := sat_hi (tval p q r + tval s u v) 4398046511103 (by omega)
  obtain ⟨e0, e1', e2, e3', e4, e5'⟩ := tri_lo (val x y * 16384) (by omega) (by omega)
  have e1 : th (val x y * 16384) < 65536 := by omega
  have e3 : tm (val x y * 16384) < 65536 := by omega
  have e5 : lo (val x y * 16384) < 65536 := by omega
  have ev := tval_of (val x y * 16384) (by omega) (by omega)
  have er := rnd_mul (val x y) 16384 (by omega)
  have es := sat_in (val x y) 268435455 k0 k1
  have eo := outb_in (val x y) 268435455 k0 k1
  have ec : 16384 * val x y = val x y * 16384 := Int.mul_comm _ _
  go_enter Try.func9, Try.ntmps9
  go_wp2_with fail
  refine (lives_any _).mono ?_
  rintro _ r1 ⟨rfl, hbr1⟩
  obtain ⟨hcr1, hfr1⟩ := bcell hbr1
  have hzr1 := hbr1.size
  try simp only [World.size_alloc, World.size_setCell, World.size_drew] at hzr1
  have hlr1w0 : w.heap.size < r1.heap.size := by omega
  have hlr1w1 : w.heap.size + 1 < r1.heap.size := by omega
  have hlr1w2 : w.heap.size + 1 + 1 < r1.heap.size := by omega
  go_wp2_with fail
  have hecr2 := @Ext.cell
  refine wp_region_ext (by kernel_rfl) (by kernel_rfl) ?_
  repeat (first | go_big_quiet_skip | (go_big_quiet_want; go_big_quiet_op; first | go_big_quiet_on | (go_big_quiet_call ((first | fail | (go_at_call 32; exact ext_call (rtvalue_any _ _ _ (by assumption) (by assumption) (by assumption) (by assumption) (by assumption) (by assumption) _)))))))
  clear hecr2
  refine wpQuiet_nil ?_
  rintro r2 ⟨⟨_, hbr2⟩, rfl⟩
  obtain ⟨hcr2, hfr2⟩ := bcell hbr2
  have hzr2 := hbr2.size
  try simp only [World.size_alloc, World.size_setCell, World.size_drew] at hzr2
  have hlr2w0 : w.heap.size < r2.heap.size := by omega
  have hlr2w1 : w.heap.size + 1 < r2.heap.size := by omega
  have hlr2w2 : w.heap.size + 1 + 1 < r2.heap.size := by omega
  go_wp2_with fail
  refine (addtri_any p q r s u v hp0 hp1 hq0 hq1 hr0 hr1 hs0 hs1 hu0 hu1 hv0 hv1 _).mono ?_
  rintro _ r3 ⟨rfl, hbr3⟩
  obtain ⟨hcr3, hfr3⟩ := bcell hbr3
  have hzr3 := hbr3.size
  try simp only [World.size_alloc, World.size_setCell, World.size_drew] at hzr3
  have hlr3w0 : w.heap.size < r3.heap.size := by omega
  have hlr3w1 : w.heap.size + 1 < r3.heap.size := by omega
  have hlr3w2 : w.heap.size + 1 + 1 < r3.heap.size := by omega
  go_wp2_with fail
  refine (round_any p q r hp0 hp1 hq0 hq1 hr0 hr1 _).mono ?_
  rintro _ r4 ⟨rfl, hbr4⟩
  obtain ⟨hcr4, hfr4⟩ := bcell hbr4
  have hzr4 := hbr4.size
  try simp only [World.size_alloc, World.size_setCell, World.size_drew] at hzr4
  have hlr4w0 : w.heap.size < r4.heap.size := by omega
  have hlr4w1 : w.heap.size + 1 < r4.heap.size := by omega
  have hlr4w2 : w.heap.size + 1 + 1 < r4.heap.size := by omega
  have hlr4r30 : r3.heap.size < r4.heap.size := by omega
  go_wp2_with fail
  refine (rround_any (tval p q r) 16384 (by omega) (by omega) (by omega) (by omega) _).mono ?_
  rintro _ r5 ⟨rfl, hbr5⟩
  obtain ⟨hcr5, hfr5⟩ := bcell hbr5
  have hzr5 := hbr5.size
  try simp only [World.size_alloc, World.size_setCell, World.size_drew] at hzr5
  have hlr5w0 : w.heap.size < r5.heap.size := by omega
  have hlr5w1 : w.heap.size + 1 < r5.heap.size := by omega
  have hlr5w2 : w.heap.size + 1 + 1 < r5.heap.size := by omega
  have hlr5r30 : r3.heap.size < r5.heap.size := by omega
  have hlr5r40 : r4.heap.size < r5.heap.size := by omega
  go_wp2_with fail
  refine (rclamp_any _ _).mono ?_
  rintro _ r6 ⟨rfl, hbr6⟩
  obtain ⟨hcr6, hfr6⟩ := bcell hbr6
  have hzr6 := hbr6.size
  try simp only [World.size_alloc, World.size_setCell, World.size_drew] at hzr6
  have hlr6w0 : w.heap.size < r6.heap.size := by omega
  have hlr6w1 : w.heap.size + 1 < r6.heap.size := by omega
  have hlr6w2 : w.heap.size + 1 + 1 < r6.heap.size := by omega
  have hlr6r30 : r3.heap.size < r6.heap.size := by omega
  have hlr6r40 : r4.heap.size < r6.heap.size := by omega
  go_wp2_with fail
  have hecr7 := @Ext.cell
  refine wp_region_ext (by kernel_rfl) (by kernel_rfl) ?_
  repeat (first | go_big_quiet_skip | (go_big_quiet_want; go_big_quiet_op; first | go_big_quiet_on | (go_big_quiet_call ((first | fail | (go_at_call 36; exact ext_call_same (rsat_any _ _ (by omega) (by omega) _)) | (go_at_call 30; exact ext_call (rtriple_any _ s0 s1 _)) | (go_at_call 29; exact ext_call_same (rout_any _ _ (by omega) (by omega) _)))))))
  clear hecr7
  refine wpQuiet_nil ?_
  rintro r7 ⟨⟨_, hbr7⟩, rfl⟩
  obtain ⟨hcr7, hfr7⟩ := bcell hbr7
  have hzr7 := hbr7.size
  try simp only [World.size_alloc, World.size_setCell, World.size_drew] at hzr7
  have hlr7w0 : w.heap.size < r7.heap.size := by omega
  have hlr7w1 : w.heap.size + 1 < r7.heap.size := by omega
  have hlr7w2 : w.heap.size + 1 + 1 < r7.heap.size := by omega
  have hlr7r30 : r3.heap.size < r7.heap.size := by omega
  have hlr7r40 : r4.heap.size < r7.heap.size := by omega
  have hlr7r60 : r6.heap.size < r7.heap.size := by omega
  go_wp2_with fail
  refine (extend_any x y hx0 hx1 hy0 hy1 _).mono ?_
  rintro _ r8 ⟨rfl, hbr8⟩
  obtain ⟨hcr8, hfr8⟩ := bcell hbr8
  have hzr8 := hbr8.size
  try simp only [World.size_alloc, World.size_setCell, World.size_drew] at hzr8
  have hlr8w0 : w.heap.size < r8.heap.size := by omega
  have hlr8w1 : w.heap.size + 1 < r8.heap.size := by omega
  have hlr8w2 : w.heap.size + 1 + 1 < r8.heap.size := by omega
  go_wp2_with fail
  refine (round_any (th (val x y * 16384)) (tm (val x y * 16384)) (lo (val x y * 16384)) e0 e1 e2 e3 e4 e5 _).mono ?_
  rintro _ r9 ⟨rfl, hbr9⟩
  obtain ⟨hcr9, hfr9⟩ := bcell hbr9
  have hzr9 := hbr9.size
  try simp only [World.size_alloc, World.size_setCell, World.size_drew] at hzr9
  have hlr9w0 : w.heap.size < r9.heap.size := by omega
  have hlr9w1 : w.heap.size + 1 < r9.heap.size := by omega
  have hlr9w2 : w.heap.size + 1 + 1 < r9.heap.size := by omega
  have hlr9r80 : r8.heap.size < r9.heap.size := by omega
  go_wp2_with fail
  have hecr10 := @Ext.cell
  refine wp_region_ext (by kernel_rfl) (by kernel_rfl) ?_
  repeat (first | go_big_quiet_skip | (go_big_quiet_want; go_big_quiet_op; first | go_big_quiet_on | (go_big_quiet_call ((first | fail | (go_at_call 31; exact ext_call (tvalue_any _ _ _ (by assumption) (by assumption) (by assumption) (by assumption) (by assumption) (by assumption) _)) | (go_at_call 21; exact ext_call (rvalue_any _ _ (by assumption) (by assumption) (by assumption) (by assumption) _)) | (go_at_call 30; exact ext_call (rtriple_any _ (by omega) (by omega) _)) | (go_at_call 17; exact ext_call (canon_any _ _ (by assumption) (by assumption) (by assumption) (by assumption) _)))))))
  clear hecr10
  refine wpQuiet_nil ?_
  rintro r10 ⟨⟨_, hbr10⟩, rfl⟩
  obtain ⟨hcr10, hfr10⟩ := bcell hbr10
  have hzr10 := hbr10.size
  try simp only [World.size_alloc, World.size_setCell, World.size_drew] at hzr10
  go_wp2
  go_ret
  exact ⟨rfl, (by repeat' (first | exact Below.refl _ _ | refine bl_alloc ?_ _ | refine bl_drew ?_ | refine bl_set ?_ _ ?_ | refine bl_via (by assumption) ?_ | (simp only []; omega) | omega | (simp; omega)))⟩
end Go.Proofs.Ytojbdalhngcddaa
