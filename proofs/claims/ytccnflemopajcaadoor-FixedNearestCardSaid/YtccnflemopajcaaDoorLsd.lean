/- The walk of the law FixedNearest: for every input it returns true, where the table of coefficients is as laid. -/
import Derived.Test.YtccnflemopajcaaDoorWl
import Derived.Test.YtccnflemopajcaaDoorPn
import Derived.Test.YtccnflemopajcaaDoorLsn
namespace Go.Proofs.YtccnflemopajcaaDoor
set_option linter.unusedSimpArgs false
set_option linter.unusedVariables false
open Go.RowKit

theorem nearest_facts (x y z u : Int) (hx0 : 0 ≤ x) (hx1 : x < 65536) (hy0 : 0 ≤ y) (hy1 : y < 65536) (hz0 : 0 ≤ z) (hz1 : z < 65536) (hu0 : 0 ≤ u) (hu1 : u < 65536) : ∃ m0 m1 p k0 k1 q0 q1 t0 t1 t2 t R s1 s2 s3 : Int,
    (-268435455 ≤ p ∧ p ≤ 268435455) ∧ (-4398046511103 ≤ t ∧ t ≤ 4398046511103) ∧ (-268435455 ≤ R ∧ R ≤ 268435455) ∧ (0 ≤ s1 ∧ s1 ≤ 134217728) ∧ (0 ≤ s2 ∧ s2 ≤ 8192) ∧ (0 ≤ s3 ∧ s3 ≤ 1) ∧ (-134217728 ≤ p * 268435456 - val x y * val z u ∧ p * 268435456 - val x y * val z u ≤ 134217728) ∧ (-8192 ≤ t * 16384 - val x y * val z u ∧ t * 16384 - val x y * val z u ≤ 8192) ∧
    (∀ w, Calls Tryd.prog 14 #[(.agg #[.int .u16 (x), .int .u16 (y)]), (.agg #[.int .u16 (z), .int .u16 (u)])] w fun e w' => e = .returned (.agg #[.int .u16 (m0), .int .u16 (m1)]) ∧ Below w.heap.size w w') ∧
    (∀ w, Calls Tryd.prog 14 #[(.agg #[.int .u16 (z), .int .u16 (u)]), (.agg #[.int .u16 (x), .int .u16 (y)])] w fun e w' => e = .returned (.agg #[.int .u16 (m0), .int .u16 (m1)]) ∧ Below w.heap.size w w') ∧
    (∀ w, Calls Tryd.prog 18 #[(.agg #[.int .u16 (m0), .int .u16 (m1)])] w fun e w' => e = .returned (.int .i64 (p)) ∧ Below w.heap.size w w') ∧
    (∀ w, Calls Tryd.prog 20 #[.int .i64 (-val x y)] w fun e w' => e = .returned (.agg #[.int .u16 (k0), .int .u16 (k1)]) ∧ Below w.heap.size w w') ∧
    (∀ w, Calls Tryd.prog 14 #[(.agg #[.int .u16 (k0), .int .u16 (k1)]), (.agg #[.int .u16 (z), .int .u16 (u)])] w fun e w' => e = .returned (.agg #[.int .u16 (q0), .int .u16 (q1)]) ∧ Below w.heap.size w w') ∧
    (∀ w, Calls Tryd.prog 18 #[(.agg #[.int .u16 (q0), .int .u16 (q1)])] w fun e w' => e = .returned (.int .i64 (-p)) ∧ Below w.heap.size w w') ∧
    (∀ w, Calls Tryd.prog 16 #[(.agg #[.int .u16 (x), .int .u16 (y)]), (.agg #[.int .u16 (z), .int .u16 (u)])] w fun e w' => e = .returned (.agg #[.int .u16 (t0), .int .u16 (t1), .int .u16 (t2)]) ∧ Below w.heap.size w w') ∧
    (∀ w, Calls Tryd.prog 21 #[(.agg #[.int .u16 (t0), .int .u16 (t1), .int .u16 (t2)])] w fun e w' => e = .returned (.int .i64 (t)) ∧ Below w.heap.size w w') ∧
    (∀ w, Calls Tryd.prog 22 #[.int .i64 (t), .int .i64 (16384)] w fun e w' => e = .returned (.int .i64 (R)) ∧ Below w.heap.size w w') ∧
    (∀ w, Calls Tryd.prog 19 #[.int .i64 (p * 268435456 - val x y * val z u)] w fun e w' => e = .returned (.int .i64 (s1)) ∧ w = w') ∧
    (∀ w, Calls Tryd.prog 19 #[.int .i64 (t * 16384 - val x y * val z u)] w fun e w' => e = .returned (.int .i64 (s2)) ∧ w = w') ∧
    (∀ w, Calls Tryd.prog 19 #[.int .i64 (R - p)] w fun e w' => e = .returned (.int .i64 (s3)) ∧ w = w') := by
  have v0 := val_lo x y
  have v1 := val_hi x y
  have w0 := val_lo z u
  have w1 := val_hi z u
  have eb := fmul_bd (val x y) (val z u) v0 v1 w0 w1
  have pn := mulv_near (val x y) (val z u)
  have tn := mtv_near (val x y) (val z u)
  have tr := mtv_round (val x y) (val z u)
  have ps := mulv_size (val x y) (val z u) v0 v1 w0 w1
  have ts := mtv_size (val x y) (val z u) v0 v1 w0 w1
  have rs : -268435455 ≤ rnd (mtv (val x y) (val z u)) 16384 ∧ rnd (mtv (val x y) (val z u)) 16384 ≤ 268435455 := ⟨rnd_ge _ _ _ (by omega) (by omega), rnd_le _ _ _ (by omega) (by omega)⟩
  obtain ⟨pw0, pw1, pw2, pw3⟩ := hi_lo (mulv (val x y) (val z u)) ps.1 ps.2
  obtain ⟨nw0, nw1, nw2, nw3⟩ := hi_lo (-mulv (val x y) (val z u)) (by omega) (by omega)
  obtain ⟨kw0, kw1, kw2, kw3⟩ := hi_lo (-val x y) (by omega) (by omega)
  obtain ⟨tw0, tw1, tw2, tw3, tw4, tw5⟩ := tri_lo (mtv (val x y) (val z u)) ts.1 ts.2
  obtain ⟨s1, hs1, S1⟩ := size16_le (mulv (val x y) (val z u) * 268435456 - val x y * val z u) 134217728 pn.1 pn.2 (by omega)
  obtain ⟨s2, hs2, S2⟩ := size16_le (mtv (val x y) (val z u) * 16384 - val x y * val z u) 8192 tn.1 tn.2 (by omega)
  obtain ⟨s3, hs3, S3⟩ := size16_le (rnd (mtv (val x y) (val z u)) 16384 - mulv (val x y) (val z u)) 1 (by omega) (by omega) (by omega)
  refine ⟨_, _, mulv (val x y) (val z u), _, _, hi (-mulv (val x y) (val z u)), lo (-mulv (val x y) (val z u)), _, _, _, mtv (val x y) (val z u), rnd (mtv (val x y) (val z u)) 16384, s1, s2, s3, ps, ts, rs, hs1, hs2, hs3, pn, tn,
    mul_any x y z u hx0 hx1 hy0 hy1 hz0 hz1 hu0 hu1, fun w => ?_, fun w => ?_, fun w => rdouble_any (-val x y) (by omega) (by omega) w, fun w => ?_, fun w => ?_, multri_any x y z u hx0 hx1 hy0 hy1 hz0 hz1 hu0 hu1, fun w => ?_, fun w => rround_any _ _ (by omega) (by omega) (by omega) (by omega) w, S1, S2, S3⟩
  · have h := mul_any z u x y hz0 hz1 hu0 hu1 hx0 hx1 hy0 hy1 w
    rw [mulv_comm] at h; exact h
  · have h := rvalue_any (hi (mulv (val x y) (val z u))) (lo (mulv (val x y) (val z u))) (by omega) (by omega) (by omega) (by omega) w
    rw [val_of _ ps.1 ps.2] at h; exact h
  · have h := mul_any (hi (-val x y)) (lo (-val x y)) z u (by omega) (by omega) (by omega) (by omega) hz0 hz1 hu0 hu1 w
    rw [val_of (-val x y) (by omega) (by omega), mulv_neg] at h; exact h
  · have h := rvalue_any (hi (-mulv (val x y) (val z u))) (lo (-mulv (val x y) (val z u))) (by omega) (by omega) (by omega) (by omega) w
    rw [val_of _ (by omega) (by omega)] at h; exact h
  · have h := rtvalue_any (th (mtv (val x y) (val z u))) (tm (mtv (val x y) (val z u))) (lo (mtv (val x y) (val z u))) (by omega) (by omega) (by omega) (by omega) (by omega) (by omega) w
    rw [tval_of _ ts.1 ts.2] at h; exact h

set_option maxHeartbeats 2000000 in
theorem nearest_law (x y z u : Int) (hx0 : 0 ≤ x) (hx1 : x < 65536) (hy0 : 0 ≤ y) (hy1 : y < 65536) (hz0 : 0 ≤ z) (hz1 : z < 65536) (hu0 : 0 ≤ u) (hu1 : u < 65536) (w : World) (hS : Sines w) :
    Calls Tryd.prog 4 #[(.agg #[.int .u16 (x), .int .u16 (y)]), (.agg #[.int .u16 (z), .int .u16 (u)])] w fun e w' => e = .returned (.bool true) ∧ Below w.heap.size w w' := by
  obtain ⟨m0, m1, p, k0, k1, q0, q1, t0, t1, t2, t, R, s1, s2, s3, ⟨pa, pb⟩, ⟨ta, tb⟩, ⟨Ra, Rb⟩, ⟨sa1, sb1⟩, ⟨sa2, sb2⟩, ⟨sa3, sb3⟩, ⟨na, nb⟩, ⟨ma, mb⟩, C1, C2, C3, C4, C5, C6, C7, C8, C9, S1, S2, S3⟩ := nearest_facts x y z u hx0 hx1 hy0 hy1 hz0 hz1 hu0 hu1
  have v0 := val_lo x y
  have v1 := val_hi x y
  have w0 := val_lo z u
  have w1 := val_hi z u
  obtain ⟨eb0, eb1⟩ := fmul_bd (val x y) (val z u) v0 v1 w0 w1
  have d1 : decide (268435456 < 2 * s1) = false := decide_eq_false (by omega)
  have d2 : decide (2 * s2 ≤ 16384) = true := decide_eq_true (by omega)
  have d3 : decide (s3 ≤ 1) = true := decide_eq_true (by omega)
  have heq := @eq_dbl
  go_enter Tryd.func4, Tryd.ntmps4
  go_wp2_with fail
  refine (lives16 _ (hS.on (bl_alloc (bl_alloc (Below.refl _ _) _) _))).mono ?_
  rintro _ r1 ⟨rfl, hbr1⟩
  obtain ⟨hcr1, hfr1⟩ := bcell hbr1
  have hzr1 := hbr1.size
  try simp only [World.size_alloc, World.size_setCell, World.size_drew] at hzr1
  have hlr1w0 : w.heap.size < r1.heap.size := by omega
  have hlr1w1 : w.heap.size + 1 < r1.heap.size := by omega
  go_wp2_with fail
  refine (C1 _).mono ?_
  rintro _ r2 ⟨rfl, hbr2⟩
  obtain ⟨hcr2, hfr2⟩ := bcell hbr2
  have hzr2 := hbr2.size
  try simp only [World.size_alloc, World.size_setCell, World.size_drew] at hzr2
  have hlr2w0 : w.heap.size < r2.heap.size := by omega
  have hlr2w1 : w.heap.size + 1 < r2.heap.size := by omega
  go_wp2_with fail
  refine (C3 _).mono ?_
  rintro _ r3 ⟨rfl, hbr3⟩
  obtain ⟨hcr3, hfr3⟩ := bcell hbr3
  have hzr3 := hbr3.size
  try simp only [World.size_alloc, World.size_setCell, World.size_drew] at hzr3
  have hlr3w0 : w.heap.size < r3.heap.size := by omega
  have hlr3w1 : w.heap.size + 1 < r3.heap.size := by omega
  go_wp2_with fail
  have hecr4 := @Ext.cell
  refine wp_region_ext (by kernel_rfl) (by kernel_rfl) ?_
  repeat (first | go_big_quiet_skip | (go_big_quiet_want; go_big_quiet_op; first | go_big_quiet_on | (go_big_quiet_call ((first | fail | (go_at_call 18; exact ext_call (rvalue_any _ _ (by assumption) (by assumption) (by assumption) (by assumption) _)))))))
  clear hecr4
  refine wpQuiet_nil ?_
  rintro r4 ⟨⟨_, hbr4⟩, rfl⟩
  obtain ⟨hcr4, hfr4⟩ := bcell hbr4
  have hzr4 := hbr4.size
  try simp only [World.size_alloc, World.size_setCell, World.size_drew] at hzr4
  have hlr4w0 : w.heap.size < r4.heap.size := by omega
  have hlr4w1 : w.heap.size + 1 < r4.heap.size := by omega
  go_wp2_with fail
  have hecr5 := @Ext.cell
  refine wp_region_ext (by kernel_rfl) (by kernel_rfl) ?_
  repeat (first | go_big_quiet_skip | (go_big_quiet_want; go_big_quiet_op; first | go_big_quiet_on | (go_big_quiet_call ((first | fail | (go_at_call 19; with_reducible exact ext_call_same (S1 _)) | (go_at_call 14; with_reducible exact ext_call (C1 _)) | (go_at_call 14; with_reducible exact ext_call (C2 _)))))))
  clear hecr5
  refine wpQuiet_nil ?_
  rintro r5 ⟨⟨_, hbr5⟩, rfl⟩
  obtain ⟨hcr5, hfr5⟩ := bcell hbr5
  have hzr5 := hbr5.size
  try simp only [World.size_alloc, World.size_setCell, World.size_drew] at hzr5
  have hlr5w0 : w.heap.size < r5.heap.size := by omega
  have hlr5w1 : w.heap.size + 1 < r5.heap.size := by omega
  go_wp2_with fail
  refine (rvalue_any x y hx0 hx1 hy0 hy1 _).mono ?_
  rintro _ r6 ⟨rfl, hbr6⟩
  obtain ⟨hcr6, hfr6⟩ := bcell hbr6
  have hzr6 := hbr6.size
  try simp only [World.size_alloc, World.size_setCell, World.size_drew] at hzr6
  have hlr6w0 : w.heap.size < r6.heap.size := by omega
  have hlr6w1 : w.heap.size + 1 < r6.heap.size := by omega
  go_wp2_with fail
  refine (C4 _).mono ?_
  rintro _ r7 ⟨rfl, hbr7⟩
  obtain ⟨hcr7, hfr7⟩ := bcell hbr7
  have hzr7 := hbr7.size
  try simp only [World.size_alloc, World.size_setCell, World.size_drew] at hzr7
  have hlr7w0 : w.heap.size < r7.heap.size := by omega
  have hlr7w1 : w.heap.size + 1 < r7.heap.size := by omega
  go_wp2_with fail
  refine (C5 _).mono ?_
  rintro _ r8 ⟨rfl, hbr8⟩
  obtain ⟨hcr8, hfr8⟩ := bcell hbr8
  have hzr8 := hbr8.size
  try simp only [World.size_alloc, World.size_setCell, World.size_drew] at hzr8
  have hlr8w0 : w.heap.size < r8.heap.size := by omega
  have hlr8w1 : w.heap.size + 1 < r8.heap.size := by omega
  have hlr8r70 : r7.heap.size < r8.heap.size := by omega
  go_wp2_with fail
  refine (C6 _).mono ?_
  rintro _ r9 ⟨rfl, hbr9⟩
  obtain ⟨hcr9, hfr9⟩ := bcell hbr9
  have hzr9 := hbr9.size
  try simp only [World.size_alloc, World.size_setCell, World.size_drew] at hzr9
  have hlr9w0 : w.heap.size < r9.heap.size := by omega
  have hlr9w1 : w.heap.size + 1 < r9.heap.size := by omega
  have hlr9r70 : r7.heap.size < r9.heap.size := by omega
  go_wp2_with fail
  refine (C7 _).mono ?_
  rintro _ r10 ⟨rfl, hbr10⟩
  obtain ⟨hcr10, hfr10⟩ := bcell hbr10
  have hzr10 := hbr10.size
  try simp only [World.size_alloc, World.size_setCell, World.size_drew] at hzr10
  have hlr10w0 : w.heap.size < r10.heap.size := by omega
  have hlr10w1 : w.heap.size + 1 < r10.heap.size := by omega
  have hlr10r70 : r7.heap.size < r10.heap.size := by omega
  go_wp2_with fail
  refine (C8 _).mono ?_
  rintro _ r11 ⟨rfl, hbr11⟩
  obtain ⟨hcr11, hfr11⟩ := bcell hbr11
  have hzr11 := hbr11.size
  try simp only [World.size_alloc, World.size_setCell, World.size_drew] at hzr11
  have hlr11w0 : w.heap.size < r11.heap.size := by omega
  have hlr11w1 : w.heap.size + 1 < r11.heap.size := by omega
  have hlr11r70 : r7.heap.size < r11.heap.size := by omega
  go_wp2_with fail
  refine (S2 _).mono ?_
  rintro _ _ ⟨rfl, rfl⟩
  go_wp2_with fail
  refine (C9 _).mono ?_
  rintro _ r12 ⟨rfl, hbr12⟩
  obtain ⟨hcr12, hfr12⟩ := bcell hbr12
  have hzr12 := hbr12.size
  try simp only [World.size_alloc, World.size_setCell, World.size_drew] at hzr12
  have hlr12w0 : w.heap.size < r12.heap.size := by omega
  have hlr12w1 : w.heap.size + 1 < r12.heap.size := by omega
  have hlr12r70 : r7.heap.size < r12.heap.size := by omega
  go_wp2_with fail
  refine (S3 _).mono ?_
  rintro _ _ ⟨rfl, rfl⟩
  go_wp2
  go_ret
  exact ⟨rfl, (by repeat' (first | (with_reducible exact Below.refl _ _) | (with_reducible refine bl_set ?_ _ ?_) | (with_reducible refine bl_alloc ?_ _) | (with_reducible refine bl_drew ?_) | (with_reducible refine bl_via (by with_reducible assumption) ?_) | (with_reducible assumption) | omega | (simp only []; omega) | (simp; omega)))⟩
end Go.Proofs.YtccnflemopajcaaDoor
