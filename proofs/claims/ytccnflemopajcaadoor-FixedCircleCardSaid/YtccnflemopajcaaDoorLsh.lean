/- The walk of the law FixedCircle: for every input it returns true, where the table of coefficients is as laid. -/
import Derived.Test.YtccnflemopajcaaDoorWl
import Derived.Test.YtccnflemopajcaaDoorPn
import Derived.Test.YtccnflemopajcaaDoorLsn
import Derived.Test.YtccnflemopajcaaDoorPt
namespace Go.Proofs.YtccnflemopajcaaDoor
set_option linter.unusedSimpArgs false
set_option linter.unusedVariables false
open Go.RowKit

theorem tmod_same (v : Int) : -268435456 < v.tmod 268435456 ∧ v.tmod 268435456 < 268435456 ∧ v.tmod 268435456 % 268435456 = v % 268435456 := by
  have h := Int.mul_tdiv_add_tmod v 268435456
  have a := Int.tmod_lt_of_pos v (b := 268435456) (by omega)
  have b := Int.lt_tmod_of_pos v (b := 268435456) (by omega)
  refine ⟨by omega, a, ?_⟩
  omega
theorem sin_fn (x y : Int) (hx0 : 0 ≤ x) (hx1 : x < 65536) (hy0 : 0 ≤ y) (hy1 : y < 65536) : ∃ s0 s1 : Int, (0 ≤ s0 ∧ s0 < 65536) ∧ (0 ≤ s1 ∧ s1 < 65536) ∧ (∀ w, Sines w → Calls Tryd.prog 28 #[(.agg #[.int .u16 (x), .int .u16 (y)])] w fun e w' => e = .returned (.agg #[.int .u16 (s0), .int .u16 (s1)]) ∧ Below w.heap.size w w') ∧ (∀ w, Calls Tryd.prog 18 #[(.agg #[.int .u16 (s0), .int .u16 (s1)])] w fun e w' => e = .returned (.int .i64 (sinv (val x y))) ∧ Below w.heap.size w w') ∧ s0 = hi (sinv (val x y)) ∧ s1 = lo (sinv (val x y)) := by
  have b := (sin_bd (red (val x y)) (red_bd _).1 (red_bd _).2).2
  have c : -210828714 ≤ sinv (val x y) ∧ sinv (val x y) ≤ 210828714 := b
  obtain ⟨q0, q1, q2, q3⟩ := hi_lo (sinv (val x y)) (by omega) (by omega)
  refine ⟨hi (sinv (val x y)), lo (sinv (val x y)), by omega, by omega, fun w hS => Sin_any x y hx0 hx1 hy0 hy1 w hS, fun w => ?_, rfl, rfl⟩
  have g := rvalue_any (hi (sinv (val x y))) (lo (sinv (val x y))) (by omega) (by omega) (by omega) (by omega) w
  rw [val_of _ (by omega) (by omega)] at g; exact g
theorem cos_fn (x y : Int) (hx0 : 0 ≤ x) (hx1 : x < 65536) (hy0 : 0 ≤ y) (hy1 : y < 65536) : ∃ s0 s1 : Int, (0 ≤ s0 ∧ s0 < 65536) ∧ (0 ≤ s1 ∧ s1 < 65536) ∧ (∀ w, Sines w → Calls Tryd.prog 30 #[(.agg #[.int .u16 (x), .int .u16 (y)])] w fun e w' => e = .returned (.agg #[.int .u16 (s0), .int .u16 (s1)]) ∧ Below w.heap.size w w') ∧ (∀ w, Calls Tryd.prog 18 #[(.agg #[.int .u16 (s0), .int .u16 (s1)])] w fun e w' => e = .returned (.int .i64 (sinv (val x y + 67108864))) ∧ Below w.heap.size w w') ∧ s0 = hi (sinv (val x y + 67108864)) ∧ s1 = lo (sinv (val x y + 67108864)) := by
  have b := (sin_bd (red (val x y + 67108864)) (red_bd _).1 (red_bd _).2).2
  have c : -210828714 ≤ sinv (val x y + 67108864) ∧ sinv (val x y + 67108864) ≤ 210828714 := b
  obtain ⟨q0, q1, q2, q3⟩ := hi_lo (sinv (val x y + 67108864)) (by omega) (by omega)
  refine ⟨hi (sinv (val x y + 67108864)), lo (sinv (val x y + 67108864)), by omega, by omega, fun w hS => Cos_any x y hx0 hx1 hy0 hy1 w hS, fun w => ?_, rfl, rfl⟩
  have g := rvalue_any (hi (sinv (val x y + 67108864))) (lo (sinv (val x y + 67108864))) (by omega) (by omega) (by omega) (by omega) w
  rw [val_of _ (by omega) (by omega)] at g; exact g
theorem sinv_size (v : Int) : -268435455 ≤ sinv v ∧ sinv v ≤ 268435455 := by
  have b := (sin_bd (red v) (red_bd _).1 (red_bd _).2).2
  have c : -210828714 ≤ sinv v ∧ sinv v ≤ 210828714 := b
  omega

set_option maxHeartbeats 4000000 in
theorem circle_law (x y z u : Int) (hx0 : 0 ≤ x) (hx1 : x < 65536) (hy0 : 0 ≤ y) (hy1 : y < 65536) (hz0 : 0 ≤ z) (hz1 : z < 65536) (hu0 : 0 ≤ u) (hu1 : u < 65536) (w : World) (hS : Sines w) :
    Calls Tryd.prog 11 #[(.agg #[.int .u16 (x), .int .u16 (y)]), (.agg #[.int .u16 (z), .int .u16 (u)])] w fun e w' => e = .returned (.bool true) ∧ Below w.heap.size w w' := by
  have v0 := val_lo x y
  have v1 := val_hi x y
  have w0 := val_lo z u
  have w1 := val_hi z u
  obtain ⟨s0, s1, -, -, CS, VS, -⟩ := sin_fn x y hx0 hx1 hy0 hy1
  obtain ⟨c0, c1, -, -, CC, VC, -⟩ := cos_fn x y hx0 hx1 hy0 hy1
  obtain ⟨t0, t1, -, -, CT, VT, -⟩ := sin_fn z u hz0 hz1 hu0 hu1
  obtain ⟨d0, d1, -, -, CD, VD, -⟩ := cos_fn z u hz0 hz1 hu0 hu1
  obtain ⟨ta, tb, tc⟩ := tmod_same (val x y + val z u)
  obtain ⟨k0, k1, k2, k3⟩ := hi_lo ((val x y + val z u).tmod 268435456) (by omega) (by omega)
  have CK := fun w => rdouble_any ((val x y + val z u).tmod 268435456) (by omega) (by omega) w
  obtain ⟨b0, b1, -, -, CB, VB, -⟩ := sin_fn (hi ((val x y + val z u).tmod 268435456)) (lo ((val x y + val z u).tmod 268435456)) (by omega) (by omega) (by omega) (by omega)
  rw [val_of _ (by omega) (by omega), sinv_mod _ (val x y + val z u) tc] at VB
  generalize hi ((val x y + val z u).tmod 268435456) = kw0 at *
  generalize lo ((val x y + val z u).tmod 268435456) = kw1 at *
  have sum := (sums16 (val x y) (val z u)).1
  have cir := circ16 (val x y)
  obtain ⟨sa, sb⟩ := sinv_size (val x y)
  obtain ⟨ca, cb⟩ := sinv_size (val x y + 67108864)
  obtain ⟨ua, ub⟩ := sinv_size (val z u)
  obtain ⟨da, db⟩ := sinv_size (val z u + 67108864)
  obtain ⟨ba, bb⟩ := sinv_size (val x y + val z u)
  generalize sinv (val x y) = S at *
  generalize sinv (val x y + 67108864) = C at *
  generalize sinv (val z u) = T at *
  generalize sinv (val z u + 67108864) = D at *
  generalize sinv (val x y + val z u) = B at *
  obtain ⟨m10, m11⟩ := fmul_bd S S sa sb sa sb
  obtain ⟨m20, m21⟩ := fmul_bd C C ca cb ca cb
  obtain ⟨m30, m31⟩ := fmul_bd S D sa sb da db
  obtain ⟨m40, m41⟩ := fmul_bd C T ca cb ua ub
  obtain ⟨g1, ⟨g10, g11⟩, S1⟩ := size16_le (S * S + C * C - 18014398509481984) 4294967296 cir.1 cir.2 (by omega)
  obtain ⟨g2, ⟨g20, g21⟩, S2⟩ := size16_le (B * 268435456 - 2 * (S * D + C * T)) 8589934592 sum.1 sum.2 (by omega)
  have e1 : decide (4294967296 < g1) = false := decide_eq_false (by omega)
  have e2 : decide (g2 ≤ 8589934592) = true := decide_eq_true (by omega)
  clear sum cir k0 k1 k2 k3 tc
  have heq := @eq_dbl
  go_enter Tryd.func11, Tryd.ntmps11
  go_wp2_with fail
  refine (lives16 _ (hS.on (bl_alloc (bl_alloc (Below.refl _ _) _) _))).mono ?_
  rintro _ r1 ⟨rfl, hbr1⟩
  obtain ⟨hcr1, hfr1⟩ := bcell hbr1
  have hzr1 := hbr1.size
  try simp only [World.size_alloc, World.size_setCell, World.size_drew] at hzr1
  have hlr1w0 : w.heap.size < r1.heap.size := by omega
  have hlr1w1 : w.heap.size + 1 < r1.heap.size := by omega
  have hS1 := (hS.on (bl_alloc (bl_alloc (Below.refl _ _) _) _)).on hbr1
  go_wp2_with fail
  have hecr2 := @Ext.cell
  refine wp_region_ext (by kernel_rfl) (by kernel_rfl) ?_
  repeat (first | go_big_quiet_skip | (go_big_quiet_want; go_big_quiet_op; first | go_big_quiet_on | (go_big_quiet_call ((first | fail | (go_at_call 28; exact ext_call (CS _ (hS1.on (Ext.h _)))) | (go_at_call 30; exact ext_call (CC _ (hS1.on (Ext.h _)))) | (go_at_call 18; with_reducible exact ext_call (VS _)) | (go_at_call 18; with_reducible exact ext_call (VC _)))))))
  clear hecr2
  refine wpQuiet_nil ?_
  rintro r2 ⟨⟨_, hbr2⟩, rfl⟩
  obtain ⟨hcr2, hfr2⟩ := bcell hbr2
  have hzr2 := hbr2.size
  try simp only [World.size_alloc, World.size_setCell, World.size_drew] at hzr2
  have hlr2w0 : w.heap.size < r2.heap.size := by omega
  have hlr2w1 : w.heap.size + 1 < r2.heap.size := by omega
  have hS2 := hS1.on hbr2
  go_wp2_with fail
  have hecr3 := @Ext.cell
  refine wp_region_ext (by kernel_rfl) (by kernel_rfl) ?_
  repeat (first | go_big_quiet_skip | (go_big_quiet_want; go_big_quiet_op; first | go_big_quiet_on | (go_big_quiet_call ((first | fail | (go_at_call 28; exact ext_call (CT _ (hS2.on (Ext.h _)))) | (go_at_call 30; exact ext_call (CD _ (hS2.on (Ext.h _)))) | (go_at_call 18; with_reducible exact ext_call (VT _)) | (go_at_call 18; with_reducible exact ext_call (VD _)))))))
  clear hecr3
  refine wpQuiet_nil ?_
  rintro r3 ⟨⟨_, hbr3⟩, rfl⟩
  obtain ⟨hcr3, hfr3⟩ := bcell hbr3
  have hzr3 := hbr3.size
  try simp only [World.size_alloc, World.size_setCell, World.size_drew] at hzr3
  have hlr3w0 : w.heap.size < r3.heap.size := by omega
  have hlr3w1 : w.heap.size + 1 < r3.heap.size := by omega
  have hS3 := hS2.on hbr3
  go_wp2_with fail
  refine (S1 _).mono ?_
  rintro _ _ ⟨rfl, rfl⟩
  go_wp2_with fail
  have hecr4 := @Ext.cell
  refine wp_region_ext (by kernel_rfl) (by kernel_rfl) ?_
  repeat (first | go_big_quiet_skip | (go_big_quiet_want; go_big_quiet_op; first | go_big_quiet_on | (go_big_quiet_call ((first | fail | (go_at_call 18; exact ext_call (rvalue_any _ _ (by assumption) (by assumption) (by assumption) (by assumption) _)))))))
  clear hecr4
  refine wpQuiet_nil ?_
  rintro r4 ⟨⟨_, hbr4⟩, rfl⟩
  obtain ⟨hcr4, hfr4⟩ := bcell hbr4
  have hzr4 := hbr4.size
  try simp only [World.size_alloc, World.size_setCell, World.size_drew] at hzr4
  have hlr4w0 : w.heap.size < r4.heap.size := by omega
  have hlr4w1 : w.heap.size + 1 < r4.heap.size := by omega
  have hS4 := hS3.on hbr4
  go_wp2_with fail
  refine (CK _).mono ?_
  rintro _ r5 ⟨rfl, hbr5⟩
  obtain ⟨hcr5, hfr5⟩ := bcell hbr5
  have hzr5 := hbr5.size
  try simp only [World.size_alloc, World.size_setCell, World.size_drew] at hzr5
  have hlr5w0 : w.heap.size < r5.heap.size := by omega
  have hlr5w1 : w.heap.size + 1 < r5.heap.size := by omega
  go_wp2_with fail
  refine (CB _ (hS4.on hbr5)).mono ?_
  rintro _ r6 ⟨rfl, hbr6⟩
  obtain ⟨hcr6, hfr6⟩ := bcell hbr6
  have hzr6 := hbr6.size
  try simp only [World.size_alloc, World.size_setCell, World.size_drew] at hzr6
  have hlr6w0 : w.heap.size < r6.heap.size := by omega
  have hlr6w1 : w.heap.size + 1 < r6.heap.size := by omega
  go_wp2_with fail
  refine (VB _).mono ?_
  rintro _ r7 ⟨rfl, hbr7⟩
  obtain ⟨hcr7, hfr7⟩ := bcell hbr7
  have hzr7 := hbr7.size
  try simp only [World.size_alloc, World.size_setCell, World.size_drew] at hzr7
  have hlr7w0 : w.heap.size < r7.heap.size := by omega
  have hlr7w1 : w.heap.size + 1 < r7.heap.size := by omega
  go_wp2_with fail
  refine (S2 _).mono ?_
  rintro _ _ ⟨rfl, rfl⟩
  go_wp2
  go_ret
  exact ⟨rfl, (by repeat' (first | (with_reducible exact Below.refl _ _) | (with_reducible refine bl_set ?_ _ ?_) | (with_reducible refine bl_alloc ?_ _) | (with_reducible refine bl_drew ?_) | (with_reducible refine bl_via (by with_reducible assumption) ?_) | (with_reducible assumption) | omega | (simp only []; omega) | (simp; omega)))⟩
end Go.Proofs.YtccnflemopajcaaDoor
