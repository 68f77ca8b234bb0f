/- The walk of the law FixedDivides: for every input it returns true, where the table of coefficients is as laid. -/
import Derived.Test.YtccnflemopajcaaDoorWl
import Derived.Test.YtccnflemopajcaaDoorPn
import Derived.Test.YtccnflemopajcaaDoorLsn
namespace Go.Proofs.YtccnflemopajcaaDoor
set_option linter.unusedSimpArgs false
set_option linter.unusedVariables false
open Go.RowKit

set_option maxHeartbeats 2000000 in
theorem divides_out (x y z u : Int) (hx0 : 0 ≤ x) (hx1 : x < 65536) (hy0 : 0 ≤ y) (hy1 : y < 65536) (hz0 : 0 ≤ z) (hz1 : z < 65536) (hu0 : 0 ≤ u) (hu1 : u < 65536) (h : ¬ mag (val x y) < mag (val z u)) (w : World) (hS : Sines w) :
    Calls Tryd.prog 6 #[(.agg #[.int .u16 (x), .int .u16 (y)]), (.agg #[.int .u16 (z), .int .u16 (u)])] w fun e w' => e = .returned (.bool true) ∧ Below w.heap.size w w' := by
  have v0 := val_lo x y
  have v1 := val_hi x y
  have w0 := val_lo z u
  have w1 := val_hi z u
  obtain ⟨q0, q1, C1⟩ : ∃ q0 q1 : Int, (∀ w, Calls Tryd.prog 23 #[(.agg #[.int .u16 (x), .int .u16 (y)]), (.agg #[.int .u16 (z), .int .u16 (u)])] w fun e w' => e = .returned (.tuple #[(.agg #[.int .u16 (q0), .int .u16 (q1)]), .bool true]) ∧ Below w.heap.size w w') := by
    refine ⟨hi (dvv (val x y) (val z u)), lo (dvv (val x y) (val z u)), fun w => ?_⟩
    have g := div_any x y z u hx0 hx1 hy0 hy1 hz0 hz1 hu0 hu1 w
    rw [show dvo (val x y) (val z u) = true from decide_eq_true h] at g
    exact g
  have S1 := fun w => size16 (val x y) (by omega) (by omega) w
  have S2 := fun w => size16 (val z u) (by omega) (by omega) w
  have d1 : decide (mag (val z u) ≤ mag (val x y)) = true := decide_eq_true (by omega)
  clear h
  generalize mag (val x y) = s1 at *
  generalize mag (val z u) = s2 at *
  have heq := @eq_dbl
  go_enter Tryd.func6, Tryd.ntmps6
  go_wp2_with fail
  refine (lives16 _ (hS.on (bl_alloc (bl_alloc (Below.refl _ _) _) _))).mono ?_
  rintro _ r1 ⟨rfl, hbr1⟩
  obtain ⟨hcr1, hfr1⟩ := bcell hbr1
  have hzr1 := hbr1.size
  try simp only [World.size_alloc, World.size_setCell, World.size_drew] at hzr1
  have hlr1w0 : w.heap.size < r1.heap.size := by omega
  have hlr1w1 : w.heap.size + 1 < r1.heap.size := by omega
  go_wp2_with fail
  have hecr2 := @Ext.cell
  refine wp_region_ext (by kernel_rfl) (by kernel_rfl) ?_
  repeat (first | go_big_quiet_skip | (go_big_quiet_want; go_big_quiet_op; first | go_big_quiet_on | (go_big_quiet_call ((first | fail | (go_at_call 18; exact ext_call (rvalue_any _ _ (by assumption) (by assumption) (by assumption) (by assumption) _)))))))
  clear hecr2
  refine wpQuiet_nil ?_
  rintro r2 ⟨⟨_, hbr2⟩, rfl⟩
  obtain ⟨hcr2, hfr2⟩ := bcell hbr2
  have hzr2 := hbr2.size
  try simp only [World.size_alloc, World.size_setCell, World.size_drew] at hzr2
  have hlr2w0 : w.heap.size < r2.heap.size := by omega
  have hlr2w1 : w.heap.size + 1 < r2.heap.size := by omega
  go_wp2_with fail
  refine (C1 _).mono ?_
  rintro _ r3 ⟨rfl, hbr3⟩
  obtain ⟨hcr3, hfr3⟩ := bcell hbr3
  have hzr3 := hbr3.size
  try simp only [World.size_alloc, World.size_setCell, World.size_drew] at hzr3
  have hlr3w0 : w.heap.size < r3.heap.size := by omega
  have hlr3w1 : w.heap.size + 1 < r3.heap.size := by omega
  go_wp2_with fail
  refine (S1 _).mono ?_
  rintro _ _ ⟨rfl, rfl⟩
  go_wp2_with fail
  refine (S2 _).mono ?_
  rintro _ _ ⟨rfl, rfl⟩
  go_wp2
  go_ret
  exact ⟨rfl, (by repeat' (first | (with_reducible exact Below.refl _ _) | (with_reducible refine bl_set ?_ _ ?_) | (with_reducible refine bl_alloc ?_ _) | (with_reducible refine bl_drew ?_) | (with_reducible refine bl_via (by with_reducible assumption) ?_) | (with_reducible assumption) | omega | (simp only []; omega) | (simp; omega)))⟩

theorem divides_facts (x y z u : Int) (hx0 : 0 ≤ x) (hx1 : x < 65536) (hy0 : 0 ≤ y) (hy1 : y < 65536) (hz0 : 0 ≤ z) (hz1 : z < 65536) (hu0 : 0 ≤ u) (hu1 : u < 65536) (h : mag (val x y) < mag (val z u)) : ∃ (q0 q1 X s1 s2 s3 f0 f1 : Int), (s1 < s2) ∧ (-268435455 ≤ X ∧ X ≤ 268435455) ∧ (0 ≤ s3 ∧ 2 * s3 ≤ s2) ∧ (0 ≤ s2 ∧ s2 ≤ 268435455) ∧ (-72057593501057025 ≤ X * val z u ∧ X * val z u ≤ 72057593501057025) ∧
    (X ≠ 0 → (X < 0 ∧ val x y < 0 ∧ ¬ val z u < 0) ∨ (X < 0 ∧ ¬ val x y < 0 ∧ val z u < 0) ∨ (¬ X < 0 ∧ val x y < 0 ∧ val z u < 0) ∨ (¬ X < 0 ∧ ¬ val x y < 0 ∧ ¬ val z u < 0)) ∧
    (∀ w, Calls Tryd.prog 23 #[(.agg #[.int .u16 (x), .int .u16 (y)]), (.agg #[.int .u16 (z), .int .u16 (u)])] w fun e w' => e = .returned (.tuple #[(.agg #[.int .u16 (q0), .int .u16 (q1)]), .bool false]) ∧ Below w.heap.size w w') ∧
    (∀ w, Calls Tryd.prog 19 #[.int .i64 (val x y)] w fun e w' => e = .returned (.int .i64 (s1)) ∧ w = w') ∧
    (∀ w, Calls Tryd.prog 19 #[.int .i64 (val z u)] w fun e w' => e = .returned (.int .i64 (s2)) ∧ w = w') ∧
    (∀ w, Calls Tryd.prog 18 #[(.agg #[.int .u16 (q0), .int .u16 (q1)])] w fun e w' => e = .returned (.int .i64 (X)) ∧ Below w.heap.size w w') ∧
    (∀ w, Calls Tryd.prog 19 #[.int .i64 (X * val z u - val x y * 268435456)] w fun e w' => e = .returned (.int .i64 (s3)) ∧ w = w') ∧
    (∀ w, Calls Tryd.prog 14 #[(.agg #[.int .u16 (q0), .int .u16 (q1)]), (.agg #[.int .u16 (z), .int .u16 (u)])] w fun e w' => e = .returned (.agg #[.int .u16 (f0), .int .u16 (f1)]) ∧ Below w.heap.size w w') ∧
    (∀ w, Calls Tryd.prog 18 #[(.agg #[.int .u16 (f0), .int .u16 (f1)])] w fun e w' => e = .returned (.int .i64 (val x y)) ∧ Below w.heap.size w w') := by
  have v0 := val_lo x y
  have v1 := val_hi x y
  have w0 := val_lo z u
  have w1 := val_hi z u
  have ds := dvv_size (val x y) (val z u) w0 w1
  have dn := div_near (val x y) (val z u) w0 w1 h
  have db := div_back (val x y) (val z u) w0 w1 h
  have dg := div_sign (val x y) (val z u) w0 w1 h
  have xb := fmul_bd (dvv (val x y) (val z u)) (val z u) ds.1 ds.2 w0 w1
  have mw := mag_le (val z u) 268435455 w0 w1
  have mz : 0 ≤ mag (val z u) := by unfold mag; split <;> omega
  obtain ⟨qw0, qw1, qw2, qw3⟩ := hi_lo (dvv (val x y) (val z u)) ds.1 ds.2
  obtain ⟨rw0, rw1, rw2, rw3⟩ := hi_lo (val x y) v0 v1
  refine ⟨hi (dvv (val x y) (val z u)), lo (dvv (val x y) (val z u)), dvv (val x y) (val z u), mag (val x y), mag (val z u), mag (dvv (val x y) (val z u) * val z u - val x y * 268435456), hi (val x y), lo (val x y), h, ds, ⟨by unfold mag; split <;> omega, ?_⟩, ⟨mz, mw⟩, xb, ?_, fun w => ?_, fun w => size16 _ (by omega) (by omega) w, fun w => size16 _ (by omega) (by omega) w, fun w => ?_, fun w => size16 _ (by omega) (by omega) w, fun w => ?_, fun w => ?_⟩
  · have : ∀ t : Int, -mag (val z u) ≤ 2 * t → 2 * t ≤ mag (val z u) → 2 * mag t ≤ mag (val z u) := fun t a b => by
      generalize mag (val z u) = m at *
      unfold mag; split <;> omega
    exact this _ dn.1 dn.2
  · intro hX
    have e := dg hX
    by_cases a : dvv (val x y) (val z u) < 0
    · have := (eq_true a).symm.trans e
      have := of_eq_true this.symm
      omega
    · have := (eq_false a).symm.trans e
      have := of_eq_false this.symm
      omega
  · have g := div_any x y z u hx0 hx1 hy0 hy1 hz0 hz1 hu0 hu1 w
    rw [show dvo (val x y) (val z u) = false from decide_eq_false (fun k => k h)] at g
    exact g
  · have g := rvalue_any (hi (dvv (val x y) (val z u))) (lo (dvv (val x y) (val z u))) (by omega) (by omega) (by omega) (by omega) w
    rw [val_of _ ds.1 ds.2] at g; exact g
  · have g := mul_any (hi (dvv (val x y) (val z u))) (lo (dvv (val x y) (val z u))) z u (by omega) (by omega) (by omega) (by omega) hz0 hz1 hu0 hu1 w
    rw [val_of _ ds.1 ds.2, db] at g; exact g
  · have g := rvalue_any (hi (val x y)) (lo (val x y)) (by omega) (by omega) (by omega) (by omega) w
    rw [val_of _ v0 v1] at g; exact g

set_option maxHeartbeats 4000000 in
theorem divides_in (x y z u : Int) (hx0 : 0 ≤ x) (hx1 : x < 65536) (hy0 : 0 ≤ y) (hy1 : y < 65536) (hz0 : 0 ≤ z) (hz1 : z < 65536) (hu0 : 0 ≤ u) (hu1 : u < 65536) (h : mag (val x y) < mag (val z u)) (w : World) (hS : Sines w) :
    Calls Tryd.prog 6 #[(.agg #[.int .u16 (x), .int .u16 (y)]), (.agg #[.int .u16 (z), .int .u16 (u)])] w fun e w' => e = .returned (.bool true) ∧ Below w.heap.size w w' := by
  have v0 := val_lo x y
  have v1 := val_hi x y
  have w0 := val_lo z u
  have w1 := val_hi z u
  obtain ⟨q0, q1, X, s1, s2, s3, f0, f1, hs, ⟨X0, X1⟩, ⟨sa3, sb3⟩, ⟨sa2, sb2⟩, ⟨xb0, xb1⟩, hsg, C1, S1, S2, C2, S3, C3, C4⟩ := divides_facts x y z u hx0 hx1 hy0 hy1 hz0 hz1 hu0 hu1 h
  have d1 : decide (s2 ≤ s1) = false := decide_eq_false (by omega)
  have d2 : decide (s2 < 2 * s3) = false := decide_eq_false (by omega)
  clear hs h
  have heq := @eq_dbl
  have walk : ∀ (bX bv bw b0 : Bool), decide (X < 0) = bX → decide (val x y < 0) = bv → decide (val z u < 0) = bw → (X != 0) = b0 → (b0 = true → (bX != (bv != bw)) = false) → Calls Tryd.prog 6 #[(.agg #[.int .u16 (x), .int .u16 (y)]), (.agg #[.int .u16 (z), .int .u16 (u)])] w fun e w' => e = .returned (.bool true) ∧ Below w.heap.size w w' := by
    clear hsg
    intro bX bv bw b0 e1 e2 e3 e4 hb
    go_enter Tryd.func6, Tryd.ntmps6
    go_wp2_with fail
    refine (lives16 _ (hS.on (bl_alloc (bl_alloc (Below.refl _ _) _) _))).mono ?_
    rintro _ r1 ⟨rfl, hbr1⟩
    obtain ⟨hcr1, hfr1⟩ := bcell hbr1
    have hzr1 := hbr1.size
    try simp only [World.size_alloc, World.size_setCell, World.size_drew] at hzr1
    have hlr1w0 : w.heap.size < r1.heap.size := by omega
    have hlr1w1 : w.heap.size + 1 < r1.heap.size := by omega
    go_wp2_with fail
    have hecr2 := @Ext.cell
    refine wp_region_ext (by kernel_rfl) (by kernel_rfl) ?_
    repeat (first | go_big_quiet_skip | (go_big_quiet_want; go_big_quiet_op; first | go_big_quiet_on | (go_big_quiet_call ((first | fail | (go_at_call 18; exact ext_call (rvalue_any _ _ (by assumption) (by assumption) (by assumption) (by assumption) _)))))))
    clear hecr2
    refine wpQuiet_nil ?_
    rintro r2 ⟨⟨_, hbr2⟩, rfl⟩
    obtain ⟨hcr2, hfr2⟩ := bcell hbr2
    have hzr2 := hbr2.size
    try simp only [World.size_alloc, World.size_setCell, World.size_drew] at hzr2
    have hlr2w0 : w.heap.size < r2.heap.size := by omega
    have hlr2w1 : w.heap.size + 1 < r2.heap.size := by omega
    go_wp2_with fail
    refine (C1 _).mono ?_
    rintro _ r3 ⟨rfl, hbr3⟩
    obtain ⟨hcr3, hfr3⟩ := bcell hbr3
    have hzr3 := hbr3.size
    try simp only [World.size_alloc, World.size_setCell, World.size_drew] at hzr3
    have hlr3w0 : w.heap.size < r3.heap.size := by omega
    have hlr3w1 : w.heap.size + 1 < r3.heap.size := by omega
    go_wp2_with fail
    refine (S1 _).mono ?_
    rintro _ _ ⟨rfl, rfl⟩
    go_wp2_with fail
    refine (S2 _).mono ?_
    rintro _ _ ⟨rfl, rfl⟩
    go_wp2_with fail
    refine (C2 _).mono ?_
    rintro _ r4 ⟨rfl, hbr4⟩
    obtain ⟨hcr4, hfr4⟩ := bcell hbr4
    have hzr4 := hbr4.size
    try simp only [World.size_alloc, World.size_setCell, World.size_drew] at hzr4
    have hlr4w0 : w.heap.size < r4.heap.size := by omega
    have hlr4w1 : w.heap.size + 1 < r4.heap.size := by omega
    have hlr4r30 : r3.heap.size < r4.heap.size := by omega
    go_wp2_with fail
    refine (S3 _).mono ?_
    rintro _ _ ⟨rfl, rfl⟩
    go_wp2_with fail
    refine (S2 _).mono ?_
    rintro _ _ ⟨rfl, rfl⟩
    have hb' : b0 = false ∨ (bX != (bv != bw)) = false := by cases b0 <;> simp_all
    clear hb
    cases b0 <;> cases bX <;> cases bv <;> cases bw <;> simp at hb'
    all_goals
      skip
      go_wp2_with fail
      refine (C3 _).mono ?_
      rintro _ r5 ⟨rfl, hbr5⟩
      obtain ⟨hcr5, hfr5⟩ := bcell hbr5
      have hzr5 := hbr5.size
      try simp only [World.size_alloc, World.size_setCell, World.size_drew] at hzr5
      have hlr5w0 : w.heap.size < r5.heap.size := by omega
      have hlr5w1 : w.heap.size + 1 < r5.heap.size := by omega
      have hlr5r30 : r3.heap.size < r5.heap.size := by omega
      go_wp2_with fail
      refine (C4 _).mono ?_
      rintro _ r6 ⟨rfl, hbr6⟩
      obtain ⟨hcr6, hfr6⟩ := bcell hbr6
      have hzr6 := hbr6.size
      try simp only [World.size_alloc, World.size_setCell, World.size_drew] at hzr6
      have hlr6w0 : w.heap.size < r6.heap.size := by omega
      have hlr6w1 : w.heap.size + 1 < r6.heap.size := by omega
      have hlr6r30 : r3.heap.size < r6.heap.size := by omega
      go_wp2
      go_ret
      exact ⟨rfl, (by repeat' (first | (with_reducible exact Below.refl _ _) | (with_reducible refine bl_set ?_ _ ?_) | (with_reducible refine bl_alloc ?_ _) | (with_reducible refine bl_drew ?_) | (with_reducible refine bl_via (by with_reducible assumption) ?_) | (with_reducible assumption) | omega | (simp only []; omega) | (simp; omega)))⟩
  refine walk _ _ _ _ rfl rfl rfl rfl fun h0 => ?_
  have h0 : X ≠ 0 := by simpa using h0
  rcases hsg h0 with ⟨a, b, c⟩ | ⟨a, b, c⟩ | ⟨a, b, c⟩ | ⟨a, b, c⟩ <;> simp [a, b, c]
theorem divides_law (x y z u : Int) (hx0 : 0 ≤ x) (hx1 : x < 65536) (hy0 : 0 ≤ y) (hy1 : y < 65536) (hz0 : 0 ≤ z) (hz1 : z < 65536) (hu0 : 0 ≤ u) (hu1 : u < 65536) (w : World) (hS : Sines w) :
    Calls Tryd.prog 6 #[(.agg #[.int .u16 (x), .int .u16 (y)]), (.agg #[.int .u16 (z), .int .u16 (u)])] w fun e w' => e = .returned (.bool true) ∧ Below w.heap.size w w' := by
  by_cases h : mag (val x y) < mag (val z u)
  · exact divides_in x y z u hx0 hx1 hy0 hy1 hz0 hz1 hu0 hu1 h w hS
  · exact divides_out x y z u hx0 hx1 hy0 hy1 hz0 hz1 hu0 hu1 h w hS
end Go.Proofs.YtccnflemopajcaaDoor
