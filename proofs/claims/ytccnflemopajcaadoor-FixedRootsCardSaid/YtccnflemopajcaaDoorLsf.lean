/- The walk of the law FixedRoots: for every input it returns true, where the table of coefficients is as laid. -/
import Derived.Test.YtccnflemopajcaaDoorWl
import Derived.Test.YtccnflemopajcaaDoorPn
import Derived.Test.YtccnflemopajcaaDoorLsn
namespace Go.Proofs.YtccnflemopajcaaDoor
set_option linter.unusedSimpArgs false
set_option linter.unusedVariables false
open Go.RowKit

theorem root_facts (x y : Int) (hx0 : 0 ≤ x) (hx1 : x < 65536) (hy0 : 0 ≤ y) (hy1 : y < 65536) : ∃ (r0 r1 X : Int), (-268435455 ≤ X ∧ X ≤ 268435455) ∧ (0 ≤ X * X ∧ X * X ≤ 72057593501057025) ∧ (val x y < 0 → r0 = 0 ∧ r1 = 0 ∧ X = 0) ∧ (¬ val x y < 0 → X = nsq (val x y * 268435456)) ∧
    (∀ w, Calls Tryd.prog 25 #[(.agg #[.int .u16 (x), .int .u16 (y)])] w fun e w' => e = .returned (.tuple #[(.agg #[.int .u16 (r0), .int .u16 (r1)]), .bool (decide (val x y < 0))]) ∧ Below w.heap.size w w') ∧ (∀ w, Calls Tryd.prog 18 #[(.agg #[.int .u16 (r0), .int .u16 (r1)])] w fun e w' => e = .returned (.int .i64 (X)) ∧ Below w.heap.size w w') := by
  have v0 := val_lo x y
  have v1 := val_hi x y
  by_cases h : val x y < 0
  · refine ⟨0, 0, 0, by omega, by omega, fun _ => ⟨rfl, rfl, rfl⟩, fun k => absurd h k, fun w => ?_, fun w => rvalue_any 0 0 (by omega) (by omega) (by omega) (by omega) w⟩
    rw [decide_eq_true h]
    exact sqrt_neg x y hx0 hx1 hy0 hy1 h w
  · have n := nsq_half (val x y) (by omega) v1
    have nb : 0 ≤ nsq (val x y * 268435456) ∧ nsq (val x y * 268435456) ≤ 268435455 := by omega
    obtain ⟨q0, q1, q2, q3⟩ := hi_lo (nsq (val x y * 268435456)) (by omega) nb.2
    refine ⟨hi (nsq (val x y * 268435456)), lo (nsq (val x y * 268435456)), nsq (val x y * 268435456), ⟨by omega, nb.2⟩, ⟨Int.mul_nonneg nb.1 nb.1, Int.mul_le_mul nb.2 nb.2 nb.1 (by omega)⟩, fun k => absurd k h, fun _ => rfl, fun w => ?_, fun w => ?_⟩
    · rw [decide_eq_false h]
      exact sqrt_pos x y hx0 hx1 hy0 hy1 (by omega) w
    · have g := rvalue_any (hi (nsq (val x y * 268435456))) (lo (nsq (val x y * 268435456))) (by omega) (by omega) (by omega) (by omega) w
      rw [val_of _ (by omega) nb.2] at g; exact g

set_option maxHeartbeats 4000000 in
theorem roots_walk (x y z u r0 r1 s0 s1 X Y : Int) (hx0 : 0 ≤ x) (hx1 : x < 65536) (hy0 : 0 ≤ y) (hy1 : y < 65536) (hz0 : 0 ≤ z) (hz1 : z < 65536) (hu0 : 0 ≤ u) (hu1 : u < 65536) (bA bB bV bX : Bool) (X0 : -268435455 ≤ X) (X1 : X ≤ 268435455) (XX0 : 0 ≤ X * X) (XX1 : X * X ≤ 72057593501057025)
    (eA : decide (val x y < 0) = bA) (eB : decide (val z u < 0) = bB) (z0 : (bA = false) ∨ (bA = true ∧ (r0 == 0) = true ∧ (r1 == 0) = true))
    (eX : decide (0 < X) = bX) (eV : decide (val z u < val x y) = bV)
    (hx : (bA || bB) = true ∨ (decide (X < 0) = false ∧ decide (X * X + X < val x y * 268435456) = false ∧ (bX = false ∨ bX = true ∧ decide (val x y * 268435456 ≤ X * X - X) = false) ∧ (bV = true ∨ bV = false ∧ decide (X ≤ Y) = true)))
    (C1 : (∀ w, Calls Tryd.prog 25 #[(.agg #[.int .u16 (x), .int .u16 (y)])] w fun e w' => e = .returned (.tuple #[(.agg #[.int .u16 (r0), .int .u16 (r1)]), .bool bA]) ∧ Below w.heap.size w w')) (C2 : (∀ w, Calls Tryd.prog 25 #[(.agg #[.int .u16 (z), .int .u16 (u)])] w fun e w' => e = .returned (.tuple #[(.agg #[.int .u16 (s0), .int .u16 (s1)]), .bool bB]) ∧ Below w.heap.size w w')) (C3 : (∀ w, Calls Tryd.prog 18 #[(.agg #[.int .u16 (r0), .int .u16 (r1)])] w fun e w' => e = .returned (.int .i64 (X)) ∧ Below w.heap.size w w')) (C4 : (∀ w, Calls Tryd.prog 18 #[(.agg #[.int .u16 (s0), .int .u16 (s1)])] w fun e w' => e = .returned (.int .i64 (Y)) ∧ Below w.heap.size w w'))
    (w : World) (hS : Sines w) :
    Calls Tryd.prog 7 #[(.agg #[.int .u16 (x), .int .u16 (y)]), (.agg #[.int .u16 (z), .int .u16 (u)])] w fun e w' => e = .returned (.bool true) ∧ Below w.heap.size w w' := by
  have v0 := val_lo x y
  have v1 := val_hi x y
  have w0 := val_lo z u
  have w1 := val_hi z u
  have heq := @eq_dbl
  have z0' : bA = false ∨ (bA = true ∧ r0 = 0 ∧ r1 = 0) := by simpa using z0
  clear z0
  cases bA <;> cases bB <;> simp at hx z0'
  · rcases hx with ⟨a1, a2, a3, a4⟩
    rcases a3 with a3 | ⟨a3, a5⟩ <;> rcases a4 with a4 | ⟨a4, a6⟩
    all_goals
      subst a3 a4
      go_enter Tryd.func7, Tryd.ntmps7
      go_wp2_with fail
      refine (lives16 _ (hS.on (bl_alloc (bl_alloc (Below.refl _ _) _) _))).mono ?_
      rintro _ r1 ⟨rfl, hbr1⟩
      obtain ⟨hcr1, hfr1⟩ := bcell hbr1
      have hzr1 := hbr1.size
      try simp only [World.size_alloc, World.size_setCell, World.size_drew] at hzr1
      have hlr1w0 : w.heap.size < r1.heap.size := by omega
      have hlr1w1 : w.heap.size + 1 < r1.heap.size := by omega
      go_wp2_with fail
      have hecr2 := @Ext.cell
      refine wp_region_ext (by kernel_rfl) (by kernel_rfl) ?_
      repeat (first | go_big_quiet_skip | (go_big_quiet_want; go_big_quiet_op; first | go_big_quiet_on | (go_big_quiet_call ((first | fail | (go_at_call 18; exact ext_call (rvalue_any _ _ (by assumption) (by assumption) (by assumption) (by assumption) _)))))))
      clear hecr2
      refine wpQuiet_nil ?_
      rintro r2 ⟨⟨_, hbr2⟩, rfl⟩
      obtain ⟨hcr2, hfr2⟩ := bcell hbr2
      have hzr2 := hbr2.size
      try simp only [World.size_alloc, World.size_setCell, World.size_drew] at hzr2
      have hlr2w0 : w.heap.size < r2.heap.size := by omega
      have hlr2w1 : w.heap.size + 1 < r2.heap.size := by omega
      go_wp2_with fail
      refine (C1 _).mono ?_
      rintro _ r3 ⟨rfl, hbr3⟩
      obtain ⟨hcr3, hfr3⟩ := bcell hbr3
      have hzr3 := hbr3.size
      try simp only [World.size_alloc, World.size_setCell, World.size_drew] at hzr3
      have hlr3w0 : w.heap.size < r3.heap.size := by omega
      have hlr3w1 : w.heap.size + 1 < r3.heap.size := by omega
      go_wp2_with fail
      refine (C2 _).mono ?_
      rintro _ r4 ⟨rfl, hbr4⟩
      obtain ⟨hcr4, hfr4⟩ := bcell hbr4
      have hzr4 := hbr4.size
      try simp only [World.size_alloc, World.size_setCell, World.size_drew] at hzr4
      have hlr4w0 : w.heap.size < r4.heap.size := by omega
      have hlr4w1 : w.heap.size + 1 < r4.heap.size := by omega
      have hlr4r30 : r3.heap.size < r4.heap.size := by omega
      go_wp2_with fail
      have hecr5 := @Ext.cell
      refine wp_region_ext (by kernel_rfl) (by kernel_rfl) ?_
      repeat (first | go_big_quiet_skip | (go_big_quiet_want; go_big_quiet_op; first | go_big_quiet_on | (go_big_quiet_call ((first | fail | (go_at_call 18; with_reducible exact ext_call (C3 _)) | (go_at_call 18; with_reducible exact ext_call (C4 _)))))))
      clear hecr5
      refine wpQuiet_nil ?_
      rintro r5 ⟨⟨_, hbr5⟩, rfl⟩
      obtain ⟨hcr5, hfr5⟩ := bcell hbr5
      have hzr5 := hbr5.size
      try simp only [World.size_alloc, World.size_setCell, World.size_drew] at hzr5
      have hlr5w0 : w.heap.size < r5.heap.size := by omega
      have hlr5w1 : w.heap.size + 1 < r5.heap.size := by omega
      have hlr5r30 : r3.heap.size < r5.heap.size := by omega
      have hlr5r40 : r4.heap.size < r5.heap.size := by omega
      go_wp2
      go_ret
      exact ⟨rfl, (by repeat' (first | (with_reducible exact Below.refl _ _) | (with_reducible refine bl_set ?_ _ ?_) | (with_reducible refine bl_alloc ?_ _) | (with_reducible refine bl_drew ?_) | (with_reducible refine bl_via (by with_reducible assumption) ?_) | (with_reducible assumption) | omega | (simp only []; omega) | (simp; omega)))⟩
  all_goals
    try (obtain ⟨rfl, rfl⟩ := z0')
    go_enter Tryd.func7, Tryd.ntmps7
    go_wp2_with fail
    refine (lives16 _ (hS.on (bl_alloc (bl_alloc (Below.refl _ _) _) _))).mono ?_
    rintro _ r1 ⟨rfl, hbr1⟩
    obtain ⟨hcr1, hfr1⟩ := bcell hbr1
    have hzr1 := hbr1.size
    try simp only [World.size_alloc, World.size_setCell, World.size_drew] at hzr1
    have hlr1w0 : w.heap.size < r1.heap.size := by omega
    have hlr1w1 : w.heap.size + 1 < r1.heap.size := by omega
    go_wp2_with fail
    have hecr2 := @Ext.cell
    refine wp_region_ext (by kernel_rfl) (by kernel_rfl) ?_
    repeat (first | go_big_quiet_skip | (go_big_quiet_want; go_big_quiet_op; first | go_big_quiet_on | (go_big_quiet_call ((first | fail | (go_at_call 18; exact ext_call (rvalue_any _ _ (by assumption) (by assumption) (by assumption) (by assumption) _)))))))
    clear hecr2
    refine wpQuiet_nil ?_
    rintro r2 ⟨⟨_, hbr2⟩, rfl⟩
    obtain ⟨hcr2, hfr2⟩ := bcell hbr2
    have hzr2 := hbr2.size
    try simp only [World.size_alloc, World.size_setCell, World.size_drew] at hzr2
    have hlr2w0 : w.heap.size < r2.heap.size := by omega
    have hlr2w1 : w.heap.size + 1 < r2.heap.size := by omega
    go_wp2_with fail
    refine (C1 _).mono ?_
    rintro _ r3 ⟨rfl, hbr3⟩
    obtain ⟨hcr3, hfr3⟩ := bcell hbr3
    have hzr3 := hbr3.size
    try simp only [World.size_alloc, World.size_setCell, World.size_drew] at hzr3
    have hlr3w0 : w.heap.size < r3.heap.size := by omega
    have hlr3w1 : w.heap.size + 1 < r3.heap.size := by omega
    go_wp2_with fail
    refine (C2 _).mono ?_
    rintro _ r4 ⟨rfl, hbr4⟩
    obtain ⟨hcr4, hfr4⟩ := bcell hbr4
    have hzr4 := hbr4.size
    try simp only [World.size_alloc, World.size_setCell, World.size_drew] at hzr4
    have hlr4w0 : w.heap.size < r4.heap.size := by omega
    have hlr4w1 : w.heap.size + 1 < r4.heap.size := by omega
    have hlr4r30 : r3.heap.size < r4.heap.size := by omega
    go_wp2_with fail
    have hecr5 := @Ext.cell
    refine wp_region_ext (by kernel_rfl) (by kernel_rfl) ?_
    repeat (first | go_big_quiet_skip | (go_big_quiet_want; go_big_quiet_op; first | go_big_quiet_on | (go_big_quiet_call ((first | fail | (go_at_call 18; with_reducible exact ext_call (C3 _)) | (go_at_call 18; with_reducible exact ext_call (C4 _)))))))
    clear hecr5
    refine wpQuiet_nil ?_
    rintro r5 ⟨⟨_, hbr5⟩, rfl⟩
    obtain ⟨hcr5, hfr5⟩ := bcell hbr5
    have hzr5 := hbr5.size
    try simp only [World.size_alloc, World.size_setCell, World.size_drew] at hzr5
    have hlr5w0 : w.heap.size < r5.heap.size := by omega
    have hlr5w1 : w.heap.size + 1 < r5.heap.size := by omega
    have hlr5r30 : r3.heap.size < r5.heap.size := by omega
    have hlr5r40 : r4.heap.size < r5.heap.size := by omega
    go_wp2
    go_ret
    exact ⟨rfl, (by repeat' (first | (with_reducible exact Below.refl _ _) | (with_reducible refine bl_set ?_ _ ?_) | (with_reducible refine bl_alloc ?_ _) | (with_reducible refine bl_drew ?_) | (with_reducible refine bl_via (by with_reducible assumption) ?_) | (with_reducible assumption) | omega | (simp only []; omega) | (simp; omega)))⟩
theorem roots_law (x y z u : Int) (hx0 : 0 ≤ x) (hx1 : x < 65536) (hy0 : 0 ≤ y) (hy1 : y < 65536) (hz0 : 0 ≤ z) (hz1 : z < 65536) (hu0 : 0 ≤ u) (hu1 : u < 65536) (w : World) (hS : Sines w) :
    Calls Tryd.prog 7 #[(.agg #[.int .u16 (x), .int .u16 (y)]), (.agg #[.int .u16 (z), .int .u16 (u)])] w fun e w' => e = .returned (.bool true) ∧ Below w.heap.size w w' := by
  obtain ⟨r0, r1, X, hX, hXX, hn, hp, C1, C3⟩ := root_facts x y hx0 hx1 hy0 hy1
  obtain ⟨s0, s1, Y, hY, hYY, gn, gp, C2, C4⟩ := root_facts z u hz0 hz1 hu0 hu1
  refine roots_walk x y z u r0 r1 s0 s1 X Y hx0 hx1 hy0 hy1 hz0 hz1 hu0 hu1 _ _ _ _ hX.1 hX.2 hXX.1 hXX.2 rfl rfl ?_ rfl rfl ?_ C1 C2 C3 C4 w hS
  · by_cases h : val x y < 0
    · obtain ⟨a, b, _⟩ := hn h
      exact .inr ⟨decide_eq_true h, by simp [a], by simp [b]⟩
    · exact .inl (decide_eq_false h)
  · by_cases h : val x y < 0
    · exact .inl (by simp [h])
    · by_cases g : val z u < 0
      · exact .inl (by simp [g])
      · have eX := hp h
        have eY := gp g
        obtain ⟨n0, n1, n2⟩ := nsq_exact (val x y * 268435456) (by omega)
        rw [← eX] at n0 n1 n2
        refine .inr ⟨decide_eq_false (by omega), decide_eq_false (by omega), ?_, ?_⟩
        · by_cases hx : 0 < X
          · exact .inr ⟨decide_eq_true hx, decide_eq_false (by have := n2 hx; omega)⟩
          · exact .inl (decide_eq_false hx)
        · by_cases hv : val z u < val x y
          · exact .inl (decide_eq_true hv)
          · refine .inr ⟨decide_eq_false hv, decide_eq_true ?_⟩
            rw [eX, eY]; exact nsq_mono _ _ (by omega) (by omega)
end Go.Proofs.YtccnflemopajcaaDoor
