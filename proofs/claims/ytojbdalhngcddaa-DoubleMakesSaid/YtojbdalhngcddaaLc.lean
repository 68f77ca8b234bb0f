/- The walk of DoubleMakes: for every number it returns true. -/
import Derived.Test.YtojbdalhngcddaaLa
namespace Go.Proofs.Ytojbdalhngcddaa
set_option linter.unusedSimpArgs false
set_option linter.unusedVariables false
open Go.RowKit

set_option maxHeartbeats 1000000 in
theorem makes_law (v : Int) (_g0 : -9223372036854775808 ≤ v) (_g1 : v ≤ 9223372036854775807) (w : World) :
    Calls Try.prog 7 #[.int .i64 v] w fun e w' => e = .returned (.bool true) ∧ Below w.heap.size w w' := by
  have heq := @eq_dbl
  have het := @eq_tri
  by_cases c1 : -268435455 ≤ v ∧ v ≤ 268435455
  · obtain ⟨h0, h1⟩ := c1
    have ho := outb_in v 268435455 h0 h1
    have ht := outb_in v 4398046511103 (by omega) (by omega)
    have hs := sat_in v 268435455 h0 h1
    have t0 : -4398046511103 ≤ v := by omega
    have t1 : v ≤ 4398046511103 := by omega
    go_enter Try.func7, Try.ntmps7
    go_wp2_with fail
    refine (lives_any _).mono ?_
    rintro _ r1 ⟨rfl, hbr1⟩
    obtain ⟨hcr1, hfr1⟩ := bcell hbr1
    have hzr1 := hbr1.size
    try simp only [World.size_alloc, World.size_setCell, World.size_drew] at hzr1
    go_wp2_with fail
    refine (make_in v h0 h1 _).mono ?_
    rintro _ r2 ⟨rfl, hbr2⟩
    obtain ⟨hcr2, hfr2⟩ := bcell hbr2
    have hzr2 := hbr2.size
    try simp only [World.size_alloc, World.size_setCell, World.size_drew] at hzr2
    go_wp2_with fail
    refine (clamp_any v _).mono ?_
    rintro _ r3 ⟨rfl, hbr3⟩
    obtain ⟨hcr3, hfr3⟩ := bcell hbr3
    have hzr3 := hbr3.size
    try simp only [World.size_alloc, World.size_setCell, World.size_drew] at hzr3
    have hlr3r20 : r2.heap.size < r3.heap.size := by omega
    go_wp2_with fail
    refine (maketri_in v t0 t1 _).mono ?_
    rintro _ r4 ⟨rfl, hbr4⟩
    obtain ⟨hcr4, hfr4⟩ := bcell hbr4
    have hzr4 := hbr4.size
    try simp only [World.size_alloc, World.size_setCell, World.size_drew] at hzr4
    have hlr4r20 : r2.heap.size < r4.heap.size := by omega
    have hlr4r30 : r3.heap.size < r4.heap.size := by omega
    go_wp2_with fail
    refine (rclamp_any v _).mono ?_
    rintro _ r5 ⟨rfl, hbr5⟩
    obtain ⟨hcr5, hfr5⟩ := bcell hbr5
    have hzr5 := hbr5.size
    try simp only [World.size_alloc, World.size_setCell, World.size_drew] at hzr5
    have hlr5r20 : r2.heap.size < r5.heap.size := by omega
    have hlr5r30 : r3.heap.size < r5.heap.size := by omega
    have hlr5r40 : r4.heap.size < r5.heap.size := by omega
    go_wp2_with fail
    refine (rout_any v 4398046511103 (by omega) (by omega) _).mono ?_
    rintro _ _ ⟨rfl, rfl⟩
    go_wp2_with fail
    have hecr6 := @Ext.cell
    refine wp_region_ext (by kernel_rfl) (by kernel_rfl) ?_
    repeat (first | go_big_quiet_skip | (go_big_quiet_want; go_big_quiet_op; first | go_big_quiet_on | (go_big_quiet_call ((first | fail | (go_at_call 30; exact ext_call (rtriple_any v t0 t1 _)))))))
    clear hecr6
    refine wpQuiet_nil ?_
    rintro r6 ⟨⟨_, hbr6⟩, rfl⟩
    obtain ⟨hcr6, hfr6⟩ := bcell hbr6
    have hzr6 := hbr6.size
    try simp only [World.size_alloc, World.size_setCell, World.size_drew] at hzr6
    go_wp2
    go_ret
    exact ⟨rfl, (by repeat' (first | exact Below.refl _ _ | refine bl_alloc ?_ _ | refine bl_drew ?_ | refine bl_set ?_ _ ?_ | refine bl_via (by assumption) ?_ | (simp only []; omega) | omega | (simp; omega)))⟩
  · have ho : outb v 268435455 = true := decide_eq_true (by omega)
    by_cases c2 : -4398046511103 ≤ v ∧ v ≤ 4398046511103
    · obtain ⟨t0, t1⟩ := c2
      have ht := outb_in v 4398046511103 t0 t1
      clear c1
      go_enter Try.func7, Try.ntmps7
      go_wp2_with fail
      refine (lives_any _).mono ?_
      rintro _ r1 ⟨rfl, hbr1⟩
      obtain ⟨hcr1, hfr1⟩ := bcell hbr1
      have hzr1 := hbr1.size
      try simp only [World.size_alloc, World.size_setCell, World.size_drew] at hzr1
      go_wp2_with fail
      refine (make_out v ho _).mono ?_
      rintro _ r2 ⟨rfl, hbr2⟩
      obtain ⟨hcr2, hfr2⟩ := bcell hbr2
      have hzr2 := hbr2.size
      try simp only [World.size_alloc, World.size_setCell, World.size_drew] at hzr2
      go_wp2_with fail
      refine (clamp_any v _).mono ?_
      rintro _ r3 ⟨rfl, hbr3⟩
      obtain ⟨hcr3, hfr3⟩ := bcell hbr3
      have hzr3 := hbr3.size
      try simp only [World.size_alloc, World.size_setCell, World.size_drew] at hzr3
      have hlr3r20 : r2.heap.size < r3.heap.size := by omega
      go_wp2_with fail
      refine (maketri_in v t0 t1 _).mono ?_
      rintro _ r4 ⟨rfl, hbr4⟩
      obtain ⟨hcr4, hfr4⟩ := bcell hbr4
      have hzr4 := hbr4.size
      try simp only [World.size_alloc, World.size_setCell, World.size_drew] at hzr4
      have hlr4r20 : r2.heap.size < r4.heap.size := by omega
      have hlr4r30 : r3.heap.size < r4.heap.size := by omega
      go_wp2_with fail
      refine (rclamp_any v _).mono ?_
      rintro _ r5 ⟨rfl, hbr5⟩
      obtain ⟨hcr5, hfr5⟩ := bcell hbr5
      have hzr5 := hbr5.size
      try simp only [World.size_alloc, World.size_setCell, World.size_drew] at hzr5
      have hlr5r20 : r2.heap.size < r5.heap.size := by omega
      have hlr5r30 : r3.heap.size < r5.heap.size := by omega
      have hlr5r40 : r4.heap.size < r5.heap.size := by omega
      go_wp2_with fail
      refine (rout_any v 4398046511103 (by omega) (by omega) _).mono ?_
      rintro _ _ ⟨rfl, rfl⟩
      go_wp2_with fail
      have hecr6 := @Ext.cell
      refine wp_region_ext (by kernel_rfl) (by kernel_rfl) ?_
      repeat (first | go_big_quiet_skip | (go_big_quiet_want; go_big_quiet_op; first | go_big_quiet_on | (go_big_quiet_call ((first | fail | (go_at_call 30; exact ext_call (rtriple_any v t0 t1 _)))))))
      clear hecr6
      refine wpQuiet_nil ?_
      rintro r6 ⟨⟨_, hbr6⟩, rfl⟩
      obtain ⟨hcr6, hfr6⟩ := bcell hbr6
      have hzr6 := hbr6.size
      try simp only [World.size_alloc, World.size_setCell, World.size_drew] at hzr6
      go_wp2
      go_ret
      exact ⟨rfl, (by repeat' (first | exact Below.refl _ _ | refine bl_alloc ?_ _ | refine bl_drew ?_ | refine bl_set ?_ _ ?_ | refine bl_via (by assumption) ?_ | (simp only []; omega) | omega | (simp; omega)))⟩
    · have ht : outb v 4398046511103 = true := decide_eq_true (by omega)
      clear c1 c2
      go_enter Try.func7, Try.ntmps7
      go_wp2_with fail
      refine (lives_any _).mono ?_
      rintro _ r1 ⟨rfl, hbr1⟩
      obtain ⟨hcr1, hfr1⟩ := bcell hbr1
      have hzr1 := hbr1.size
      try simp only [World.size_alloc, World.size_setCell, World.size_drew] at hzr1
      go_wp2_with fail
      refine (make_out v ho _).mono ?_
      rintro _ r2 ⟨rfl, hbr2⟩
      obtain ⟨hcr2, hfr2⟩ := bcell hbr2
      have hzr2 := hbr2.size
      try simp only [World.size_alloc, World.size_setCell, World.size_drew] at hzr2
      go_wp2_with fail
      refine (clamp_any v _).mono ?_
      rintro _ r3 ⟨rfl, hbr3⟩
      obtain ⟨hcr3, hfr3⟩ := bcell hbr3
      have hzr3 := hbr3.size
      try simp only [World.size_alloc, World.size_setCell, World.size_drew] at hzr3
      have hlr3r20 : r2.heap.size < r3.heap.size := by omega
      go_wp2_with fail
      refine (maketri_out v ht _).mono ?_
      rintro _ r4 ⟨rfl, hbr4⟩
      obtain ⟨hcr4, hfr4⟩ := bcell hbr4
      have hzr4 := hbr4.size
      try simp only [World.size_alloc, World.size_setCell, World.size_drew] at hzr4
      have hlr4r20 : r2.heap.size < r4.heap.size := by omega
      have hlr4r30 : r3.heap.size < r4.heap.size := by omega
      go_wp2_with fail
      refine (rclamp_any v _).mono ?_
      rintro _ r5 ⟨rfl, hbr5⟩
      obtain ⟨hcr5, hfr5⟩ := bcell hbr5
      have hzr5 := hbr5.size
      try simp only [World.size_alloc, World.size_setCell, World.size_drew] at hzr5
      have hlr5r20 : r2.heap.size < r5.heap.size := by omega
      have hlr5r30 : r3.heap.size < r5.heap.size := by omega
      have hlr5r40 : r4.heap.size < r5.heap.size := by omega
      go_wp2_with fail
      refine (rout_any v 4398046511103 (by omega) (by omega) _).mono ?_
      rintro _ _ ⟨rfl, rfl⟩
      go_wp2
      go_ret
      exact ⟨rfl, (by repeat' (first | exact Below.refl _ _ | refine bl_alloc ?_ _ | refine bl_drew ?_ | refine bl_set ?_ _ ?_ | refine bl_via (by assumption) ?_ | (simp only []; omega) | omega | (simp; omega)))⟩

end Go.Proofs.Ytojbdalhngcddaa
