/- The walk of the law DescentKnown: it returns true. -/
import Derived.Test.YtpmocegfiniafaaQk
namespace Go.Proofs.Ytpmocegfiniafaa
set_option linter.unusedSimpArgs false
set_option linter.unusedVariables false
open Go.RowKit

theorem cbad (w : World) : Calls Try.prog 11 #[(.agg #[.int .u16 0, .int .u16 0, .int .u16 0, .int .u16 0, .int .u16 0, .int .u16 0, .int .u16 0, .int .u16 0, .int .u16 0, .int .u16 0, .int .u16 0, .int .u16 0]), (.agg #[.int .u16 0, .int .u16 0, .int .u16 0, .int .u16 0, .int .u16 0, .int .u16 0, .int .u16 0, .int .u16 0, .int .u16 0, .int .u16 0, .int .u16 0, .int .u16 0, .int .u16 0, .int .u16 0])] w fun e w' => e = .returned (.tuple #[(.agg #[.int .u16 (0), .int .u16 (0), .int .u16 (0), .int .u16 (0), .int .u16 (0), .int .u16 (0)]), .bool false, .int .i64 2]) ∧ Below w.heap.size w w' := by
  have C1 := fun w => value_any 0 0 (by omega) (by omega) (by omega) (by omega) w
  rw [show val 0 0 = 0 by decide +kernel] at C1
  go_enter Try.func11, Try.ntmps11
  go_wp2_with fail
  refine (C1 _).mono ?_
  rintro _ r1 ⟨rfl, hbr1⟩
  obtain ⟨hcr1, hfr1⟩ := bcell hbr1
  have hzr1 := hbr1.size
  try simp only [World.size_alloc, World.size_setCell, World.size_drew] at hzr1
  have hlr1w0 : w.heap.size < r1.heap.size := by omega
  have hlr1w1 : w.heap.size + 1 < r1.heap.size := by omega
  have hlr1w2 : w.heap.size + 1 + 1 < r1.heap.size := by omega
  go_wp2
  refine bodyPost_ret (v := (.tuple #[(.agg #[.int .u16 (0), .int .u16 (0), .int .u16 (0), .int .u16 (0), .int .u16 (0), .int .u16 (0)]), .bool false, .int .i64 2])) (by simp [results, Try.results11, go_sem, *]) rfl ⟨rfl, ?_⟩; exact (by repeat' (first | (with_reducible exact Below.refl _ _) | (with_reducible refine bl_set ?_ _ ?_) | (with_reducible refine bl_alloc ?_ _) | (with_reducible refine bl_drew ?_) | (with_reducible refine bl_via (by with_reducible assumption) ?_) | (with_reducible assumption) | omega | (simp only []; omega) | (simp; omega)))
theorem tl2 (w : World) : Calls Try.prog 18 #[(.agg #[.int .u16 2048, .int .u16 0, .int .u16 8192, .int .u16 0, .int .u16 12288, .int .u16 0, .int .u16 12288, .int .u16 0]), (.agg #[.int .u16 (0), .int .u16 (0)])] w fun e w' => e = .returned (.tuple #[(.agg #[.int .u16 (2048), .int .u16 (0)]), .int .i64 0]) ∧ Below w.heap.size w w' :=
  calls_val (throttle_any 0 0 2048 0 8192 0 12288 0 12288 0 (by omega) (by omega) (by omega) (by omega) (by omega) (by omega) (by omega) (by omega) (by omega) (by omega) (by omega) (by omega) (by omega) (by omega) (by omega) (by omega) (by omega) (by omega) (by omega) (by omega) (by decide +kernel) w) (by kernel_rfl)
theorem tl3 (w : World) : Calls Try.prog 18 #[(.agg #[.int .u16 2048, .int .u16 0, .int .u16 8192, .int .u16 0, .int .u16 12288, .int .u16 0, .int .u16 12288, .int .u16 0]), (.agg #[.int .u16 (11264), .int .u16 (0)])] w fun e w' => e = .returned (.tuple #[(.agg #[.int .u16 (12288), .int .u16 (0)]), .int .i64 0]) ∧ Below w.heap.size w w' :=
  calls_val (throttle_any 11264 0 2048 0 8192 0 12288 0 12288 0 (by omega) (by omega) (by omega) (by omega) (by omega) (by omega) (by omega) (by omega) (by omega) (by omega) (by omega) (by omega) (by omega) (by omega) (by omega) (by omega) (by omega) (by omega) (by omega) (by omega) (by decide +kernel) w) (by kernel_rfl)
theorem tl4 (w : World) : Calls Try.prog 18 #[(.agg #[.int .u16 2048, .int .u16 0, .int .u16 8192, .int .u16 0, .int .u16 12288, .int .u16 0, .int .u16 12288, .int .u16 0]), (.agg #[.int .u16 (4096), .int .u16 (0)])] w fun e w' => e = .returned (.tuple #[(.agg #[.int .u16 (4096), .int .u16 (0)]), .int .i64 0]) ∧ Below w.heap.size w w' :=
  calls_val (throttle_any 4096 0 2048 0 8192 0 12288 0 12288 0 (by omega) (by omega) (by omega) (by omega) (by omega) (by omega) (by omega) (by omega) (by omega) (by omega) (by omega) (by omega) (by omega) (by omega) (by omega) (by omega) (by omega) (by omega) (by omega) (by omega) (by decide +kernel) w) (by kernel_rfl)
theorem pl2 (w : World) : Calls Try.prog 23 #[.int .i64 0, (.agg #[.int .u16 (4096), .int .u16 (0)]), (.agg #[.int .u16 (0), .int .u16 (0)]), (.agg #[.int .u16 4096, .int .u16 0, .int .u16 2048, .int .u16 0, .int .u16 0, .int .u16 0])] w fun e w' => e = .returned (.tuple #[.int .i64 3, .int .i64 0]) ∧ Below w.heap.size w w' :=
  calls_val (phase_any 0 4096 0 0 0 4096 0 2048 0 0 0 (by omega) (by omega) (by omega) (by omega) (by omega) (by omega) (by omega) (by omega) (by omega) (by omega) (by omega) (by omega) (by omega) (by omega) (by omega) (by omega) (by omega) (by omega) (by omega) (by omega) (by omega) (by omega) w) (by kernel_rfl)
theorem pl3 (w : World) : Calls Try.prog 23 #[.int .i64 1, (.agg #[.int .u16 (8192), .int .u16 (0)]), (.agg #[.int .u16 (8192), .int .u16 (0)]), (.agg #[.int .u16 4096, .int .u16 0, .int .u16 2048, .int .u16 0, .int .u16 0, .int .u16 0])] w fun e w' => e = .returned (.tuple #[.int .i64 1, .int .i64 0]) ∧ Below w.heap.size w w' :=
  calls_val (phase_any 1 8192 0 8192 0 4096 0 2048 0 0 0 (by omega) (by omega) (by omega) (by omega) (by omega) (by omega) (by omega) (by omega) (by omega) (by omega) (by omega) (by omega) (by omega) (by omega) (by omega) (by omega) (by omega) (by omega) (by omega) (by omega) (by omega) (by omega) w) (by kernel_rfl)
theorem pl4 (w : World) : Calls Try.prog 23 #[.int .i64 4, (.agg #[.int .u16 (4096), .int .u16 (0)]), (.agg #[.int .u16 (4096), .int .u16 (0)]), (.agg #[.int .u16 4096, .int .u16 0, .int .u16 2048, .int .u16 0, .int .u16 0, .int .u16 0])] w fun e w' => e = .returned (.tuple #[.int .i64 0, .int .i64 2]) ∧ Below w.heap.size w w' := phase_bad 4 4096 0 4096 0 4096 0 2048 0 0 0 (by omega) (by omega) (by omega) (by omega) (by omega) (by omega) (by omega) (by omega) (by omega) (by omega) (by omega) (by omega) (by omega) (by omega) (by omega) (by omega) (by omega) (by omega) (by omega) (by omega) (by omega) w

set_option maxRecDepth 100000 in
set_option maxHeartbeats 8000000 in
theorem known35_law (w : World) : Calls Try.prog 8 #[] w fun e w' => e = .returned (.bool true) ∧ Below w.heap.size w w' := by
  have heq := @eq_dbl
  go_enter Try.func8, Try.ntmps8
  go_wp2_with fail
  refine (lives35 _).mono ?_
  rintro _ r1 ⟨rfl, hbr1⟩
  obtain ⟨hcr1, hfr1⟩ := bcell hbr1
  have hzr1 := hbr1.size
  try simp only [World.size_alloc, World.size_setCell, World.size_drew] at hzr1
  go_wp2_with fail
  refine (cbad _).mono ?_
  rintro _ r2 ⟨rfl, hbr2⟩
  obtain ⟨hcr2, hfr2⟩ := bcell hbr2
  have hzr2 := hbr2.size
  try simp only [World.size_alloc, World.size_setCell, World.size_drew] at hzr2
  have hlr2r10 : r1.heap.size < r2.heap.size := by omega
  have hlr2r11 : r1.heap.size + 1 < r2.heap.size := by omega
  go_wp2_with fail
  refine (engine35 _).mono ?_
  rintro _ r3 ⟨rfl, hbr3⟩
  obtain ⟨hcr3, hfr3⟩ := bcell hbr3
  have hzr3 := hbr3.size
  try simp only [World.size_alloc, World.size_setCell, World.size_drew] at hzr3
  have hlr3r10 : r1.heap.size < r3.heap.size := by omega
  have hlr3r11 : r1.heap.size + 1 < r3.heap.size := by omega
  have hlr3r20 : r2.heap.size < r3.heap.size := by omega
  go_wp2_with fail
  refine (tl2 _).mono ?_
  rintro _ r4 ⟨rfl, hbr4⟩
  obtain ⟨hcr4, hfr4⟩ := bcell hbr4
  have hzr4 := hbr4.size
  try simp only [World.size_alloc, World.size_setCell, World.size_drew] at hzr4
  have hlr4r10 : r1.heap.size < r4.heap.size := by omega
  have hlr4r11 : r1.heap.size + 1 < r4.heap.size := by omega
  have hlr4r20 : r2.heap.size < r4.heap.size := by omega
  go_wp2_with fail
  refine (engine35 _).mono ?_
  rintro _ r5 ⟨rfl, hbr5⟩
  obtain ⟨hcr5, hfr5⟩ := bcell hbr5
  have hzr5 := hbr5.size
  try simp only [World.size_alloc, World.size_setCell, World.size_drew] at hzr5
  have hlr5r10 : r1.heap.size < r5.heap.size := by omega
  have hlr5r11 : r1.heap.size + 1 < r5.heap.size := by omega
  have hlr5r20 : r2.heap.size < r5.heap.size := by omega
  have hlr5r40 : r4.heap.size < r5.heap.size := by omega
  go_wp2_with fail
  refine (tl3 _).mono ?_
  rintro _ r6 ⟨rfl, hbr6⟩
  obtain ⟨hcr6, hfr6⟩ := bcell hbr6
  have hzr6 := hbr6.size
  try simp only [World.size_alloc, World.size_setCell, World.size_drew] at hzr6
  have hlr6r10 : r1.heap.size < r6.heap.size := by omega
  have hlr6r11 : r1.heap.size + 1 < r6.heap.size := by omega
  have hlr6r20 : r2.heap.size < r6.heap.size := by omega
  have hlr6r40 : r4.heap.size < r6.heap.size := by omega
  go_wp2_with fail
  have hecr7 := @Ext.cell2
  refine wp_region_floatl 6 5 _ _ _ _ _ (.cells #[.int .u16 0, .int .u16 0] 25) (by kernel_rfl) rfl rfl (by kernel_rfl) (by kernel_rfl) rfl rfl rfl rfl (fun _ _ => by simp [go_sem]) (fun _ _ d _ _ h => by cases d <;> exact h) (by kernel_rfl) (by kernel_rfl) rfl ?_
  apply Exists.intro
  refine ⟨fun W' => ?_, ?_⟩
  · simp only [List.take_succ_cons, List.take_zero]
    repeat (first | go_big_quiet_skip | (go_big_quiet_want; go_big_quiet_op; first | go_big_quiet_on | (go_big_quiet_call ((first | fail | (go_at_call 25; with_reducible exact ext_call (engine35 _)) | (go_at_call 18; with_reducible exact ext_call (tl4 _)))))))
    exact wpQuiet_nil rfl
  clear hecr7
  simp only [List.drop_succ_cons, List.drop_zero, Act.put, List.setIfInBounds_toArray, List.set_cons_zero, List.set_cons_succ]
  intro B7 r7 hbr7 hBr7 hDr7 hEr7
  have hGr7_0 := block_cell hEr7 0
  have hGr7_1 := block_cell hEr7 1
  have hFr7 := block_free hEr7
  simp only [List.getElem?_toArray, List.getElem?_cons_zero, List.getElem?_cons_succ] at hGr7_0 hGr7_1
  clear hEr7
  try simp only [World.size_alloc, World.size_setCell, World.size_drew] at hBr7
  obtain ⟨hcr7, hfr7⟩ := bcell hbr7
  have hzr7 := hbr7.size
  try simp only [World.size_alloc, World.size_setCell, World.size_drew] at hzr7
  have hlr7r10 : r1.heap.size < r7.heap.size := by omega
  have hlr7r11 : r1.heap.size + 1 < r7.heap.size := by omega
  have hlr7r20 : r2.heap.size < r7.heap.size := by omega
  have hlr7r40 : r4.heap.size < r7.heap.size := by omega
  have hlr7r60 : r6.heap.size < r7.heap.size := by omega
  have e0 : r1.heap.size ≠ B7 := by omega
  have e0' := Ne.symm e0
  have e1 : r1.heap.size + 1 ≠ B7 := by omega
  have e1' := Ne.symm e1
  have e2 : r2.heap.size ≠ B7 := by omega
  have e2' := Ne.symm e2
  have e3 : r4.heap.size ≠ B7 := by omega
  have e3' := Ne.symm e3
  have e4 : r6.heap.size ≠ B7 := by omega
  have e4' := Ne.symm e4
  go_wp2_with fail
  have hecr8 := @Ext.cell
  refine wp_region_ext (by kernel_rfl) (by kernel_rfl) ?_
  repeat (first | go_big_quiet_skip | (go_big_quiet_want; go_big_quiet_op; first | go_big_quiet_on | (go_big_quiet_call ((first | fail | (go_at_call 26; with_reducible exact ext_call (gates35 _)) | (go_at_call 23; with_reducible exact ext_call (pl2 _)))))))
  clear hecr8
  refine wpQuiet_nil ?_
  rintro r8 ⟨⟨_, hbr8⟩, rfl⟩
  obtain ⟨hcr8, hfr8⟩ := bcell hbr8
  have hzr8 := hbr8.size
  try simp only [World.size_alloc, World.size_setCell, World.size_drew] at hzr8
  have hlr8r10 : r1.heap.size < r8.heap.size := by omega
  have hlr8r11 : r1.heap.size + 1 < r8.heap.size := by omega
  have hlr8r20 : r2.heap.size < r8.heap.size := by omega
  have hlr8r40 : r4.heap.size < r8.heap.size := by omega
  have hlr8r60 : r6.heap.size < r8.heap.size := by omega
  have hlr8B7 : B7 < r8.heap.size := by omega
  go_wp2_with fail
  have hecr9 := @Ext.cell
  refine wp_region_ext (by kernel_rfl) (by kernel_rfl) ?_
  repeat (first | go_big_quiet_skip | (go_big_quiet_want; go_big_quiet_op; first | go_big_quiet_on | (go_big_quiet_call ((first | fail | (go_at_call 26; with_reducible exact ext_call (gates35 _)) | (go_at_call 23; with_reducible exact ext_call (pl3 _)))))))
  clear hecr9
  refine wpQuiet_nil ?_
  rintro r9 ⟨⟨_, hbr9⟩, rfl⟩
  obtain ⟨hcr9, hfr9⟩ := bcell hbr9
  have hzr9 := hbr9.size
  try simp only [World.size_alloc, World.size_setCell, World.size_drew] at hzr9
  have hlr9r10 : r1.heap.size < r9.heap.size := by omega
  have hlr9r11 : r1.heap.size + 1 < r9.heap.size := by omega
  have hlr9r20 : r2.heap.size < r9.heap.size := by omega
  have hlr9r40 : r4.heap.size < r9.heap.size := by omega
  have hlr9r60 : r6.heap.size < r9.heap.size := by omega
  have hlr9B7 : B7 < r9.heap.size := by omega
  go_wp2_with fail
  have hecr10 := @Ext.cell
  refine wp_region_ext (by kernel_rfl) (by kernel_rfl) ?_
  repeat (first | go_big_quiet_skip | (go_big_quiet_want; go_big_quiet_op; first | go_big_quiet_on | (go_big_quiet_call ((first | fail | (go_at_call 26; with_reducible exact ext_call (gates35 _)) | (go_at_call 23; with_reducible exact ext_call (pl4 _)))))))
  clear hecr10
  refine wpQuiet_nil ?_
  rintro r10 ⟨⟨_, hbr10⟩, rfl⟩
  obtain ⟨hcr10, hfr10⟩ := bcell hbr10
  have hzr10 := hbr10.size
  try simp only [World.size_alloc, World.size_setCell, World.size_drew] at hzr10
  have hlr10r10 : r1.heap.size < r10.heap.size := by omega
  have hlr10r11 : r1.heap.size + 1 < r10.heap.size := by omega
  have hlr10r20 : r2.heap.size < r10.heap.size := by omega
  have hlr10r40 : r4.heap.size < r10.heap.size := by omega
  have hlr10r60 : r6.heap.size < r10.heap.size := by omega
  have hlr10B7 : B7 < r10.heap.size := by omega
  go_wp2
  go_ret
  exact ⟨rfl, (by repeat' (first | (with_reducible exact Below.refl _ _) | (with_reducible refine bl_set ?_ _ ?_) | (with_reducible refine bl_alloc ?_ _) | (with_reducible refine bl_drew ?_) | (with_reducible refine bl_via (by with_reducible assumption) ?_) | (with_reducible assumption) | omega | (simp only []; omega) | (simp; omega)))⟩
end Go.Proofs.Ytpmocegfiniafaa
