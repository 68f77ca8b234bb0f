/- Contract of periluneref16.Half over this translation. -/
import Derived.Test.YtbbhppjamighdaaDoorFs
import Derived.Test.YtbbhppjamighdaaDoorRa
namespace Go.Proofs.YtbbhppjamighdaaDoor
set_option linter.unusedSimpArgs false
set_option linter.unusedVariables false
open Go.RowKit

theorem tmod_twice (v : Int) : -268435456 < v.tmod 268435456 ∧ v.tmod 268435456 < 268435456 ∧ (v.tmod 268435456 + 268435456).tmod 268435456 = v % 268435456 := by
  have h1 : v.tmod 268435456 = if 0 ≤ v then v % 268435456 else -((-v) % 268435456) := by
    split
    · exact Int.tmod_eq_emod_of_nonneg (by assumption)
    · have e : v.tmod 268435456 = -((-v).tmod 268435456) := by rw [Int.neg_tmod, Int.neg_neg]
      rw [e, Int.tmod_eq_emod_of_nonneg (by omega)]
  have h2 : -268435456 < v.tmod 268435456 ∧ v.tmod 268435456 < 268435456 := by rw [h1]; split <;> omega
  refine ⟨h2.1, h2.2, ?_⟩
  rw [Int.tmod_eq_emod_of_nonneg (by omega), h1]
  split <;> omega

set_option maxRecDepth 100000 in
set_option maxHeartbeats 2000000 in
theorem half_0 (v : Int) (v0 : -1073741824 ≤ v) (v1 : v ≤ 1073741824) (c1 : ¬ 134217728 ≤ v % 268435456) (c2 : ¬ 67108864 < v % 268435456) (w : World) :
    Calls Tryd.prog 60 #[.int .i64 v] w fun e w' => e = .returned (.agg #[.int .u16 (hi (sinq (v % 268435456))), .int .u16 (lo (sinq (v % 268435456)))]) ∧ Below w.heap.size w w' := by
  have m0 := Int.emod_nonneg v (b := 268435456) (by omega)
  have m1 := Int.emod_lt_of_pos v (b := 268435456) (by omega)
  obtain ⟨Z, g1, g2, g3, g4, g5, g6, s, ⟨y0, y1⟩, eZ, e1, e2, e3, e4, e5, e6, ⟨pa1, pb1⟩, ⟨pa2, pb2⟩, ⟨pa3, pb3⟩, ⟨pa4, pb4⟩, ⟨pa5, pb5⟩, ⟨pa6, pb6⟩, ⟨ra1, rb1⟩, ⟨ra2, rb2⟩, ⟨ra3, rb3⟩, ⟨ra4, rb4⟩, ⟨ra5, rb5⟩, ⟨ra6, rb6⟩, ⟨ya, yb⟩, es, ⟨s0, s1⟩, hs⟩ := sine_facts (v % 268435456) (by omega) (by omega)
  rw [← hs]; clear hs
  obtain ⟨t0, t1, hm⟩ := tmod_twice v
  go_enter Tryd.func60, Tryd.ntmps60
  go_wp2_with fail
  refine (rround_any (4 * (v % 268435456) * (4 * (v % 268435456))) 268435456 (by omega) (by omega) (by omega) (by omega) _).mono ?_
  rintro _ r1 ⟨rfl, hbr1⟩
  obtain ⟨hcr1, hfr1⟩ := bcell hbr1
  have hzr1 := hbr1.size
  try simp only [World.size_alloc, World.size_setCell, World.size_drew] at hzr1
  have hlr1w0 : w.heap.size < r1.heap.size := by omega
  have q1_0 : r1.cell? ⟨w.heap.size, 0, none⟩ = some (.int .u16 0) := (hcr1 _ _ (by (try simp only [World.size_alloc, World.size_setCell]); omega)).trans (by go_simp)
  have q1_1 : r1.cell? ⟨w.heap.size, 1, none⟩ = some (.int .u16 0) := (hcr1 _ _ (by (try simp only [World.size_alloc, World.size_setCell]); omega)).trans (by go_simp)
  go_wp2_with fail
  refine wp_loop_rounds 7 ?_
  rw [rounds_succ]
  go_wp2_with fail
  have hecr2 := @Ext.cell
  refine wp_region_ext (by kernel_rfl) (by kernel_rfl) ?_
  repeat (first | go_big_quiet_skip | (go_big_quiet_want; go_big_quiet_op; first | go_big_quiet_on | (go_big_quiet_call ((first | fail | (go_at_call 39; exact ext_call (rround_any _ _ (by omega) (by omega) (by omega) (by omega) _)))))))
  clear hecr2
  refine wpQuiet_nil ?_
  rintro r2 ⟨⟨_, hbr2⟩, rfl⟩
  obtain ⟨hcr2, hfr2⟩ := bcell hbr2
  have hzr2 := hbr2.size
  try simp only [World.size_alloc, World.size_setCell, World.size_drew] at hzr2
  have hlr2w0 : w.heap.size < r2.heap.size := by omega
  have hlr2r10 : r1.heap.size < r2.heap.size := by omega
  have q2_0 : r2.cell? ⟨w.heap.size, 0, none⟩ = some (.int .u16 0) := (hcr2 _ _ (by (try simp only [World.size_alloc, World.size_setCell]); omega)).trans ((World.cell?_alloc_lt _ _ _ (by omega)).trans q1_0)
  have q2_1 : r2.cell? ⟨w.heap.size, 1, none⟩ = some (.int .u16 0) := (hcr2 _ _ (by (try simp only [World.size_alloc, World.size_setCell]); omega)).trans ((World.cell?_alloc_lt _ _ _ (by omega)).trans q1_1)
  have k2_0 : r2.cell? ⟨r1.heap.size, 0, none⟩ = some (.int .i64 (-483)) := (hcr2 _ _ (by (try simp only [World.size_alloc, World.size_setCell]); omega)).trans (by go_simp)
  have k2_1 : r2.cell? ⟨r1.heap.size, 1, none⟩ = some (.int .i64 21534) := (hcr2 _ _ (by (try simp only [World.size_alloc, World.size_setCell]); omega)).trans (by go_simp)
  have k2_2 : r2.cell? ⟨r1.heap.size, 2, none⟩ = some (.int .i64 (-628374)) := (hcr2 _ _ (by (try simp only [World.size_alloc, World.size_setCell]); omega)).trans (by go_simp)
  have k2_3 : r2.cell? ⟨r1.heap.size, 3, none⟩ = some (.int .i64 10696163) := (hcr2 _ _ (by (try simp only [World.size_alloc, World.size_setCell]); omega)).trans (by go_simp)
  have k2_4 : r2.cell? ⟨r1.heap.size, 4, none⟩ = some (.int .i64 (-86699834)) := (hcr2 _ _ (by (try simp only [World.size_alloc, World.size_setCell]); omega)).trans (by go_simp)
  have k2_5 : r2.cell? ⟨r1.heap.size, 5, none⟩ = some (.int .i64 210828714) := (hcr2 _ _ (by (try simp only [World.size_alloc, World.size_setCell]); omega)).trans (by go_simp)
  have z2 : r1.heap.size < r2.heap.size := by omega
  go_wp2_with fail
  rw [rounds_succ]
  go_wp2_with fail
  have hecr3 := @Ext.cell
  refine wp_region_ext (by kernel_rfl) (by kernel_rfl) ?_
  repeat (first | go_big_quiet_skip | (go_big_quiet_want; go_big_quiet_op; first | go_big_quiet_on | (go_big_quiet_call ((first | fail | (go_at_call 39; exact ext_call (rround_any _ _ (by omega) (by omega) (by omega) (by omega) _)))))))
  clear hecr3
  refine wpQuiet_nil ?_
  rintro r3 ⟨⟨_, hbr3⟩, rfl⟩
  obtain ⟨hcr3, hfr3⟩ := bcell hbr3
  have hzr3 := hbr3.size
  try simp only [World.size_alloc, World.size_setCell, World.size_drew] at hzr3
  have hlr3w0 : w.heap.size < r3.heap.size := by omega
  have hlr3r10 : r1.heap.size < r3.heap.size := by omega
  have q3_0 : r3.cell? ⟨w.heap.size, 0, none⟩ = some (.int .u16 0) := (hcr3 _ _ (by (try simp only [World.size_alloc, World.size_setCell]); omega)).trans q2_0
  have q3_1 : r3.cell? ⟨w.heap.size, 1, none⟩ = some (.int .u16 0) := (hcr3 _ _ (by (try simp only [World.size_alloc, World.size_setCell]); omega)).trans q2_1
  have k3_0 : r3.cell? ⟨r1.heap.size, 0, none⟩ = some (.int .i64 (-483)) := (hcr3 _ _ (by (try simp only [World.size_alloc, World.size_setCell]); omega)).trans k2_0
  have k3_1 : r3.cell? ⟨r1.heap.size, 1, none⟩ = some (.int .i64 21534) := (hcr3 _ _ (by (try simp only [World.size_alloc, World.size_setCell]); omega)).trans k2_1
  have k3_2 : r3.cell? ⟨r1.heap.size, 2, none⟩ = some (.int .i64 (-628374)) := (hcr3 _ _ (by (try simp only [World.size_alloc, World.size_setCell]); omega)).trans k2_2
  have k3_3 : r3.cell? ⟨r1.heap.size, 3, none⟩ = some (.int .i64 10696163) := (hcr3 _ _ (by (try simp only [World.size_alloc, World.size_setCell]); omega)).trans k2_3
  have k3_4 : r3.cell? ⟨r1.heap.size, 4, none⟩ = some (.int .i64 (-86699834)) := (hcr3 _ _ (by (try simp only [World.size_alloc, World.size_setCell]); omega)).trans k2_4
  have k3_5 : r3.cell? ⟨r1.heap.size, 5, none⟩ = some (.int .i64 210828714) := (hcr3 _ _ (by (try simp only [World.size_alloc, World.size_setCell]); omega)).trans k2_5
  have z3 : r1.heap.size < r3.heap.size := by omega
  clear k2_0 k2_1 k2_2 k2_3 k2_4 k2_5
  go_wp2_with fail
  rw [rounds_succ]
  go_wp2_with fail
  have hecr4 := @Ext.cell
  refine wp_region_ext (by kernel_rfl) (by kernel_rfl) ?_
  repeat (first | go_big_quiet_skip | (go_big_quiet_want; go_big_quiet_op; first | go_big_quiet_on | (go_big_quiet_call ((first | fail | (go_at_call 39; exact ext_call (rround_any _ _ (by omega) (by omega) (by omega) (by omega) _)))))))
  clear hecr4
  refine wpQuiet_nil ?_
  rintro r4 ⟨⟨_, hbr4⟩, rfl⟩
  obtain ⟨hcr4, hfr4⟩ := bcell hbr4
  have hzr4 := hbr4.size
  try simp only [World.size_alloc, World.size_setCell, World.size_drew] at hzr4
  have hlr4w0 : w.heap.size < r4.heap.size := by omega
  have hlr4r10 : r1.heap.size < r4.heap.size := by omega
  have q4_0 : r4.cell? ⟨w.heap.size, 0, none⟩ = some (.int .u16 0) := (hcr4 _ _ (by (try simp only [World.size_alloc, World.size_setCell]); omega)).trans q3_0
  have q4_1 : r4.cell? ⟨w.heap.size, 1, none⟩ = some (.int .u16 0) := (hcr4 _ _ (by (try simp only [World.size_alloc, World.size_setCell]); omega)).trans q3_1
  have k4_0 : r4.cell? ⟨r1.heap.size, 0, none⟩ = some (.int .i64 (-483)) := (hcr4 _ _ (by (try simp only [World.size_alloc, World.size_setCell]); omega)).trans k3_0
  have k4_1 : r4.cell? ⟨r1.heap.size, 1, none⟩ = some (.int .i64 21534) := (hcr4 _ _ (by (try simp only [World.size_alloc, World.size_setCell]); omega)).trans k3_1
  have k4_2 : r4.cell? ⟨r1.heap.size, 2, none⟩ = some (.int .i64 (-628374)) := (hcr4 _ _ (by (try simp only [World.size_alloc, World.size_setCell]); omega)).trans k3_2
  have k4_3 : r4.cell? ⟨r1.heap.size, 3, none⟩ = some (.int .i64 10696163) := (hcr4 _ _ (by (try simp only [World.size_alloc, World.size_setCell]); omega)).trans k3_3
  have k4_4 : r4.cell? ⟨r1.heap.size, 4, none⟩ = some (.int .i64 (-86699834)) := (hcr4 _ _ (by (try simp only [World.size_alloc, World.size_setCell]); omega)).trans k3_4
  have k4_5 : r4.cell? ⟨r1.heap.size, 5, none⟩ = some (.int .i64 210828714) := (hcr4 _ _ (by (try simp only [World.size_alloc, World.size_setCell]); omega)).trans k3_5
  have z4 : r1.heap.size < r4.heap.size := by omega
  clear k3_0 k3_1 k3_2 k3_3 k3_4 k3_5
  go_wp2_with fail
  rw [rounds_succ]
  go_wp2_with fail
  have hecr5 := @Ext.cell
  refine wp_region_ext (by kernel_rfl) (by kernel_rfl) ?_
  repeat (first | go_big_quiet_skip | (go_big_quiet_want; go_big_quiet_op; first | go_big_quiet_on | (go_big_quiet_call ((first | fail | (go_at_call 39; exact ext_call (rround_any _ _ (by omega) (by omega) (by omega) (by omega) _)))))))
  clear hecr5
  refine wpQuiet_nil ?_
  rintro r5 ⟨⟨_, hbr5⟩, rfl⟩
  obtain ⟨hcr5, hfr5⟩ := bcell hbr5
  have hzr5 := hbr5.size
  try simp only [World.size_alloc, World.size_setCell, World.size_drew] at hzr5
  have hlr5w0 : w.heap.size < r5.heap.size := by omega
  have hlr5r10 : r1.heap.size < r5.heap.size := by omega
  have q5_0 : r5.cell? ⟨w.heap.size, 0, none⟩ = some (.int .u16 0) := (hcr5 _ _ (by (try simp only [World.size_alloc, World.size_setCell]); omega)).trans q4_0
  have q5_1 : r5.cell? ⟨w.heap.size, 1, none⟩ = some (.int .u16 0) := (hcr5 _ _ (by (try simp only [World.size_alloc, World.size_setCell]); omega)).trans q4_1
  have k5_0 : r5.cell? ⟨r1.heap.size, 0, none⟩ = some (.int .i64 (-483)) := (hcr5 _ _ (by (try simp only [World.size_alloc, World.size_setCell]); omega)).trans k4_0
  have k5_1 : r5.cell? ⟨r1.heap.size, 1, none⟩ = some (.int .i64 21534) := (hcr5 _ _ (by (try simp only [World.size_alloc, World.size_setCell]); omega)).trans k4_1
  have k5_2 : r5.cell? ⟨r1.heap.size, 2, none⟩ = some (.int .i64 (-628374)) := (hcr5 _ _ (by (try simp only [World.size_alloc, World.size_setCell]); omega)).trans k4_2
  have k5_3 : r5.cell? ⟨r1.heap.size, 3, none⟩ = some (.int .i64 10696163) := (hcr5 _ _ (by (try simp only [World.size_alloc, World.size_setCell]); omega)).trans k4_3
  have k5_4 : r5.cell? ⟨r1.heap.size, 4, none⟩ = some (.int .i64 (-86699834)) := (hcr5 _ _ (by (try simp only [World.size_alloc, World.size_setCell]); omega)).trans k4_4
  have k5_5 : r5.cell? ⟨r1.heap.size, 5, none⟩ = some (.int .i64 210828714) := (hcr5 _ _ (by (try simp only [World.size_alloc, World.size_setCell]); omega)).trans k4_5
  have z5 : r1.heap.size < r5.heap.size := by omega
  clear k4_0 k4_1 k4_2 k4_3 k4_4 k4_5
  go_wp2_with fail
  rw [rounds_succ]
  go_wp2_with fail
  have hecr6 := @Ext.cell
  refine wp_region_ext (by kernel_rfl) (by kernel_rfl) ?_
  repeat (first | go_big_quiet_skip | (go_big_quiet_want; go_big_quiet_op; first | go_big_quiet_on | (go_big_quiet_call ((first | fail | (go_at_call 39; exact ext_call (rround_any _ _ (by omega) (by omega) (by omega) (by omega) _)))))))
  clear hecr6
  refine wpQuiet_nil ?_
  rintro r6 ⟨⟨_, hbr6⟩, rfl⟩
  obtain ⟨hcr6, hfr6⟩ := bcell hbr6
  have hzr6 := hbr6.size
  try simp only [World.size_alloc, World.size_setCell, World.size_drew] at hzr6
  have hlr6w0 : w.heap.size < r6.heap.size := by omega
  have hlr6r10 : r1.heap.size < r6.heap.size := by omega
  have q6_0 : r6.cell? ⟨w.heap.size, 0, none⟩ = some (.int .u16 0) := (hcr6 _ _ (by (try simp only [World.size_alloc, World.size_setCell]); omega)).trans q5_0
  have q6_1 : r6.cell? ⟨w.heap.size, 1, none⟩ = some (.int .u16 0) := (hcr6 _ _ (by (try simp only [World.size_alloc, World.size_setCell]); omega)).trans q5_1
  have k6_0 : r6.cell? ⟨r1.heap.size, 0, none⟩ = some (.int .i64 (-483)) := (hcr6 _ _ (by (try simp only [World.size_alloc, World.size_setCell]); omega)).trans k5_0
  have k6_1 : r6.cell? ⟨r1.heap.size, 1, none⟩ = some (.int .i64 21534) := (hcr6 _ _ (by (try simp only [World.size_alloc, World.size_setCell]); omega)).trans k5_1
  have k6_2 : r6.cell? ⟨r1.heap.size, 2, none⟩ = some (.int .i64 (-628374)) := (hcr6 _ _ (by (try simp only [World.size_alloc, World.size_setCell]); omega)).trans k5_2
  have k6_3 : r6.cell? ⟨r1.heap.size, 3, none⟩ = some (.int .i64 10696163) := (hcr6 _ _ (by (try simp only [World.size_alloc, World.size_setCell]); omega)).trans k5_3
  have k6_4 : r6.cell? ⟨r1.heap.size, 4, none⟩ = some (.int .i64 (-86699834)) := (hcr6 _ _ (by (try simp only [World.size_alloc, World.size_setCell]); omega)).trans k5_4
  have k6_5 : r6.cell? ⟨r1.heap.size, 5, none⟩ = some (.int .i64 210828714) := (hcr6 _ _ (by (try simp only [World.size_alloc, World.size_setCell]); omega)).trans k5_5
  have z6 : r1.heap.size < r6.heap.size := by omega
  clear k5_0 k5_1 k5_2 k5_3 k5_4 k5_5
  go_wp2_with fail
  rw [rounds_succ]
  go_wp2_with fail
  have hecr7 := @Ext.cell
  refine wp_region_ext (by kernel_rfl) (by kernel_rfl) ?_
  repeat (first | go_big_quiet_skip | (go_big_quiet_want; go_big_quiet_op; first | go_big_quiet_on | (go_big_quiet_call ((first | fail | (go_at_call 39; exact ext_call (rround_any _ _ (by omega) (by omega) (by omega) (by omega) _)))))))
  clear hecr7
  refine wpQuiet_nil ?_
  rintro r7 ⟨⟨_, hbr7⟩, rfl⟩
  obtain ⟨hcr7, hfr7⟩ := bcell hbr7
  have hzr7 := hbr7.size
  try simp only [World.size_alloc, World.size_setCell, World.size_drew] at hzr7
  have hlr7w0 : w.heap.size < r7.heap.size := by omega
  have hlr7r10 : r1.heap.size < r7.heap.size := by omega
  have q7_0 : r7.cell? ⟨w.heap.size, 0, none⟩ = some (.int .u16 0) := (hcr7 _ _ (by (try simp only [World.size_alloc, World.size_setCell]); omega)).trans q6_0
  have q7_1 : r7.cell? ⟨w.heap.size, 1, none⟩ = some (.int .u16 0) := (hcr7 _ _ (by (try simp only [World.size_alloc, World.size_setCell]); omega)).trans q6_1
  have k7_0 : r7.cell? ⟨r1.heap.size, 0, none⟩ = some (.int .i64 (-483)) := (hcr7 _ _ (by (try simp only [World.size_alloc, World.size_setCell]); omega)).trans k6_0
  have k7_1 : r7.cell? ⟨r1.heap.size, 1, none⟩ = some (.int .i64 21534) := (hcr7 _ _ (by (try simp only [World.size_alloc, World.size_setCell]); omega)).trans k6_1
  have k7_2 : r7.cell? ⟨r1.heap.size, 2, none⟩ = some (.int .i64 (-628374)) := (hcr7 _ _ (by (try simp only [World.size_alloc, World.size_setCell]); omega)).trans k6_2
  have k7_3 : r7.cell? ⟨r1.heap.size, 3, none⟩ = some (.int .i64 10696163) := (hcr7 _ _ (by (try simp only [World.size_alloc, World.size_setCell]); omega)).trans k6_3
  have k7_4 : r7.cell? ⟨r1.heap.size, 4, none⟩ = some (.int .i64 (-86699834)) := (hcr7 _ _ (by (try simp only [World.size_alloc, World.size_setCell]); omega)).trans k6_4
  have k7_5 : r7.cell? ⟨r1.heap.size, 5, none⟩ = some (.int .i64 210828714) := (hcr7 _ _ (by (try simp only [World.size_alloc, World.size_setCell]); omega)).trans k6_5
  have z7 : r1.heap.size < r7.heap.size := by omega
  clear k6_0 k6_1 k6_2 k6_3 k6_4 k6_5
  go_wp2_with fail
  rw [rounds_succ]
  go_wp2_with fail
  refine (rround_any (4 * (v % 268435456) * g6) 268435456 (by omega) (by omega) (by omega) (by omega) _).mono ?_
  rintro _ r8 ⟨rfl, hbr8⟩
  obtain ⟨hcr8, hfr8⟩ := bcell hbr8
  have hzr8 := hbr8.size
  try simp only [World.size_alloc, World.size_setCell, World.size_drew] at hzr8
  have hlr8w0 : w.heap.size < r8.heap.size := by omega
  have q8_0 : r8.cell? ⟨w.heap.size, 0, none⟩ = some (.int .u16 0) := (hcr8 _ _ (by (try simp only [World.size_alloc, World.size_setCell]); omega)).trans q7_0
  have q8_1 : r8.cell? ⟨w.heap.size, 1, none⟩ = some (.int .u16 0) := (hcr8 _ _ (by (try simp only [World.size_alloc, World.size_setCell]); omega)).trans q7_1
  go_wp2_with fail
  refine (rdouble_any s (by omega) (by omega) _).mono ?_
  rintro _ r9 ⟨rfl, hbr9⟩
  obtain ⟨hcr9, hfr9⟩ := bcell hbr9
  have hzr9 := hbr9.size
  try simp only [World.size_alloc, World.size_setCell, World.size_drew] at hzr9
  have hlr9w0 : w.heap.size < r9.heap.size := by omega
  have q9_0 : r9.cell? ⟨w.heap.size, 0, none⟩ = some (.int .u16 0) := (hcr9 _ _ (by (try simp only [World.size_alloc, World.size_setCell]); omega)).trans q8_0
  have q9_1 : r9.cell? ⟨w.heap.size, 1, none⟩ = some (.int .u16 0) := (hcr9 _ _ (by (try simp only [World.size_alloc, World.size_setCell]); omega)).trans q8_1
  go_wp2
  refine bodyPost_ret (v := (.agg #[.int .u16 (hi (s)), .int .u16 (lo (s))])) (by simp [results, Tryd.results60, go_sem, *]) rfl ⟨rfl, ?_⟩; exact (by repeat' (first | (with_reducible exact Below.refl _ _) | (with_reducible refine bl_set ?_ _ ?_) | (with_reducible refine bl_alloc ?_ _) | (with_reducible refine bl_drew ?_) | (with_reducible refine bl_via (by with_reducible assumption) ?_) | (with_reducible assumption) | omega | (simp only []; omega) | (simp; omega)))

set_option maxRecDepth 100000 in
set_option maxHeartbeats 2000000 in
theorem half_1 (v : Int) (v0 : -1073741824 ≤ v) (v1 : v ≤ 1073741824) (c1 : ¬ 134217728 ≤ v % 268435456) (c2 : 67108864 < v % 268435456) (w : World) :
    Calls Tryd.prog 60 #[.int .i64 v] w fun e w' => e = .returned (.agg #[.int .u16 (hi (sinq (134217728 - v % 268435456))), .int .u16 (lo (sinq (134217728 - v % 268435456)))]) ∧ Below w.heap.size w w' := by
  have m0 := Int.emod_nonneg v (b := 268435456) (by omega)
  have m1 := Int.emod_lt_of_pos v (b := 268435456) (by omega)
  obtain ⟨Z, g1, g2, g3, g4, g5, g6, s, ⟨y0, y1⟩, eZ, e1, e2, e3, e4, e5, e6, ⟨pa1, pb1⟩, ⟨pa2, pb2⟩, ⟨pa3, pb3⟩, ⟨pa4, pb4⟩, ⟨pa5, pb5⟩, ⟨pa6, pb6⟩, ⟨ra1, rb1⟩, ⟨ra2, rb2⟩, ⟨ra3, rb3⟩, ⟨ra4, rb4⟩, ⟨ra5, rb5⟩, ⟨ra6, rb6⟩, ⟨ya, yb⟩, es, ⟨s0, s1⟩, hs⟩ := sine_facts (134217728 - v % 268435456) (by omega) (by omega)
  rw [← hs]; clear hs
  obtain ⟨t0, t1, hm⟩ := tmod_twice v
  go_enter Tryd.func60, Tryd.ntmps60
  go_wp2_with fail
  refine (rround_any (4 * (134217728 - v % 268435456) * (4 * (134217728 - v % 268435456))) 268435456 (by omega) (by omega) (by omega) (by omega) _).mono ?_
  rintro _ r1 ⟨rfl, hbr1⟩
  obtain ⟨hcr1, hfr1⟩ := bcell hbr1
  have hzr1 := hbr1.size
  try simp only [World.size_alloc, World.size_setCell, World.size_drew] at hzr1
  have hlr1w0 : w.heap.size < r1.heap.size := by omega
  have q1_0 : r1.cell? ⟨w.heap.size, 0, none⟩ = some (.int .u16 0) := (hcr1 _ _ (by (try simp only [World.size_alloc, World.size_setCell]); omega)).trans (by go_simp)
  have q1_1 : r1.cell? ⟨w.heap.size, 1, none⟩ = some (.int .u16 0) := (hcr1 _ _ (by (try simp only [World.size_alloc, World.size_setCell]); omega)).trans (by go_simp)
  go_wp2_with fail
  refine wp_loop_rounds 7 ?_
  rw [rounds_succ]
  go_wp2_with fail
  have hecr2 := @Ext.cell
  refine wp_region_ext (by kernel_rfl) (by kernel_rfl) ?_
  repeat (first | go_big_quiet_skip | (go_big_quiet_want; go_big_quiet_op; first | go_big_quiet_on | (go_big_quiet_call ((first | fail | (go_at_call 39; exact ext_call (rround_any _ _ (by omega) (by omega) (by omega) (by omega) _)))))))
  clear hecr2
  refine wpQuiet_nil ?_
  rintro r2 ⟨⟨_, hbr2⟩, rfl⟩
  obtain ⟨hcr2, hfr2⟩ := bcell hbr2
  have hzr2 := hbr2.size
  try simp only [World.size_alloc, World.size_setCell, World.size_drew] at hzr2
  have hlr2w0 : w.heap.size < r2.heap.size := by omega
  have hlr2r10 : r1.heap.size < r2.heap.size := by omega
  have q2_0 : r2.cell? ⟨w.heap.size, 0, none⟩ = some (.int .u16 0) := (hcr2 _ _ (by (try simp only [World.size_alloc, World.size_setCell]); omega)).trans ((World.cell?_alloc_lt _ _ _ (by omega)).trans q1_0)
  have q2_1 : r2.cell? ⟨w.heap.size, 1, none⟩ = some (.int .u16 0) := (hcr2 _ _ (by (try simp only [World.size_alloc, World.size_setCell]); omega)).trans ((World.cell?_alloc_lt _ _ _ (by omega)).trans q1_1)
  have k2_0 : r2.cell? ⟨r1.heap.size, 0, none⟩ = some (.int .i64 (-483)) := (hcr2 _ _ (by (try simp only [World.size_alloc, World.size_setCell]); omega)).trans (by go_simp)
  have k2_1 : r2.cell? ⟨r1.heap.size, 1, none⟩ = some (.int .i64 21534) := (hcr2 _ _ (by (try simp only [World.size_alloc, World.size_setCell]); omega)).trans (by go_simp)
  have k2_2 : r2.cell? ⟨r1.heap.size, 2, none⟩ = some (.int .i64 (-628374)) := (hcr2 _ _ (by (try simp only [World.size_alloc, World.size_setCell]); omega)).trans (by go_simp)
  have k2_3 : r2.cell? ⟨r1.heap.size, 3, none⟩ = some (.int .i64 10696163) := (hcr2 _ _ (by (try simp only [World.size_alloc, World.size_setCell]); omega)).trans (by go_simp)
  have k2_4 : r2.cell? ⟨r1.heap.size, 4, none⟩ = some (.int .i64 (-86699834)) := (hcr2 _ _ (by (try simp only [World.size_alloc, World.size_setCell]); omega)).trans (by go_simp)
  have k2_5 : r2.cell? ⟨r1.heap.size, 5, none⟩ = some (.int .i64 210828714) := (hcr2 _ _ (by (try simp only [World.size_alloc, World.size_setCell]); omega)).trans (by go_simp)
  have z2 : r1.heap.size < r2.heap.size := by omega
  go_wp2_with fail
  rw [rounds_succ]
  go_wp2_with fail
  have hecr3 := @Ext.cell
  refine wp_region_ext (by kernel_rfl) (by kernel_rfl) ?_
  repeat (first | go_big_quiet_skip | (go_big_quiet_want; go_big_quiet_op; first | go_big_quiet_on | (go_big_quiet_call ((first | fail | (go_at_call 39; exact ext_call (rround_any _ _ (by omega) (by omega) (by omega) (by omega) _)))))))
  clear hecr3
  refine wpQuiet_nil ?_
  rintro r3 ⟨⟨_, hbr3⟩, rfl⟩
  obtain ⟨hcr3, hfr3⟩ := bcell hbr3
  have hzr3 := hbr3.size
  try simp only [World.size_alloc, World.size_setCell, World.size_drew] at hzr3
  have hlr3w0 : w.heap.size < r3.heap.size := by omega
  have hlr3r10 : r1.heap.size < r3.heap.size := by omega
  have q3_0 : r3.cell? ⟨w.heap.size, 0, none⟩ = some (.int .u16 0) := (hcr3 _ _ (by (try simp only [World.size_alloc, World.size_setCell]); omega)).trans q2_0
  have q3_1 : r3.cell? ⟨w.heap.size, 1, none⟩ = some (.int .u16 0) := (hcr3 _ _ (by (try simp only [World.size_alloc, World.size_setCell]); omega)).trans q2_1
  have k3_0 : r3.cell? ⟨r1.heap.size, 0, none⟩ = some (.int .i64 (-483)) := (hcr3 _ _ (by (try simp only [World.size_alloc, World.size_setCell]); omega)).trans k2_0
  have k3_1 : r3.cell? ⟨r1.heap.size, 1, none⟩ = some (.int .i64 21534) := (hcr3 _ _ (by (try simp only [World.size_alloc, World.size_setCell]); omega)).trans k2_1
  have k3_2 : r3.cell? ⟨r1.heap.size, 2, none⟩ = some (.int .i64 (-628374)) := (hcr3 _ _ (by (try simp only [World.size_alloc, World.size_setCell]); omega)).trans k2_2
  have k3_3 : r3.cell? ⟨r1.heap.size, 3, none⟩ = some (.int .i64 10696163) := (hcr3 _ _ (by (try simp only [World.size_alloc, World.size_setCell]); omega)).trans k2_3
  have k3_4 : r3.cell? ⟨r1.heap.size, 4, none⟩ = some (.int .i64 (-86699834)) := (hcr3 _ _ (by (try simp only [World.size_alloc, World.size_setCell]); omega)).trans k2_4
  have k3_5 : r3.cell? ⟨r1.heap.size, 5, none⟩ = some (.int .i64 210828714) := (hcr3 _ _ (by (try simp only [World.size_alloc, World.size_setCell]); omega)).trans k2_5
  have z3 : r1.heap.size < r3.heap.size := by omega
  clear k2_0 k2_1 k2_2 k2_3 k2_4 k2_5
  go_wp2_with fail
  rw [rounds_succ]
  go_wp2_with fail
  have hecr4 := @Ext.cell
  refine wp_region_ext (by kernel_rfl) (by kernel_rfl) ?_
  repeat (first | go_big_quiet_skip | (go_big_quiet_want; go_big_quiet_op; first | go_big_quiet_on | (go_big_quiet_call ((first | fail | (go_at_call 39; exact ext_call (rround_any _ _ (by omega) (by omega) (by omega) (by omega) _)))))))
  clear hecr4
  refine wpQuiet_nil ?_
  rintro r4 ⟨⟨_, hbr4⟩, rfl⟩
  obtain ⟨hcr4, hfr4⟩ := bcell hbr4
  have hzr4 := hbr4.size
  try simp only [World.size_alloc, World.size_setCell, World.size_drew] at hzr4
  have hlr4w0 : w.heap.size < r4.heap.size := by omega
  have hlr4r10 : r1.heap.size < r4.heap.size := by omega
  have q4_0 : r4.cell? ⟨w.heap.size, 0, none⟩ = some (.int .u16 0) := (hcr4 _ _ (by (try simp only [World.size_alloc, World.size_setCell]); omega)).trans q3_0
  have q4_1 : r4.cell? ⟨w.heap.size, 1, none⟩ = some (.int .u16 0) := (hcr4 _ _ (by (try simp only [World.size_alloc, World.size_setCell]); omega)).trans q3_1
  have k4_0 : r4.cell? ⟨r1.heap.size, 0, none⟩ = some (.int .i64 (-483)) := (hcr4 _ _ (by (try simp only [World.size_alloc, World.size_setCell]); omega)).trans k3_0
  have k4_1 : r4.cell? ⟨r1.heap.size, 1, none⟩ = some (.int .i64 21534) := (hcr4 _ _ (by (try simp only [World.size_alloc, World.size_setCell]); omega)).trans k3_1
  have k4_2 : r4.cell? ⟨r1.heap.size, 2, none⟩ = some (.int .i64 (-628374)) := (hcr4 _ _ (by (try simp only [World.size_alloc, World.size_setCell]); omega)).trans k3_2
  have k4_3 : r4.cell? ⟨r1.heap.size, 3, none⟩ = some (.int .i64 10696163) := (hcr4 _ _ (by (try simp only [World.size_alloc, World.size_setCell]); omega)).trans k3_3
  have k4_4 : r4.cell? ⟨r1.heap.size, 4, none⟩ = some (.int .i64 (-86699834)) := (hcr4 _ _ (by (try simp only [World.size_alloc, World.size_setCell]); omega)).trans k3_4
  have k4_5 : r4.cell? ⟨r1.heap.size, 5, none⟩ = some (.int .i64 210828714) := (hcr4 _ _ (by (try simp only [World.size_alloc, World.size_setCell]); omega)).trans k3_5
  have z4 : r1.heap.size < r4.heap.size := by omega
  clear k3_0 k3_1 k3_2 k3_3 k3_4 k3_5
  go_wp2_with fail
  rw [rounds_succ]
  go_wp2_with fail
  have hecr5 := @Ext.cell
  refine wp_region_ext (by kernel_rfl) (by kernel_rfl) ?_
  repeat (first | go_big_quiet_skip | (go_big_quiet_want; go_big_quiet_op; first | go_big_quiet_on | (go_big_quiet_call ((first | fail | (go_at_call 39; exact ext_call (rround_any _ _ (by omega) (by omega) (by omega) (by omega) _)))))))
  clear hecr5
  refine wpQuiet_nil ?_
  rintro r5 ⟨⟨_, hbr5⟩, rfl⟩
  obtain ⟨hcr5, hfr5⟩ := bcell hbr5
  have hzr5 := hbr5.size
  try simp only [World.size_alloc, World.size_setCell, World.size_drew] at hzr5
  have hlr5w0 : w.heap.size < r5.heap.size := by omega
  have hlr5r10 : r1.heap.size < r5.heap.size := by omega
  have q5_0 : r5.cell? ⟨w.heap.size, 0, none⟩ = some (.int .u16 0) := (hcr5 _ _ (by (try simp only [World.size_alloc, World.size_setCell]); omega)).trans q4_0
  have q5_1 : r5.cell? ⟨w.heap.size, 1, none⟩ = some (.int .u16 0) := (hcr5 _ _ (by (try simp only [World.size_alloc, World.size_setCell]); omega)).trans q4_1
  have k5_0 : r5.cell? ⟨r1.heap.size, 0, none⟩ = some (.int .i64 (-483)) := (hcr5 _ _ (by (try simp only [World.size_alloc, World.size_setCell]); omega)).trans k4_0
  have k5_1 : r5.cell? ⟨r1.heap.size, 1, none⟩ = some (.int .i64 21534) := (hcr5 _ _ (by (try simp only [World.size_alloc, World.size_setCell]); omega)).trans k4_1
  have k5_2 : r5.cell? ⟨r1.heap.size, 2, none⟩ = some (.int .i64 (-628374)) := (hcr5 _ _ (by (try simp only [World.size_alloc, World.size_setCell]); omega)).trans k4_2
  have k5_3 : r5.cell? ⟨r1.heap.size, 3, none⟩ = some (.int .i64 10696163) := (hcr5 _ _ (by (try simp only [World.size_alloc, World.size_setCell]); omega)).trans k4_3
  have k5_4 : r5.cell? ⟨r1.heap.size, 4, none⟩ = some (.int .i64 (-86699834)) := (hcr5 _ _ (by (try simp only [World.size_alloc, World.size_setCell]); omega)).trans k4_4
  have k5_5 : r5.cell? ⟨r1.heap.size, 5, none⟩ = some (.int .i64 210828714) := (hcr5 _ _ (by (try simp only [World.size_alloc, World.size_setCell]); omega)).trans k4_5
  have z5 : r1.heap.size < r5.heap.size := by omega
  clear k4_0 k4_1 k4_2 k4_3 k4_4 k4_5
  go_wp2_with fail
  rw [rounds_succ]
  go_wp2_with fail
  have hecr6 := @Ext.cell
  refine wp_region_ext (by kernel_rfl) (by kernel_rfl) ?_
  repeat (first | go_big_quiet_skip | (go_big_quiet_want; go_big_quiet_op; first | go_big_quiet_on | (go_big_quiet_call ((first | fail | (go_at_call 39; exact ext_call (rround_any _ _ (by omega) (by omega) (by omega) (by omega) _)))))))
  clear hecr6
  refine wpQuiet_nil ?_
  rintro r6 ⟨⟨_, hbr6⟩, rfl⟩
  obtain ⟨hcr6, hfr6⟩ := bcell hbr6
  have hzr6 := hbr6.size
  try simp only [World.size_alloc, World.size_setCell, World.size_drew] at hzr6
  have hlr6w0 : w.heap.size < r6.heap.size := by omega
  have hlr6r10 : r1.heap.size < r6.heap.size := by omega
  have q6_0 : r6.cell? ⟨w.heap.size, 0, none⟩ = some (.int .u16 0) := (hcr6 _ _ (by (try simp only [World.size_alloc, World.size_setCell]); omega)).trans q5_0
  have q6_1 : r6.cell? ⟨w.heap.size, 1, none⟩ = some (.int .u16 0) := (hcr6 _ _ (by (try simp only [World.size_alloc, World.size_setCell]); omega)).trans q5_1
  have k6_0 : r6.cell? ⟨r1.heap.size, 0, none⟩ = some (.int .i64 (-483)) := (hcr6 _ _ (by (try simp only [World.size_alloc, World.size_setCell]); omega)).trans k5_0
  have k6_1 : r6.cell? ⟨r1.heap.size, 1, none⟩ = some (.int .i64 21534) := (hcr6 _ _ (by (try simp only [World.size_alloc, World.size_setCell]); omega)).trans k5_1
  have k6_2 : r6.cell? ⟨r1.heap.size, 2, none⟩ = some (.int .i64 (-628374)) := (hcr6 _ _ (by (try simp only [World.size_alloc, World.size_setCell]); omega)).trans k5_2
  have k6_3 : r6.cell? ⟨r1.heap.size, 3, none⟩ = some (.int .i64 10696163) := (hcr6 _ _ (by (try simp only [World.size_alloc, World.size_setCell]); omega)).trans k5_3
  have k6_4 : r6.cell? ⟨r1.heap.size, 4, none⟩ = some (.int .i64 (-86699834)) := (hcr6 _ _ (by (try simp only [World.size_alloc, World.size_setCell]); omega)).trans k5_4
  have k6_5 : r6.cell? ⟨r1.heap.size, 5, none⟩ = some (.int .i64 210828714) := (hcr6 _ _ (by (try simp only [World.size_alloc, World.size_setCell]); omega)).trans k5_5
  have z6 : r1.heap.size < r6.heap.size := by omega
  clear k5_0 k5_1 k5_2 k5_3 k5_4 k5_5
  go_wp2_with fail
  rw [rounds_succ]
  go_wp2_with fail
  have hecr7 := @Ext.cell
  refine wp_region_ext (by kernel_rfl) (by kernel_rfl) ?_
  repeat (first | go_big_quiet_skip | (go_big_quiet_want; go_big_quiet_op; first | go_big_quiet_on | (go_big_quiet_call ((first | fail | (go_at_call 39; exact ext_call (rround_any _ _ (by omega) (by omega) (by omega) (by omega) _)))))))
  clear hecr7
  refine wpQuiet_nil ?_
  rintro r7 ⟨⟨_, hbr7⟩, rfl⟩
  obtain ⟨hcr7, hfr7⟩ := bcell hbr7
  have hzr7 := hbr7.size
  try simp only [World.size_alloc, World.size_setCell, World.size_drew] at hzr7
  have hlr7w0 : w.heap.size < r7.heap.size := by omega
  have hlr7r10 : r1.heap.size < r7.heap.size := by omega
  have q7_0 : r7.cell? ⟨w.heap.size, 0, none⟩ = some (.int .u16 0) := (hcr7 _ _ (by (try simp only [World.size_alloc, World.size_setCell]); omega)).trans q6_0
  have q7_1 : r7.cell? ⟨w.heap.size, 1, none⟩ = some (.int .u16 0) := (hcr7 _ _ (by (try simp only [World.size_alloc, World.size_setCell]); omega)).trans q6_1
  have k7_0 : r7.cell? ⟨r1.heap.size, 0, none⟩ = some (.int .i64 (-483)) := (hcr7 _ _ (by (try simp only [World.size_alloc, World.size_setCell]); omega)).trans k6_0
  have k7_1 : r7.cell? ⟨r1.heap.size, 1, none⟩ = some (.int .i64 21534) := (hcr7 _ _ (by (try simp only [World.size_alloc, World.size_setCell]); omega)).trans k6_1
  have k7_2 : r7.cell? ⟨r1.heap.size, 2, none⟩ = some (.int .i64 (-628374)) := (hcr7 _ _ (by (try simp only [World.size_alloc, World.size_setCell]); omega)).trans k6_2
  have k7_3 : r7.cell? ⟨r1.heap.size, 3, none⟩ = some (.int .i64 10696163) := (hcr7 _ _ (by (try simp only [World.size_alloc, World.size_setCell]); omega)).trans k6_3
  have k7_4 : r7.cell? ⟨r1.heap.size, 4, none⟩ = some (.int .i64 (-86699834)) := (hcr7 _ _ (by (try simp only [World.size_alloc, World.size_setCell]); omega)).trans k6_4
  have k7_5 : r7.cell? ⟨r1.heap.size, 5, none⟩ = some (.int .i64 210828714) := (hcr7 _ _ (by (try simp only [World.size_alloc, World.size_setCell]); omega)).trans k6_5
  have z7 : r1.heap.size < r7.heap.size := by omega
  clear k6_0 k6_1 k6_2 k6_3 k6_4 k6_5
  go_wp2_with fail
  rw [rounds_succ]
  go_wp2_with fail
  refine (rround_any (4 * (134217728 - v % 268435456) * g6) 268435456 (by omega) (by omega) (by omega) (by omega) _).mono ?_
  rintro _ r8 ⟨rfl, hbr8⟩
  obtain ⟨hcr8, hfr8⟩ := bcell hbr8
  have hzr8 := hbr8.size
  try simp only [World.size_alloc, World.size_setCell, World.size_drew] at hzr8
  have hlr8w0 : w.heap.size < r8.heap.size := by omega
  have q8_0 : r8.cell? ⟨w.heap.size, 0, none⟩ = some (.int .u16 0) := (hcr8 _ _ (by (try simp only [World.size_alloc, World.size_setCell]); omega)).trans q7_0
  have q8_1 : r8.cell? ⟨w.heap.size, 1, none⟩ = some (.int .u16 0) := (hcr8 _ _ (by (try simp only [World.size_alloc, World.size_setCell]); omega)).trans q7_1
  go_wp2_with fail
  refine (rdouble_any s (by omega) (by omega) _).mono ?_
  rintro _ r9 ⟨rfl, hbr9⟩
  obtain ⟨hcr9, hfr9⟩ := bcell hbr9
  have hzr9 := hbr9.size
  try simp only [World.size_alloc, World.size_setCell, World.size_drew] at hzr9
  have hlr9w0 : w.heap.size < r9.heap.size := by omega
  have q9_0 : r9.cell? ⟨w.heap.size, 0, none⟩ = some (.int .u16 0) := (hcr9 _ _ (by (try simp only [World.size_alloc, World.size_setCell]); omega)).trans q8_0
  have q9_1 : r9.cell? ⟨w.heap.size, 1, none⟩ = some (.int .u16 0) := (hcr9 _ _ (by (try simp only [World.size_alloc, World.size_setCell]); omega)).trans q8_1
  go_wp2
  refine bodyPost_ret (v := (.agg #[.int .u16 (hi (s)), .int .u16 (lo (s))])) (by simp [results, Tryd.results60, go_sem, *]) rfl ⟨rfl, ?_⟩; exact (by repeat' (first | (with_reducible exact Below.refl _ _) | (with_reducible refine bl_set ?_ _ ?_) | (with_reducible refine bl_alloc ?_ _) | (with_reducible refine bl_drew ?_) | (with_reducible refine bl_via (by with_reducible assumption) ?_) | (with_reducible assumption) | omega | (simp only []; omega) | (simp; omega)))

set_option maxRecDepth 100000 in
set_option maxHeartbeats 2000000 in
theorem half_2 (v : Int) (v0 : -1073741824 ≤ v) (v1 : v ≤ 1073741824) (c1 : 134217728 ≤ v % 268435456) (c2 : ¬ v % 268435456 - 268435456 < -67108864) (w : World) :
    Calls Tryd.prog 60 #[.int .i64 v] w fun e w' => e = .returned (.agg #[.int .u16 (hi (sinq (v % 268435456 - 268435456))), .int .u16 (lo (sinq (v % 268435456 - 268435456)))]) ∧ Below w.heap.size w w' := by
  have m0 := Int.emod_nonneg v (b := 268435456) (by omega)
  have m1 := Int.emod_lt_of_pos v (b := 268435456) (by omega)
  obtain ⟨Z, g1, g2, g3, g4, g5, g6, s, ⟨y0, y1⟩, eZ, e1, e2, e3, e4, e5, e6, ⟨pa1, pb1⟩, ⟨pa2, pb2⟩, ⟨pa3, pb3⟩, ⟨pa4, pb4⟩, ⟨pa5, pb5⟩, ⟨pa6, pb6⟩, ⟨ra1, rb1⟩, ⟨ra2, rb2⟩, ⟨ra3, rb3⟩, ⟨ra4, rb4⟩, ⟨ra5, rb5⟩, ⟨ra6, rb6⟩, ⟨ya, yb⟩, es, ⟨s0, s1⟩, hs⟩ := sine_facts (v % 268435456 - 268435456) (by omega) (by omega)
  rw [← hs]; clear hs
  obtain ⟨t0, t1, hm⟩ := tmod_twice v
  go_enter Tryd.func60, Tryd.ntmps60
  go_wp2_with fail
  refine (rround_any (4 * (v % 268435456 - 268435456) * (4 * (v % 268435456 - 268435456))) 268435456 (by omega) (by omega) (by omega) (by omega) _).mono ?_
  rintro _ r1 ⟨rfl, hbr1⟩
  obtain ⟨hcr1, hfr1⟩ := bcell hbr1
  have hzr1 := hbr1.size
  try simp only [World.size_alloc, World.size_setCell, World.size_drew] at hzr1
  have hlr1w0 : w.heap.size < r1.heap.size := by omega
  have q1_0 : r1.cell? ⟨w.heap.size, 0, none⟩ = some (.int .u16 0) := (hcr1 _ _ (by (try simp only [World.size_alloc, World.size_setCell]); omega)).trans (by go_simp)
  have q1_1 : r1.cell? ⟨w.heap.size, 1, none⟩ = some (.int .u16 0) := (hcr1 _ _ (by (try simp only [World.size_alloc, World.size_setCell]); omega)).trans (by go_simp)
  go_wp2_with fail
  refine wp_loop_rounds 7 ?_
  rw [rounds_succ]
  go_wp2_with fail
  have hecr2 := @Ext.cell
  refine wp_region_ext (by kernel_rfl) (by kernel_rfl) ?_
  repeat (first | go_big_quiet_skip | (go_big_quiet_want; go_big_quiet_op; first | go_big_quiet_on | (go_big_quiet_call ((first | fail | (go_at_call 39; exact ext_call (rround_any _ _ (by omega) (by omega) (by omega) (by omega) _)))))))
  clear hecr2
  refine wpQuiet_nil ?_
  rintro r2 ⟨⟨_, hbr2⟩, rfl⟩
  obtain ⟨hcr2, hfr2⟩ := bcell hbr2
  have hzr2 := hbr2.size
  try simp only [World.size_alloc, World.size_setCell, World.size_drew] at hzr2
  have hlr2w0 : w.heap.size < r2.heap.size := by omega
  have hlr2r10 : r1.heap.size < r2.heap.size := by omega
  have q2_0 : r2.cell? ⟨w.heap.size, 0, none⟩ = some (.int .u16 0) := (hcr2 _ _ (by (try simp only [World.size_alloc, World.size_setCell]); omega)).trans ((World.cell?_alloc_lt _ _ _ (by omega)).trans q1_0)
  have q2_1 : r2.cell? ⟨w.heap.size, 1, none⟩ = some (.int .u16 0) := (hcr2 _ _ (by (try simp only [World.size_alloc, World.size_setCell]); omega)).trans ((World.cell?_alloc_lt _ _ _ (by omega)).trans q1_1)
  have k2_0 : r2.cell? ⟨r1.heap.size, 0, none⟩ = some (.int .i64 (-483)) := (hcr2 _ _ (by (try simp only [World.size_alloc, World.size_setCell]); omega)).trans (by go_simp)
  have k2_1 : r2.cell? ⟨r1.heap.size, 1, none⟩ = some (.int .i64 21534) := (hcr2 _ _ (by (try simp only [World.size_alloc, World.size_setCell]); omega)).trans (by go_simp)
  have k2_2 : r2.cell? ⟨r1.heap.size, 2, none⟩ = some (.int .i64 (-628374)) := (hcr2 _ _ (by (try simp only [World.size_alloc, World.size_setCell]); omega)).trans (by go_simp)
  have k2_3 : r2.cell? ⟨r1.heap.size, 3, none⟩ = some (.int .i64 10696163) := (hcr2 _ _ (by (try simp only [World.size_alloc, World.size_setCell]); omega)).trans (by go_simp)
  have k2_4 : r2.cell? ⟨r1.heap.size, 4, none⟩ = some (.int .i64 (-86699834)) := (hcr2 _ _ (by (try simp only [World.size_alloc, World.size_setCell]); omega)).trans (by go_simp)
  have k2_5 : r2.cell? ⟨r1.heap.size, 5, none⟩ = some (.int .i64 210828714) := (hcr2 _ _ (by (try simp only [World.size_alloc, World.size_setCell]); omega)).trans (by go_simp)
  have z2 : r1.heap.size < r2.heap.size := by omega
  go_wp2_with fail
  rw [rounds_succ]
  go_wp2_with fail
  have hecr3 := @Ext.cell
  refine wp_region_ext (by kernel_rfl) (by kernel_rfl) ?_
  repeat (first | go_big_quiet_skip | (go_big_quiet_want; go_big_quiet_op; first | go_big_quiet_on | (go_big_quiet_call ((first | fail | (go_at_call 39; exact ext_call (rround_any _ _ (by omega) (by omega) (by omega) (by omega) _)))))))
  clear hecr3
  refine wpQuiet_nil ?_
  rintro r3 ⟨⟨_, hbr3⟩, rfl⟩
  obtain ⟨hcr3, hfr3⟩ := bcell hbr3
  have hzr3 := hbr3.size
  try simp only [World.size_alloc, World.size_setCell, World.size_drew] at hzr3
  have hlr3w0 : w.heap.size < r3.heap.size := by omega
  have hlr3r10 : r1.heap.size < r3.heap.size := by omega
  have q3_0 : r3.cell? ⟨w.heap.size, 0, none⟩ = some (.int .u16 0) := (hcr3 _ _ (by (try simp only [World.size_alloc, World.size_setCell]); omega)).trans q2_0
  have q3_1 : r3.cell? ⟨w.heap.size, 1, none⟩ = some (.int .u16 0) := (hcr3 _ _ (by (try simp only [World.size_alloc, World.size_setCell]); omega)).trans q2_1
  have k3_0 : r3.cell? ⟨r1.heap.size, 0, none⟩ = some (.int .i64 (-483)) := (hcr3 _ _ (by (try simp only [World.size_alloc, World.size_setCell]); omega)).trans k2_0
  have k3_1 : r3.cell? ⟨r1.heap.size, 1, none⟩ = some (.int .i64 21534) := (hcr3 _ _ (by (try simp only [World.size_alloc, World.size_setCell]); omega)).trans k2_1
  have k3_2 : r3.cell? ⟨r1.heap.size, 2, none⟩ = some (.int .i64 (-628374)) := (hcr3 _ _ (by (try simp only [World.size_alloc, World.size_setCell]); omega)).trans k2_2
  have k3_3 : r3.cell? ⟨r1.heap.size, 3, none⟩ = some (.int .i64 10696163) := (hcr3 _ _ (by (try simp only [World.size_alloc, World.size_setCell]); omega)).trans k2_3
  have k3_4 : r3.cell? ⟨r1.heap.size, 4, none⟩ = some (.int .i64 (-86699834)) := (hcr3 _ _ (by (try simp only [World.size_alloc, World.size_setCell]); omega)).trans k2_4
  have k3_5 : r3.cell? ⟨r1.heap.size, 5, none⟩ = some (.int .i64 210828714) := (hcr3 _ _ (by (try simp only [World.size_alloc, World.size_setCell]); omega)).trans k2_5
  have z3 : r1.heap.size < r3.heap.size := by omega
  clear k2_0 k2_1 k2_2 k2_3 k2_4 k2_5
  go_wp2_with fail
  rw [rounds_succ]
  go_wp2_with fail
  have hecr4 := @Ext.cell
  refine wp_region_ext (by kernel_rfl) (by kernel_rfl) ?_
  repeat (first | go_big_quiet_skip | (go_big_quiet_want; go_big_quiet_op; first | go_big_quiet_on | (go_big_quiet_call ((first | fail | (go_at_call 39; exact ext_call (rround_any _ _ (by omega) (by omega) (by omega) (by omega) _)))))))
  clear hecr4
  refine wpQuiet_nil ?_
  rintro r4 ⟨⟨_, hbr4⟩, rfl⟩
  obtain ⟨hcr4, hfr4⟩ := bcell hbr4
  have hzr4 := hbr4.size
  try simp only [World.size_alloc, World.size_setCell, World.size_drew] at hzr4
  have hlr4w0 : w.heap.size < r4.heap.size := by omega
  have hlr4r10 : r1.heap.size < r4.heap.size := by omega
  have q4_0 : r4.cell? ⟨w.heap.size, 0, none⟩ = some (.int .u16 0) := (hcr4 _ _ (by (try simp only [World.size_alloc, World.size_setCell]); omega)).trans q3_0
  have q4_1 : r4.cell? ⟨w.heap.size, 1, none⟩ = some (.int .u16 0) := (hcr4 _ _ (by (try simp only [World.size_alloc, World.size_setCell]); omega)).trans q3_1
  have k4_0 : r4.cell? ⟨r1.heap.size, 0, none⟩ = some (.int .i64 (-483)) := (hcr4 _ _ (by (try simp only [World.size_alloc, World.size_setCell]); omega)).trans k3_0
  have k4_1 : r4.cell? ⟨r1.heap.size, 1, none⟩ = some (.int .i64 21534) := (hcr4 _ _ (by (try simp only [World.size_alloc, World.size_setCell]); omega)).trans k3_1
  have k4_2 : r4.cell? ⟨r1.heap.size, 2, none⟩ = some (.int .i64 (-628374)) := (hcr4 _ _ (by (try simp only [World.size_alloc, World.size_setCell]); omega)).trans k3_2
  have k4_3 : r4.cell? ⟨r1.heap.size, 3, none⟩ = some (.int .i64 10696163) := (hcr4 _ _ (by (try simp only [World.size_alloc, World.size_setCell]); omega)).trans k3_3
  have k4_4 : r4.cell? ⟨r1.heap.size, 4, none⟩ = some (.int .i64 (-86699834)) := (hcr4 _ _ (by (try simp only [World.size_alloc, World.size_setCell]); omega)).trans k3_4
  have k4_5 : r4.cell? ⟨r1.heap.size, 5, none⟩ = some (.int .i64 210828714) := (hcr4 _ _ (by (try simp only [World.size_alloc, World.size_setCell]); omega)).trans k3_5
  have z4 : r1.heap.size < r4.heap.size := by omega
  clear k3_0 k3_1 k3_2 k3_3 k3_4 k3_5
  go_wp2_with fail
  rw [rounds_succ]
  go_wp2_with fail
  have hecr5 := @Ext.cell
  refine wp_region_ext (by kernel_rfl) (by kernel_rfl) ?_
  repeat (first | go_big_quiet_skip | (go_big_quiet_want; go_big_quiet_op; first | go_big_quiet_on | (go_big_quiet_call ((first | fail | (go_at_call 39; exact ext_call (rround_any _ _ (by omega) (by omega) (by omega) (by omega) _)))))))
  clear hecr5
  refine wpQuiet_nil ?_
  rintro r5 ⟨⟨_, hbr5⟩, rfl⟩
  obtain ⟨hcr5, hfr5⟩ := bcell hbr5
  have hzr5 := hbr5.size
  try simp only [World.size_alloc, World.size_setCell, World.size_drew] at hzr5
  have hlr5w0 : w.heap.size < r5.heap.size := by omega
  have hlr5r10 : r1.heap.size < r5.heap.size := by omega
  have q5_0 : r5.cell? ⟨w.heap.size, 0, none⟩ = some (.int .u16 0) := (hcr5 _ _ (by (try simp only [World.size_alloc, World.size_setCell]); omega)).trans q4_0
  have q5_1 : r5.cell? ⟨w.heap.size, 1, none⟩ = some (.int .u16 0) := (hcr5 _ _ (by (try simp only [World.size_alloc, World.size_setCell]); omega)).trans q4_1
  have k5_0 : r5.cell? ⟨r1.heap.size, 0, none⟩ = some (.int .i64 (-483)) := (hcr5 _ _ (by (try simp only [World.size_alloc, World.size_setCell]); omega)).trans k4_0
  have k5_1 : r5.cell? ⟨r1.heap.size, 1, none⟩ = some (.int .i64 21534) := (hcr5 _ _ (by (try simp only [World.size_alloc, World.size_setCell]); omega)).trans k4_1
  have k5_2 : r5.cell? ⟨r1.heap.size, 2, none⟩ = some (.int .i64 (-628374)) := (hcr5 _ _ (by (try simp only [World.size_alloc, World.size_setCell]); omega)).trans k4_2
  have k5_3 : r5.cell? ⟨r1.heap.size, 3, none⟩ = some (.int .i64 10696163) := (hcr5 _ _ (by (try simp only [World.size_alloc, World.size_setCell]); omega)).trans k4_3
  have k5_4 : r5.cell? ⟨r1.heap.size, 4, none⟩ = some (.int .i64 (-86699834)) := (hcr5 _ _ (by (try simp only [World.size_alloc, World.size_setCell]); omega)).trans k4_4
  have k5_5 : r5.cell? ⟨r1.heap.size, 5, none⟩ = some (.int .i64 210828714) := (hcr5 _ _ (by (try simp only [World.size_alloc, World.size_setCell]); omega)).trans k4_5
  have z5 : r1.heap.size < r5.heap.size := by omega
  clear k4_0 k4_1 k4_2 k4_3 k4_4 k4_5
  go_wp2_with fail
  rw [rounds_succ]
  go_wp2_with fail
  have hecr6 := @Ext.cell
  refine wp_region_ext (by kernel_rfl) (by kernel_rfl) ?_
  repeat (first | go_big_quiet_skip | (go_big_quiet_want; go_big_quiet_op; first | go_big_quiet_on | (go_big_quiet_call ((first | fail | (go_at_call 39; exact ext_call (rround_any _ _ (by omega) (by omega) (by omega) (by omega) _)))))))
  clear hecr6
  refine wpQuiet_nil ?_
  rintro r6 ⟨⟨_, hbr6⟩, rfl⟩
  obtain ⟨hcr6, hfr6⟩ := bcell hbr6
  have hzr6 := hbr6.size
  try simp only [World.size_alloc, World.size_setCell, World.size_drew] at hzr6
  have hlr6w0 : w.heap.size < r6.heap.size := by omega
  have hlr6r10 : r1.heap.size < r6.heap.size := by omega
  have q6_0 : r6.cell? ⟨w.heap.size, 0, none⟩ = some (.int .u16 0) := (hcr6 _ _ (by (try simp only [World.size_alloc, World.size_setCell]); omega)).trans q5_0
  have q6_1 : r6.cell? ⟨w.heap.size, 1, none⟩ = some (.int .u16 0) := (hcr6 _ _ (by (try simp only [World.size_alloc, World.size_setCell]); omega)).trans q5_1
  have k6_0 : r6.cell? ⟨r1.heap.size, 0, none⟩ = some (.int .i64 (-483)) := (hcr6 _ _ (by (try simp only [World.size_alloc, World.size_setCell]); omega)).trans k5_0
  have k6_1 : r6.cell? ⟨r1.heap.size, 1, none⟩ = some (.int .i64 21534) := (hcr6 _ _ (by (try simp only [World.size_alloc, World.size_setCell]); omega)).trans k5_1
  have k6_2 : r6.cell? ⟨r1.heap.size, 2, none⟩ = some (.int .i64 (-628374)) := (hcr6 _ _ (by (try simp only [World.size_alloc, World.size_setCell]); omega)).trans k5_2
  have k6_3 : r6.cell? ⟨r1.heap.size, 3, none⟩ = some (.int .i64 10696163) := (hcr6 _ _ (by (try simp only [World.size_alloc, World.size_setCell]); omega)).trans k5_3
  have k6_4 : r6.cell? ⟨r1.heap.size, 4, none⟩ = some (.int .i64 (-86699834)) := (hcr6 _ _ (by (try simp only [World.size_alloc, World.size_setCell]); omega)).trans k5_4
  have k6_5 : r6.cell? ⟨r1.heap.size, 5, none⟩ = some (.int .i64 210828714) := (hcr6 _ _ (by (try simp only [World.size_alloc, World.size_setCell]); omega)).trans k5_5
  have z6 : r1.heap.size < r6.heap.size := by omega
  clear k5_0 k5_1 k5_2 k5_3 k5_4 k5_5
  go_wp2_with fail
  rw [rounds_succ]
  go_wp2_with fail
  have hecr7 := @Ext.cell
  refine wp_region_ext (by kernel_rfl) (by kernel_rfl) ?_
  repeat (first | go_big_quiet_skip | (go_big_quiet_want; go_big_quiet_op; first | go_big_quiet_on | (go_big_quiet_call ((first | fail | (go_at_call 39; exact ext_call (rround_any _ _ (by omega) (by omega) (by omega) (by omega) _)))))))
  clear hecr7
  refine wpQuiet_nil ?_
  rintro r7 ⟨⟨_, hbr7⟩, rfl⟩
  obtain ⟨hcr7, hfr7⟩ := bcell hbr7
  have hzr7 := hbr7.size
  try simp only [World.size_alloc, World.size_setCell, World.size_drew] at hzr7
  have hlr7w0 : w.heap.size < r7.heap.size := by omega
  have hlr7r10 : r1.heap.size < r7.heap.size := by omega
  have q7_0 : r7.cell? ⟨w.heap.size, 0, none⟩ = some (.int .u16 0) := (hcr7 _ _ (by (try simp only [World.size_alloc, World.size_setCell]); omega)).trans q6_0
  have q7_1 : r7.cell? ⟨w.heap.size, 1, none⟩ = some (.int .u16 0) := (hcr7 _ _ (by (try simp only [World.size_alloc, World.size_setCell]); omega)).trans q6_1
  have k7_0 : r7.cell? ⟨r1.heap.size, 0, none⟩ = some (.int .i64 (-483)) := (hcr7 _ _ (by (try simp only [World.size_alloc, World.size_setCell]); omega)).trans k6_0
  have k7_1 : r7.cell? ⟨r1.heap.size, 1, none⟩ = some (.int .i64 21534) := (hcr7 _ _ (by (try simp only [World.size_alloc, World.size_setCell]); omega)).trans k6_1
  have k7_2 : r7.cell? ⟨r1.heap.size, 2, none⟩ = some (.int .i64 (-628374)) := (hcr7 _ _ (by (try simp only [World.size_alloc, World.size_setCell]); omega)).trans k6_2
  have k7_3 : r7.cell? ⟨r1.heap.size, 3, none⟩ = some (.int .i64 10696163) := (hcr7 _ _ (by (try simp only [World.size_alloc, World.size_setCell]); omega)).trans k6_3
  have k7_4 : r7.cell? ⟨r1.heap.size, 4, none⟩ = some (.int .i64 (-86699834)) := (hcr7 _ _ (by (try simp only [World.size_alloc, World.size_setCell]); omega)).trans k6_4
  have k7_5 : r7.cell? ⟨r1.heap.size, 5, none⟩ = some (.int .i64 210828714) := (hcr7 _ _ (by (try simp only [World.size_alloc, World.size_setCell]); omega)).trans k6_5
  have z7 : r1.heap.size < r7.heap.size := by omega
  clear k6_0 k6_1 k6_2 k6_3 k6_4 k6_5
  go_wp2_with fail
  rw [rounds_succ]
  go_wp2_with fail
  refine (rround_any (4 * (v % 268435456 - 268435456) * g6) 268435456 (by omega) (by omega) (by omega) (by omega) _).mono ?_
  rintro _ r8 ⟨rfl, hbr8⟩
  obtain ⟨hcr8, hfr8⟩ := bcell hbr8
  have hzr8 := hbr8.size
  try simp only [World.size_alloc, World.size_setCell, World.size_drew] at hzr8
  have hlr8w0 : w.heap.size < r8.heap.size := by omega
  have q8_0 : r8.cell? ⟨w.heap.size, 0, none⟩ = some (.int .u16 0) := (hcr8 _ _ (by (try simp only [World.size_alloc, World.size_setCell]); omega)).trans q7_0
  have q8_1 : r8.cell? ⟨w.heap.size, 1, none⟩ = some (.int .u16 0) := (hcr8 _ _ (by (try simp only [World.size_alloc, World.size_setCell]); omega)).trans q7_1
  go_wp2_with fail
  refine (rdouble_any s (by omega) (by omega) _).mono ?_
  rintro _ r9 ⟨rfl, hbr9⟩
  obtain ⟨hcr9, hfr9⟩ := bcell hbr9
  have hzr9 := hbr9.size
  try simp only [World.size_alloc, World.size_setCell, World.size_drew] at hzr9
  have hlr9w0 : w.heap.size < r9.heap.size := by omega
  have q9_0 : r9.cell? ⟨w.heap.size, 0, none⟩ = some (.int .u16 0) := (hcr9 _ _ (by (try simp only [World.size_alloc, World.size_setCell]); omega)).trans q8_0
  have q9_1 : r9.cell? ⟨w.heap.size, 1, none⟩ = some (.int .u16 0) := (hcr9 _ _ (by (try simp only [World.size_alloc, World.size_setCell]); omega)).trans q8_1
  go_wp2
  refine bodyPost_ret (v := (.agg #[.int .u16 (hi (s)), .int .u16 (lo (s))])) (by simp [results, Tryd.results60, go_sem, *]) rfl ⟨rfl, ?_⟩; exact (by repeat' (first | (with_reducible exact Below.refl _ _) | (with_reducible refine bl_set ?_ _ ?_) | (with_reducible refine bl_alloc ?_ _) | (with_reducible refine bl_drew ?_) | (with_reducible refine bl_via (by with_reducible assumption) ?_) | (with_reducible assumption) | omega | (simp only []; omega) | (simp; omega)))

set_option maxRecDepth 100000 in
set_option maxHeartbeats 2000000 in
theorem half_3 (v : Int) (v0 : -1073741824 ≤ v) (v1 : v ≤ 1073741824) (c1 : 134217728 ≤ v % 268435456) (c2 : v % 268435456 - 268435456 < -67108864) (w : World) :
    Calls Tryd.prog 60 #[.int .i64 v] w fun e w' => e = .returned (.agg #[.int .u16 (hi (sinq (-134217728 - (v % 268435456 - 268435456)))), .int .u16 (lo (sinq (-134217728 - (v % 268435456 - 268435456))))]) ∧ Below w.heap.size w w' := by
  have m0 := Int.emod_nonneg v (b := 268435456) (by omega)
  have m1 := Int.emod_lt_of_pos v (b := 268435456) (by omega)
  obtain ⟨Z, g1, g2, g3, g4, g5, g6, s, ⟨y0, y1⟩, eZ, e1, e2, e3, e4, e5, e6, ⟨pa1, pb1⟩, ⟨pa2, pb2⟩, ⟨pa3, pb3⟩, ⟨pa4, pb4⟩, ⟨pa5, pb5⟩, ⟨pa6, pb6⟩, ⟨ra1, rb1⟩, ⟨ra2, rb2⟩, ⟨ra3, rb3⟩, ⟨ra4, rb4⟩, ⟨ra5, rb5⟩, ⟨ra6, rb6⟩, ⟨ya, yb⟩, es, ⟨s0, s1⟩, hs⟩ := sine_facts (-134217728 - (v % 268435456 - 268435456)) (by omega) (by omega)
  rw [← hs]; clear hs
  obtain ⟨t0, t1, hm⟩ := tmod_twice v
  go_enter Tryd.func60, Tryd.ntmps60
  go_wp2_with fail
  refine (rround_any (4 * (-134217728 - (v % 268435456 - 268435456)) * (4 * (-134217728 - (v % 268435456 - 268435456)))) 268435456 (by omega) (by omega) (by omega) (by omega) _).mono ?_
  rintro _ r1 ⟨rfl, hbr1⟩
  obtain ⟨hcr1, hfr1⟩ := bcell hbr1
  have hzr1 := hbr1.size
  try simp only [World.size_alloc, World.size_setCell, World.size_drew] at hzr1
  have hlr1w0 : w.heap.size < r1.heap.size := by omega
  have q1_0 : r1.cell? ⟨w.heap.size, 0, none⟩ = some (.int .u16 0) := (hcr1 _ _ (by (try simp only [World.size_alloc, World.size_setCell]); omega)).trans (by go_simp)
  have q1_1 : r1.cell? ⟨w.heap.size, 1, none⟩ = some (.int .u16 0) := (hcr1 _ _ (by (try simp only [World.size_alloc, World.size_setCell]); omega)).trans (by go_simp)
  go_wp2_with fail
  refine wp_loop_rounds 7 ?_
  rw [rounds_succ]
  go_wp2_with fail
  have hecr2 := @Ext.cell
  refine wp_region_ext (by kernel_rfl) (by kernel_rfl) ?_
  repeat (first | go_big_quiet_skip | (go_big_quiet_want; go_big_quiet_op; first | go_big_quiet_on | (go_big_quiet_call ((first | fail | (go_at_call 39; exact ext_call (rround_any _ _ (by omega) (by omega) (by omega) (by omega) _)))))))
  clear hecr2
  refine wpQuiet_nil ?_
  rintro r2 ⟨⟨_, hbr2⟩, rfl⟩
  obtain ⟨hcr2, hfr2⟩ := bcell hbr2
  have hzr2 := hbr2.size
  try simp only [World.size_alloc, World.size_setCell, World.size_drew] at hzr2
  have hlr2w0 : w.heap.size < r2.heap.size := by omega
  have hlr2r10 : r1.heap.size < r2.heap.size := by omega
  have q2_0 : r2.cell? ⟨w.heap.size, 0, none⟩ = some (.int .u16 0) := (hcr2 _ _ (by (try simp only [World.size_alloc, World.size_setCell]); omega)).trans ((World.cell?_alloc_lt _ _ _ (by omega)).trans q1_0)
  have q2_1 : r2.cell? ⟨w.heap.size, 1, none⟩ = some (.int .u16 0) := (hcr2 _ _ (by (try simp only [World.size_alloc, World.size_setCell]); omega)).trans ((World.cell?_alloc_lt _ _ _ (by omega)).trans q1_1)
  have k2_0 : r2.cell? ⟨r1.heap.size, 0, none⟩ = some (.int .i64 (-483)) := (hcr2 _ _ (by (try simp only [World.size_alloc, World.size_setCell]); omega)).trans (by go_simp)
  have k2_1 : r2.cell? ⟨r1.heap.size, 1, none⟩ = some (.int .i64 21534) := (hcr2 _ _ (by (try simp only [World.size_alloc, World.size_setCell]); omega)).trans (by go_simp)
  have k2_2 : r2.cell? ⟨r1.heap.size, 2, none⟩ = some (.int .i64 (-628374)) := (hcr2 _ _ (by (try simp only [World.size_alloc, World.size_setCell]); omega)).trans (by go_simp)
  have k2_3 : r2.cell? ⟨r1.heap.size, 3, none⟩ = some (.int .i64 10696163) := (hcr2 _ _ (by (try simp only [World.size_alloc, World.size_setCell]); omega)).trans (by go_simp)
  have k2_4 : r2.cell? ⟨r1.heap.size, 4, none⟩ = some (.int .i64 (-86699834)) := (hcr2 _ _ (by (try simp only [World.size_alloc, World.size_setCell]); omega)).trans (by go_simp)
  have k2_5 : r2.cell? ⟨r1.heap.size, 5, none⟩ = some (.int .i64 210828714) := (hcr2 _ _ (by (try simp only [World.size_alloc, World.size_setCell]); omega)).trans (by go_simp)
  have z2 : r1.heap.size < r2.heap.size := by omega
  go_wp2_with fail
  rw [rounds_succ]
  go_wp2_with fail
  have hecr3 := @Ext.cell
  refine wp_region_ext (by kernel_rfl) (by kernel_rfl) ?_
  repeat (first | go_big_quiet_skip | (go_big_quiet_want; go_big_quiet_op; first | go_big_quiet_on | (go_big_quiet_call ((first | fail | (go_at_call 39; exact ext_call (rround_any _ _ (by omega) (by omega) (by omega) (by omega) _)))))))
  clear hecr3
  refine wpQuiet_nil ?_
  rintro r3 ⟨⟨_, hbr3⟩, rfl⟩
  obtain ⟨hcr3, hfr3⟩ := bcell hbr3
  have hzr3 := hbr3.size
  try simp only [World.size_alloc, World.size_setCell, World.size_drew] at hzr3
  have hlr3w0 : w.heap.size < r3.heap.size := by omega
  have hlr3r10 : r1.heap.size < r3.heap.size := by omega
  have q3_0 : r3.cell? ⟨w.heap.size, 0, none⟩ = some (.int .u16 0) := (hcr3 _ _ (by (try simp only [World.size_alloc, World.size_setCell]); omega)).trans q2_0
  have q3_1 : r3.cell? ⟨w.heap.size, 1, none⟩ = some (.int .u16 0) := (hcr3 _ _ (by (try simp only [World.size_alloc, World.size_setCell]); omega)).trans q2_1
  have k3_0 : r3.cell? ⟨r1.heap.size, 0, none⟩ = some (.int .i64 (-483)) := (hcr3 _ _ (by (try simp only [World.size_alloc, World.size_setCell]); omega)).trans k2_0
  have k3_1 : r3.cell? ⟨r1.heap.size, 1, none⟩ = some (.int .i64 21534) := (hcr3 _ _ (by (try simp only [World.size_alloc, World.size_setCell]); omega)).trans k2_1
  have k3_2 : r3.cell? ⟨r1.heap.size, 2, none⟩ = some (.int .i64 (-628374)) := (hcr3 _ _ (by (try simp only [World.size_alloc, World.size_setCell]); omega)).trans k2_2
  have k3_3 : r3.cell? ⟨r1.heap.size, 3, none⟩ = some (.int .i64 10696163) := (hcr3 _ _ (by (try simp only [World.size_alloc, World.size_setCell]); omega)).trans k2_3
  have k3_4 : r3.cell? ⟨r1.heap.size, 4, none⟩ = some (.int .i64 (-86699834)) := (hcr3 _ _ (by (try simp only [World.size_alloc, World.size_setCell]); omega)).trans k2_4
  have k3_5 : r3.cell? ⟨r1.heap.size, 5, none⟩ = some (.int .i64 210828714) := (hcr3 _ _ (by (try simp only [World.size_alloc, World.size_setCell]); omega)).trans k2_5
  have z3 : r1.heap.size < r3.heap.size := by omega
  clear k2_0 k2_1 k2_2 k2_3 k2_4 k2_5
  go_wp2_with fail
  rw [rounds_succ]
  go_wp2_with fail
  have hecr4 := @Ext.cell
  refine wp_region_ext (by kernel_rfl) (by kernel_rfl) ?_
  repeat (first | go_big_quiet_skip | (go_big_quiet_want; go_big_quiet_op; first | go_big_quiet_on | (go_big_quiet_call ((first | fail | (go_at_call 39; exact ext_call (rround_any _ _ (by omega) (by omega) (by omega) (by omega) _)))))))
  clear hecr4
  refine wpQuiet_nil ?_
  rintro r4 ⟨⟨_, hbr4⟩, rfl⟩
  obtain ⟨hcr4, hfr4⟩ := bcell hbr4
  have hzr4 := hbr4.size
  try simp only [World.size_alloc, World.size_setCell, World.size_drew] at hzr4
  have hlr4w0 : w.heap.size < r4.heap.size := by omega
  have hlr4r10 : r1.heap.size < r4.heap.size := by omega
  have q4_0 : r4.cell? ⟨w.heap.size, 0, none⟩ = some (.int .u16 0) := (hcr4 _ _ (by (try simp only [World.size_alloc, World.size_setCell]); omega)).trans q3_0
  have q4_1 : r4.cell? ⟨w.heap.size, 1, none⟩ = some (.int .u16 0) := (hcr4 _ _ (by (try simp only [World.size_alloc, World.size_setCell]); omega)).trans q3_1
  have k4_0 : r4.cell? ⟨r1.heap.size, 0, none⟩ = some (.int .i64 (-483)) := (hcr4 _ _ (by (try simp only [World.size_alloc, World.size_setCell]); omega)).trans k3_0
  have k4_1 : r4.cell? ⟨r1.heap.size, 1, none⟩ = some (.int .i64 21534) := (hcr4 _ _ (by (try simp only [World.size_alloc, World.size_setCell]); omega)).trans k3_1
  have k4_2 : r4.cell? ⟨r1.heap.size, 2, none⟩ = some (.int .i64 (-628374)) := (hcr4 _ _ (by (try simp only [World.size_alloc, World.size_setCell]); omega)).trans k3_2
  have k4_3 : r4.cell? ⟨r1.heap.size, 3, none⟩ = some (.int .i64 10696163) := (hcr4 _ _ (by (try simp only [World.size_alloc, World.size_setCell]); omega)).trans k3_3
  have k4_4 : r4.cell? ⟨r1.heap.size, 4, none⟩ = some (.int .i64 (-86699834)) := (hcr4 _ _ (by (try simp only [World.size_alloc, World.size_setCell]); omega)).trans k3_4
  have k4_5 : r4.cell? ⟨r1.heap.size, 5, none⟩ = some (.int .i64 210828714) := (hcr4 _ _ (by (try simp only [World.size_alloc, World.size_setCell]); omega)).trans k3_5
  have z4 : r1.heap.size < r4.heap.size := by omega
  clear k3_0 k3_1 k3_2 k3_3 k3_4 k3_5
  go_wp2_with fail
  rw [rounds_succ]
  go_wp2_with fail
  have hecr5 := @Ext.cell
  refine wp_region_ext (by kernel_rfl) (by kernel_rfl) ?_
  repeat (first | go_big_quiet_skip | (go_big_quiet_want; go_big_quiet_op; first | go_big_quiet_on | (go_big_quiet_call ((first | fail | (go_at_call 39; exact ext_call (rround_any _ _ (by omega) (by omega) (by omega) (by omega) _)))))))
  clear hecr5
  refine wpQuiet_nil ?_
  rintro r5 ⟨⟨_, hbr5⟩, rfl⟩
  obtain ⟨hcr5, hfr5⟩ := bcell hbr5
  have hzr5 := hbr5.size
  try simp only [World.size_alloc, World.size_setCell, World.size_drew] at hzr5
  have hlr5w0 : w.heap.size < r5.heap.size := by omega
  have hlr5r10 : r1.heap.size < r5.heap.size := by omega
  have q5_0 : r5.cell? ⟨w.heap.size, 0, none⟩ = some (.int .u16 0) := (hcr5 _ _ (by (try simp only [World.size_alloc, World.size_setCell]); omega)).trans q4_0
  have q5_1 : r5.cell? ⟨w.heap.size, 1, none⟩ = some (.int .u16 0) := (hcr5 _ _ (by (try simp only [World.size_alloc, World.size_setCell]); omega)).trans q4_1
  have k5_0 : r5.cell? ⟨r1.heap.size, 0, none⟩ = some (.int .i64 (-483)) := (hcr5 _ _ (by (try simp only [World.size_alloc, World.size_setCell]); omega)).trans k4_0
  have k5_1 : r5.cell? ⟨r1.heap.size, 1, none⟩ = some (.int .i64 21534) := (hcr5 _ _ (by (try simp only [World.size_alloc, World.size_setCell]); omega)).trans k4_1
  have k5_2 : r5.cell? ⟨r1.heap.size, 2, none⟩ = some (.int .i64 (-628374)) := (hcr5 _ _ (by (try simp only [World.size_alloc, World.size_setCell]); omega)).trans k4_2
  have k5_3 : r5.cell? ⟨r1.heap.size, 3, none⟩ = some (.int .i64 10696163) := (hcr5 _ _ (by (try simp only [World.size_alloc, World.size_setCell]); omega)).trans k4_3
  have k5_4 : r5.cell? ⟨r1.heap.size, 4, none⟩ = some (.int .i64 (-86699834)) := (hcr5 _ _ (by (try simp only [World.size_alloc, World.size_setCell]); omega)).trans k4_4
  have k5_5 : r5.cell? ⟨r1.heap.size, 5, none⟩ = some (.int .i64 210828714) := (hcr5 _ _ (by (try simp only [World.size_alloc, World.size_setCell]); omega)).trans k4_5
  have z5 : r1.heap.size < r5.heap.size := by omega
  clear k4_0 k4_1 k4_2 k4_3 k4_4 k4_5
  go_wp2_with fail
  rw [rounds_succ]
  go_wp2_with fail
  have hecr6 := @Ext.cell
  refine wp_region_ext (by kernel_rfl) (by kernel_rfl) ?_
  repeat (first | go_big_quiet_skip | (go_big_quiet_want; go_big_quiet_op; first | go_big_quiet_on | (go_big_quiet_call ((first | fail | (go_at_call 39; exact ext_call (rround_any _ _ (by omega) (by omega) (by omega) (by omega) _)))))))
  clear hecr6
  refine wpQuiet_nil ?_
  rintro r6 ⟨⟨_, hbr6⟩, rfl⟩
  obtain ⟨hcr6, hfr6⟩ := bcell hbr6
  have hzr6 := hbr6.size
  try simp only [World.size_alloc, World.size_setCell, World.size_drew] at hzr6
  have hlr6w0 : w.heap.size < r6.heap.size := by omega
  have hlr6r10 : r1.heap.size < r6.heap.size := by omega
  have q6_0 : r6.cell? ⟨w.heap.size, 0, none⟩ = some (.int .u16 0) := (hcr6 _ _ (by (try simp only [World.size_alloc, World.size_setCell]); omega)).trans q5_0
  have q6_1 : r6.cell? ⟨w.heap.size, 1, none⟩ = some (.int .u16 0) := (hcr6 _ _ (by (try simp only [World.size_alloc, World.size_setCell]); omega)).trans q5_1
  have k6_0 : r6.cell? ⟨r1.heap.size, 0, none⟩ = some (.int .i64 (-483)) := (hcr6 _ _ (by (try simp only [World.size_alloc, World.size_setCell]); omega)).trans k5_0
  have k6_1 : r6.cell? ⟨r1.heap.size, 1, none⟩ = some (.int .i64 21534) := (hcr6 _ _ (by (try simp only [World.size_alloc, World.size_setCell]); omega)).trans k5_1
  have k6_2 : r6.cell? ⟨r1.heap.size, 2, none⟩ = some (.int .i64 (-628374)) := (hcr6 _ _ (by (try simp only [World.size_alloc, World.size_setCell]); omega)).trans k5_2
  have k6_3 : r6.cell? ⟨r1.heap.size, 3, none⟩ = some (.int .i64 10696163) := (hcr6 _ _ (by (try simp only [World.size_alloc, World.size_setCell]); omega)).trans k5_3
  have k6_4 : r6.cell? ⟨r1.heap.size, 4, none⟩ = some (.int .i64 (-86699834)) := (hcr6 _ _ (by (try simp only [World.size_alloc, World.size_setCell]); omega)).trans k5_4
  have k6_5 : r6.cell? ⟨r1.heap.size, 5, none⟩ = some (.int .i64 210828714) := (hcr6 _ _ (by (try simp only [World.size_alloc, World.size_setCell]); omega)).trans k5_5
  have z6 : r1.heap.size < r6.heap.size := by omega
  clear k5_0 k5_1 k5_2 k5_3 k5_4 k5_5
  go_wp2_with fail
  rw [rounds_succ]
  go_wp2_with fail
  have hecr7 := @Ext.cell
  refine wp_region_ext (by kernel_rfl) (by kernel_rfl) ?_
  repeat (first | go_big_quiet_skip | (go_big_quiet_want; go_big_quiet_op; first | go_big_quiet_on | (go_big_quiet_call ((first | fail | (go_at_call 39; exact ext_call (rround_any _ _ (by omega) (by omega) (by omega) (by omega) _)))))))
  clear hecr7
  refine wpQuiet_nil ?_
  rintro r7 ⟨⟨_, hbr7⟩, rfl⟩
  obtain ⟨hcr7, hfr7⟩ := bcell hbr7
  have hzr7 := hbr7.size
  try simp only [World.size_alloc, World.size_setCell, World.size_drew] at hzr7
  have hlr7w0 : w.heap.size < r7.heap.size := by omega
  have hlr7r10 : r1.heap.size < r7.heap.size := by omega
  have q7_0 : r7.cell? ⟨w.heap.size, 0, none⟩ = some (.int .u16 0) := (hcr7 _ _ (by (try simp only [World.size_alloc, World.size_setCell]); omega)).trans q6_0
  have q7_1 : r7.cell? ⟨w.heap.size, 1, none⟩ = some (.int .u16 0) := (hcr7 _ _ (by (try simp only [World.size_alloc, World.size_setCell]); omega)).trans q6_1
  have k7_0 : r7.cell? ⟨r1.heap.size, 0, none⟩ = some (.int .i64 (-483)) := (hcr7 _ _ (by (try simp only [World.size_alloc, World.size_setCell]); omega)).trans k6_0
  have k7_1 : r7.cell? ⟨r1.heap.size, 1, none⟩ = some (.int .i64 21534) := (hcr7 _ _ (by (try simp only [World.size_alloc, World.size_setCell]); omega)).trans k6_1
  have k7_2 : r7.cell? ⟨r1.heap.size, 2, none⟩ = some (.int .i64 (-628374)) := (hcr7 _ _ (by (try simp only [World.size_alloc, World.size_setCell]); omega)).trans k6_2
  have k7_3 : r7.cell? ⟨r1.heap.size, 3, none⟩ = some (.int .i64 10696163) := (hcr7 _ _ (by (try simp only [World.size_alloc, World.size_setCell]); omega)).trans k6_3
  have k7_4 : r7.cell? ⟨r1.heap.size, 4, none⟩ = some (.int .i64 (-86699834)) := (hcr7 _ _ (by (try simp only [World.size_alloc, World.size_setCell]); omega)).trans k6_4
  have k7_5 : r7.cell? ⟨r1.heap.size, 5, none⟩ = some (.int .i64 210828714) := (hcr7 _ _ (by (try simp only [World.size_alloc, World.size_setCell]); omega)).trans k6_5
  have z7 : r1.heap.size < r7.heap.size := by omega
  clear k6_0 k6_1 k6_2 k6_3 k6_4 k6_5
  go_wp2_with fail
  rw [rounds_succ]
  go_wp2_with fail
  refine (rround_any (4 * (-134217728 - (v % 268435456 - 268435456)) * g6) 268435456 (by omega) (by omega) (by omega) (by omega) _).mono ?_
  rintro _ r8 ⟨rfl, hbr8⟩
  obtain ⟨hcr8, hfr8⟩ := bcell hbr8
  have hzr8 := hbr8.size
  try simp only [World.size_alloc, World.size_setCell, World.size_drew] at hzr8
  have hlr8w0 : w.heap.size < r8.heap.size := by omega
  have q8_0 : r8.cell? ⟨w.heap.size, 0, none⟩ = some (.int .u16 0) := (hcr8 _ _ (by (try simp only [World.size_alloc, World.size_setCell]); omega)).trans q7_0
  have q8_1 : r8.cell? ⟨w.heap.size, 1, none⟩ = some (.int .u16 0) := (hcr8 _ _ (by (try simp only [World.size_alloc, World.size_setCell]); omega)).trans q7_1
  go_wp2_with fail
  refine (rdouble_any s (by omega) (by omega) _).mono ?_
  rintro _ r9 ⟨rfl, hbr9⟩
  obtain ⟨hcr9, hfr9⟩ := bcell hbr9
  have hzr9 := hbr9.size
  try simp only [World.size_alloc, World.size_setCell, World.size_drew] at hzr9
  have hlr9w0 : w.heap.size < r9.heap.size := by omega
  have q9_0 : r9.cell? ⟨w.heap.size, 0, none⟩ = some (.int .u16 0) := (hcr9 _ _ (by (try simp only [World.size_alloc, World.size_setCell]); omega)).trans q8_0
  have q9_1 : r9.cell? ⟨w.heap.size, 1, none⟩ = some (.int .u16 0) := (hcr9 _ _ (by (try simp only [World.size_alloc, World.size_setCell]); omega)).trans q8_1
  go_wp2
  refine bodyPost_ret (v := (.agg #[.int .u16 (hi (s)), .int .u16 (lo (s))])) (by simp [results, Tryd.results60, go_sem, *]) rfl ⟨rfl, ?_⟩; exact (by repeat' (first | (with_reducible exact Below.refl _ _) | (with_reducible refine bl_set ?_ _ ?_) | (with_reducible refine bl_alloc ?_ _) | (with_reducible refine bl_drew ?_) | (with_reducible refine bl_via (by with_reducible assumption) ?_) | (with_reducible assumption) | omega | (simp only []; omega) | (simp; omega)))

theorem rhalf_any (v : Int) (v0 : -1073741824 ≤ v) (v1 : v ≤ 1073741824) (w : World) :
    Calls Tryd.prog 60 #[.int .i64 v] w fun e w' => e = .returned (.agg #[.int .u16 (hi (sinv v)), .int .u16 (lo (sinv v))]) ∧ Below w.heap.size w w' := by
  unfold sinv red red1
  by_cases c1 : 134217728 ≤ v % 268435456
  · rw [if_pos c1]
    by_cases c2 : v % 268435456 - 268435456 < -67108864
    · rw [if_neg (by omega), if_pos c2]; exact half_3 v v0 v1 c1 c2 w
    · rw [if_neg (by omega), if_neg c2]; exact half_2 v v0 v1 c1 c2 w
  · rw [if_neg c1]
    by_cases c2 : 67108864 < v % 268435456
    · rw [if_pos c2]; exact half_1 v v0 v1 c1 c2 w
    · rw [if_neg c2, if_neg (by have := Int.emod_nonneg v (b := 268435456) (by omega); omega)]; exact half_0 v v0 v1 c1 c2 w
end Go.Proofs.YtbbhppjamighdaaDoor
