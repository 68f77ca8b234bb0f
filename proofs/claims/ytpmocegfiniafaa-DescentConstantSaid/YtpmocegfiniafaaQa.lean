/- Contracts of Phase, of package descent and of its reference, over this translation. -/
import Derived.Test.YtpmocegfiniafaaDb
import Derived.Test.YtpmocegfiniafaaRa
namespace Go.Proofs.Ytpmocegfiniafaa
set_option linter.unusedSimpArgs false
set_option linter.unusedVariables false
open Go.RowKit

theorem cmpv_le (a b : Int) : decide (cmpv a b ≤ 0) = decide (a ≤ b) := by
  apply decide_eq_decide.2
  unfold cmpv
  (repeat' split) <;> omega

set_option maxRecDepth 100000 in
set_option maxHeartbeats 4000000 in
theorem phase_0f (t0 t1 z0 z1 g0 g1 g2 g3 g4 g5 : Int) (ht00 : 0 ≤ t0) (ht01 : t0 < 65536) (ht10 : 0 ≤ t1) (ht11 : t1 < 65536) (hz00 : 0 ≤ z0) (hz01 : z0 < 65536) (hz10 : 0 ≤ z1) (hz11 : z1 < 65536) (hg00 : 0 ≤ g0) (hg01 : g0 < 65536) (hg10 : 0 ≤ g1) (hg11 : g1 < 65536) (hg20 : 0 ≤ g2) (hg21 : g2 < 65536) (hg30 : 0 ≤ g3) (hg31 : g3 < 65536) (hg40 : 0 ≤ g4) (hg41 : g4 < 65536) (hg50 : 0 ≤ g5) (hg51 : g5 < 65536) (c0 : decide (val t0 t1 ≤ val g0 g1) = false) (w : World) :
    Calls Try.prog 23 #[.int .i64 (0), (.agg #[.int .u16 (t0), .int .u16 (t1)]), (.agg #[.int .u16 (z0), .int .u16 (z1)]), (.agg #[.int .u16 (g0), .int .u16 (g1), .int .u16 (g2), .int .u16 (g3), .int .u16 (g4), .int .u16 (g5)])] w fun e w' => e = .returned (.tuple #[.int .i64 0, .int .i64 0]) ∧ Below w.heap.size w w' := by
  rw [← cmpv_le] at c0
  obtain ⟨k0, ek0⟩ : ∃ k, k = cmpv (val t0 t1) (val g0 g1) := ⟨_, rfl⟩
  have C0 := fun w => cmp_any t0 t1 g0 g1 ht00 ht01 ht10 ht11 hg00 hg01 hg10 hg11 w
  rw [← ek0] at c0 C0
  clear ek0
  have x0 : ∀ w : World, (Instr.index 26 (.agg #[.int .u16 t0, .int .u16 t1, .int .u16 z0, .int .u16 z1, .int .u16 z0, .int .u16 z1]) (.int .i64 0)).run Try.prog w = .ok (.agg #[.int .u16 t0, .int .u16 t1]) w := fun _ => by kernel_rfl
  have x1 : ∀ w : World, (Instr.index 26 (.agg #[.int .u16 t0, .int .u16 t1, .int .u16 z0, .int .u16 z1, .int .u16 z0, .int .u16 z1]) (.int .i64 1)).run Try.prog w = .ok (.agg #[.int .u16 z0, .int .u16 z1]) w := fun _ => by kernel_rfl
  have x2 : ∀ w : World, (Instr.index 26 (.agg #[.int .u16 t0, .int .u16 t1, .int .u16 z0, .int .u16 z1, .int .u16 z0, .int .u16 z1]) (.int .i64 2)).run Try.prog w = .ok (.agg #[.int .u16 z0, .int .u16 z1]) w := fun _ => by kernel_rfl
  go_enter Try.func23, Try.ntmps23
  go_wp2_with fail
  refine wp_loop_rounds 4 ?_
  rw [rounds_succ]
  go_wp2_with fail
  have hecr1 := @Ext.cell
  refine wp_region_ext (by kernel_rfl) (by kernel_rfl) ?_
  repeat (first | go_big_quiet_skip | (go_big_quiet_want; go_big_quiet_op; first | go_big_quiet_on | (go_big_quiet_call ((first | fail | (go_at_call 46; exact ext_call (C0 _)))))))
  clear hecr1
  refine wpQuiet_nil ?_
  rintro r1 ⟨⟨_, hbr1⟩, rfl⟩
  obtain ⟨hcr1, hfr1⟩ := bcell hbr1
  have hzr1 := hbr1.size
  try simp only [World.size_alloc, World.size_setCell, World.size_drew] at hzr1
  have hlr1w0 : w.heap.size < r1.heap.size := by omega
  have hlr1w1 : w.heap.size + 1 < r1.heap.size := by omega
  have hlr1w2 : w.heap.size + 1 + 1 < r1.heap.size := by omega
  go_wp2_with fail
  rw [rounds_succ]
  go_wp2_with fail
  have hecr2 := @Ext.cell
  refine wp_region_ext (by kernel_rfl) (by kernel_rfl) ?_
  repeat (first | go_big_quiet_skip | (go_big_quiet_want; go_big_quiet_op; first | go_big_quiet_on | (go_big_quiet_call ((first | fail | fail)))))
  clear hecr2
  refine wpQuiet_nil ?_
  rintro r2 ⟨⟨_, hbr2⟩, rfl⟩
  obtain ⟨hcr2, hfr2⟩ := bcell hbr2
  have hzr2 := hbr2.size
  try simp only [World.size_alloc, World.size_setCell, World.size_drew] at hzr2
  have hlr2w0 : w.heap.size < r2.heap.size := by omega
  have hlr2w1 : w.heap.size + 1 < r2.heap.size := by omega
  have hlr2w2 : w.heap.size + 1 + 1 < r2.heap.size := by omega
  go_wp2_with fail
  rw [rounds_succ]
  go_wp2_with fail
  have hecr3 := @Ext.cell
  refine wp_region_ext (by kernel_rfl) (by kernel_rfl) ?_
  repeat (first | go_big_quiet_skip | (go_big_quiet_want; go_big_quiet_op; first | go_big_quiet_on | (go_big_quiet_call ((first | fail | fail)))))
  clear hecr3
  refine wpQuiet_nil ?_
  rintro r3 ⟨⟨_, hbr3⟩, rfl⟩
  obtain ⟨hcr3, hfr3⟩ := bcell hbr3
  have hzr3 := hbr3.size
  try simp only [World.size_alloc, World.size_setCell, World.size_drew] at hzr3
  have hlr3w0 : w.heap.size < r3.heap.size := by omega
  have hlr3w1 : w.heap.size + 1 < r3.heap.size := by omega
  have hlr3w2 : w.heap.size + 1 + 1 < r3.heap.size := by omega
  go_wp2_with fail
  rw [rounds_succ]
  go_wp2
  refine bodyPost_ret (v := (.tuple #[.int .i64 0, .int .i64 0])) (by simp [results, Try.results23, go_sem, *]) rfl ⟨rfl, ?_⟩; exact (by repeat' (first | (with_reducible exact Below.refl _ _) | (with_reducible refine bl_set ?_ _ ?_) | (with_reducible refine bl_alloc ?_ _) | (with_reducible refine bl_drew ?_) | (with_reducible refine bl_via (by with_reducible assumption) ?_) | (with_reducible assumption) | omega | (simp only []; omega) | (simp; omega)))

set_option maxRecDepth 100000 in
set_option maxHeartbeats 4000000 in
theorem phase_0tf (t0 t1 z0 z1 g0 g1 g2 g3 g4 g5 : Int) (ht00 : 0 ≤ t0) (ht01 : t0 < 65536) (ht10 : 0 ≤ t1) (ht11 : t1 < 65536) (hz00 : 0 ≤ z0) (hz01 : z0 < 65536) (hz10 : 0 ≤ z1) (hz11 : z1 < 65536) (hg00 : 0 ≤ g0) (hg01 : g0 < 65536) (hg10 : 0 ≤ g1) (hg11 : g1 < 65536) (hg20 : 0 ≤ g2) (hg21 : g2 < 65536) (hg30 : 0 ≤ g3) (hg31 : g3 < 65536) (hg40 : 0 ≤ g4) (hg41 : g4 < 65536) (hg50 : 0 ≤ g5) (hg51 : g5 < 65536) (c0 : decide (val t0 t1 ≤ val g0 g1) = true) (c1 : decide (val z0 z1 ≤ val g2 g3) = false) (w : World) :
    Calls Try.prog 23 #[.int .i64 (0), (.agg #[.int .u16 (t0), .int .u16 (t1)]), (.agg #[.int .u16 (z0), .int .u16 (z1)]), (.agg #[.int .u16 (g0), .int .u16 (g1), .int .u16 (g2), .int .u16 (g3), .int .u16 (g4), .int .u16 (g5)])] w fun e w' => e = .returned (.tuple #[.int .i64 1, .int .i64 0]) ∧ Below w.heap.size w w' := by
  rw [← cmpv_le] at c0
  obtain ⟨k0, ek0⟩ : ∃ k, k = cmpv (val t0 t1) (val g0 g1) := ⟨_, rfl⟩
  have C0 := fun w => cmp_any t0 t1 g0 g1 ht00 ht01 ht10 ht11 hg00 hg01 hg10 hg11 w
  rw [← ek0] at c0 C0
  clear ek0
  rw [← cmpv_le] at c1
  obtain ⟨k1, ek1⟩ : ∃ k, k = cmpv (val z0 z1) (val g2 g3) := ⟨_, rfl⟩
  have C1 := fun w => cmp_any z0 z1 g2 g3 hz00 hz01 hz10 hz11 hg20 hg21 hg30 hg31 w
  rw [← ek1] at c1 C1
  clear ek1
  have x0 : ∀ w : World, (Instr.index 26 (.agg #[.int .u16 t0, .int .u16 t1, .int .u16 z0, .int .u16 z1, .int .u16 z0, .int .u16 z1]) (.int .i64 0)).run Try.prog w = .ok (.agg #[.int .u16 t0, .int .u16 t1]) w := fun _ => by kernel_rfl
  have x1 : ∀ w : World, (Instr.index 26 (.agg #[.int .u16 t0, .int .u16 t1, .int .u16 z0, .int .u16 z1, .int .u16 z0, .int .u16 z1]) (.int .i64 1)).run Try.prog w = .ok (.agg #[.int .u16 z0, .int .u16 z1]) w := fun _ => by kernel_rfl
  have x2 : ∀ w : World, (Instr.index 26 (.agg #[.int .u16 t0, .int .u16 t1, .int .u16 z0, .int .u16 z1, .int .u16 z0, .int .u16 z1]) (.int .i64 2)).run Try.prog w = .ok (.agg #[.int .u16 z0, .int .u16 z1]) w := fun _ => by kernel_rfl
  go_enter Try.func23, Try.ntmps23
  go_wp2_with fail
  refine wp_loop_rounds 4 ?_
  rw [rounds_succ]
  go_wp2_with fail
  have hecr1 := @Ext.cell
  refine wp_region_ext (by kernel_rfl) (by kernel_rfl) ?_
  repeat (first | go_big_quiet_skip | (go_big_quiet_want; go_big_quiet_op; first | go_big_quiet_on | (go_big_quiet_call ((first | fail | (go_at_call 46; exact ext_call (C0 _)))))))
  clear hecr1
  refine wpQuiet_nil ?_
  rintro r1 ⟨⟨_, hbr1⟩, rfl⟩
  obtain ⟨hcr1, hfr1⟩ := bcell hbr1
  have hzr1 := hbr1.size
  try simp only [World.size_alloc, World.size_setCell, World.size_drew] at hzr1
  have hlr1w0 : w.heap.size < r1.heap.size := by omega
  have hlr1w1 : w.heap.size + 1 < r1.heap.size := by omega
  have hlr1w2 : w.heap.size + 1 + 1 < r1.heap.size := by omega
  go_wp2_with fail
  rw [rounds_succ]
  go_wp2_with fail
  have hecr2 := @Ext.cell
  refine wp_region_ext (by kernel_rfl) (by kernel_rfl) ?_
  repeat (first | go_big_quiet_skip | (go_big_quiet_want; go_big_quiet_op; first | go_big_quiet_on | (go_big_quiet_call ((first | fail | (go_at_call 46; exact ext_call (C1 _)))))))
  clear hecr2
  refine wpQuiet_nil ?_
  rintro r2 ⟨⟨_, hbr2⟩, rfl⟩
  obtain ⟨hcr2, hfr2⟩ := bcell hbr2
  have hzr2 := hbr2.size
  try simp only [World.size_alloc, World.size_setCell, World.size_drew] at hzr2
  have hlr2w0 : w.heap.size < r2.heap.size := by omega
  have hlr2w1 : w.heap.size + 1 < r2.heap.size := by omega
  have hlr2w2 : w.heap.size + 1 + 1 < r2.heap.size := by omega
  go_wp2_with fail
  rw [rounds_succ]
  go_wp2_with fail
  have hecr3 := @Ext.cell
  refine wp_region_ext (by kernel_rfl) (by kernel_rfl) ?_
  repeat (first | go_big_quiet_skip | (go_big_quiet_want; go_big_quiet_op; first | go_big_quiet_on | (go_big_quiet_call ((first | fail | fail)))))
  clear hecr3
  refine wpQuiet_nil ?_
  rintro r3 ⟨⟨_, hbr3⟩, rfl⟩
  obtain ⟨hcr3, hfr3⟩ := bcell hbr3
  have hzr3 := hbr3.size
  try simp only [World.size_alloc, World.size_setCell, World.size_drew] at hzr3
  have hlr3w0 : w.heap.size < r3.heap.size := by omega
  have hlr3w1 : w.heap.size + 1 < r3.heap.size := by omega
  have hlr3w2 : w.heap.size + 1 + 1 < r3.heap.size := by omega
  go_wp2_with fail
  rw [rounds_succ]
  go_wp2
  refine bodyPost_ret (v := (.tuple #[.int .i64 1, .int .i64 0])) (by simp [results, Try.results23, go_sem, *]) rfl ⟨rfl, ?_⟩; exact (by repeat' (first | (with_reducible exact Below.refl _ _) | (with_reducible refine bl_set ?_ _ ?_) | (with_reducible refine bl_alloc ?_ _) | (with_reducible refine bl_drew ?_) | (with_reducible refine bl_via (by with_reducible assumption) ?_) | (with_reducible assumption) | omega | (simp only []; omega) | (simp; omega)))

set_option maxRecDepth 100000 in
set_option maxHeartbeats 4000000 in
theorem phase_0ttf (t0 t1 z0 z1 g0 g1 g2 g3 g4 g5 : Int) (ht00 : 0 ≤ t0) (ht01 : t0 < 65536) (ht10 : 0 ≤ t1) (ht11 : t1 < 65536) (hz00 : 0 ≤ z0) (hz01 : z0 < 65536) (hz10 : 0 ≤ z1) (hz11 : z1 < 65536) (hg00 : 0 ≤ g0) (hg01 : g0 < 65536) (hg10 : 0 ≤ g1) (hg11 : g1 < 65536) (hg20 : 0 ≤ g2) (hg21 : g2 < 65536) (hg30 : 0 ≤ g3) (hg31 : g3 < 65536) (hg40 : 0 ≤ g4) (hg41 : g4 < 65536) (hg50 : 0 ≤ g5) (hg51 : g5 < 65536) (c0 : decide (val t0 t1 ≤ val g0 g1) = true) (c1 : decide (val z0 z1 ≤ val g2 g3) = true) (c2 : decide (val z0 z1 ≤ val g4 g5) = false) (w : World) :
    Calls Try.prog 23 #[.int .i64 (0), (.agg #[.int .u16 (t0), .int .u16 (t1)]), (.agg #[.int .u16 (z0), .int .u16 (z1)]), (.agg #[.int .u16 (g0), .int .u16 (g1), .int .u16 (g2), .int .u16 (g3), .int .u16 (g4), .int .u16 (g5)])] w fun e w' => e = .returned (.tuple #[.int .i64 2, .int .i64 0]) ∧ Below w.heap.size w w' := by
  rw [← cmpv_le] at c0
  obtain ⟨k0, ek0⟩ : ∃ k, k = cmpv (val t0 t1) (val g0 g1) := ⟨_, rfl⟩
  have C0 := fun w => cmp_any t0 t1 g0 g1 ht00 ht01 ht10 ht11 hg00 hg01 hg10 hg11 w
  rw [← ek0] at c0 C0
  clear ek0
  rw [← cmpv_le] at c1
  obtain ⟨k1, ek1⟩ : ∃ k, k = cmpv (val z0 z1) (val g2 g3) := ⟨_, rfl⟩
  have C1 := fun w => cmp_any z0 z1 g2 g3 hz00 hz01 hz10 hz11 hg20 hg21 hg30 hg31 w
  rw [← ek1] at c1 C1
  clear ek1
  rw [← cmpv_le] at c2
  obtain ⟨k2, ek2⟩ : ∃ k, k = cmpv (val z0 z1) (val g4 g5) := ⟨_, rfl⟩
  have C2 := fun w => cmp_any z0 z1 g4 g5 hz00 hz01 hz10 hz11 hg40 hg41 hg50 hg51 w
  rw [← ek2] at c2 C2
  clear ek2
  have x0 : ∀ w : World, (Instr.index 26 (.agg #[.int .u16 t0, .int .u16 t1, .int .u16 z0, .int .u16 z1, .int .u16 z0, .int .u16 z1]) (.int .i64 0)).run Try.prog w = .ok (.agg #[.int .u16 t0, .int .u16 t1]) w := fun _ => by kernel_rfl
  have x1 : ∀ w : World, (Instr.index 26 (.agg #[.int .u16 t0, .int .u16 t1, .int .u16 z0, .int .u16 z1, .int .u16 z0, .int .u16 z1]) (.int .i64 1)).run Try.prog w = .ok (.agg #[.int .u16 z0, .int .u16 z1]) w := fun _ => by kernel_rfl
  have x2 : ∀ w : World, (Instr.index 26 (.agg #[.int .u16 t0, .int .u16 t1, .int .u16 z0, .int .u16 z1, .int .u16 z0, .int .u16 z1]) (.int .i64 2)).run Try.prog w = .ok (.agg #[.int .u16 z0, .int .u16 z1]) w := fun _ => by kernel_rfl
  go_enter Try.func23, Try.ntmps23
  go_wp2_with fail
  refine wp_loop_rounds 4 ?_
  rw [rounds_succ]
  go_wp2_with fail
  have hecr1 := @Ext.cell
  refine wp_region_ext (by kernel_rfl) (by kernel_rfl) ?_
  repeat (first | go_big_quiet_skip | (go_big_quiet_want; go_big_quiet_op; first | go_big_quiet_on | (go_big_quiet_call ((first | fail | (go_at_call 46; exact ext_call (C0 _)))))))
  clear hecr1
  refine wpQuiet_nil ?_
  rintro r1 ⟨⟨_, hbr1⟩, rfl⟩
  obtain ⟨hcr1, hfr1⟩ := bcell hbr1
  have hzr1 := hbr1.size
  try simp only [World.size_alloc, World.size_setCell, World.size_drew] at hzr1
  have hlr1w0 : w.heap.size < r1.heap.size := by omega
  have hlr1w1 : w.heap.size + 1 < r1.heap.size := by omega
  have hlr1w2 : w.heap.size + 1 + 1 < r1.heap.size := by omega
  go_wp2_with fail
  rw [rounds_succ]
  go_wp2_with fail
  have hecr2 := @Ext.cell
  refine wp_region_ext (by kernel_rfl) (by kernel_rfl) ?_
  repeat (first | go_big_quiet_skip | (go_big_quiet_want; go_big_quiet_op; first | go_big_quiet_on | (go_big_quiet_call ((first | fail | (go_at_call 46; exact ext_call (C1 _)))))))
  clear hecr2
  refine wpQuiet_nil ?_
  rintro r2 ⟨⟨_, hbr2⟩, rfl⟩
  obtain ⟨hcr2, hfr2⟩ := bcell hbr2
  have hzr2 := hbr2.size
  try simp only [World.size_alloc, World.size_setCell, World.size_drew] at hzr2
  have hlr2w0 : w.heap.size < r2.heap.size := by omega
  have hlr2w1 : w.heap.size + 1 < r2.heap.size := by omega
  have hlr2w2 : w.heap.size + 1 + 1 < r2.heap.size := by omega
  go_wp2_with fail
  rw [rounds_succ]
  go_wp2_with fail
  have hecr3 := @Ext.cell
  refine wp_region_ext (by kernel_rfl) (by kernel_rfl) ?_
  repeat (first | go_big_quiet_skip | (go_big_quiet_want; go_big_quiet_op; first | go_big_quiet_on | (go_big_quiet_call ((first | fail | (go_at_call 46; exact ext_call (C2 _)))))))
  clear hecr3
  refine wpQuiet_nil ?_
  rintro r3 ⟨⟨_, hbr3⟩, rfl⟩
  obtain ⟨hcr3, hfr3⟩ := bcell hbr3
  have hzr3 := hbr3.size
  try simp only [World.size_alloc, World.size_setCell, World.size_drew] at hzr3
  have hlr3w0 : w.heap.size < r3.heap.size := by omega
  have hlr3w1 : w.heap.size + 1 < r3.heap.size := by omega
  have hlr3w2 : w.heap.size + 1 + 1 < r3.heap.size := by omega
  go_wp2_with fail
  rw [rounds_succ]
  go_wp2
  refine bodyPost_ret (v := (.tuple #[.int .i64 2, .int .i64 0])) (by simp [results, Try.results23, go_sem, *]) rfl ⟨rfl, ?_⟩; exact (by repeat' (first | (with_reducible exact Below.refl _ _) | (with_reducible refine bl_set ?_ _ ?_) | (with_reducible refine bl_alloc ?_ _) | (with_reducible refine bl_drew ?_) | (with_reducible refine bl_via (by with_reducible assumption) ?_) | (with_reducible assumption) | omega | (simp only []; omega) | (simp; omega)))

set_option maxRecDepth 100000 in
set_option maxHeartbeats 4000000 in
theorem phase_0ttt (t0 t1 z0 z1 g0 g1 g2 g3 g4 g5 : Int) (ht00 : 0 ≤ t0) (ht01 : t0 < 65536) (ht10 : 0 ≤ t1) (ht11 : t1 < 65536) (hz00 : 0 ≤ z0) (hz01 : z0 < 65536) (hz10 : 0 ≤ z1) (hz11 : z1 < 65536) (hg00 : 0 ≤ g0) (hg01 : g0 < 65536) (hg10 : 0 ≤ g1) (hg11 : g1 < 65536) (hg20 : 0 ≤ g2) (hg21 : g2 < 65536) (hg30 : 0 ≤ g3) (hg31 : g3 < 65536) (hg40 : 0 ≤ g4) (hg41 : g4 < 65536) (hg50 : 0 ≤ g5) (hg51 : g5 < 65536) (c0 : decide (val t0 t1 ≤ val g0 g1) = true) (c1 : decide (val z0 z1 ≤ val g2 g3) = true) (c2 : decide (val z0 z1 ≤ val g4 g5) = true) (w : World) :
    Calls Try.prog 23 #[.int .i64 (0), (.agg #[.int .u16 (t0), .int .u16 (t1)]), (.agg #[.int .u16 (z0), .int .u16 (z1)]), (.agg #[.int .u16 (g0), .int .u16 (g1), .int .u16 (g2), .int .u16 (g3), .int .u16 (g4), .int .u16 (g5)])] w fun e w' => e = .returned (.tuple #[.int .i64 3, .int .i64 0]) ∧ Below w.heap.size w w' := by
  rw [← cmpv_le] at c0
  obtain ⟨k0, ek0⟩ : ∃ k, k = cmpv (val t0 t1) (val g0 g1) := ⟨_, rfl⟩
  have C0 := fun w => cmp_any t0 t1 g0 g1 ht00 ht01 ht10 ht11 hg00 hg01 hg10 hg11 w
  rw [← ek0] at c0 C0
  clear ek0
  rw [← cmpv_le] at c1
  obtain ⟨k1, ek1⟩ : ∃ k, k = cmpv (val z0 z1) (val g2 g3) := ⟨_, rfl⟩
  have C1 := fun w => cmp_any z0 z1 g2 g3 hz00 hz01 hz10 hz11 hg20 hg21 hg30 hg31 w
  rw [← ek1] at c1 C1
  clear ek1
  rw [← cmpv_le] at c2
  obtain ⟨k2, ek2⟩ : ∃ k, k = cmpv (val z0 z1) (val g4 g5) := ⟨_, rfl⟩
  have C2 := fun w => cmp_any z0 z1 g4 g5 hz00 hz01 hz10 hz11 hg40 hg41 hg50 hg51 w
  rw [← ek2] at c2 C2
  clear ek2
  have x0 : ∀ w : World, (Instr.index 26 (.agg #[.int .u16 t0, .int .u16 t1, .int .u16 z0, .int .u16 z1, .int .u16 z0, .int .u16 z1]) (.int .i64 0)).run Try.prog w = .ok (.agg #[.int .u16 t0, .int .u16 t1]) w := fun _ => by kernel_rfl
  have x1 : ∀ w : World, (Instr.index 26 (.agg #[.int .u16 t0, .int .u16 t1, .int .u16 z0, .int .u16 z1, .int .u16 z0, .int .u16 z1]) (.int .i64 1)).run Try.prog w = .ok (.agg #[.int .u16 z0, .int .u16 z1]) w := fun _ => by kernel_rfl
  have x2 : ∀ w : World, (Instr.index 26 (.agg #[.int .u16 t0, .int .u16 t1, .int .u16 z0, .int .u16 z1, .int .u16 z0, .int .u16 z1]) (.int .i64 2)).run Try.prog w = .ok (.agg #[.int .u16 z0, .int .u16 z1]) w := fun _ => by kernel_rfl
  go_enter Try.func23, Try.ntmps23
  go_wp2_with fail
  refine wp_loop_rounds 4 ?_
  rw [rounds_succ]
  go_wp2_with fail
  have hecr1 := @Ext.cell
  refine wp_region_ext (by kernel_rfl) (by kernel_rfl) ?_
  repeat (first | go_big_quiet_skip | (go_big_quiet_want; go_big_quiet_op; first | go_big_quiet_on | (go_big_quiet_call ((first | fail | (go_at_call 46; exact ext_call (C0 _)))))))
  clear hecr1
  refine wpQuiet_nil ?_
  rintro r1 ⟨⟨_, hbr1⟩, rfl⟩
  obtain ⟨hcr1, hfr1⟩ := bcell hbr1
  have hzr1 := hbr1.size
  try simp only [World.size_alloc, World.size_setCell, World.size_drew] at hzr1
  have hlr1w0 : w.heap.size < r1.heap.size := by omega
  have hlr1w1 : w.heap.size + 1 < r1.heap.size := by omega
  have hlr1w2 : w.heap.size + 1 + 1 < r1.heap.size := by omega
  go_wp2_with fail
  rw [rounds_succ]
  go_wp2_with fail
  have hecr2 := @Ext.cell
  refine wp_region_ext (by kernel_rfl) (by kernel_rfl) ?_
  repeat (first | go_big_quiet_skip | (go_big_quiet_want; go_big_quiet_op; first | go_big_quiet_on | (go_big_quiet_call ((first | fail | (go_at_call 46; exact ext_call (C1 _)))))))
  clear hecr2
  refine wpQuiet_nil ?_
  rintro r2 ⟨⟨_, hbr2⟩, rfl⟩
  obtain ⟨hcr2, hfr2⟩ := bcell hbr2
  have hzr2 := hbr2.size
  try simp only [World.size_alloc, World.size_setCell, World.size_drew] at hzr2
  have hlr2w0 : w.heap.size < r2.heap.size := by omega
  have hlr2w1 : w.heap.size + 1 < r2.heap.size := by omega
  have hlr2w2 : w.heap.size + 1 + 1 < r2.heap.size := by omega
  go_wp2_with fail
  rw [rounds_succ]
  go_wp2_with fail
  have hecr3 := @Ext.cell
  refine wp_region_ext (by kernel_rfl) (by kernel_rfl) ?_
  repeat (first | go_big_quiet_skip | (go_big_quiet_want; go_big_quiet_op; first | go_big_quiet_on | (go_big_quiet_call ((first | fail | (go_at_call 46; exact ext_call (C2 _)))))))
  clear hecr3
  refine wpQuiet_nil ?_
  rintro r3 ⟨⟨_, hbr3⟩, rfl⟩
  obtain ⟨hcr3, hfr3⟩ := bcell hbr3
  have hzr3 := hbr3.size
  try simp only [World.size_alloc, World.size_setCell, World.size_drew] at hzr3
  have hlr3w0 : w.heap.size < r3.heap.size := by omega
  have hlr3w1 : w.heap.size + 1 < r3.heap.size := by omega
  have hlr3w2 : w.heap.size + 1 + 1 < r3.heap.size := by omega
  go_wp2_with fail
  rw [rounds_succ]
  go_wp2
  refine bodyPost_ret (v := (.tuple #[.int .i64 3, .int .i64 0])) (by simp [results, Try.results23, go_sem, *]) rfl ⟨rfl, ?_⟩; exact (by repeat' (first | (with_reducible exact Below.refl _ _) | (with_reducible refine bl_set ?_ _ ?_) | (with_reducible refine bl_alloc ?_ _) | (with_reducible refine bl_drew ?_) | (with_reducible refine bl_via (by with_reducible assumption) ?_) | (with_reducible assumption) | omega | (simp only []; omega) | (simp; omega)))

set_option maxRecDepth 100000 in
set_option maxHeartbeats 4000000 in
theorem phase_1f (t0 t1 z0 z1 g0 g1 g2 g3 g4 g5 : Int) (ht00 : 0 ≤ t0) (ht01 : t0 < 65536) (ht10 : 0 ≤ t1) (ht11 : t1 < 65536) (hz00 : 0 ≤ z0) (hz01 : z0 < 65536) (hz10 : 0 ≤ z1) (hz11 : z1 < 65536) (hg00 : 0 ≤ g0) (hg01 : g0 < 65536) (hg10 : 0 ≤ g1) (hg11 : g1 < 65536) (hg20 : 0 ≤ g2) (hg21 : g2 < 65536) (hg30 : 0 ≤ g3) (hg31 : g3 < 65536) (hg40 : 0 ≤ g4) (hg41 : g4 < 65536) (hg50 : 0 ≤ g5) (hg51 : g5 < 65536) (c1 : decide (val z0 z1 ≤ val g2 g3) = false) (w : World) :
    Calls Try.prog 23 #[.int .i64 (1), (.agg #[.int .u16 (t0), .int .u16 (t1)]), (.agg #[.int .u16 (z0), .int .u16 (z1)]), (.agg #[.int .u16 (g0), .int .u16 (g1), .int .u16 (g2), .int .u16 (g3), .int .u16 (g4), .int .u16 (g5)])] w fun e w' => e = .returned (.tuple #[.int .i64 1, .int .i64 0]) ∧ Below w.heap.size w w' := by
  rw [← cmpv_le] at c1
  obtain ⟨k1, ek1⟩ : ∃ k, k = cmpv (val z0 z1) (val g2 g3) := ⟨_, rfl⟩
  have C1 := fun w => cmp_any z0 z1 g2 g3 hz00 hz01 hz10 hz11 hg20 hg21 hg30 hg31 w
  rw [← ek1] at c1 C1
  clear ek1
  have x0 : ∀ w : World, (Instr.index 26 (.agg #[.int .u16 t0, .int .u16 t1, .int .u16 z0, .int .u16 z1, .int .u16 z0, .int .u16 z1]) (.int .i64 0)).run Try.prog w = .ok (.agg #[.int .u16 t0, .int .u16 t1]) w := fun _ => by kernel_rfl
  have x1 : ∀ w : World, (Instr.index 26 (.agg #[.int .u16 t0, .int .u16 t1, .int .u16 z0, .int .u16 z1, .int .u16 z0, .int .u16 z1]) (.int .i64 1)).run Try.prog w = .ok (.agg #[.int .u16 z0, .int .u16 z1]) w := fun _ => by kernel_rfl
  have x2 : ∀ w : World, (Instr.index 26 (.agg #[.int .u16 t0, .int .u16 t1, .int .u16 z0, .int .u16 z1, .int .u16 z0, .int .u16 z1]) (.int .i64 2)).run Try.prog w = .ok (.agg #[.int .u16 z0, .int .u16 z1]) w := fun _ => by kernel_rfl
  go_enter Try.func23, Try.ntmps23
  go_wp2_with fail
  refine wp_loop_rounds 4 ?_
  rw [rounds_succ]
  go_wp2_with fail
  have hecr1 := @Ext.cell
  refine wp_region_ext (by kernel_rfl) (by kernel_rfl) ?_
  repeat (first | go_big_quiet_skip | (go_big_quiet_want; go_big_quiet_op; first | go_big_quiet_on | (go_big_quiet_call ((first | fail | fail)))))
  clear hecr1
  refine wpQuiet_nil ?_
  rintro r1 ⟨⟨_, hbr1⟩, rfl⟩
  obtain ⟨hcr1, hfr1⟩ := bcell hbr1
  have hzr1 := hbr1.size
  try simp only [World.size_alloc, World.size_setCell, World.size_drew] at hzr1
  have hlr1w0 : w.heap.size < r1.heap.size := by omega
  have hlr1w1 : w.heap.size + 1 < r1.heap.size := by omega
  have hlr1w2 : w.heap.size + 1 + 1 < r1.heap.size := by omega
  go_wp2_with fail
  rw [rounds_succ]
  go_wp2_with fail
  have hecr2 := @Ext.cell
  refine wp_region_ext (by kernel_rfl) (by kernel_rfl) ?_
  repeat (first | go_big_quiet_skip | (go_big_quiet_want; go_big_quiet_op; first | go_big_quiet_on | (go_big_quiet_call ((first | fail | (go_at_call 46; exact ext_call (C1 _)))))))
  clear hecr2
  refine wpQuiet_nil ?_
  rintro r2 ⟨⟨_, hbr2⟩, rfl⟩
  obtain ⟨hcr2, hfr2⟩ := bcell hbr2
  have hzr2 := hbr2.size
  try simp only [World.size_alloc, World.size_setCell, World.size_drew] at hzr2
  have hlr2w0 : w.heap.size < r2.heap.size := by omega
  have hlr2w1 : w.heap.size + 1 < r2.heap.size := by omega
  have hlr2w2 : w.heap.size + 1 + 1 < r2.heap.size := by omega
  go_wp2_with fail
  rw [rounds_succ]
  go_wp2_with fail
  have hecr3 := @Ext.cell
  refine wp_region_ext (by kernel_rfl) (by kernel_rfl) ?_
  repeat (first | go_big_quiet_skip | (go_big_quiet_want; go_big_quiet_op; first | go_big_quiet_on | (go_big_quiet_call ((first | fail | fail)))))
  clear hecr3
  refine wpQuiet_nil ?_
  rintro r3 ⟨⟨_, hbr3⟩, rfl⟩
  obtain ⟨hcr3, hfr3⟩ := bcell hbr3
  have hzr3 := hbr3.size
  try simp only [World.size_alloc, World.size_setCell, World.size_drew] at hzr3
  have hlr3w0 : w.heap.size < r3.heap.size := by omega
  have hlr3w1 : w.heap.size + 1 < r3.heap.size := by omega
  have hlr3w2 : w.heap.size + 1 + 1 < r3.heap.size := by omega
  go_wp2_with fail
  rw [rounds_succ]
  go_wp2
  refine bodyPost_ret (v := (.tuple #[.int .i64 1, .int .i64 0])) (by simp [results, Try.results23, go_sem, *]) rfl ⟨rfl, ?_⟩; exact (by repeat' (first | (with_reducible exact Below.refl _ _) | (with_reducible refine bl_set ?_ _ ?_) | (with_reducible refine bl_alloc ?_ _) | (with_reducible refine bl_drew ?_) | (with_reducible refine bl_via (by with_reducible assumption) ?_) | (with_reducible assumption) | omega | (simp only []; omega) | (simp; omega)))

set_option maxRecDepth 100000 in
set_option maxHeartbeats 4000000 in
theorem phase_1tf (t0 t1 z0 z1 g0 g1 g2 g3 g4 g5 : Int) (ht00 : 0 ≤ t0) (ht01 : t0 < 65536) (ht10 : 0 ≤ t1) (ht11 : t1 < 65536) (hz00 : 0 ≤ z0) (hz01 : z0 < 65536) (hz10 : 0 ≤ z1) (hz11 : z1 < 65536) (hg00 : 0 ≤ g0) (hg01 : g0 < 65536) (hg10 : 0 ≤ g1) (hg11 : g1 < 65536) (hg20 : 0 ≤ g2) (hg21 : g2 < 65536) (hg30 : 0 ≤ g3) (hg31 : g3 < 65536) (hg40 : 0 ≤ g4) (hg41 : g4 < 65536) (hg50 : 0 ≤ g5) (hg51 : g5 < 65536) (c1 : decide (val z0 z1 ≤ val g2 g3) = true) (c2 : decide (val z0 z1 ≤ val g4 g5) = false) (w : World) :
    Calls Try.prog 23 #[.int .i64 (1), (.agg #[.int .u16 (t0), .int .u16 (t1)]), (.agg #[.int .u16 (z0), .int .u16 (z1)]), (.agg #[.int .u16 (g0), .int .u16 (g1), .int .u16 (g2), .int .u16 (g3), .int .u16 (g4), .int .u16 (g5)])] w fun e w' => e = .returned (.tuple #[.int .i64 2, .int .i64 0]) ∧ Below w.heap.size w w' := by
  rw [← cmpv_le] at c1
  obtain ⟨k1, ek1⟩ : ∃ k, k = cmpv (val z0 z1) (val g2 g3) := ⟨_, rfl⟩
  have C1 := fun w => cmp_any z0 z1 g2 g3 hz00 hz01 hz10 hz11 hg20 hg21 hg30 hg31 w
  rw [← ek1] at c1 C1
  clear ek1
  rw [← cmpv_le] at c2
  obtain ⟨k2, ek2⟩ : ∃ k, k = cmpv (val z0 z1) (val g4 g5) := ⟨_, rfl⟩
  have C2 := fun w => cmp_any z0 z1 g4 g5 hz00 hz01 hz10 hz11 hg40 hg41 hg50 hg51 w
  rw [← ek2] at c2 C2
  clear ek2
  have x0 : ∀ w : World, (Instr.index 26 (.agg #[.int .u16 t0, .int .u16 t1, .int .u16 z0, .int .u16 z1, .int .u16 z0, .int .u16 z1]) (.int .i64 0)).run Try.prog w = .ok (.agg #[.int .u16 t0, .int .u16 t1]) w := fun _ => by kernel_rfl
  have x1 : ∀ w : World, (Instr.index 26 (.agg #[.int .u16 t0, .int .u16 t1, .int .u16 z0, .int .u16 z1, .int .u16 z0, .int .u16 z1]) (.int .i64 1)).run Try.prog w = .ok (.agg #[.int .u16 z0, .int .u16 z1]) w := fun _ => by kernel_rfl
  have x2 : ∀ w : World, (Instr.index 26 (.agg #[.int .u16 t0, .int .u16 t1, .int .u16 z0, .int .u16 z1, .int .u16 z0, .int .u16 z1]) (.int .i64 2)).run Try.prog w = .ok (.agg #[.int .u16 z0, .int .u16 z1]) w := fun _ => by kernel_rfl
  go_enter Try.func23, Try.ntmps23
  go_wp2_with fail
  refine wp_loop_rounds 4 ?_
  rw [rounds_succ]
  go_wp2_with fail
  have hecr1 := @Ext.cell
  refine wp_region_ext (by kernel_rfl) (by kernel_rfl) ?_
  repeat (first | go_big_quiet_skip | (go_big_quiet_want; go_big_quiet_op; first | go_big_quiet_on | (go_big_quiet_call ((first | fail | fail)))))
  clear hecr1
  refine wpQuiet_nil ?_
  rintro r1 ⟨⟨_, hbr1⟩, rfl⟩
  obtain ⟨hcr1, hfr1⟩ := bcell hbr1
  have hzr1 := hbr1.size
  try simp only [World.size_alloc, World.size_setCell, World.size_drew] at hzr1
  have hlr1w0 : w.heap.size < r1.heap.size := by omega
  have hlr1w1 : w.heap.size + 1 < r1.heap.size := by omega
  have hlr1w2 : w.heap.size + 1 + 1 < r1.heap.size := by omega
  go_wp2_with fail
  rw [rounds_succ]
  go_wp2_with fail
  have hecr2 := @Ext.cell
  refine wp_region_ext (by kernel_rfl) (by kernel_rfl) ?_
  repeat (first | go_big_quiet_skip | (go_big_quiet_want; go_big_quiet_op; first | go_big_quiet_on | (go_big_quiet_call ((first | fail | (go_at_call 46; exact ext_call (C1 _)))))))
  clear hecr2
  refine wpQuiet_nil ?_
  rintro r2 ⟨⟨_, hbr2⟩, rfl⟩
  obtain ⟨hcr2, hfr2⟩ := bcell hbr2
  have hzr2 := hbr2.size
  try simp only [World.size_alloc, World.size_setCell, World.size_drew] at hzr2
  have hlr2w0 : w.heap.size < r2.heap.size := by omega
  have hlr2w1 : w.heap.size + 1 < r2.heap.size := by omega
  have hlr2w2 : w.heap.size + 1 + 1 < r2.heap.size := by omega
  go_wp2_with fail
  rw [rounds_succ]
  go_wp2_with fail
  have hecr3 := @Ext.cell
  refine wp_region_ext (by kernel_rfl) (by kernel_rfl) ?_
  repeat (first | go_big_quiet_skip | (go_big_quiet_want; go_big_quiet_op; first | go_big_quiet_on | (go_big_quiet_call ((first | fail | (go_at_call 46; exact ext_call (C2 _)))))))
  clear hecr3
  refine wpQuiet_nil ?_
  rintro r3 ⟨⟨_, hbr3⟩, rfl⟩
  obtain ⟨hcr3, hfr3⟩ := bcell hbr3
  have hzr3 := hbr3.size
  try simp only [World.size_alloc, World.size_setCell, World.size_drew] at hzr3
  have hlr3w0 : w.heap.size < r3.heap.size := by omega
  have hlr3w1 : w.heap.size + 1 < r3.heap.size := by omega
  have hlr3w2 : w.heap.size + 1 + 1 < r3.heap.size := by omega
  go_wp2_with fail
  rw [rounds_succ]
  go_wp2
  refine bodyPost_ret (v := (.tuple #[.int .i64 2, .int .i64 0])) (by simp [results, Try.results23, go_sem, *]) rfl ⟨rfl, ?_⟩; exact (by repeat' (first | (with_reducible exact Below.refl _ _) | (with_reducible refine bl_set ?_ _ ?_) | (with_reducible refine bl_alloc ?_ _) | (with_reducible refine bl_drew ?_) | (with_reducible refine bl_via (by with_reducible assumption) ?_) | (with_reducible assumption) | omega | (simp only []; omega) | (simp; omega)))

set_option maxRecDepth 100000 in
set_option maxHeartbeats 4000000 in
theorem phase_1tt (t0 t1 z0 z1 g0 g1 g2 g3 g4 g5 : Int) (ht00 : 0 ≤ t0) (ht01 : t0 < 65536) (ht10 : 0 ≤ t1) (ht11 : t1 < 65536) (hz00 : 0 ≤ z0) (hz01 : z0 < 65536) (hz10 : 0 ≤ z1) (hz11 : z1 < 65536) (hg00 : 0 ≤ g0) (hg01 : g0 < 65536) (hg10 : 0 ≤ g1) (hg11 : g1 < 65536) (hg20 : 0 ≤ g2) (hg21 : g2 < 65536) (hg30 : 0 ≤ g3) (hg31 : g3 < 65536) (hg40 : 0 ≤ g4) (hg41 : g4 < 65536) (hg50 : 0 ≤ g5) (hg51 : g5 < 65536) (c1 : decide (val z0 z1 ≤ val g2 g3) = true) (c2 : decide (val z0 z1 ≤ val g4 g5) = true) (w : World) :
    Calls Try.prog 23 #[.int .i64 (1), (.agg #[.int .u16 (t0), .int .u16 (t1)]), (.agg #[.int .u16 (z0), .int .u16 (z1)]), (.agg #[.int .u16 (g0), .int .u16 (g1), .int .u16 (g2), .int .u16 (g3), .int .u16 (g4), .int .u16 (g5)])] w fun e w' => e = .returned (.tuple #[.int .i64 3, .int .i64 0]) ∧ Below w.heap.size w w' := by
  rw [← cmpv_le] at c1
  obtain ⟨k1, ek1⟩ : ∃ k, k = cmpv (val z0 z1) (val g2 g3) := ⟨_, rfl⟩
  have C1 := fun w => cmp_any z0 z1 g2 g3 hz00 hz01 hz10 hz11 hg20 hg21 hg30 hg31 w
  rw [← ek1] at c1 C1
  clear ek1
  rw [← cmpv_le] at c2
  obtain ⟨k2, ek2⟩ : ∃ k, k = cmpv (val z0 z1) (val g4 g5) := ⟨_, rfl⟩
  have C2 := fun w => cmp_any z0 z1 g4 g5 hz00 hz01 hz10 hz11 hg40 hg41 hg50 hg51 w
  rw [← ek2] at c2 C2
  clear ek2
  have x0 : ∀ w : World, (Instr.index 26 (.agg #[.int .u16 t0, .int .u16 t1, .int .u16 z0, .int .u16 z1, .int .u16 z0, .int .u16 z1]) (.int .i64 0)).run Try.prog w = .ok (.agg #[.int .u16 t0, .int .u16 t1]) w := fun _ => by kernel_rfl
  have x1 : ∀ w : World, (Instr.index 26 (.agg #[.int .u16 t0, .int .u16 t1, .int .u16 z0, .int .u16 z1, .int .u16 z0, .int .u16 z1]) (.int .i64 1)).run Try.prog w = .ok (.agg #[.int .u16 z0, .int .u16 z1]) w := fun _ => by kernel_rfl
  have x2 : ∀ w : World, (Instr.index 26 (.agg #[.int .u16 t0, .int .u16 t1, .int .u16 z0, .int .u16 z1, .int .u16 z0, .int .u16 z1]) (.int .i64 2)).run Try.prog w = .ok (.agg #[.int .u16 z0, .int .u16 z1]) w := fun _ => by kernel_rfl
  go_enter Try.func23, Try.ntmps23
  go_wp2_with fail
  refine wp_loop_rounds 4 ?_
  rw [rounds_succ]
  go_wp2_with fail
  have hecr1 := @Ext.cell
  refine wp_region_ext (by kernel_rfl) (by kernel_rfl) ?_
  repeat (first | go_big_quiet_skip | (go_big_quiet_want; go_big_quiet_op; first | go_big_quiet_on | (go_big_quiet_call ((first | fail | fail)))))
  clear hecr1
  refine wpQuiet_nil ?_
  rintro r1 ⟨⟨_, hbr1⟩, rfl⟩
  obtain ⟨hcr1, hfr1⟩ := bcell hbr1
  have hzr1 := hbr1.size
  try simp only [World.size_alloc, World.size_setCell, World.size_drew] at hzr1
  have hlr1w0 : w.heap.size < r1.heap.size := by omega
  have hlr1w1 : w.heap.size + 1 < r1.heap.size := by omega
  have hlr1w2 : w.heap.size + 1 + 1 < r1.heap.size := by omega
  go_wp2_with fail
  rw [rounds_succ]
  go_wp2_with fail
  have hecr2 := @Ext.cell
  refine wp_region_ext (by kernel_rfl) (by kernel_rfl) ?_
  repeat (first | go_big_quiet_skip | (go_big_quiet_want; go_big_quiet_op; first | go_big_quiet_on | (go_big_quiet_call ((first | fail | (go_at_call 46; exact ext_call (C1 _)))))))
  clear hecr2
  refine wpQuiet_nil ?_
  rintro r2 ⟨⟨_, hbr2⟩, rfl⟩
  obtain ⟨hcr2, hfr2⟩ := bcell hbr2
  have hzr2 := hbr2.size
  try simp only [World.size_alloc, World.size_setCell, World.size_drew] at hzr2
  have hlr2w0 : w.heap.size < r2.heap.size := by omega
  have hlr2w1 : w.heap.size + 1 < r2.heap.size := by omega
  have hlr2w2 : w.heap.size + 1 + 1 < r2.heap.size := by omega
  go_wp2_with fail
  rw [rounds_succ]
  go_wp2_with fail
  have hecr3 := @Ext.cell
  refine wp_region_ext (by kernel_rfl) (by kernel_rfl) ?_
  repeat (first | go_big_quiet_skip | (go_big_quiet_want; go_big_quiet_op; first | go_big_quiet_on | (go_big_quiet_call ((first | fail | (go_at_call 46; exact ext_call (C2 _)))))))
  clear hecr3
  refine wpQuiet_nil ?_
  rintro r3 ⟨⟨_, hbr3⟩, rfl⟩
  obtain ⟨hcr3, hfr3⟩ := bcell hbr3
  have hzr3 := hbr3.size
  try simp only [World.size_alloc, World.size_setCell, World.size_drew] at hzr3
  have hlr3w0 : w.heap.size < r3.heap.size := by omega
  have hlr3w1 : w.heap.size + 1 < r3.heap.size := by omega
  have hlr3w2 : w.heap.size + 1 + 1 < r3.heap.size := by omega
  go_wp2_with fail
  rw [rounds_succ]
  go_wp2
  refine bodyPost_ret (v := (.tuple #[.int .i64 3, .int .i64 0])) (by simp [results, Try.results23, go_sem, *]) rfl ⟨rfl, ?_⟩; exact (by repeat' (first | (with_reducible exact Below.refl _ _) | (with_reducible refine bl_set ?_ _ ?_) | (with_reducible refine bl_alloc ?_ _) | (with_reducible refine bl_drew ?_) | (with_reducible refine bl_via (by with_reducible assumption) ?_) | (with_reducible assumption) | omega | (simp only []; omega) | (simp; omega)))

set_option maxRecDepth 100000 in
set_option maxHeartbeats 4000000 in
theorem phase_2f (t0 t1 z0 z1 g0 g1 g2 g3 g4 g5 : Int) (ht00 : 0 ≤ t0) (ht01 : t0 < 65536) (ht10 : 0 ≤ t1) (ht11 : t1 < 65536) (hz00 : 0 ≤ z0) (hz01 : z0 < 65536) (hz10 : 0 ≤ z1) (hz11 : z1 < 65536) (hg00 : 0 ≤ g0) (hg01 : g0 < 65536) (hg10 : 0 ≤ g1) (hg11 : g1 < 65536) (hg20 : 0 ≤ g2) (hg21 : g2 < 65536) (hg30 : 0 ≤ g3) (hg31 : g3 < 65536) (hg40 : 0 ≤ g4) (hg41 : g4 < 65536) (hg50 : 0 ≤ g5) (hg51 : g5 < 65536) (c2 : decide (val z0 z1 ≤ val g4 g5) = false) (w : World) :
    Calls Try.prog 23 #[.int .i64 (2), (.agg #[.int .u16 (t0), .int .u16 (t1)]), (.agg #[.int .u16 (z0), .int .u16 (z1)]), (.agg #[.int .u16 (g0), .int .u16 (g1), .int .u16 (g2), .int .u16 (g3), .int .u16 (g4), .int .u16 (g5)])] w fun e w' => e = .returned (.tuple #[.int .i64 2, .int .i64 0]) ∧ Below w.heap.size w w' := by
  rw [← cmpv_le] at c2
  obtain ⟨k2, ek2⟩ : ∃ k, k = cmpv (val z0 z1) (val g4 g5) := ⟨_, rfl⟩
  have C2 := fun w => cmp_any z0 z1 g4 g5 hz00 hz01 hz10 hz11 hg40 hg41 hg50 hg51 w
  rw [← ek2] at c2 C2
  clear ek2
  have x0 : ∀ w : World, (Instr.index 26 (.agg #[.int .u16 t0, .int .u16 t1, .int .u16 z0, .int .u16 z1, .int .u16 z0, .int .u16 z1]) (.int .i64 0)).run Try.prog w = .ok (.agg #[.int .u16 t0, .int .u16 t1]) w := fun _ => by kernel_rfl
  have x1 : ∀ w : World, (Instr.index 26 (.agg #[.int .u16 t0, .int .u16 t1, .int .u16 z0, .int .u16 z1, .int .u16 z0, .int .u16 z1]) (.int .i64 1)).run Try.prog w = .ok (.agg #[.int .u16 z0, .int .u16 z1]) w := fun _ => by kernel_rfl
  have x2 : ∀ w : World, (Instr.index 26 (.agg #[.int .u16 t0, .int .u16 t1, .int .u16 z0, .int .u16 z1, .int .u16 z0, .int .u16 z1]) (.int .i64 2)).run Try.prog w = .ok (.agg #[.int .u16 z0, .int .u16 z1]) w := fun _ => by kernel_rfl
  go_enter Try.func23, Try.ntmps23
  go_wp2_with fail
  refine wp_loop_rounds 4 ?_
  rw [rounds_succ]
  go_wp2_with fail
  have hecr1 := @Ext.cell
  refine wp_region_ext (by kernel_rfl) (by kernel_rfl) ?_
  repeat (first | go_big_quiet_skip | (go_big_quiet_want; go_big_quiet_op; first | go_big_quiet_on | (go_big_quiet_call ((first | fail | fail)))))
  clear hecr1
  refine wpQuiet_nil ?_
  rintro r1 ⟨⟨_, hbr1⟩, rfl⟩
  obtain ⟨hcr1, hfr1⟩ := bcell hbr1
  have hzr1 := hbr1.size
  try simp only [World.size_alloc, World.size_setCell, World.size_drew] at hzr1
  have hlr1w0 : w.heap.size < r1.heap.size := by omega
  have hlr1w1 : w.heap.size + 1 < r1.heap.size := by omega
  have hlr1w2 : w.heap.size + 1 + 1 < r1.heap.size := by omega
  go_wp2_with fail
  rw [rounds_succ]
  go_wp2_with fail
  have hecr2 := @Ext.cell
  refine wp_region_ext (by kernel_rfl) (by kernel_rfl) ?_
  repeat (first | go_big_quiet_skip | (go_big_quiet_want; go_big_quiet_op; first | go_big_quiet_on | (go_big_quiet_call ((first | fail | fail)))))
  clear hecr2
  refine wpQuiet_nil ?_
  rintro r2 ⟨⟨_, hbr2⟩, rfl⟩
  obtain ⟨hcr2, hfr2⟩ := bcell hbr2
  have hzr2 := hbr2.size
  try simp only [World.size_alloc, World.size_setCell, World.size_drew] at hzr2
  have hlr2w0 : w.heap.size < r2.heap.size := by omega
  have hlr2w1 : w.heap.size + 1 < r2.heap.size := by omega
  have hlr2w2 : w.heap.size + 1 + 1 < r2.heap.size := by omega
  go_wp2_with fail
  rw [rounds_succ]
  go_wp2_with fail
  have hecr3 := @Ext.cell
  refine wp_region_ext (by kernel_rfl) (by kernel_rfl) ?_
  repeat (first | go_big_quiet_skip | (go_big_quiet_want; go_big_quiet_op; first | go_big_quiet_on | (go_big_quiet_call ((first | fail | (go_at_call 46; exact ext_call (C2 _)))))))
  clear hecr3
  refine wpQuiet_nil ?_
  rintro r3 ⟨⟨_, hbr3⟩, rfl⟩
  obtain ⟨hcr3, hfr3⟩ := bcell hbr3
  have hzr3 := hbr3.size
  try simp only [World.size_alloc, World.size_setCell, World.size_drew] at hzr3
  have hlr3w0 : w.heap.size < r3.heap.size := by omega
  have hlr3w1 : w.heap.size + 1 < r3.heap.size := by omega
  have hlr3w2 : w.heap.size + 1 + 1 < r3.heap.size := by omega
  go_wp2_with fail
  rw [rounds_succ]
  go_wp2
  refine bodyPost_ret (v := (.tuple #[.int .i64 2, .int .i64 0])) (by simp [results, Try.results23, go_sem, *]) rfl ⟨rfl, ?_⟩; exact (by repeat' (first | (with_reducible exact Below.refl _ _) | (with_reducible refine bl_set ?_ _ ?_) | (with_reducible refine bl_alloc ?_ _) | (with_reducible refine bl_drew ?_) | (with_reducible refine bl_via (by with_reducible assumption) ?_) | (with_reducible assumption) | omega | (simp only []; omega) | (simp; omega)))

set_option maxRecDepth 100000 in
set_option maxHeartbeats 4000000 in
theorem phase_2t (t0 t1 z0 z1 g0 g1 g2 g3 g4 g5 : Int) (ht00 : 0 ≤ t0) (ht01 : t0 < 65536) (ht10 : 0 ≤ t1) (ht11 : t1 < 65536) (hz00 : 0 ≤ z0) (hz01 : z0 < 65536) (hz10 : 0 ≤ z1) (hz11 : z1 < 65536) (hg00 : 0 ≤ g0) (hg01 : g0 < 65536) (hg10 : 0 ≤ g1) (hg11 : g1 < 65536) (hg20 : 0 ≤ g2) (hg21 : g2 < 65536) (hg30 : 0 ≤ g3) (hg31 : g3 < 65536) (hg40 : 0 ≤ g4) (hg41 : g4 < 65536) (hg50 : 0 ≤ g5) (hg51 : g5 < 65536) (c2 : decide (val z0 z1 ≤ val g4 g5) = true) (w : World) :
    Calls Try.prog 23 #[.int .i64 (2), (.agg #[.int .u16 (t0), .int .u16 (t1)]), (.agg #[.int .u16 (z0), .int .u16 (z1)]), (.agg #[.int .u16 (g0), .int .u16 (g1), .int .u16 (g2), .int .u16 (g3), .int .u16 (g4), .int .u16 (g5)])] w fun e w' => e = .returned (.tuple #[.int .i64 3, .int .i64 0]) ∧ Below w.heap.size w w' := by
  rw [← cmpv_le] at c2
  obtain ⟨k2, ek2⟩ : ∃ k, k = cmpv (val z0 z1) (val g4 g5) := ⟨_, rfl⟩
  have C2 := fun w => cmp_any z0 z1 g4 g5 hz00 hz01 hz10 hz11 hg40 hg41 hg50 hg51 w
  rw [← ek2] at c2 C2
  clear ek2
  have x0 : ∀ w : World, (Instr.index 26 (.agg #[.int .u16 t0, .int .u16 t1, .int .u16 z0, .int .u16 z1, .int .u16 z0, .int .u16 z1]) (.int .i64 0)).run Try.prog w = .ok (.agg #[.int .u16 t0, .int .u16 t1]) w := fun _ => by kernel_rfl
  have x1 : ∀ w : World, (Instr.index 26 (.agg #[.int .u16 t0, .int .u16 t1, .int .u16 z0, .int .u16 z1, .int .u16 z0, .int .u16 z1]) (.int .i64 1)).run Try.prog w = .ok (.agg #[.int .u16 z0, .int .u16 z1]) w := fun _ => by kernel_rfl
  have x2 : ∀ w : World, (Instr.index 26 (.agg #[.int .u16 t0, .int .u16 t1, .int .u16 z0, .int .u16 z1, .int .u16 z0, .int .u16 z1]) (.int .i64 2)).run Try.prog w = .ok (.agg #[.int .u16 z0, .int .u16 z1]) w := fun _ => by kernel_rfl
  go_enter Try.func23, Try.ntmps23
  go_wp2_with fail
  refine wp_loop_rounds 4 ?_
  rw [rounds_succ]
  go_wp2_with fail
  have hecr1 := @Ext.cell
  refine wp_region_ext (by kernel_rfl) (by kernel_rfl) ?_
  repeat (first | go_big_quiet_skip | (go_big_quiet_want; go_big_quiet_op; first | go_big_quiet_on | (go_big_quiet_call ((first | fail | fail)))))
  clear hecr1
  refine wpQuiet_nil ?_
  rintro r1 ⟨⟨_, hbr1⟩, rfl⟩
  obtain ⟨hcr1, hfr1⟩ := bcell hbr1
  have hzr1 := hbr1.size
  try simp only [World.size_alloc, World.size_setCell, World.size_drew] at hzr1
  have hlr1w0 : w.heap.size < r1.heap.size := by omega
  have hlr1w1 : w.heap.size + 1 < r1.heap.size := by omega
  have hlr1w2 : w.heap.size + 1 + 1 < r1.heap.size := by omega
  go_wp2_with fail
  rw [rounds_succ]
  go_wp2_with fail
  have hecr2 := @Ext.cell
  refine wp_region_ext (by kernel_rfl) (by kernel_rfl) ?_
  repeat (first | go_big_quiet_skip | (go_big_quiet_want; go_big_quiet_op; first | go_big_quiet_on | (go_big_quiet_call ((first | fail | fail)))))
  clear hecr2
  refine wpQuiet_nil ?_
  rintro r2 ⟨⟨_, hbr2⟩, rfl⟩
  obtain ⟨hcr2, hfr2⟩ := bcell hbr2
  have hzr2 := hbr2.size
  try simp only [World.size_alloc, World.size_setCell, World.size_drew] at hzr2
  have hlr2w0 : w.heap.size < r2.heap.size := by omega
  have hlr2w1 : w.heap.size + 1 < r2.heap.size := by omega
  have hlr2w2 : w.heap.size + 1 + 1 < r2.heap.size := by omega
  go_wp2_with fail
  rw [rounds_succ]
  go_wp2_with fail
  have hecr3 := @Ext.cell
  refine wp_region_ext (by kernel_rfl) (by kernel_rfl) ?_
  repeat (first | go_big_quiet_skip | (go_big_quiet_want; go_big_quiet_op; first | go_big_quiet_on | (go_big_quiet_call ((first | fail | (go_at_call 46; exact ext_call (C2 _)))))))
  clear hecr3
  refine wpQuiet_nil ?_
  rintro r3 ⟨⟨_, hbr3⟩, rfl⟩
  obtain ⟨hcr3, hfr3⟩ := bcell hbr3
  have hzr3 := hbr3.size
  try simp only [World.size_alloc, World.size_setCell, World.size_drew] at hzr3
  have hlr3w0 : w.heap.size < r3.heap.size := by omega
  have hlr3w1 : w.heap.size + 1 < r3.heap.size := by omega
  have hlr3w2 : w.heap.size + 1 + 1 < r3.heap.size := by omega
  go_wp2_with fail
  rw [rounds_succ]
  go_wp2
  refine bodyPost_ret (v := (.tuple #[.int .i64 3, .int .i64 0])) (by simp [results, Try.results23, go_sem, *]) rfl ⟨rfl, ?_⟩; exact (by repeat' (first | (with_reducible exact Below.refl _ _) | (with_reducible refine bl_set ?_ _ ?_) | (with_reducible refine bl_alloc ?_ _) | (with_reducible refine bl_drew ?_) | (with_reducible refine bl_via (by with_reducible assumption) ?_) | (with_reducible assumption) | omega | (simp only []; omega) | (simp; omega)))

set_option maxRecDepth 100000 in
set_option maxHeartbeats 4000000 in
theorem phase_3 (t0 t1 z0 z1 g0 g1 g2 g3 g4 g5 : Int) (ht00 : 0 ≤ t0) (ht01 : t0 < 65536) (ht10 : 0 ≤ t1) (ht11 : t1 < 65536) (hz00 : 0 ≤ z0) (hz01 : z0 < 65536) (hz10 : 0 ≤ z1) (hz11 : z1 < 65536) (hg00 : 0 ≤ g0) (hg01 : g0 < 65536) (hg10 : 0 ≤ g1) (hg11 : g1 < 65536) (hg20 : 0 ≤ g2) (hg21 : g2 < 65536) (hg30 : 0 ≤ g3) (hg31 : g3 < 65536) (hg40 : 0 ≤ g4) (hg41 : g4 < 65536) (hg50 : 0 ≤ g5) (hg51 : g5 < 65536)  (w : World) :
    Calls Try.prog 23 #[.int .i64 (3), (.agg #[.int .u16 (t0), .int .u16 (t1)]), (.agg #[.int .u16 (z0), .int .u16 (z1)]), (.agg #[.int .u16 (g0), .int .u16 (g1), .int .u16 (g2), .int .u16 (g3), .int .u16 (g4), .int .u16 (g5)])] w fun e w' => e = .returned (.tuple #[.int .i64 3, .int .i64 0]) ∧ Below w.heap.size w w' := by
  have x0 : ∀ w : World, (Instr.index 26 (.agg #[.int .u16 t0, .int .u16 t1, .int .u16 z0, .int .u16 z1, .int .u16 z0, .int .u16 z1]) (.int .i64 0)).run Try.prog w = .ok (.agg #[.int .u16 t0, .int .u16 t1]) w := fun _ => by kernel_rfl
  have x1 : ∀ w : World, (Instr.index 26 (.agg #[.int .u16 t0, .int .u16 t1, .int .u16 z0, .int .u16 z1, .int .u16 z0, .int .u16 z1]) (.int .i64 1)).run Try.prog w = .ok (.agg #[.int .u16 z0, .int .u16 z1]) w := fun _ => by kernel_rfl
  have x2 : ∀ w : World, (Instr.index 26 (.agg #[.int .u16 t0, .int .u16 t1, .int .u16 z0, .int .u16 z1, .int .u16 z0, .int .u16 z1]) (.int .i64 2)).run Try.prog w = .ok (.agg #[.int .u16 z0, .int .u16 z1]) w := fun _ => by kernel_rfl
  go_enter Try.func23, Try.ntmps23
  go_wp2_with fail
  refine wp_loop_rounds 4 ?_
  rw [rounds_succ]
  go_wp2_with fail
  have hecr1 := @Ext.cell
  refine wp_region_ext (by kernel_rfl) (by kernel_rfl) ?_
  repeat (first | go_big_quiet_skip | (go_big_quiet_want; go_big_quiet_op; first | go_big_quiet_on | (go_big_quiet_call ((first | fail | fail)))))
  clear hecr1
  refine wpQuiet_nil ?_
  rintro r1 ⟨⟨_, hbr1⟩, rfl⟩
  obtain ⟨hcr1, hfr1⟩ := bcell hbr1
  have hzr1 := hbr1.size
  try simp only [World.size_alloc, World.size_setCell, World.size_drew] at hzr1
  have hlr1w0 : w.heap.size < r1.heap.size := by omega
  have hlr1w1 : w.heap.size + 1 < r1.heap.size := by omega
  have hlr1w2 : w.heap.size + 1 + 1 < r1.heap.size := by omega
  go_wp2_with fail
  rw [rounds_succ]
  go_wp2_with fail
  have hecr2 := @Ext.cell
  refine wp_region_ext (by kernel_rfl) (by kernel_rfl) ?_
  repeat (first | go_big_quiet_skip | (go_big_quiet_want; go_big_quiet_op; first | go_big_quiet_on | (go_big_quiet_call ((first | fail | fail)))))
  clear hecr2
  refine wpQuiet_nil ?_
  rintro r2 ⟨⟨_, hbr2⟩, rfl⟩
  obtain ⟨hcr2, hfr2⟩ := bcell hbr2
  have hzr2 := hbr2.size
  try simp only [World.size_alloc, World.size_setCell, World.size_drew] at hzr2
  have hlr2w0 : w.heap.size < r2.heap.size := by omega
  have hlr2w1 : w.heap.size + 1 < r2.heap.size := by omega
  have hlr2w2 : w.heap.size + 1 + 1 < r2.heap.size := by omega
  go_wp2_with fail
  rw [rounds_succ]
  go_wp2_with fail
  have hecr3 := @Ext.cell
  refine wp_region_ext (by kernel_rfl) (by kernel_rfl) ?_
  repeat (first | go_big_quiet_skip | (go_big_quiet_want; go_big_quiet_op; first | go_big_quiet_on | (go_big_quiet_call ((first | fail | fail)))))
  clear hecr3
  refine wpQuiet_nil ?_
  rintro r3 ⟨⟨_, hbr3⟩, rfl⟩
  obtain ⟨hcr3, hfr3⟩ := bcell hbr3
  have hzr3 := hbr3.size
  try simp only [World.size_alloc, World.size_setCell, World.size_drew] at hzr3
  have hlr3w0 : w.heap.size < r3.heap.size := by omega
  have hlr3w1 : w.heap.size + 1 < r3.heap.size := by omega
  have hlr3w2 : w.heap.size + 1 + 1 < r3.heap.size := by omega
  go_wp2_with fail
  rw [rounds_succ]
  go_wp2
  refine bodyPost_ret (v := (.tuple #[.int .i64 3, .int .i64 0])) (by simp [results, Try.results23, go_sem, *]) rfl ⟨rfl, ?_⟩; exact (by repeat' (first | (with_reducible exact Below.refl _ _) | (with_reducible refine bl_set ?_ _ ?_) | (with_reducible refine bl_alloc ?_ _) | (with_reducible refine bl_drew ?_) | (with_reducible refine bl_via (by with_reducible assumption) ?_) | (with_reducible assumption) | omega | (simp only []; omega) | (simp; omega)))

/-- The phase that is reached. -/
def ph (now : Int) (a b c : Bool) : Int :=
  if now = 0 then (if a then (if b then (if c then 3 else 2) else 1) else 0) else if now = 1 then (if b then (if c then 3 else 2) else 1) else if now = 2 then (if c then 3 else 2) else 3
theorem phase_any (now t0 t1 z0 z1 g0 g1 g2 g3 g4 g5 : Int) (ht00 : 0 ≤ t0) (ht01 : t0 < 65536) (ht10 : 0 ≤ t1) (ht11 : t1 < 65536) (hz00 : 0 ≤ z0) (hz01 : z0 < 65536) (hz10 : 0 ≤ z1) (hz11 : z1 < 65536) (hg00 : 0 ≤ g0) (hg01 : g0 < 65536) (hg10 : 0 ≤ g1) (hg11 : g1 < 65536) (hg20 : 0 ≤ g2) (hg21 : g2 < 65536) (hg30 : 0 ≤ g3) (hg31 : g3 < 65536) (hg40 : 0 ≤ g4) (hg41 : g4 < 65536) (hg50 : 0 ≤ g5) (hg51 : g5 < 65536) (h0 : 0 ≤ now) (h1 : now ≤ 3) (w : World) :
    Calls Try.prog 23 #[.int .i64 (now), (.agg #[.int .u16 (t0), .int .u16 (t1)]), (.agg #[.int .u16 (z0), .int .u16 (z1)]), (.agg #[.int .u16 (g0), .int .u16 (g1), .int .u16 (g2), .int .u16 (g3), .int .u16 (g4), .int .u16 (g5)])] w fun e w' => e = .returned (.tuple #[.int .i64 (ph now (decide (val t0 t1 ≤ val g0 g1)) (decide (val z0 z1 ≤ val g2 g3)) (decide (val z0 z1 ≤ val g4 g5))), .int .i64 0]) ∧ Below w.heap.size w w' := by
  generalize c0 : decide (val t0 t1 ≤ val g0 g1) = a
  generalize c1 : decide (val z0 z1 ≤ val g2 g3) = b
  generalize c2 : decide (val z0 z1 ≤ val g4 g5) = c
  rcases (show now = 0 ∨ now = 1 ∨ now = 2 ∨ now = 3 by omega) with rfl | rfl | rfl | rfl
  · cases a
    · exact phase_0f t0 t1 z0 z1 g0 g1 g2 g3 g4 g5 ht00 ht01 ht10 ht11 hz00 hz01 hz10 hz11 hg00 hg01 hg10 hg11 hg20 hg21 hg30 hg31 hg40 hg41 hg50 hg51 c0 w
    · cases b
      · exact phase_0tf t0 t1 z0 z1 g0 g1 g2 g3 g4 g5 ht00 ht01 ht10 ht11 hz00 hz01 hz10 hz11 hg00 hg01 hg10 hg11 hg20 hg21 hg30 hg31 hg40 hg41 hg50 hg51 c0 c1 w
      · cases c
        · exact phase_0ttf t0 t1 z0 z1 g0 g1 g2 g3 g4 g5 ht00 ht01 ht10 ht11 hz00 hz01 hz10 hz11 hg00 hg01 hg10 hg11 hg20 hg21 hg30 hg31 hg40 hg41 hg50 hg51 c0 c1 c2 w
        · exact phase_0ttt t0 t1 z0 z1 g0 g1 g2 g3 g4 g5 ht00 ht01 ht10 ht11 hz00 hz01 hz10 hz11 hg00 hg01 hg10 hg11 hg20 hg21 hg30 hg31 hg40 hg41 hg50 hg51 c0 c1 c2 w
  · cases b
    · exact phase_1f t0 t1 z0 z1 g0 g1 g2 g3 g4 g5 ht00 ht01 ht10 ht11 hz00 hz01 hz10 hz11 hg00 hg01 hg10 hg11 hg20 hg21 hg30 hg31 hg40 hg41 hg50 hg51 c1 w
    · cases c
      · exact phase_1tf t0 t1 z0 z1 g0 g1 g2 g3 g4 g5 ht00 ht01 ht10 ht11 hz00 hz01 hz10 hz11 hg00 hg01 hg10 hg11 hg20 hg21 hg30 hg31 hg40 hg41 hg50 hg51 c1 c2 w
      · exact phase_1tt t0 t1 z0 z1 g0 g1 g2 g3 g4 g5 ht00 ht01 ht10 ht11 hz00 hz01 hz10 hz11 hg00 hg01 hg10 hg11 hg20 hg21 hg30 hg31 hg40 hg41 hg50 hg51 c1 c2 w
  · cases c
    · exact phase_2f t0 t1 z0 z1 g0 g1 g2 g3 g4 g5 ht00 ht01 ht10 ht11 hz00 hz01 hz10 hz11 hg00 hg01 hg10 hg11 hg20 hg21 hg30 hg31 hg40 hg41 hg50 hg51 c2 w
    · exact phase_2t t0 t1 z0 z1 g0 g1 g2 g3 g4 g5 ht00 ht01 ht10 ht11 hz00 hz01 hz10 hz11 hg00 hg01 hg10 hg11 hg20 hg21 hg30 hg31 hg40 hg41 hg50 hg51 c2 w
  · exact phase_3 t0 t1 z0 z1 g0 g1 g2 g3 g4 g5 ht00 ht01 ht10 ht11 hz00 hz01 hz10 hz11 hg00 hg01 hg10 hg11 hg20 hg21 hg30 hg31 hg40 hg41 hg50 hg51  w
end Go.Proofs.Ytpmocegfiniafaa
