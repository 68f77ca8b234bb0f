/- Turn of package align by values. -/
import Derived.Test.YtbbhppjamighdaaDoorAg
namespace Go.Proofs.YtbbhppjamighdaaDoor
set_option linter.unusedSimpArgs false
set_option linter.unusedVariables false
open Go.RowKit

theorem turn_any_0 (a0 a1 : Int) (ha00 : 0 ≤ a0) (ha01 : a0 < 65536) (ha10 : 0 ≤ a1) (ha11 : a1 < 65536) (w : World) (hS : Sines w) : Calls Tryd.prog 18 #[.int .i64 0, (.agg #[.int .u16 (a0), .int .u16 (a1)])] w fun e w' => e = .returned (.tuple #[(.agg #[.int .u16 (8192), .int .u16 (0), .int .u16 (0), .int .u16 (0), .int .u16 (0), .int .u16 (0), .int .u16 (0), .int .u16 (0), .int .u16 (hi (sinv (val a0 a1 + 67108864))), .int .u16 (lo (sinv (val a0 a1 + 67108864))), .int .u16 (hi (-sinv (val a0 a1))), .int .u16 (lo (-sinv (val a0 a1))), .int .u16 (0), .int .u16 (0), .int .u16 (hi (sinv (val a0 a1))), .int .u16 (lo (sinv (val a0 a1))), .int .u16 (hi (sinv (val a0 a1 + 67108864))), .int .u16 (lo (sinv (val a0 a1 + 67108864)))]), .int .i64 0]) ∧ Below w.heap.size w w' := by
  obtain ⟨s0, s1⟩ := sinv_bd (val a0 a1)
  have q := hi_lo _ s0 s1
  have kn := fun w => neg_any (hi (sinv (val a0 a1))) (lo (sinv (val a0 a1))) (by omega) (by omega) (by omega) (by omega) w
  rw [val_of _ s0 s1] at kn
  exact turn_of_0 a0 a1 _ _ _ _ _ _ (fun w hS => Sin_any a0 a1 ha00 ha01 ha10 ha11 w hS) (fun w hS => Cos_any a0 a1 ha00 ha01 ha10 ha11 w hS) kn (exactly_of _ _ _ _ clamp34) w hS
theorem turn_any_1 (a0 a1 : Int) (ha00 : 0 ≤ a0) (ha01 : a0 < 65536) (ha10 : 0 ≤ a1) (ha11 : a1 < 65536) (w : World) (hS : Sines w) : Calls Tryd.prog 18 #[.int .i64 1, (.agg #[.int .u16 (a0), .int .u16 (a1)])] w fun e w' => e = .returned (.tuple #[(.agg #[.int .u16 (hi (sinv (val a0 a1 + 67108864))), .int .u16 (lo (sinv (val a0 a1 + 67108864))), .int .u16 (0), .int .u16 (0), .int .u16 (hi (sinv (val a0 a1))), .int .u16 (lo (sinv (val a0 a1))), .int .u16 (0), .int .u16 (0), .int .u16 (8192), .int .u16 (0), .int .u16 (0), .int .u16 (0), .int .u16 (hi (-sinv (val a0 a1))), .int .u16 (lo (-sinv (val a0 a1))), .int .u16 (0), .int .u16 (0), .int .u16 (hi (sinv (val a0 a1 + 67108864))), .int .u16 (lo (sinv (val a0 a1 + 67108864)))]), .int .i64 0]) ∧ Below w.heap.size w w' := by
  obtain ⟨s0, s1⟩ := sinv_bd (val a0 a1)
  have q := hi_lo _ s0 s1
  have kn := fun w => neg_any (hi (sinv (val a0 a1))) (lo (sinv (val a0 a1))) (by omega) (by omega) (by omega) (by omega) w
  rw [val_of _ s0 s1] at kn
  exact turn_of_1 a0 a1 _ _ _ _ _ _ (fun w hS => Sin_any a0 a1 ha00 ha01 ha10 ha11 w hS) (fun w hS => Cos_any a0 a1 ha00 ha01 ha10 ha11 w hS) kn (exactly_of _ _ _ _ clamp34) w hS
theorem turn_any_2 (a0 a1 : Int) (ha00 : 0 ≤ a0) (ha01 : a0 < 65536) (ha10 : 0 ≤ a1) (ha11 : a1 < 65536) (w : World) (hS : Sines w) : Calls Tryd.prog 18 #[.int .i64 2, (.agg #[.int .u16 (a0), .int .u16 (a1)])] w fun e w' => e = .returned (.tuple #[(.agg #[.int .u16 (hi (sinv (val a0 a1 + 67108864))), .int .u16 (lo (sinv (val a0 a1 + 67108864))), .int .u16 (hi (-sinv (val a0 a1))), .int .u16 (lo (-sinv (val a0 a1))), .int .u16 (0), .int .u16 (0), .int .u16 (hi (sinv (val a0 a1))), .int .u16 (lo (sinv (val a0 a1))), .int .u16 (hi (sinv (val a0 a1 + 67108864))), .int .u16 (lo (sinv (val a0 a1 + 67108864))), .int .u16 (0), .int .u16 (0), .int .u16 (0), .int .u16 (0), .int .u16 (0), .int .u16 (0), .int .u16 (8192), .int .u16 (0)]), .int .i64 0]) ∧ Below w.heap.size w w' := by
  obtain ⟨s0, s1⟩ := sinv_bd (val a0 a1)
  have q := hi_lo _ s0 s1
  have kn := fun w => neg_any (hi (sinv (val a0 a1))) (lo (sinv (val a0 a1))) (by omega) (by omega) (by omega) (by omega) w
  rw [val_of _ s0 s1] at kn
  exact turn_of_2 a0 a1 _ _ _ _ _ _ (fun w hS => Sin_any a0 a1 ha00 ha01 ha10 ha11 w hS) (fun w hS => Cos_any a0 a1 ha00 ha01 ha10 ha11 w hS) kn (exactly_of _ _ _ _ clamp34) w hS
set_option maxRecDepth 100000 in
set_option maxHeartbeats 8000000 in
theorem turn_bad (x a0 a1 : Int) (hx0 : -9223372036854775808 ≤ x) (hx1 : x ≤ 9223372036854775807) (hb : x < 0 ∨ 2 < x) (w : World) : Calls Tryd.prog 18 #[.int .i64 x, (.agg #[.int .u16 (a0), .int .u16 (a1)])] w fun e w' => e = .returned (.tuple #[(.agg #[.int .u16 (0), .int .u16 (0), .int .u16 (0), .int .u16 (0), .int .u16 (0), .int .u16 (0), .int .u16 (0), .int .u16 (0), .int .u16 (0), .int .u16 (0), .int .u16 (0), .int .u16 (0), .int .u16 (0), .int .u16 (0), .int .u16 (0), .int .u16 (0), .int .u16 (0), .int .u16 (0)]), .int .i64 3]) ∧ Below w.heap.size w w' := by
  have t1 := there_row (c := #[.int .u16 0, .int .u16 0, .int .u16 0, .int .u16 0, .int .u16 0, .int .u16 0, .int .u16 0, .int .u16 0, .int .u16 0, .int .u16 0, .int .u16 0, .int .u16 0, .int .u16 0, .int .u16 0, .int .u16 0, .int .u16 0, .int .u16 0, .int .u16 0]) (t := 29) (heap_new (w := w.alloc (.cells #[.int .u16 a0, .int .u16 a1] 25)) rfl) (k := 18) (o := 0) (by simp)
  simp only [World.size_alloc] at t1
  rcases hb with hb | hb
  · have d1 : decide (x < 0) = true := decide_eq_true hb
    go_enter Tryd.func18, Tryd.ntmps18
    go_wp2_with (first | fail | (refine WL.h ?_; refine wl_store (op := { dst := none, op := .store 29 (.tmp 4) (.tmp 17), type := _, pos := _, after := _, guard := none }) rfl 29 (.tmp 4) (.tmp 17) rfl (w.heap.size + 1) 0 _ rfl rfl t1 hi_mat (by simp [Value.oneCell']) ?_; simp only [Act.put, List.setIfInBounds_toArray, List.set_cons_zero, List.set_cons_succ]))
    refine bodyPost_ret (v := (.tuple #[(.agg #[.int .u16 (0), .int .u16 (0), .int .u16 (0), .int .u16 (0), .int .u16 (0), .int .u16 (0), .int .u16 (0), .int .u16 (0), .int .u16 (0), .int .u16 (0), .int .u16 (0), .int .u16 (0), .int .u16 (0), .int .u16 (0), .int .u16 (0), .int .u16 (0), .int .u16 (0), .int .u16 (0)]), .int .i64 3])) (results_two Tryd.results18 rfl rfl (run_loadVar_mid _ _ 0 _ _ _ (World.rangeAt_setCells_same _ _ _ _ t1) hu_mat rfl hi_mat)) rfl ⟨rfl, bl_cells _ _ _ _ (by repeat' (first | (with_reducible exact Below.refl _ _) | (with_reducible refine bl_set ?_ _ ?_) | (with_reducible refine bl_alloc ?_ _) | (with_reducible refine bl_drew ?_) | (with_reducible refine bl_via (by with_reducible assumption) ?_) | (with_reducible assumption) | omega | (simp only []; omega) | (simp; omega))) (by omega)⟩
  · have d1 : decide (x < 0) = false := decide_eq_false (by omega)
    have d2 : decide (2 < x) = true := decide_eq_true hb
    go_enter Tryd.func18, Tryd.ntmps18
    go_wp2_with (first | fail | (refine WL.h ?_; refine wl_store (op := { dst := none, op := .store 29 (.tmp 4) (.tmp 17), type := _, pos := _, after := _, guard := none }) rfl 29 (.tmp 4) (.tmp 17) rfl (w.heap.size + 1) 0 _ rfl rfl t1 hi_mat (by simp [Value.oneCell']) ?_; simp only [Act.put, List.setIfInBounds_toArray, List.set_cons_zero, List.set_cons_succ]))
    refine bodyPost_ret (v := (.tuple #[(.agg #[.int .u16 (0), .int .u16 (0), .int .u16 (0), .int .u16 (0), .int .u16 (0), .int .u16 (0), .int .u16 (0), .int .u16 (0), .int .u16 (0), .int .u16 (0), .int .u16 (0), .int .u16 (0), .int .u16 (0), .int .u16 (0), .int .u16 (0), .int .u16 (0), .int .u16 (0), .int .u16 (0)]), .int .i64 3])) (results_two Tryd.results18 rfl rfl (run_loadVar_mid _ _ 0 _ _ _ (World.rangeAt_setCells_same _ _ _ _ t1) hu_mat rfl hi_mat)) rfl ⟨rfl, bl_cells _ _ _ _ (by repeat' (first | (with_reducible exact Below.refl _ _) | (with_reducible refine bl_set ?_ _ ?_) | (with_reducible refine bl_alloc ?_ _) | (with_reducible refine bl_drew ?_) | (with_reducible refine bl_via (by with_reducible assumption) ?_) | (with_reducible assumption) | omega | (simp only []; omega) | (simp; omega))) (by omega)⟩
end Go.Proofs.YtbbhppjamighdaaDoor
