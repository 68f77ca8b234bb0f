/- The examples that every law of chapter 35 checks first: 'lives' returns true. -/
import Derived.Test.YtpmocegfiniafaaQj
import Derived.Test.YtpmocegfiniafaaQa
import Derived.Test.YtpmocegfiniafaaQe
import Derived.Test.YtpmocegfiniafaaQc
import Derived.Test.YtpmocegfiniafaaKi
import Derived.Test.YtpmocegfiniafaaVc
import Derived.Test.YtpmocegfiniafaaVue
import Derived.Test.YtpmocegfiniafaaEq
import Derived.Test.YtpmocegfiniafaaEv
namespace Go.Proofs.Ytpmocegfiniafaa
set_option linter.unusedSimpArgs false
set_option linter.unusedVariables false
open Go.RowKit

theorem calls_val {f : FuncId} {args : Array Value} {w : World} {v v' : Value} (h : Calls Try.prog f args w fun e w' => e = .returned v ∧ Below w.heap.size w w') (e : v = v') : Calls Try.prog f args w fun e w' => e = .returned v' ∧ Below w.heap.size w w' := by rw [← e]; exact h
set_option maxHeartbeats 400000 in
theorem of35 (x y z : Int) (x0 : -268435455 ≤ x) (x1 : x ≤ 268435455) (y0 : -268435455 ≤ y) (y1 : y ≤ 268435455) (z0 : -268435455 ≤ z) (z1 : z ≤ 268435455) (w : World) :
    Calls Try.prog 28 #[.int .i64 x, .int .i64 y, .int .i64 z] w fun r w' => r = .returned (.agg #[.int .u16 (hi (x)), .int .u16 (lo (x)), .int .u16 (hi (y)), .int .u16 (lo (y)), .int .u16 (hi (z)), .int .u16 (lo (z))]) ∧ Below w.heap.size w w' := by
  go_enter Try.func28, Try.ntmps28
  go_wp2_with fail
  refine (rdouble_any x x0 x1 _).mono ?_
  rintro _ r1 ⟨rfl, hbr1⟩
  obtain ⟨hcr1, hfr1⟩ := bcell hbr1
  have hzr1 := hbr1.size
  try simp only [World.size_alloc, World.size_setCell, World.size_drew] at hzr1
  have hlr1w0 : w.heap.size < r1.heap.size := by omega
  go_wp2_with fail
  refine (rdouble_any y y0 y1 _).mono ?_
  rintro _ r2 ⟨rfl, hbr2⟩
  obtain ⟨hcr2, hfr2⟩ := bcell hbr2
  have hzr2 := hbr2.size
  try simp only [World.size_alloc, World.size_setCell, World.size_drew] at hzr2
  have hlr2w0 : w.heap.size < r2.heap.size := by omega
  go_wp2_with fail
  refine (rdouble_any z z0 z1 _).mono ?_
  rintro _ r3 ⟨rfl, hbr3⟩
  obtain ⟨hcr3, hfr3⟩ := bcell hbr3
  have hzr3 := hbr3.size
  try simp only [World.size_alloc, World.size_setCell, World.size_drew] at hzr3
  have hlr3w0 : w.heap.size < r3.heap.size := by omega
  go_wp2
  refine bodyPost_ret (v := (.agg #[.int .u16 (hi (x)), .int .u16 (lo (x)), .int .u16 (hi (y)), .int .u16 (lo (y)), .int .u16 (hi (z)), .int .u16 (lo (z))])) (by simp [results, Try.results28, go_sem, *]) rfl ⟨rfl, ?_⟩; exact (by repeat' (first | (with_reducible exact Below.refl _ _) | (with_reducible refine bl_set ?_ _ ?_) | (with_reducible refine bl_alloc ?_ _) | (with_reducible refine bl_drew ?_) | (with_reducible refine bl_via (by with_reducible assumption) ?_) | (with_reducible assumption) | omega | (simp only []; omega) | (simp; omega)))
theorem engine35 (w : World) : Calls Try.prog 25 #[] w fun e w' => e = .returned (.agg #[.int .u16 2048, .int .u16 0, .int .u16 8192, .int .u16 0, .int .u16 12288, .int .u16 0, .int .u16 12288, .int .u16 0]) ∧ Below w.heap.size w w' := by
  go_enter Try.func25, Try.ntmps25
  go_wp2
  refine bodyPost_ret (v := (.agg #[.int .u16 2048, .int .u16 0, .int .u16 8192, .int .u16 0, .int .u16 12288, .int .u16 0, .int .u16 12288, .int .u16 0])) (by simp [results, Try.results25, go_sem, *]) rfl ⟨rfl, ?_⟩; exact (by repeat' (first | (with_reducible exact Below.refl _ _) | (with_reducible refine bl_set ?_ _ ?_) | (with_reducible refine bl_alloc ?_ _) | (with_reducible refine bl_drew ?_) | (with_reducible refine bl_via (by with_reducible assumption) ?_) | (with_reducible assumption) | omega | (simp only []; omega) | (simp; omega)))
theorem gates35 (w : World) : Calls Try.prog 26 #[] w fun e w' => e = .returned (.agg #[.int .u16 4096, .int .u16 0, .int .u16 2048, .int .u16 0, .int .u16 0, .int .u16 0]) ∧ Below w.heap.size w w' := by
  go_enter Try.func26, Try.ntmps26
  go_wp2
  refine bodyPost_ret (v := (.agg #[.int .u16 4096, .int .u16 0, .int .u16 2048, .int .u16 0, .int .u16 0, .int .u16 0])) (by simp [results, Try.results26, go_sem, *]) rfl ⟨rfl, ?_⟩; exact (by repeat' (first | (with_reducible exact Below.refl _ _) | (with_reducible refine bl_set ?_ _ ?_) | (with_reducible refine bl_alloc ?_ _) | (with_reducible refine bl_drew ?_) | (with_reducible refine bl_via (by with_reducible assumption) ?_) | (with_reducible assumption) | omega | (simp only []; omega) | (simp; omega)))
theorem cl1 (w : World) : Calls Try.prog 11 #[(.agg #[.int .u16 0, .int .u16 0, .int .u16 0, .int .u16 0, .int .u16 0, .int .u16 0, .int .u16 0, .int .u16 0, .int .u16 0, .int .u16 0, .int .u16 0, .int .u16 0]), (.agg #[.int .u16 512, .int .u16 0, .int .u16 0, .int .u16 0, .int .u16 0, .int .u16 0, .int .u16 0, .int .u16 0, .int .u16 0, .int .u16 0, .int .u16 0, .int .u16 0, .int .u16 8192, .int .u16 0])] w fun e w' => e = .returned (.tuple #[(.agg #[.int .u16 (768), .int .u16 (0), .int .u16 (0), .int .u16 (0), .int .u16 (0), .int .u16 (0)]), .bool false, .int .i64 0]) ∧ Below w.heap.size w w' :=
  calls_val (command_quiet 0 0 0 0 0 0 0 0 0 0 0 0 512 0 0 0 0 0 0 0 0 0 0 0 8192 0 (by omega) (by omega) (by omega) (by omega) (by omega) (by omega) (by omega) (by omega) (by omega) (by omega) (by omega) (by omega) (by omega) (by omega) (by omega) (by omega) (by omega) (by omega) (by omega) (by omega) (by omega) (by omega) (by omega) (by omega) (by omega) (by omega) (by omega) (by omega) (by omega) (by omega) (by omega) (by omega) (by omega) (by omega) (by omega) (by omega) (by omega) (by omega) (by omega) (by omega) (by omega) (by omega) (by omega) (by omega) (by omega) (by omega) (by omega) (by omega) (by omega) (by omega) (by omega) (by omega) (by decide +kernel) (.inr (by kernel_rfl)) w) (by kernel_rfl)
theorem cl2 (w : World) : Calls Try.prog 11 #[(.agg #[.int .u16 0, .int .u16 0, .int .u16 0, .int .u16 0, .int .u16 0, .int .u16 0, .int .u16 0, .int .u16 0, .int .u16 0, .int .u16 0, .int .u16 1024, .int .u16 0]), (.agg #[.int .u16 0, .int .u16 0, .int .u16 0, .int .u16 0, .int .u16 0, .int .u16 0, .int .u16 0, .int .u16 0, .int .u16 0, .int .u16 0, .int .u16 0, .int .u16 0, .int .u16 8192, .int .u16 0])] w fun e w' => e = .returned (.tuple #[(.agg #[.int .u16 (0), .int .u16 (0), .int .u16 (0), .int .u16 (0), .int .u16 (32255), .int .u16 (32767)]), .bool false, .int .i64 0]) ∧ Below w.heap.size w w' :=
  calls_val (command_quiet 0 0 0 0 0 0 0 0 0 0 1024 0 0 0 0 0 0 0 0 0 0 0 0 0 8192 0 (by omega) (by omega) (by omega) (by omega) (by omega) (by omega) (by omega) (by omega) (by omega) (by omega) (by omega) (by omega) (by omega) (by omega) (by omega) (by omega) (by omega) (by omega) (by omega) (by omega) (by omega) (by omega) (by omega) (by omega) (by omega) (by omega) (by omega) (by omega) (by omega) (by omega) (by omega) (by omega) (by omega) (by omega) (by omega) (by omega) (by omega) (by omega) (by omega) (by omega) (by omega) (by omega) (by omega) (by omega) (by omega) (by omega) (by omega) (by omega) (by omega) (by omega) (by omega) (by omega) (by decide +kernel) (.inr (by kernel_rfl)) w) (by kernel_rfl)
theorem tl1 (w : World) : Calls Try.prog 18 #[(.agg #[.int .u16 2048, .int .u16 0, .int .u16 8192, .int .u16 0, .int .u16 12288, .int .u16 0, .int .u16 12288, .int .u16 0]), (.agg #[.int .u16 (10240), .int .u16 (0)])] w fun e w' => e = .returned (.tuple #[(.agg #[.int .u16 (8192), .int .u16 (0)]), .int .i64 0]) ∧ Below w.heap.size w w' :=
  calls_val (throttle_any 10240 0 2048 0 8192 0 12288 0 12288 0 (by omega) (by omega) (by omega) (by omega) (by omega) (by omega) (by omega) (by omega) (by omega) (by omega) (by omega) (by omega) (by omega) (by omega) (by omega) (by omega) (by omega) (by omega) (by omega) (by omega) (by decide +kernel) w) (by kernel_rfl)
theorem pl1 (w : World) : Calls Try.prog 23 #[.int .i64 0, (.agg #[.int .u16 (4096), .int .u16 (0)]), (.agg #[.int .u16 (8192), .int .u16 (0)]), (.agg #[.int .u16 4096, .int .u16 0, .int .u16 2048, .int .u16 0, .int .u16 0, .int .u16 0])] w fun e w' => e = .returned (.tuple #[.int .i64 1, .int .i64 0]) ∧ Below w.heap.size w w' :=
  calls_val (phase_any 0 4096 0 8192 0 4096 0 2048 0 0 0 (by omega) (by omega) (by omega) (by omega) (by omega) (by omega) (by omega) (by omega) (by omega) (by omega) (by omega) (by omega) (by omega) (by omega) (by omega) (by omega) (by omega) (by omega) (by omega) (by omega) (by omega) (by omega) w) (by kernel_rfl)
theorem nsq35 : nsq (dot (val 0 0) (val 0 0) (val 4608 0) (val 0 0) (val 0 0) (val 4608 0)) = 75497472 := by
  have h : dot (val 0 0) (val 0 0) (val 4608 0) (val 0 0) (val 0 0) (val 4608 0) = 75497472 * 75497472 := by decide +kernel
  rw [h]
  have e : isq (75497472 * 75497472) = 75497472 := isq_unique _ _ (by omega) (by omega) (by omega)
  unfold nsq
  rw [e, if_neg (by omega)]
theorem unit35 : unitV (val 0 0) (val 0 0) (val 4608 0) = (.tuple #[(.agg #[.int .u16 (0), .int .u16 (0), .int .u16 (0), .int .u16 (0), .int .u16 (8192), .int .u16 (0)]), .bool false]) := by
  have e1 : ucnt (val 0 0) (val 0 0) (val 4608 0) = 1 := by decide +kernel
  have e2 : usq (val 0 0) (val 0 0) (val 4608 0) = 150994944 * 150994944 := by decide +kernel
  have e : isq (150994944 * 150994944) = 150994944 := isq_unique _ _ (by omega) (by omega) (by omega)
  unfold unitV uni
  rw [if_neg (by decide +kernel), e1, e2, e]
  have f0 : hi (sat (rnd (val 0 0 * pw 1 * 134217728) 150994944) 268435455) = 0 := by decide +kernel
  have f1 : lo (sat (rnd (val 0 0 * pw 1 * 134217728) 150994944) 268435455) = 0 := by decide +kernel
  have f2 : hi (sat (rnd (val 4608 0 * pw 1 * 134217728) 150994944) 268435455) = 8192 := by decide +kernel
  have f3 : lo (sat (rnd (val 4608 0 * pw 1 * 134217728) 150994944) 268435455) = 0 := by decide +kernel
  rw [f0, f1, f2, f3]
theorem len35 (w : World) : Calls Try.prog 41 #[(.agg #[.int .u16 (0), .int .u16 (0), .int .u16 (0), .int .u16 (0), .int .u16 (4608), .int .u16 (0)])] w fun e w' => e = .returned (.tuple #[(.agg #[.int .u16 (4608), .int .u16 (0)]), .bool false]) ∧ Below w.heap.size w w' := by
  have h := length_any 0 0 0 0 4608 0 (by omega) (by omega) (by omega) (by omega) (by omega) (by omega) (by omega) (by omega) (by omega) (by omega) (by omega) (by omega) w
  rw [nsq35] at h
  exact calls_val h (by kernel_rfl)
theorem uni35 (w : World) : Calls Try.prog 42 #[(.agg #[.int .u16 (0), .int .u16 (0), .int .u16 (0), .int .u16 (0), .int .u16 (4608), .int .u16 (0)])] w fun e w' => e = .returned (.tuple #[(.agg #[.int .u16 (0), .int .u16 (0), .int .u16 (0), .int .u16 (0), .int .u16 (8192), .int .u16 (0)]), .bool false]) ∧ Below w.heap.size w w' := by
  have h := unit_any 0 0 0 0 4608 0 (by omega) (by omega) (by omega) (by omega) (by omega) (by omega) (by omega) (by omega) (by omega) (by omega) (by omega) (by omega) w
  rw [unit35] at h
  exact h
theorem shl35 (w : World) : Calls Try.prog 34 #[(.agg #[.int .u16 (0), .int .u16 (0), .int .u16 (0), .int .u16 (0), .int .u16 (24575), .int .u16 (32767)]), .int .i64 (-4)] w fun e w' => e = .returned (.tuple #[(.agg #[.int .u16 (0), .int .u16 (0), .int .u16 (0), .int .u16 (0), .int .u16 (32255), .int .u16 (32767)]), .bool false]) ∧ Below w.heap.size w w' :=
  calls_val (vshift_any 0 0 0 0 24575 32767 (-4) (by omega) (by omega) (by omega) (by omega) (by omega) (by omega) (by omega) (by omega) (by omega) (by omega) (by omega) (by omega) (by omega) (by omega) w) (by kernel_rfl)
theorem sub35 (w : World) : Calls Try.prog 32 #[(.agg #[.int .u16 (0), .int .u16 (0), .int .u16 (0), .int .u16 (0), .int .u16 (4096), .int .u16 (0)]), (.agg #[.int .u16 (0), .int .u16 (0), .int .u16 (0), .int .u16 (0), .int .u16 (32255), .int .u16 (32767)])] w fun e w' => e = .returned (.tuple #[(.agg #[.int .u16 (0), .int .u16 (0), .int .u16 (0), .int .u16 (0), .int .u16 (4608), .int .u16 (0)]), .bool false]) ∧ Below w.heap.size w w' :=
  calls_val (vsub_any 0 0 0 0 4096 0 0 0 0 0 32255 32767 (by omega) (by omega) (by omega) (by omega) (by omega) (by omega) (by omega) (by omega) (by omega) (by omega) (by omega) (by omega) (by omega) (by omega) (by omega) (by omega) (by omega) (by omega) (by omega) (by omega) (by omega) (by omega) (by omega) (by omega) w) (by kernel_rfl)
theorem thl1 (w : World) : Calls Try.prog 16 #[(.agg #[.int .u16 (0), .int .u16 (0), .int .u16 (0), .int .u16 (0), .int .u16 (4096), .int .u16 (0)]), (.agg #[.int .u16 (0), .int .u16 (0), .int .u16 (0), .int .u16 (0), .int .u16 (24575), .int .u16 (32767)])] w fun e w' => e = .returned (.tuple #[(.agg #[.int .u16 (4608), .int .u16 (0)]), (.agg #[.int .u16 (0), .int .u16 (0), .int .u16 (0), .int .u16 (0), .int .u16 (8192), .int .u16 (0)]), .bool false]) ∧ Below w.heap.size w w' :=
  thrust_of _ _ _ _ _ _ _ _ _ _ _ _ _ _ _ _ _ _ _ _ _ _ _ _ _ _ _ _ _ _ _ _ _ _ _ _ shl35 sub35 len35 uni35 w
theorem dbl35 (w : World) : Calls Try.prog 14 #[.int .i64 75497472] w fun e w' => e = .returned (.agg #[.int .u16 (4608), .int .u16 (0)]) ∧ Below w.heap.size w w' := calls_val (rdouble_any 75497472 (by omega) (by omega) w) (by kernel_rfl)
theorem of1 (w : World) : Calls Try.prog 28 #[.int .i64 8388608, .int .i64 0, .int .i64 0] w fun e w' => e = .returned (.agg #[.int .u16 (512), .int .u16 (0), .int .u16 (0), .int .u16 (0), .int .u16 (0), .int .u16 (0)]) ∧ Below w.heap.size w w' := calls_val (of35 (8388608) (0) (0) (by omega) (by omega) (by omega) (by omega) (by omega) (by omega) w) (by kernel_rfl)
theorem of2 (w : World) : Calls Try.prog 28 #[.int .i64 0, .int .i64 0, .int .i64 16777216] w fun e w' => e = .returned (.agg #[.int .u16 (0), .int .u16 (0), .int .u16 (0), .int .u16 (0), .int .u16 (1024), .int .u16 (0)]) ∧ Below w.heap.size w w' := calls_val (of35 (0) (0) (16777216) (by omega) (by omega) (by omega) (by omega) (by omega) (by omega) w) (by kernel_rfl)
theorem of3 (w : World) : Calls Try.prog 28 #[.int .i64 0, .int .i64 0, .int .i64 67108864] w fun e w' => e = .returned (.agg #[.int .u16 (0), .int .u16 (0), .int .u16 (0), .int .u16 (0), .int .u16 (4096), .int .u16 (0)]) ∧ Below w.heap.size w w' := calls_val (of35 (0) (0) (67108864) (by omega) (by omega) (by omega) (by omega) (by omega) (by omega) w) (by kernel_rfl)
theorem of4 (w : World) : Calls Try.prog 28 #[.int .i64 0, .int .i64 0, .int .i64 (-134217728)] w fun e w' => e = .returned (.agg #[.int .u16 (0), .int .u16 (0), .int .u16 (0), .int .u16 (0), .int .u16 (24575), .int .u16 (32767)]) ∧ Below w.heap.size w w' := calls_val (of35 (0) (0) (-134217728) (by omega) (by omega) (by omega) (by omega) (by omega) (by omega) w) (by kernel_rfl)
theorem of5 (w : World) : Calls Try.prog 28 #[.int .i64 12582912, .int .i64 0, .int .i64 0] w fun e w' => e = .returned (.agg #[.int .u16 (768), .int .u16 (0), .int .u16 (0), .int .u16 (0), .int .u16 (0), .int .u16 (0)]) ∧ Below w.heap.size w w' := calls_val (of35 (12582912) (0) (0) (by omega) (by omega) (by omega) (by omega) (by omega) (by omega) w) (by kernel_rfl)
theorem of6 (w : World) : Calls Try.prog 28 #[.int .i64 0, .int .i64 0, .int .i64 (-8388608)] w fun e w' => e = .returned (.agg #[.int .u16 (0), .int .u16 (0), .int .u16 (0), .int .u16 (0), .int .u16 (32255), .int .u16 (32767)]) ∧ Below w.heap.size w w' := calls_val (of35 (0) (0) (-8388608) (by omega) (by omega) (by omega) (by omega) (by omega) (by omega) w) (by kernel_rfl)
theorem of7 (w : World) : Calls Try.prog 28 #[.int .i64 0, .int .i64 0, .int .i64 134217728] w fun e w' => e = .returned (.agg #[.int .u16 (0), .int .u16 (0), .int .u16 (0), .int .u16 (0), .int .u16 (8192), .int .u16 (0)]) ∧ Below w.heap.size w w' := calls_val (of35 (0) (0) (134217728) (by omega) (by omega) (by omega) (by omega) (by omega) (by omega) w) (by kernel_rfl)

set_option maxRecDepth 100000 in
set_option maxHeartbeats 8000000 in
theorem lives35 (w : World) : Calls Try.prog 10 #[] w fun e w' => e = .returned (.bool true) ∧ Below w.heap.size w w' := by
  have heq := @eq_dbl
  have hev := @eq_vec
  go_enter Try.func10, Try.ntmps10
  go_wp2_with fail
  have hecr1 := @Ext.cell2
  refine wp_region_floatl2 9 8 7 _ _ _ _ _ (.cells #[.int .u16 0, .int .u16 0, .int .u16 0, .int .u16 0, .int .u16 0, .int .u16 0] 27) (by kernel_rfl) rfl rfl (by kernel_rfl) (by kernel_rfl) (by kernel_rfl) rfl rfl rfl rfl (fun _ _ => by simp [go_sem]) (fun _ _ d _ _ h => by cases d <;> exact h) (by kernel_rfl) (by kernel_rfl) rfl ?_
  apply Exists.intro
  refine ⟨fun W' => ?_, ?_⟩
  · simp only [List.take_succ_cons, List.take_zero]
    repeat (first | go_big_quiet_skip | (go_big_quiet_want; go_big_quiet_op; first | go_big_quiet_on | (go_big_quiet_call ((first | fail | (go_at_call 28; with_reducible exact ext_call (of1 _)) | (go_at_call 11; with_reducible exact ext_call (cl1 _)))))))
    exact wpQuiet_nil rfl
  clear hecr1
  simp only [List.drop_succ_cons, List.drop_zero, Act.put, List.setIfInBounds_toArray, List.set_cons_zero, List.set_cons_succ]
  intro B1 r1 hbr1 hBr1 hDr1 hEr1
  have hGr1_0 := block_cell hEr1 0
  have hGr1_1 := block_cell hEr1 1
  have hGr1_2 := block_cell hEr1 2
  have hGr1_3 := block_cell hEr1 3
  have hGr1_4 := block_cell hEr1 4
  have hGr1_5 := block_cell hEr1 5
  have hFr1 := block_free hEr1
  simp only [List.getElem?_toArray, List.getElem?_cons_zero, List.getElem?_cons_succ] at hGr1_0 hGr1_1 hGr1_2 hGr1_3 hGr1_4 hGr1_5
  clear hEr1
  try simp only [World.size_alloc, World.size_setCell, World.size_drew] at hBr1
  obtain ⟨hcr1, hfr1⟩ := bcell hbr1
  have hzr1 := hbr1.size
  try simp only [World.size_alloc, World.size_setCell, World.size_drew] at hzr1
  have hlr1w0 : w.heap.size < r1.heap.size := by omega
  go_wp2_with fail
  refine wp_gen (fun W => Below w.heap.size w W ∧ (w.heap.size < B1 ∧ B1 < W.heap.size) ∧ (W.cell? ⟨w.heap.size, 0, none⟩ = some (.int .u16 8192) ∧ W.cell? ⟨w.heap.size, 1, none⟩ = some (.int .u16 0)) ∧ (W.cell? ⟨B1, 0, none⟩ = some (.int .u16 768) ∧ W.cell? ⟨B1, 1, none⟩ = some (.int .u16 0) ∧ W.cell? ⟨B1, 2, none⟩ = some (.int .u16 0) ∧ W.cell? ⟨B1, 3, none⟩ = some (.int .u16 0) ∧ W.cell? ⟨B1, 4, none⟩ = some (.int .u16 0) ∧ W.cell? ⟨B1, 5, none⟩ = some (.int .u16 0))) ⟨(by repeat' (first | (with_reducible exact Below.refl _ _) | (with_reducible refine bl_set ?_ _ ?_) | (with_reducible refine bl_alloc ?_ _) | (with_reducible refine bl_drew ?_) | (with_reducible refine bl_via (by with_reducible assumption) ?_) | (with_reducible assumption) | omega | (simp only []; omega) | (simp; omega))), ⟨by omega, by (try simp only [World.size_alloc, World.size_setCell, World.size_drew]); omega⟩, ⟨by go_simp, by go_simp⟩, ⟨by go_simp, by go_simp, by go_simp, by go_simp, by go_simp, by go_simp⟩⟩ ?_
  clear hcr1 hfr1 hbr1
  rintro W1 ⟨hw1, q1, ⟨c1_0_0, c1_0_1⟩, ⟨c1_1_0, c1_1_1, c1_1_2, c1_1_3, c1_1_4, c1_1_5⟩⟩
  have l1 : w.heap.size < W1.heap.size := by omega
  have l2 := q1.2
  have hecr2 := @Ext.cell2
  refine wp_region_floatl2 9 8 7 _ _ _ _ _ (.cells #[.int .u16 0, .int .u16 0, .int .u16 0, .int .u16 0, .int .u16 0, .int .u16 0] 27) (by kernel_rfl) rfl rfl (by kernel_rfl) (by kernel_rfl) (by kernel_rfl) rfl rfl rfl rfl (fun _ _ => by simp [go_sem]) (fun _ _ d _ _ h => by cases d <;> exact h) (by kernel_rfl) (by kernel_rfl) rfl ?_
  apply Exists.intro
  refine ⟨fun W' => ?_, ?_⟩
  · simp only [List.take_succ_cons, List.take_zero]
    repeat (first | go_big_quiet_skip | (go_big_quiet_want; go_big_quiet_op; first | go_big_quiet_on | (go_big_quiet_call ((first | fail | (go_at_call 28; with_reducible exact ext_call (of2 _)) | (go_at_call 11; with_reducible exact ext_call (cl2 _)))))))
    exact wpQuiet_nil rfl
  clear hecr2
  simp only [List.drop_succ_cons, List.drop_zero, Act.put, List.setIfInBounds_toArray, List.set_cons_zero, List.set_cons_succ]
  intro B2 r2 hbr2 hBr2 hDr2 hEr2
  have hGr2_0 := block_cell hEr2 0
  have hGr2_1 := block_cell hEr2 1
  have hGr2_2 := block_cell hEr2 2
  have hGr2_3 := block_cell hEr2 3
  have hGr2_4 := block_cell hEr2 4
  have hGr2_5 := block_cell hEr2 5
  have hFr2 := block_free hEr2
  simp only [List.getElem?_toArray, List.getElem?_cons_zero, List.getElem?_cons_succ] at hGr2_0 hGr2_1 hGr2_2 hGr2_3 hGr2_4 hGr2_5
  clear hEr2
  try simp only [World.size_alloc, World.size_setCell, World.size_drew] at hBr2
  obtain ⟨hcr2, hfr2⟩ := bcell hbr2
  have hzr2 := hbr2.size
  try simp only [World.size_alloc, World.size_setCell, World.size_drew] at hzr2
  have hlr2w0 : w.heap.size < r2.heap.size := by omega
  have hlr2B1 : B1 < r2.heap.size := by omega
  have nB : B1 ≠ B2 := by omega
  have nB' := Ne.symm nB
  have nD : w.heap.size ≠ B2 := by omega
  have nD' := Ne.symm nD
  go_wp2_with fail
  refine (engine35 _).mono ?_
  rintro _ r3 ⟨rfl, hbr3⟩
  obtain ⟨hcr3, hfr3⟩ := bcell hbr3
  have hzr3 := hbr3.size
  try simp only [World.size_alloc, World.size_setCell, World.size_drew] at hzr3
  have hlr3w0 : w.heap.size < r3.heap.size := by omega
  have hlr3B1 : B1 < r3.heap.size := by omega
  have hlr3B2 : B2 < r3.heap.size := by omega
  have d3_0_0 : r3.cell? ⟨w.heap.size, 0, none⟩ = some (.int .u16 8192) := (hcr3 _ _ (by (try simp only [World.size_alloc, World.size_setCell]); omega)).trans (by go_simp)
  have d3_0_1 : r3.cell? ⟨w.heap.size, 1, none⟩ = some (.int .u16 0) := (hcr3 _ _ (by (try simp only [World.size_alloc, World.size_setCell]); omega)).trans (by go_simp)
  have d3_1_0 : r3.cell? ⟨B1, 0, none⟩ = some (.int .u16 768) := (hcr3 _ _ (by (try simp only [World.size_alloc, World.size_setCell]); omega)).trans (by go_simp)
  have d3_1_1 : r3.cell? ⟨B1, 1, none⟩ = some (.int .u16 0) := (hcr3 _ _ (by (try simp only [World.size_alloc, World.size_setCell]); omega)).trans (by go_simp)
  have d3_1_2 : r3.cell? ⟨B1, 2, none⟩ = some (.int .u16 0) := (hcr3 _ _ (by (try simp only [World.size_alloc, World.size_setCell]); omega)).trans (by go_simp)
  have d3_1_3 : r3.cell? ⟨B1, 3, none⟩ = some (.int .u16 0) := (hcr3 _ _ (by (try simp only [World.size_alloc, World.size_setCell]); omega)).trans (by go_simp)
  have d3_1_4 : r3.cell? ⟨B1, 4, none⟩ = some (.int .u16 0) := (hcr3 _ _ (by (try simp only [World.size_alloc, World.size_setCell]); omega)).trans (by go_simp)
  have d3_1_5 : r3.cell? ⟨B1, 5, none⟩ = some (.int .u16 0) := (hcr3 _ _ (by (try simp only [World.size_alloc, World.size_setCell]); omega)).trans (by go_simp)
  have d3_2_0 : r3.cell? ⟨B2, 0, none⟩ = some (.int .u16 0) := (hcr3 _ _ (by (try simp only [World.size_alloc, World.size_setCell]); omega)).trans (by go_simp)
  have d3_2_1 : r3.cell? ⟨B2, 1, none⟩ = some (.int .u16 0) := (hcr3 _ _ (by (try simp only [World.size_alloc, World.size_setCell]); omega)).trans (by go_simp)
  have d3_2_2 : r3.cell? ⟨B2, 2, none⟩ = some (.int .u16 0) := (hcr3 _ _ (by (try simp only [World.size_alloc, World.size_setCell]); omega)).trans (by go_simp)
  have d3_2_3 : r3.cell? ⟨B2, 3, none⟩ = some (.int .u16 0) := (hcr3 _ _ (by (try simp only [World.size_alloc, World.size_setCell]); omega)).trans (by go_simp)
  have d3_2_4 : r3.cell? ⟨B2, 4, none⟩ = some (.int .u16 32255) := (hcr3 _ _ (by (try simp only [World.size_alloc, World.size_setCell]); omega)).trans (by go_simp)
  have d3_2_5 : r3.cell? ⟨B2, 5, none⟩ = some (.int .u16 32767) := (hcr3 _ _ (by (try simp only [World.size_alloc, World.size_setCell]); omega)).trans (by go_simp)
  have w3 : Below w.heap.size w r3 := (by repeat' (first | (with_reducible exact Below.refl _ _) | (with_reducible refine bl_set ?_ _ ?_) | (with_reducible refine bl_alloc ?_ _) | (with_reducible refine bl_drew ?_) | (with_reducible refine bl_via (by with_reducible assumption) ?_) | (with_reducible assumption) | omega | (simp only []; omega) | (simp; omega)))
  clear hcr2 hfr2 hbr2 hcr3 hfr3 hbr3 hw1 hGr2_0 hGr2_1 hGr2_2 hGr2_3 hGr2_4 hGr2_5 hFr2
  go_wp2_with fail
  refine (tl1 _).mono ?_
  rintro _ r4 ⟨rfl, hbr4⟩
  obtain ⟨hcr4, hfr4⟩ := bcell hbr4
  have hzr4 := hbr4.size
  try simp only [World.size_alloc, World.size_setCell, World.size_drew] at hzr4
  have hlr4w0 : w.heap.size < r4.heap.size := by omega
  have hlr4B1 : B1 < r4.heap.size := by omega
  have hlr4B2 : B2 < r4.heap.size := by omega
  go_wp2_with fail
  have hecr5 := @Ext.cell
  refine wp_region_ext (by kernel_rfl) (by kernel_rfl) ?_
  repeat (first | go_big_quiet_skip | (go_big_quiet_want; go_big_quiet_op; first | go_big_quiet_on | (go_big_quiet_call ((first | fail | (go_at_call 26; with_reducible exact ext_call (gates35 _)) | (go_at_call 23; with_reducible exact ext_call (pl1 _)))))))
  clear hecr5
  refine wpQuiet_nil ?_
  rintro r5 ⟨⟨_, hbr5⟩, rfl⟩
  obtain ⟨hcr5, hfr5⟩ := bcell hbr5
  have hzr5 := hbr5.size
  try simp only [World.size_alloc, World.size_setCell, World.size_drew] at hzr5
  have hlr5w0 : w.heap.size < r5.heap.size := by omega
  have hlr5B1 : B1 < r5.heap.size := by omega
  have hlr5B2 : B2 < r5.heap.size := by omega
  have hlr5r40 : r4.heap.size < r5.heap.size := by omega
  go_wp2_with fail
  refine (of3 _).mono ?_
  rintro _ r6 ⟨rfl, hbr6⟩
  obtain ⟨hcr6, hfr6⟩ := bcell hbr6
  have hzr6 := hbr6.size
  try simp only [World.size_alloc, World.size_setCell, World.size_drew] at hzr6
  have hlr6w0 : w.heap.size < r6.heap.size := by omega
  have hlr6B1 : B1 < r6.heap.size := by omega
  have hlr6B2 : B2 < r6.heap.size := by omega
  have hlr6r40 : r4.heap.size < r6.heap.size := by omega
  go_wp2_with fail
  refine (of4 _).mono ?_
  rintro _ r7 ⟨rfl, hbr7⟩
  obtain ⟨hcr7, hfr7⟩ := bcell hbr7
  have hzr7 := hbr7.size
  try simp only [World.size_alloc, World.size_setCell, World.size_drew] at hzr7
  have hlr7w0 : w.heap.size < r7.heap.size := by omega
  have hlr7B1 : B1 < r7.heap.size := by omega
  have hlr7B2 : B2 < r7.heap.size := by omega
  have hlr7r40 : r4.heap.size < r7.heap.size := by omega
  go_wp2_with fail
  refine (thl1 _).mono ?_
  rintro _ r8 ⟨rfl, hbr8⟩
  obtain ⟨hcr8, hfr8⟩ := bcell hbr8
  have hzr8 := hbr8.size
  try simp only [World.size_alloc, World.size_setCell, World.size_drew] at hzr8
  have hlr8w0 : w.heap.size < r8.heap.size := by omega
  have hlr8B1 : B1 < r8.heap.size := by omega
  have hlr8B2 : B2 < r8.heap.size := by omega
  have hlr8r40 : r4.heap.size < r8.heap.size := by omega
  have z0_1 : w.heap.size < r8.heap.size + 1 := by omega
  have z0_2 : w.heap.size < r8.heap.size + 1 + 1 := by omega
  have z1_1 : B1 < r8.heap.size + 1 := by omega
  have z1_2 : B1 < r8.heap.size + 1 + 1 := by omega
  have z2_1 : B2 < r8.heap.size + 1 := by omega
  have z2_2 : B2 < r8.heap.size + 1 + 1 := by omega
  have z3_1 : r4.heap.size < r8.heap.size + 1 := by omega
  have z3_2 : r4.heap.size < r8.heap.size + 1 + 1 := by omega
  have z9 : r8.heap.size < r8.heap.size + 1 + 1 := by omega
  go_wp2_with fail
  have hecr9 := @Ext.cell
  refine wp_region_ext (by kernel_rfl) (by kernel_rfl) ?_
  repeat (first | go_big_quiet_skip | (go_big_quiet_want; go_big_quiet_op; first | go_big_quiet_on | (go_big_quiet_call ((first | fail | (go_at_call 28; with_reducible exact ext_call (of5 _)) | (go_at_call 28; with_reducible exact ext_call (of6 _)) | (go_at_call 28; with_reducible exact ext_call (of7 _)) | (go_at_call 14; with_reducible exact ext_call (dbl35 _)))))))
  clear hecr9
  refine wpQuiet_nil ?_
  rintro r9 ⟨⟨_, hbr9⟩, rfl⟩
  obtain ⟨hcr9, hfr9⟩ := bcell hbr9
  have hzr9 := hbr9.size
  try simp only [World.size_alloc, World.size_setCell, World.size_drew] at hzr9
  have hlr9w0 : w.heap.size < r9.heap.size := by omega
  have hlr9B1 : B1 < r9.heap.size := by omega
  have hlr9B2 : B2 < r9.heap.size := by omega
  have hlr9r40 : r4.heap.size < r9.heap.size := by omega
  have hlr9r80 : r8.heap.size < r9.heap.size := by omega
  have hlr9r81 : r8.heap.size + 1 < r9.heap.size := by omega
  go_wp2
  go_ret
  exact ⟨rfl, (by repeat' (first | (with_reducible exact Below.refl _ _) | (with_reducible refine bl_set ?_ _ ?_) | (with_reducible refine bl_alloc ?_ _) | (with_reducible refine bl_drew ?_) | (with_reducible refine bl_via (by with_reducible assumption) ?_) | (with_reducible assumption) | omega | (simp only []; omega) | (simp; omega)))⟩
end Go.Proofs.Ytpmocegfiniafaa
