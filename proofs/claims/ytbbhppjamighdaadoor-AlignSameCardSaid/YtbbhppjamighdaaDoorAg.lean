/- Contracts at the examples of chapter 34; the examples hold: lives returns true. -/
import Derived.Test.YtbbhppjamighdaaDoorAd
import Derived.Test.YtbbhppjamighdaaDoorAb
import Derived.Test.YtbbhppjamighdaaDoorVe
import Derived.Test.YtbbhppjamighdaaDoorVl
import Derived.Test.YtbbhppjamighdaaDoorVf
import Derived.Test.YtbbhppjamighdaaDoorVh
import Derived.Test.YtbbhppjamighdaaDoorVd
import Derived.Test.YtbbhppjamighdaaDoorVue
import Derived.Test.YtbbhppjamighdaaDoorFs
import Derived.Test.YtbbhppjamighdaaDoorKi
import Derived.Test.YtbbhppjamighdaaDoorRa
import Derived.Test.YtbbhppjamighdaaDoorEv
namespace Go.Proofs.YtbbhppjamighdaaDoor
set_option linter.unusedSimpArgs false
set_option linter.unusedVariables false
open Go.RowKit

theorem calls_val {f : FuncId} {args : Array Value} {w : World} {v v' : Value} (h : Calls Tryd.prog f args w fun e w' => e = .returned v ∧ Below w.heap.size w w') (e : v = v') : Calls Tryd.prog f args w fun e w' => e = .returned v' ∧ Below w.heap.size w w' := by rw [← e]; exact h
theorem sat_bds (v : Int) : -268435455 ≤ sat v 268435455 ∧ sat v 268435455 ≤ 268435455 := ⟨sat_lo _ _ (by omega), sat_hi _ _ (by omega)⟩
theorem of34 (x y z : Int) (x0 : -268435455 ≤ x) (x1 : x ≤ 268435455) (y0 : -268435455 ≤ y) (y1 : y ≤ 268435455) (z0 : -268435455 ≤ z) (z1 : z ≤ 268435455) (w : World) :
    Calls Tryd.prog 17 #[.int .i64 x, .int .i64 y, .int .i64 z] w fun r w' => r = .returned (.agg #[.int .u16 (hi (x)), .int .u16 (lo (x)), .int .u16 (hi (y)), .int .u16 (lo (y)), .int .u16 (hi (z)), .int .u16 (lo (z))]) ∧ Below w.heap.size w w' := by
  go_enter Tryd.func17, Tryd.ntmps17
  go_wp2_with fail
  refine (rdouble_any x x0 x1 _).mono ?_
  rintro _ r1 ⟨rfl, hbr1⟩
  obtain ⟨hcr1, hfr1⟩ := bcell hbr1
  have hzr1 := hbr1.size
  try simp only [World.size_alloc, World.size_setCell, World.size_drew] at hzr1
  have hlr1w0 : w.heap.size < r1.heap.size := by omega
  go_wp2_with fail
  refine (rdouble_any y y0 y1 _).mono ?_
  rintro _ r2 ⟨rfl, hbr2⟩
  obtain ⟨hcr2, hfr2⟩ := bcell hbr2
  have hzr2 := hbr2.size
  try simp only [World.size_alloc, World.size_setCell, World.size_drew] at hzr2
  have hlr2w0 : w.heap.size < r2.heap.size := by omega
  go_wp2_with fail
  refine (rdouble_any z z0 z1 _).mono ?_
  rintro _ r3 ⟨rfl, hbr3⟩
  obtain ⟨hcr3, hfr3⟩ := bcell hbr3
  have hzr3 := hbr3.size
  try simp only [World.size_alloc, World.size_setCell, World.size_drew] at hzr3
  have hlr3w0 : w.heap.size < r3.heap.size := by omega
  go_wp2
  refine bodyPost_ret (v := (.agg #[.int .u16 (hi (x)), .int .u16 (lo (x)), .int .u16 (hi (y)), .int .u16 (lo (y)), .int .u16 (hi (z)), .int .u16 (lo (z))])) (by simp [results, Tryd.results17, go_sem, *]) rfl ⟨rfl, ?_⟩; exact (by repeat' (first | (with_reducible exact Below.refl _ _) | (with_reducible refine bl_set ?_ _ ?_) | (with_reducible refine bl_alloc ?_ _) | (with_reducible refine bl_drew ?_) | (with_reducible refine bl_via (by with_reducible assumption) ?_) | (with_reducible assumption) | omega | (simp only []; omega) | (simp; omega)))
theorem of34X (w : World) : Calls Tryd.prog 17 #[.int .i64 134217728, .int .i64 0, .int .i64 0] w fun e w' => e = .returned (.agg #[.int .u16 (8192), .int .u16 (0), .int .u16 (0), .int .u16 (0), .int .u16 (0), .int .u16 (0)]) ∧ Below w.heap.size w w' :=
  calls_val (of34 (134217728) (0) (0) (by omega) (by omega) (by omega) (by omega) (by omega) (by omega) w) (by kernel_rfl)
theorem of34Y (w : World) : Calls Tryd.prog 17 #[.int .i64 0, .int .i64 134217728, .int .i64 0] w fun e w' => e = .returned (.agg #[.int .u16 (0), .int .u16 (0), .int .u16 (8192), .int .u16 (0), .int .u16 (0), .int .u16 (0)]) ∧ Below w.heap.size w w' :=
  calls_val (of34 (0) (134217728) (0) (by omega) (by omega) (by omega) (by omega) (by omega) (by omega) w) (by kernel_rfl)
theorem of34Z (w : World) : Calls Tryd.prog 17 #[.int .i64 0, .int .i64 0, .int .i64 134217728] w fun e w' => e = .returned (.agg #[.int .u16 (0), .int .u16 (0), .int .u16 (0), .int .u16 (0), .int .u16 (8192), .int .u16 (0)]) ∧ Below w.heap.size w w' :=
  calls_val (of34 (0) (0) (134217728) (by omega) (by omega) (by omega) (by omega) (by omega) (by omega) w) (by kernel_rfl)
theorem of34N (w : World) : Calls Tryd.prog 17 #[.int .i64 (-134217728), .int .i64 0, .int .i64 0] w fun e w' => e = .returned (.agg #[.int .u16 (24575), .int .u16 (32767), .int .u16 (0), .int .u16 (0), .int .u16 (0), .int .u16 (0)]) ∧ Below w.heap.size w w' :=
  calls_val (of34 (-134217728) (0) (0) (by omega) (by omega) (by omega) (by omega) (by omega) (by omega) w) (by kernel_rfl)
theorem of34Xq (w : World) : Calls Tryd.prog 17 #[.int .i64 67108864, .int .i64 0, .int .i64 0] w fun e w' => e = .returned (.agg #[.int .u16 (4096), .int .u16 (0), .int .u16 (0), .int .u16 (0), .int .u16 (0), .int .u16 (0)]) ∧ Below w.heap.size w w' :=
  calls_val (of34 (67108864) (0) (0) (by omega) (by omega) (by omega) (by omega) (by omega) (by omega) w) (by kernel_rfl)
theorem of34Yq (w : World) : Calls Tryd.prog 17 #[.int .i64 0, .int .i64 67108864, .int .i64 0] w fun e w' => e = .returned (.agg #[.int .u16 (0), .int .u16 (0), .int .u16 (4096), .int .u16 (0), .int .u16 (0), .int .u16 (0)]) ∧ Below w.heap.size w w' :=
  calls_val (of34 (0) (67108864) (0) (by omega) (by omega) (by omega) (by omega) (by omega) (by omega) w) (by kernel_rfl)
theorem unit34X (w : World) : Calls Tryd.prog 40 #[(.agg #[.int .u16 (8192), .int .u16 (0), .int .u16 (0), .int .u16 (0), .int .u16 (0), .int .u16 (0)])] w fun e w' => e = .returned (.tuple #[(.agg #[.int .u16 (8192), .int .u16 (0), .int .u16 (0), .int .u16 (0), .int .u16 (0), .int .u16 (0)]), .bool false]) ∧ Below w.heap.size w w' := by
  have k := unit_any 8192 0 0 0 0 0 (by omega) (by omega) (by omega) (by omega) (by omega) (by omega) (by omega) (by omega) (by omega) (by omega) (by omega) (by omega) w
  have e1 : ucnt (val 8192 0) (val 0 0) (val 0 0) = 0 := by decide +kernel
  have e2 : usq (val 8192 0) (val 0 0) (val 0 0) = 134217728 * 134217728 := by decide +kernel
  have e : isq (134217728 * 134217728) = 134217728 := isq_unique _ _ (by omega) (by omega) (by omega)
  unfold unitV uni at k
  rw [if_neg (by decide +kernel), e1, e2, e] at k
  exact calls_val k (by kernel_rfl)
theorem unit34Y (w : World) : Calls Tryd.prog 40 #[(.agg #[.int .u16 (0), .int .u16 (0), .int .u16 (8192), .int .u16 (0), .int .u16 (0), .int .u16 (0)])] w fun e w' => e = .returned (.tuple #[(.agg #[.int .u16 (0), .int .u16 (0), .int .u16 (8192), .int .u16 (0), .int .u16 (0), .int .u16 (0)]), .bool false]) ∧ Below w.heap.size w w' := by
  have k := unit_any 0 0 8192 0 0 0 (by omega) (by omega) (by omega) (by omega) (by omega) (by omega) (by omega) (by omega) (by omega) (by omega) (by omega) (by omega) w
  have e1 : ucnt (val 0 0) (val 8192 0) (val 0 0) = 0 := by decide +kernel
  have e2 : usq (val 0 0) (val 8192 0) (val 0 0) = 134217728 * 134217728 := by decide +kernel
  have e : isq (134217728 * 134217728) = 134217728 := isq_unique _ _ (by omega) (by omega) (by omega)
  unfold unitV uni at k
  rw [if_neg (by decide +kernel), e1, e2, e] at k
  exact calls_val k (by kernel_rfl)
theorem unit34N (w : World) : Calls Tryd.prog 40 #[(.agg #[.int .u16 (24575), .int .u16 (32767), .int .u16 (0), .int .u16 (0), .int .u16 (0), .int .u16 (0)])] w fun e w' => e = .returned (.tuple #[(.agg #[.int .u16 (24575), .int .u16 (32767), .int .u16 (0), .int .u16 (0), .int .u16 (0), .int .u16 (0)]), .bool false]) ∧ Below w.heap.size w w' := by
  have k := unit_any 24575 32767 0 0 0 0 (by omega) (by omega) (by omega) (by omega) (by omega) (by omega) (by omega) (by omega) (by omega) (by omega) (by omega) (by omega) w
  have e1 : ucnt (val 24575 32767) (val 0 0) (val 0 0) = 0 := by decide +kernel
  have e2 : usq (val 24575 32767) (val 0 0) (val 0 0) = 134217728 * 134217728 := by decide +kernel
  have e : isq (134217728 * 134217728) = 134217728 := isq_unique _ _ (by omega) (by omega) (by omega)
  unfold unitV uni at k
  rw [if_neg (by decide +kernel), e1, e2, e] at k
  exact calls_val k (by kernel_rfl)
theorem unit34Xq (w : World) : Calls Tryd.prog 40 #[(.agg #[.int .u16 (4096), .int .u16 (0), .int .u16 (0), .int .u16 (0), .int .u16 (0), .int .u16 (0)])] w fun e w' => e = .returned (.tuple #[(.agg #[.int .u16 (8192), .int .u16 (0), .int .u16 (0), .int .u16 (0), .int .u16 (0), .int .u16 (0)]), .bool false]) ∧ Below w.heap.size w w' := by
  have k := unit_any 4096 0 0 0 0 0 (by omega) (by omega) (by omega) (by omega) (by omega) (by omega) (by omega) (by omega) (by omega) (by omega) (by omega) (by omega) w
  have e1 : ucnt (val 4096 0) (val 0 0) (val 0 0) = 1 := by decide +kernel
  have e2 : usq (val 4096 0) (val 0 0) (val 0 0) = 134217728 * 134217728 := by decide +kernel
  have e : isq (134217728 * 134217728) = 134217728 := isq_unique _ _ (by omega) (by omega) (by omega)
  unfold unitV uni at k
  rw [if_neg (by decide +kernel), e1, e2, e] at k
  exact calls_val k (by kernel_rfl)
theorem unit34Yq (w : World) : Calls Tryd.prog 40 #[(.agg #[.int .u16 (0), .int .u16 (0), .int .u16 (4096), .int .u16 (0), .int .u16 (0), .int .u16 (0)])] w fun e w' => e = .returned (.tuple #[(.agg #[.int .u16 (0), .int .u16 (0), .int .u16 (8192), .int .u16 (0), .int .u16 (0), .int .u16 (0)]), .bool false]) ∧ Below w.heap.size w w' := by
  have k := unit_any 0 0 4096 0 0 0 (by omega) (by omega) (by omega) (by omega) (by omega) (by omega) (by omega) (by omega) (by omega) (by omega) (by omega) (by omega) w
  have e1 : ucnt (val 0 0) (val 4096 0) (val 0 0) = 1 := by decide +kernel
  have e2 : usq (val 0 0) (val 4096 0) (val 0 0) = 134217728 * 134217728 := by decide +kernel
  have e : isq (134217728 * 134217728) = 134217728 := isq_unique _ _ (by omega) (by omega) (by omega)
  unfold unitV uni at k
  rw [if_neg (by decide +kernel), e1, e2, e] at k
  exact calls_val k (by kernel_rfl)
theorem unit34Zq (w : World) : Calls Tryd.prog 40 #[(.agg #[.int .u16 (0), .int .u16 (0), .int .u16 (0), .int .u16 (0), .int .u16 (4096), .int .u16 (0)])] w fun e w' => e = .returned (.tuple #[(.agg #[.int .u16 (0), .int .u16 (0), .int .u16 (0), .int .u16 (0), .int .u16 (8192), .int .u16 (0)]), .bool false]) ∧ Below w.heap.size w w' := by
  have k := unit_any 0 0 0 0 4096 0 (by omega) (by omega) (by omega) (by omega) (by omega) (by omega) (by omega) (by omega) (by omega) (by omega) (by omega) (by omega) w
  have e1 : ucnt (val 0 0) (val 0 0) (val 4096 0) = 1 := by decide +kernel
  have e2 : usq (val 0 0) (val 0 0) (val 4096 0) = 134217728 * 134217728 := by decide +kernel
  have e : isq (134217728 * 134217728) = 134217728 := isq_unique _ _ (by omega) (by omega) (by omega)
  unfold unitV uni at k
  rw [if_neg (by decide +kernel), e1, e2, e] at k
  exact calls_val k (by kernel_rfl)
theorem unit34Nq (w : World) : Calls Tryd.prog 40 #[(.agg #[.int .u16 (28671), .int .u16 (32767), .int .u16 (0), .int .u16 (0), .int .u16 (0), .int .u16 (0)])] w fun e w' => e = .returned (.tuple #[(.agg #[.int .u16 (24575), .int .u16 (32767), .int .u16 (0), .int .u16 (0), .int .u16 (0), .int .u16 (0)]), .bool false]) ∧ Below w.heap.size w w' := by
  have k := unit_any 28671 32767 0 0 0 0 (by omega) (by omega) (by omega) (by omega) (by omega) (by omega) (by omega) (by omega) (by omega) (by omega) (by omega) (by omega) w
  have e1 : ucnt (val 28671 32767) (val 0 0) (val 0 0) = 1 := by decide +kernel
  have e2 : usq (val 28671 32767) (val 0 0) (val 0 0) = 134217728 * 134217728 := by decide +kernel
  have e : isq (134217728 * 134217728) = 134217728 := isq_unique _ _ (by omega) (by omega) (by omega)
  unfold unitV uni at k
  rw [if_neg (by decide +kernel), e1, e2, e] at k
  exact calls_val k (by kernel_rfl)
theorem cross34XY (w : World) : Calls Tryd.prog 41 #[(.agg #[.int .u16 (8192), .int .u16 (0), .int .u16 (0), .int .u16 (0), .int .u16 (0), .int .u16 (0)]), (.agg #[.int .u16 (0), .int .u16 (0), .int .u16 (8192), .int .u16 (0), .int .u16 (0), .int .u16 (0)])] w fun e w' => e = .returned (.tuple #[(.agg #[.int .u16 (0), .int .u16 (0), .int .u16 (0), .int .u16 (0), .int .u16 (4096), .int .u16 (0)]), .bool false]) ∧ Below w.heap.size w w' :=
  calls_val (cross_any 8192 0 0 0 0 0 0 0 8192 0 0 0 (by omega) (by omega) (by omega) (by omega) (by omega) (by omega) (by omega) (by omega) (by omega) (by omega) (by omega) (by omega) (by omega) (by omega) (by omega) (by omega) (by omega) (by omega) (by omega) (by omega) (by omega) (by omega) (by omega) (by omega) w) (by kernel_rfl)
theorem cross34ZX (w : World) : Calls Tryd.prog 41 #[(.agg #[.int .u16 (0), .int .u16 (0), .int .u16 (0), .int .u16 (0), .int .u16 (8192), .int .u16 (0)]), (.agg #[.int .u16 (8192), .int .u16 (0), .int .u16 (0), .int .u16 (0), .int .u16 (0), .int .u16 (0)])] w fun e w' => e = .returned (.tuple #[(.agg #[.int .u16 (0), .int .u16 (0), .int .u16 (4096), .int .u16 (0), .int .u16 (0), .int .u16 (0)]), .bool false]) ∧ Below w.heap.size w w' :=
  calls_val (cross_any 0 0 0 0 8192 0 8192 0 0 0 0 0 (by omega) (by omega) (by omega) (by omega) (by omega) (by omega) (by omega) (by omega) (by omega) (by omega) (by omega) (by omega) (by omega) (by omega) (by omega) (by omega) (by omega) (by omega) (by omega) (by omega) (by omega) (by omega) (by omega) (by omega) w) (by kernel_rfl)
theorem cross34XX (w : World) : Calls Tryd.prog 41 #[(.agg #[.int .u16 (8192), .int .u16 (0), .int .u16 (0), .int .u16 (0), .int .u16 (0), .int .u16 (0)]), (.agg #[.int .u16 (8192), .int .u16 (0), .int .u16 (0), .int .u16 (0), .int .u16 (0), .int .u16 (0)])] w fun e w' => e = .returned (.tuple #[(.agg #[.int .u16 (0), .int .u16 (0), .int .u16 (0), .int .u16 (0), .int .u16 (0), .int .u16 (0)]), .bool false]) ∧ Below w.heap.size w w' :=
  calls_val (cross_any 8192 0 0 0 0 0 8192 0 0 0 0 0 (by omega) (by omega) (by omega) (by omega) (by omega) (by omega) (by omega) (by omega) (by omega) (by omega) (by omega) (by omega) (by omega) (by omega) (by omega) (by omega) (by omega) (by omega) (by omega) (by omega) (by omega) (by omega) (by omega) (by omega) w) (by kernel_rfl)
theorem cross34YN (w : World) : Calls Tryd.prog 41 #[(.agg #[.int .u16 (0), .int .u16 (0), .int .u16 (8192), .int .u16 (0), .int .u16 (0), .int .u16 (0)]), (.agg #[.int .u16 (24575), .int .u16 (32767), .int .u16 (0), .int .u16 (0), .int .u16 (0), .int .u16 (0)])] w fun e w' => e = .returned (.tuple #[(.agg #[.int .u16 (0), .int .u16 (0), .int .u16 (0), .int .u16 (0), .int .u16 (4096), .int .u16 (0)]), .bool false]) ∧ Below w.heap.size w w' :=
  calls_val (cross_any 0 0 8192 0 0 0 24575 32767 0 0 0 0 (by omega) (by omega) (by omega) (by omega) (by omega) (by omega) (by omega) (by omega) (by omega) (by omega) (by omega) (by omega) (by omega) (by omega) (by omega) (by omega) (by omega) (by omega) (by omega) (by omega) (by omega) (by omega) (by omega) (by omega) w) (by kernel_rfl)
theorem cross34ZY (w : World) : Calls Tryd.prog 41 #[(.agg #[.int .u16 (0), .int .u16 (0), .int .u16 (0), .int .u16 (0), .int .u16 (8192), .int .u16 (0)]), (.agg #[.int .u16 (0), .int .u16 (0), .int .u16 (8192), .int .u16 (0), .int .u16 (0), .int .u16 (0)])] w fun e w' => e = .returned (.tuple #[(.agg #[.int .u16 (28671), .int .u16 (32767), .int .u16 (0), .int .u16 (0), .int .u16 (0), .int .u16 (0)]), .bool false]) ∧ Below w.heap.size w w' :=
  calls_val (cross_any 0 0 0 0 8192 0 0 0 8192 0 0 0 (by omega) (by omega) (by omega) (by omega) (by omega) (by omega) (by omega) (by omega) (by omega) (by omega) (by omega) (by omega) (by omega) (by omega) (by omega) (by omega) (by omega) (by omega) (by omega) (by omega) (by omega) (by omega) (by omega) (by omega) w) (by kernel_rfl)
theorem len34Zq (w : World) : Calls Tryd.prog 42 #[(.agg #[.int .u16 (0), .int .u16 (0), .int .u16 (0), .int .u16 (0), .int .u16 (4096), .int .u16 (0)])] w fun e w' => e = .returned (.tuple #[(.agg #[.int .u16 (4096), .int .u16 (0)]), .bool false]) ∧ Below w.heap.size w w' := by
  have k := length_any 0 0 0 0 4096 0 (by omega) (by omega) (by omega) (by omega) (by omega) (by omega) (by omega) (by omega) (by omega) (by omega) (by omega) (by omega) w
  have d : dot (val 0 0) (val 0 0) (val 4096 0) (val 0 0) (val 0 0) (val 4096 0) = 67108864 * 67108864 := by decide +kernel
  have e : isq (67108864 * 67108864) = 67108864 := isq_unique _ _ (by omega) (by omega) (by omega)
  have n : nsq (67108864 * 67108864) = 67108864 := by unfold nsq; rw [e, if_neg (by omega)]
  rw [d, n] at k
  exact calls_val k (by kernel_rfl)
theorem lval34Zq (w : World) : Calls Tryd.prog 37 #[(.agg #[.int .u16 (4096), .int .u16 (0)])] w fun e w' => e = .returned (.int .i64 67108864) ∧ Below w.heap.size w w' :=
  calls_val (value_any 4096 0 (by omega) (by omega) (by omega) (by omega) w) (by kernel_rfl)
theorem len34O (w : World) : Calls Tryd.prog 42 #[(.agg #[.int .u16 (0), .int .u16 (0), .int .u16 (0), .int .u16 (0), .int .u16 (0), .int .u16 (0)])] w fun e w' => e = .returned (.tuple #[(.agg #[.int .u16 (0), .int .u16 (0)]), .bool false]) ∧ Below w.heap.size w w' := by
  have k := length_any 0 0 0 0 0 0 (by omega) (by omega) (by omega) (by omega) (by omega) (by omega) (by omega) (by omega) (by omega) (by omega) (by omega) (by omega) w
  have d : dot (val 0 0) (val 0 0) (val 0 0) (val 0 0) (val 0 0) (val 0 0) = 0 * 0 := by decide +kernel
  have e : isq (0 * 0) = 0 := isq_unique _ _ (by omega) (by omega) (by omega)
  have n : nsq (0 * 0) = 0 := by unfold nsq; rw [e, if_neg (by omega)]
  rw [d, n] at k
  exact calls_val k (by kernel_rfl)
theorem lval34O (w : World) : Calls Tryd.prog 37 #[(.agg #[.int .u16 (0), .int .u16 (0)])] w fun e w' => e = .returned (.int .i64 0) ∧ Below w.heap.size w w' :=
  calls_val (value_any 0 0 (by omega) (by omega) (by omega) (by omega) w) (by kernel_rfl)
theorem acr34XY (w : World) : Calls Tryd.prog 43 #[(.agg #[.int .u16 (8192), .int .u16 (0), .int .u16 (0), .int .u16 (0), .int .u16 (0), .int .u16 (0)]), (.agg #[.int .u16 (0), .int .u16 (0), .int .u16 (8192), .int .u16 (0), .int .u16 (0), .int .u16 (0)])] w fun e w' => e = .returned (.agg #[.int .u16 (0), .int .u16 (0), .int .u16 (0), .int .u16 (0), .int .u16 (8192), .int .u16 (0)]) ∧ Below w.heap.size w w' :=
  across_of _ _ _ _ _ _ _ _ _ _ _ _ _ _ _ _ _ _ _ _ _ _ _ _ false false cross34XY unit34Zq w
theorem acr34ZX (w : World) : Calls Tryd.prog 43 #[(.agg #[.int .u16 (0), .int .u16 (0), .int .u16 (0), .int .u16 (0), .int .u16 (8192), .int .u16 (0)]), (.agg #[.int .u16 (8192), .int .u16 (0), .int .u16 (0), .int .u16 (0), .int .u16 (0), .int .u16 (0)])] w fun e w' => e = .returned (.agg #[.int .u16 (0), .int .u16 (0), .int .u16 (8192), .int .u16 (0), .int .u16 (0), .int .u16 (0)]) ∧ Below w.heap.size w w' :=
  across_of _ _ _ _ _ _ _ _ _ _ _ _ _ _ _ _ _ _ _ _ _ _ _ _ false false cross34ZX unit34Yq w
theorem acr34YN (w : World) : Calls Tryd.prog 43 #[(.agg #[.int .u16 (0), .int .u16 (0), .int .u16 (8192), .int .u16 (0), .int .u16 (0), .int .u16 (0)]), (.agg #[.int .u16 (24575), .int .u16 (32767), .int .u16 (0), .int .u16 (0), .int .u16 (0), .int .u16 (0)])] w fun e w' => e = .returned (.agg #[.int .u16 (0), .int .u16 (0), .int .u16 (0), .int .u16 (0), .int .u16 (8192), .int .u16 (0)]) ∧ Below w.heap.size w w' :=
  across_of _ _ _ _ _ _ _ _ _ _ _ _ _ _ _ _ _ _ _ _ _ _ _ _ false false cross34YN unit34Zq w
theorem acr34ZY (w : World) : Calls Tryd.prog 43 #[(.agg #[.int .u16 (0), .int .u16 (0), .int .u16 (0), .int .u16 (0), .int .u16 (8192), .int .u16 (0)]), (.agg #[.int .u16 (0), .int .u16 (0), .int .u16 (8192), .int .u16 (0), .int .u16 (0), .int .u16 (0)])] w fun e w' => e = .returned (.agg #[.int .u16 (24575), .int .u16 (32767), .int .u16 (0), .int .u16 (0), .int .u16 (0), .int .u16 (0)]) ∧ Below w.heap.size w w' :=
  across_of _ _ _ _ _ _ _ _ _ _ _ _ _ _ _ _ _ _ _ _ _ _ _ _ false false cross34ZY unit34Nq w
theorem tri34a (w : World) : Calls Tryd.prog 16 #[(.agg #[.int .u16 (8192), .int .u16 (0), .int .u16 (0), .int .u16 (0), .int .u16 (0), .int .u16 (0)]), (.agg #[.int .u16 (0), .int .u16 (0), .int .u16 (4096), .int .u16 (0), .int .u16 (0), .int .u16 (0)])] w fun e w' => e = .returned (.tuple #[(.agg #[.int .u16 (8192), .int .u16 (0), .int .u16 (0), .int .u16 (0), .int .u16 (0), .int .u16 (0), .int .u16 (0), .int .u16 (0), .int .u16 (8192), .int .u16 (0), .int .u16 (0), .int .u16 (0), .int .u16 (0), .int .u16 (0), .int .u16 (0), .int .u16 (0), .int .u16 (8192), .int .u16 (0)]), .int .i64 0]) ∧ Below w.heap.size w w' :=
  triad_of _ _ _ _ _ _ _ _ _ _ _ _ _ _ _ _ _ _ _ _ _ _ _ _ _ _ _ _ _ _ _ _ _ _ _ _ _ _ _ _ _ _ _ _ 67108864 false false unit34X unit34Yq cross34XY len34Zq lval34Zq (by decide +kernel) acr34XY acr34ZX w
theorem tri34c (w : World) : Calls Tryd.prog 16 #[(.agg #[.int .u16 (8192), .int .u16 (0), .int .u16 (0), .int .u16 (0), .int .u16 (0), .int .u16 (0)]), (.agg #[.int .u16 (0), .int .u16 (0), .int .u16 (8192), .int .u16 (0), .int .u16 (0), .int .u16 (0)])] w fun e w' => e = .returned (.tuple #[(.agg #[.int .u16 (8192), .int .u16 (0), .int .u16 (0), .int .u16 (0), .int .u16 (0), .int .u16 (0), .int .u16 (0), .int .u16 (0), .int .u16 (8192), .int .u16 (0), .int .u16 (0), .int .u16 (0), .int .u16 (0), .int .u16 (0), .int .u16 (0), .int .u16 (0), .int .u16 (8192), .int .u16 (0)]), .int .i64 0]) ∧ Below w.heap.size w w' :=
  triad_of _ _ _ _ _ _ _ _ _ _ _ _ _ _ _ _ _ _ _ _ _ _ _ _ _ _ _ _ _ _ _ _ _ _ _ _ _ _ _ _ _ _ _ _ 67108864 false false unit34X unit34Y cross34XY len34Zq lval34Zq (by decide +kernel) acr34XY acr34ZX w
theorem tri34d (w : World) : Calls Tryd.prog 16 #[(.agg #[.int .u16 (0), .int .u16 (0), .int .u16 (8192), .int .u16 (0), .int .u16 (0), .int .u16 (0)]), (.agg #[.int .u16 (24575), .int .u16 (32767), .int .u16 (0), .int .u16 (0), .int .u16 (0), .int .u16 (0)])] w fun e w' => e = .returned (.tuple #[(.agg #[.int .u16 (0), .int .u16 (0), .int .u16 (8192), .int .u16 (0), .int .u16 (0), .int .u16 (0), .int .u16 (24575), .int .u16 (32767), .int .u16 (0), .int .u16 (0), .int .u16 (0), .int .u16 (0), .int .u16 (0), .int .u16 (0), .int .u16 (0), .int .u16 (0), .int .u16 (8192), .int .u16 (0)]), .int .i64 0]) ∧ Below w.heap.size w w' :=
  triad_of _ _ _ _ _ _ _ _ _ _ _ _ _ _ _ _ _ _ _ _ _ _ _ _ _ _ _ _ _ _ _ _ _ _ _ _ _ _ _ _ _ _ _ _ 67108864 false false unit34Y unit34N cross34YN len34Zq lval34Zq (by decide +kernel) acr34YN acr34ZY w
theorem tri34b (w : World) : Calls Tryd.prog 16 #[(.agg #[.int .u16 (8192), .int .u16 (0), .int .u16 (0), .int .u16 (0), .int .u16 (0), .int .u16 (0)]), (.agg #[.int .u16 (4096), .int .u16 (0), .int .u16 (0), .int .u16 (0), .int .u16 (0), .int .u16 (0)])] w fun e w' => e = .returned (.tuple #[(.agg #[.int .u16 (0), .int .u16 (0), .int .u16 (0), .int .u16 (0), .int .u16 (0), .int .u16 (0), .int .u16 (0), .int .u16 (0), .int .u16 (0), .int .u16 (0), .int .u16 (0), .int .u16 (0), .int .u16 (0), .int .u16 (0), .int .u16 (0), .int .u16 (0), .int .u16 (0), .int .u16 (0)]), .int .i64 2]) ∧ Below w.heap.size w w' :=
  triad_short _ _ _ _ _ _ _ _ _ _ _ _ _ _ _ _ _ _ _ _ _ _ _ _ _ _ _ _ _ _ _ _ 0 false false unit34X unit34Xq cross34XX len34O lval34O (by decide +kernel) w
theorem tr34R (w : World) : Calls Tryd.prog 53 #[(.agg #[.int .u16 (8192), .int .u16 (0), .int .u16 (0), .int .u16 (0), .int .u16 (0), .int .u16 (0), .int .u16 (0), .int .u16 (0), .int .u16 (8192), .int .u16 (0), .int .u16 (0), .int .u16 (0), .int .u16 (0), .int .u16 (0), .int .u16 (0), .int .u16 (0), .int .u16 (8192), .int .u16 (0)])] w fun e w' => e = .returned (.agg #[.int .u16 (8192), .int .u16 (0), .int .u16 (0), .int .u16 (0), .int .u16 (0), .int .u16 (0), .int .u16 (0), .int .u16 (0), .int .u16 (8192), .int .u16 (0), .int .u16 (0), .int .u16 (0), .int .u16 (0), .int .u16 (0), .int .u16 (0), .int .u16 (0), .int .u16 (8192), .int .u16 (0)]) ∧ Below w.heap.size w w' :=
  calls_val (transpose_any 8192 0 0 0 0 0 0 0 8192 0 0 0 0 0 0 0 8192 0 (W16.mk (by omega) (by omega)) (W16.mk (by omega) (by omega)) (W16.mk (by omega) (by omega)) (W16.mk (by omega) (by omega)) (W16.mk (by omega) (by omega)) (W16.mk (by omega) (by omega)) (W16.mk (by omega) (by omega)) (W16.mk (by omega) (by omega)) (W16.mk (by omega) (by omega)) (W16.mk (by omega) (by omega)) (W16.mk (by omega) (by omega)) (W16.mk (by omega) (by omega)) (W16.mk (by omega) (by omega)) (W16.mk (by omega) (by omega)) (W16.mk (by omega) (by omega)) (W16.mk (by omega) (by omega)) (W16.mk (by omega) (by omega)) (W16.mk (by omega) (by omega)) w) (by kernel_rfl)
theorem tr34S (w : World) : Calls Tryd.prog 53 #[(.agg #[.int .u16 (0), .int .u16 (0), .int .u16 (8192), .int .u16 (0), .int .u16 (0), .int .u16 (0), .int .u16 (24575), .int .u16 (32767), .int .u16 (0), .int .u16 (0), .int .u16 (0), .int .u16 (0), .int .u16 (0), .int .u16 (0), .int .u16 (0), .int .u16 (0), .int .u16 (8192), .int .u16 (0)])] w fun e w' => e = .returned (.agg #[.int .u16 (0), .int .u16 (0), .int .u16 (24575), .int .u16 (32767), .int .u16 (0), .int .u16 (0), .int .u16 (8192), .int .u16 (0), .int .u16 (0), .int .u16 (0), .int .u16 (0), .int .u16 (0), .int .u16 (0), .int .u16 (0), .int .u16 (0), .int .u16 (0), .int .u16 (8192), .int .u16 (0)]) ∧ Below w.heap.size w w' :=
  calls_val (transpose_any 0 0 8192 0 0 0 24575 32767 0 0 0 0 0 0 0 0 8192 0 (W16.mk (by omega) (by omega)) (W16.mk (by omega) (by omega)) (W16.mk (by omega) (by omega)) (W16.mk (by omega) (by omega)) (W16.mk (by omega) (by omega)) (W16.mk (by omega) (by omega)) (W16.mk (by omega) (by omega)) (W16.mk (by omega) (by omega)) (W16.mk (by omega) (by omega)) (W16.mk (by omega) (by omega)) (W16.mk (by omega) (by omega)) (W16.mk (by omega) (by omega)) (W16.mk (by omega) (by omega)) (W16.mk (by omega) (by omega)) (W16.mk (by omega) (by omega)) (W16.mk (by omega) (by omega)) (W16.mk (by omega) (by omega)) (W16.mk (by omega) (by omega)) w) (by kernel_rfl)
theorem tm340 (w : World) : Calls Tryd.prog 58 #[(.agg #[.int .u16 (0), .int .u16 (0), .int .u16 (24575), .int .u16 (32767), .int .u16 (0), .int .u16 (0), .int .u16 (8192), .int .u16 (0), .int .u16 (0), .int .u16 (0), .int .u16 (0), .int .u16 (0), .int .u16 (0), .int .u16 (0), .int .u16 (0), .int .u16 (0), .int .u16 (8192), .int .u16 (0)]), (.agg #[.int .u16 (8192), .int .u16 (0), .int .u16 (0), .int .u16 (0), .int .u16 (0), .int .u16 (0)])] w fun e w' => e = .returned (.tuple #[(.agg #[.int .u16 (0), .int .u16 (0), .int .u16 (4096), .int .u16 (0), .int .u16 (0), .int .u16 (0)]), .bool false]) ∧ Below w.heap.size w w' :=
  calls_val (times_any 0 0 24575 32767 0 0 8192 0 0 0 0 0 0 0 0 0 8192 0 8192 0 0 0 0 0 (W16.mk (by omega) (by omega)) (W16.mk (by omega) (by omega)) (W16.mk (by omega) (by omega)) (W16.mk (by omega) (by omega)) (W16.mk (by omega) (by omega)) (W16.mk (by omega) (by omega)) (W16.mk (by omega) (by omega)) (W16.mk (by omega) (by omega)) (W16.mk (by omega) (by omega)) (W16.mk (by omega) (by omega)) (W16.mk (by omega) (by omega)) (W16.mk (by omega) (by omega)) (W16.mk (by omega) (by omega)) (W16.mk (by omega) (by omega)) (W16.mk (by omega) (by omega)) (W16.mk (by omega) (by omega)) (W16.mk (by omega) (by omega)) (W16.mk (by omega) (by omega)) (W16.mk (by omega) (by omega)) (W16.mk (by omega) (by omega)) (W16.mk (by omega) (by omega)) (W16.mk (by omega) (by omega)) (W16.mk (by omega) (by omega)) (W16.mk (by omega) (by omega)) w) (by kernel_rfl)
theorem td340 (w : World) : Calls Tryd.prog 77 #[(.agg #[.int .u16 (0), .int .u16 (0), .int .u16 (8192), .int .u16 (0), .int .u16 (0), .int .u16 (0), .int .u16 (24575), .int .u16 (32767), .int .u16 (0), .int .u16 (0), .int .u16 (0), .int .u16 (0), .int .u16 (0), .int .u16 (0), .int .u16 (0), .int .u16 (0), .int .u16 (8192), .int .u16 (0)]), (.agg #[.int .u16 (8192), .int .u16 (0), .int .u16 (0), .int .u16 (0), .int .u16 (0), .int .u16 (0)])] w fun e w' => e = .returned (.tuple #[(.agg #[.int .u16 (0), .int .u16 (0), .int .u16 (4096), .int .u16 (0), .int .u16 (0), .int .u16 (0)]), .bool false]) ∧ Below w.heap.size w w' :=
  turned_of _ _ _ _ _ _ _ _ _ _ _ _ _ _ _ _ _ _ _ _ _ _ _ _ _ _ _ _ _ _ _ _ _ _ _ _ _ _ _ _ _ _ _ _ _ _ _ _ _ tr34S tm340 w
theorem tm341 (w : World) : Calls Tryd.prog 58 #[(.agg #[.int .u16 (0), .int .u16 (0), .int .u16 (24575), .int .u16 (32767), .int .u16 (0), .int .u16 (0), .int .u16 (8192), .int .u16 (0), .int .u16 (0), .int .u16 (0), .int .u16 (0), .int .u16 (0), .int .u16 (0), .int .u16 (0), .int .u16 (0), .int .u16 (0), .int .u16 (8192), .int .u16 (0)]), (.agg #[.int .u16 (0), .int .u16 (0), .int .u16 (8192), .int .u16 (0), .int .u16 (0), .int .u16 (0)])] w fun e w' => e = .returned (.tuple #[(.agg #[.int .u16 (28671), .int .u16 (32767), .int .u16 (0), .int .u16 (0), .int .u16 (0), .int .u16 (0)]), .bool false]) ∧ Below w.heap.size w w' :=
  calls_val (times_any 0 0 24575 32767 0 0 8192 0 0 0 0 0 0 0 0 0 8192 0 0 0 8192 0 0 0 (W16.mk (by omega) (by omega)) (W16.mk (by omega) (by omega)) (W16.mk (by omega) (by omega)) (W16.mk (by omega) (by omega)) (W16.mk (by omega) (by omega)) (W16.mk (by omega) (by omega)) (W16.mk (by omega) (by omega)) (W16.mk (by omega) (by omega)) (W16.mk (by omega) (by omega)) (W16.mk (by omega) (by omega)) (W16.mk (by omega) (by omega)) (W16.mk (by omega) (by omega)) (W16.mk (by omega) (by omega)) (W16.mk (by omega) (by omega)) (W16.mk (by omega) (by omega)) (W16.mk (by omega) (by omega)) (W16.mk (by omega) (by omega)) (W16.mk (by omega) (by omega)) (W16.mk (by omega) (by omega)) (W16.mk (by omega) (by omega)) (W16.mk (by omega) (by omega)) (W16.mk (by omega) (by omega)) (W16.mk (by omega) (by omega)) (W16.mk (by omega) (by omega)) w) (by kernel_rfl)
theorem td341 (w : World) : Calls Tryd.prog 77 #[(.agg #[.int .u16 (0), .int .u16 (0), .int .u16 (8192), .int .u16 (0), .int .u16 (0), .int .u16 (0), .int .u16 (24575), .int .u16 (32767), .int .u16 (0), .int .u16 (0), .int .u16 (0), .int .u16 (0), .int .u16 (0), .int .u16 (0), .int .u16 (0), .int .u16 (0), .int .u16 (8192), .int .u16 (0)]), (.agg #[.int .u16 (0), .int .u16 (0), .int .u16 (8192), .int .u16 (0), .int .u16 (0), .int .u16 (0)])] w fun e w' => e = .returned (.tuple #[(.agg #[.int .u16 (28671), .int .u16 (32767), .int .u16 (0), .int .u16 (0), .int .u16 (0), .int .u16 (0)]), .bool false]) ∧ Below w.heap.size w w' :=
  turned_of _ _ _ _ _ _ _ _ _ _ _ _ _ _ _ _ _ _ _ _ _ _ _ _ _ _ _ _ _ _ _ _ _ _ _ _ _ _ _ _ _ _ _ _ _ _ _ _ _ tr34S tm341 w
theorem tm342 (w : World) : Calls Tryd.prog 58 #[(.agg #[.int .u16 (0), .int .u16 (0), .int .u16 (24575), .int .u16 (32767), .int .u16 (0), .int .u16 (0), .int .u16 (8192), .int .u16 (0), .int .u16 (0), .int .u16 (0), .int .u16 (0), .int .u16 (0), .int .u16 (0), .int .u16 (0), .int .u16 (0), .int .u16 (0), .int .u16 (8192), .int .u16 (0)]), (.agg #[.int .u16 (0), .int .u16 (0), .int .u16 (0), .int .u16 (0), .int .u16 (8192), .int .u16 (0)])] w fun e w' => e = .returned (.tuple #[(.agg #[.int .u16 (0), .int .u16 (0), .int .u16 (0), .int .u16 (0), .int .u16 (4096), .int .u16 (0)]), .bool false]) ∧ Below w.heap.size w w' :=
  calls_val (times_any 0 0 24575 32767 0 0 8192 0 0 0 0 0 0 0 0 0 8192 0 0 0 0 0 8192 0 (W16.mk (by omega) (by omega)) (W16.mk (by omega) (by omega)) (W16.mk (by omega) (by omega)) (W16.mk (by omega) (by omega)) (W16.mk (by omega) (by omega)) (W16.mk (by omega) (by omega)) (W16.mk (by omega) (by omega)) (W16.mk (by omega) (by omega)) (W16.mk (by omega) (by omega)) (W16.mk (by omega) (by omega)) (W16.mk (by omega) (by omega)) (W16.mk (by omega) (by omega)) (W16.mk (by omega) (by omega)) (W16.mk (by omega) (by omega)) (W16.mk (by omega) (by omega)) (W16.mk (by omega) (by omega)) (W16.mk (by omega) (by omega)) (W16.mk (by omega) (by omega)) (W16.mk (by omega) (by omega)) (W16.mk (by omega) (by omega)) (W16.mk (by omega) (by omega)) (W16.mk (by omega) (by omega)) (W16.mk (by omega) (by omega)) (W16.mk (by omega) (by omega)) w) (by kernel_rfl)
theorem td342 (w : World) : Calls Tryd.prog 77 #[(.agg #[.int .u16 (0), .int .u16 (0), .int .u16 (8192), .int .u16 (0), .int .u16 (0), .int .u16 (0), .int .u16 (24575), .int .u16 (32767), .int .u16 (0), .int .u16 (0), .int .u16 (0), .int .u16 (0), .int .u16 (0), .int .u16 (0), .int .u16 (0), .int .u16 (0), .int .u16 (8192), .int .u16 (0)]), (.agg #[.int .u16 (0), .int .u16 (0), .int .u16 (0), .int .u16 (0), .int .u16 (8192), .int .u16 (0)])] w fun e w' => e = .returned (.tuple #[(.agg #[.int .u16 (0), .int .u16 (0), .int .u16 (0), .int .u16 (0), .int .u16 (4096), .int .u16 (0)]), .bool false]) ∧ Below w.heap.size w w' :=
  turned_of _ _ _ _ _ _ _ _ _ _ _ _ _ _ _ _ _ _ _ _ _ _ _ _ _ _ _ _ _ _ _ _ _ _ _ _ _ _ _ _ _ _ _ _ _ _ _ _ _ tr34S tm342 w
theorem pr34 (w : World) : Calls Tryd.prog 52 #[(.agg #[.int .u16 (8192), .int .u16 (0), .int .u16 (0), .int .u16 (0), .int .u16 (0), .int .u16 (0), .int .u16 (0), .int .u16 (0), .int .u16 (8192), .int .u16 (0), .int .u16 (0), .int .u16 (0), .int .u16 (0), .int .u16 (0), .int .u16 (0), .int .u16 (0), .int .u16 (8192), .int .u16 (0)]), (.agg #[.int .u16 (0), .int .u16 (0), .int .u16 (8192), .int .u16 (0), .int .u16 (0), .int .u16 (0), .int .u16 (24575), .int .u16 (32767), .int .u16 (0), .int .u16 (0), .int .u16 (0), .int .u16 (0), .int .u16 (0), .int .u16 (0), .int .u16 (0), .int .u16 (0), .int .u16 (8192), .int .u16 (0)])] w fun e w' => e = .returned (.tuple #[(.agg #[.int .u16 (0), .int .u16 (0), .int .u16 (4096), .int .u16 (0), .int .u16 (0), .int .u16 (0), .int .u16 (28671), .int .u16 (32767), .int .u16 (0), .int .u16 (0), .int .u16 (0), .int .u16 (0), .int .u16 (0), .int .u16 (0), .int .u16 (0), .int .u16 (0), .int .u16 (4096), .int .u16 (0)]), .bool false]) ∧ Below w.heap.size w w' :=
  calls_val (product_of _ _ _ _ _ _ _ _ _ _ _ _ _ _ _ _ _ _ _ _ _ _ _ _ _ _ _ _ _ _ _ _ _ _ _ _ _ _ _ _ _ _ _ _ _ _ _ _ _ _ _ _ _ _ _ _ _ td340 td341 td342 w) rfl
theorem sh340 (w : World) : Calls Tryd.prog 54 #[(.agg #[.int .u16 (0), .int .u16 (0), .int .u16 (4096), .int .u16 (0), .int .u16 (0), .int .u16 (0)]), .int .i64 1] w fun e w' => e = .returned (.tuple #[(.agg #[.int .u16 (0), .int .u16 (0), .int .u16 (8192), .int .u16 (0), .int .u16 (0), .int .u16 (0)]), .bool false]) ∧ Below w.heap.size w w' :=
  calls_val (vshift_any 0 0 4096 0 0 0 1 (by omega) (by omega) (by omega) (by omega) (by omega) (by omega) (by omega) (by omega) (by omega) (by omega) (by omega) (by omega) (by omega) (by omega) w) (by kernel_rfl)
theorem sh341 (w : World) : Calls Tryd.prog 54 #[(.agg #[.int .u16 (28671), .int .u16 (32767), .int .u16 (0), .int .u16 (0), .int .u16 (0), .int .u16 (0)]), .int .i64 1] w fun e w' => e = .returned (.tuple #[(.agg #[.int .u16 (24575), .int .u16 (32767), .int .u16 (0), .int .u16 (0), .int .u16 (0), .int .u16 (0)]), .bool false]) ∧ Below w.heap.size w w' :=
  calls_val (vshift_any 28671 32767 0 0 0 0 1 (by omega) (by omega) (by omega) (by omega) (by omega) (by omega) (by omega) (by omega) (by omega) (by omega) (by omega) (by omega) (by omega) (by omega) w) (by kernel_rfl)
theorem sh342 (w : World) : Calls Tryd.prog 54 #[(.agg #[.int .u16 (0), .int .u16 (0), .int .u16 (0), .int .u16 (0), .int .u16 (4096), .int .u16 (0)]), .int .i64 1] w fun e w' => e = .returned (.tuple #[(.agg #[.int .u16 (0), .int .u16 (0), .int .u16 (0), .int .u16 (0), .int .u16 (8192), .int .u16 (0)]), .bool false]) ∧ Below w.heap.size w w' :=
  calls_val (vshift_any 0 0 0 0 4096 0 1 (by omega) (by omega) (by omega) (by omega) (by omega) (by omega) (by omega) (by omega) (by omega) (by omega) (by omega) (by omega) (by omega) (by omega) w) (by kernel_rfl)
theorem or34 (w : World) : Calls Tryd.prog 24 #[(.agg #[.int .u16 (8192), .int .u16 (0), .int .u16 (0), .int .u16 (0), .int .u16 (0), .int .u16 (0)]), (.agg #[.int .u16 (0), .int .u16 (0), .int .u16 (8192), .int .u16 (0), .int .u16 (0), .int .u16 (0)]), (.agg #[.int .u16 (0), .int .u16 (0), .int .u16 (8192), .int .u16 (0), .int .u16 (0), .int .u16 (0)]), (.agg #[.int .u16 (24575), .int .u16 (32767), .int .u16 (0), .int .u16 (0), .int .u16 (0), .int .u16 (0)])] w fun e w' => e = .returned (.tuple #[(.agg #[.int .u16 (0), .int .u16 (0), .int .u16 (8192), .int .u16 (0), .int .u16 (0), .int .u16 (0), .int .u16 (24575), .int .u16 (32767), .int .u16 (0), .int .u16 (0), .int .u16 (0), .int .u16 (0), .int .u16 (0), .int .u16 (0), .int .u16 (0), .int .u16 (0), .int .u16 (8192), .int .u16 (0)]), .int .i64 0]) ∧ Below w.heap.size w w' :=
  orient_of _ _ _ _ _ _ _ _ _ _ _ _ _ _ _ _ _ _ _ _ _ _ _ _ _ _ _ _ _ _ _ _ _ _ _ _ _ _ _ _ _ _ _ _ _ _ _ _ _ _ _ _ _ _ _ _ _ _ _ _ _ _ _ _ _ _ _ _ _ _ _ _ _ _ _ _ _ _ _ _ _ _ _ _ _ _ _ _ _ _ _ _ _ _ _ _ _ _ _ _ _ _ _ _ _ _ _ _ _ _ _ _ _ _ false false false false tri34c tri34d tr34R pr34 sh340 sh341 sh342 w
theorem sin34 (w : World) (hS : Sines w) : Calls Tryd.prog 44 #[(.agg #[.int .u16 (4096), .int .u16 (0)])] w fun e w' => e = .returned (.agg #[.int .u16 (8192), .int .u16 (0)]) ∧ Below w.heap.size w w' := calls_val (Sin_any 4096 0 (by omega) (by omega) (by omega) (by omega) w hS) (by kernel_rfl)
theorem cos34 (w : World) (hS : Sines w) : Calls Tryd.prog 45 #[(.agg #[.int .u16 (4096), .int .u16 (0)])] w fun e w' => e = .returned (.agg #[.int .u16 (0), .int .u16 (0)]) ∧ Below w.heap.size w w' := calls_val (Cos_any 4096 0 (by omega) (by omega) (by omega) (by omega) w hS) (by kernel_rfl)
theorem neg34 (w : World) : Calls Tryd.prog 46 #[(.agg #[.int .u16 (8192), .int .u16 (0)])] w fun e w' => e = .returned (.agg #[.int .u16 (24575), .int .u16 (32767)]) ∧ Below w.heap.size w w' := calls_val (neg_any 8192 0 (by omega) (by omega) (by omega) (by omega) w) (by kernel_rfl)
theorem clamp34 (w : World) : Calls Tryd.prog 61 #[.int .i64 134217728] w fun e w' => e = .returned (.tuple #[(.agg #[.int .u16 (8192), .int .u16 (0)]), .bool false]) ∧ Below w.heap.size w w' := calls_val (clamp_any 134217728 w) (by kernel_rfl)
theorem turn34 (w : World) (hS : Sines w) : Calls Tryd.prog 18 #[.int .i64 2, (.agg #[.int .u16 (4096), .int .u16 (0)])] w fun e w' => e = .returned (.tuple #[(.agg #[.int .u16 (0), .int .u16 (0), .int .u16 (24575), .int .u16 (32767), .int .u16 (0), .int .u16 (0), .int .u16 (8192), .int .u16 (0), .int .u16 (0), .int .u16 (0), .int .u16 (0), .int .u16 (0), .int .u16 (0), .int .u16 (0), .int .u16 (0), .int .u16 (0), .int .u16 (8192), .int .u16 (0)]), .int .i64 0]) ∧ Below w.heap.size w w' :=
  turn_of_2 4096 0 8192 0 0 0 24575 32767 sin34 cos34 neg34 (exactly_of _ _ _ _ clamp34) w hS
theorem times34 (w : World) : Calls Tryd.prog 58 #[(.agg #[.int .u16 (0), .int .u16 (0), .int .u16 (24575), .int .u16 (32767), .int .u16 (0), .int .u16 (0), .int .u16 (8192), .int .u16 (0), .int .u16 (0), .int .u16 (0), .int .u16 (0), .int .u16 (0), .int .u16 (0), .int .u16 (0), .int .u16 (0), .int .u16 (0), .int .u16 (8192), .int .u16 (0)]), (.agg #[.int .u16 (4096), .int .u16 (0), .int .u16 (0), .int .u16 (0), .int .u16 (0), .int .u16 (0)])] w fun e w' => e = .returned (.tuple #[(.agg #[.int .u16 (0), .int .u16 (0), .int .u16 (2048), .int .u16 (0), .int .u16 (0), .int .u16 (0)]), .bool false]) ∧ Below w.heap.size w w' :=
  calls_val (times_any 0 0 24575 32767 0 0 8192 0 0 0 0 0 0 0 0 0 8192 0 4096 0 0 0 0 0 (W16.mk (by omega) (by omega)) (W16.mk (by omega) (by omega)) (W16.mk (by omega) (by omega)) (W16.mk (by omega) (by omega)) (W16.mk (by omega) (by omega)) (W16.mk (by omega) (by omega)) (W16.mk (by omega) (by omega)) (W16.mk (by omega) (by omega)) (W16.mk (by omega) (by omega)) (W16.mk (by omega) (by omega)) (W16.mk (by omega) (by omega)) (W16.mk (by omega) (by omega)) (W16.mk (by omega) (by omega)) (W16.mk (by omega) (by omega)) (W16.mk (by omega) (by omega)) (W16.mk (by omega) (by omega)) (W16.mk (by omega) (by omega)) (W16.mk (by omega) (by omega)) (W16.mk (by omega) (by omega)) (W16.mk (by omega) (by omega)) (W16.mk (by omega) (by omega)) (W16.mk (by omega) (by omega)) (W16.mk (by omega) (by omega)) (W16.mk (by omega) (by omega)) w) (by kernel_rfl)
theorem rsh34 (w : World) : Calls Tryd.prog 54 #[(.agg #[.int .u16 (0), .int .u16 (0), .int .u16 (2048), .int .u16 (0), .int .u16 (0), .int .u16 (0)]), .int .i64 1] w fun e w' => e = .returned (.tuple #[(.agg #[.int .u16 (0), .int .u16 (0), .int .u16 (4096), .int .u16 (0), .int .u16 (0), .int .u16 (0)]), .bool false]) ∧ Below w.heap.size w w' :=
  calls_val (vshift_any 0 0 2048 0 0 0 1 (by omega) (by omega) (by omega) (by omega) (by omega) (by omega) (by omega) (by omega) (by omega) (by omega) (by omega) (by omega) (by omega) (by omega) w) (by kernel_rfl)
theorem rot34 (w : World) : Calls Tryd.prog 26 #[(.agg #[.int .u16 (0), .int .u16 (0), .int .u16 (24575), .int .u16 (32767), .int .u16 (0), .int .u16 (0), .int .u16 (8192), .int .u16 (0), .int .u16 (0), .int .u16 (0), .int .u16 (0), .int .u16 (0), .int .u16 (0), .int .u16 (0), .int .u16 (0), .int .u16 (0), .int .u16 (8192), .int .u16 (0)]), (.agg #[.int .u16 (4096), .int .u16 (0), .int .u16 (0), .int .u16 (0), .int .u16 (0), .int .u16 (0)])] w fun e w' => e = .returned (.tuple #[(.agg #[.int .u16 (0), .int .u16 (0), .int .u16 (4096), .int .u16 (0), .int .u16 (0), .int .u16 (0)]), .bool false]) ∧ Below w.heap.size w w' :=
  rotate_of _ _ _ _ _ _ _ _ _ _ _ _ _ _ _ _ _ _ _ _ _ _ _ _ _ _ _ _ _ _ _ _ _ _ _ _ false false times34 rsh34 w
set_option maxRecDepth 100000 in
theorem rows34 (w : World) : Calls Tryd.prog 19 #[] w fun e w' => e = .returned (.agg #[.int .u16 (8192), .int .u16 (0), .int .u16 (0), .int .u16 (0), .int .u16 (0), .int .u16 (0), .int .u16 (0), .int .u16 (0), .int .u16 (8192), .int .u16 (0), .int .u16 (0), .int .u16 (0), .int .u16 (0), .int .u16 (0), .int .u16 (0), .int .u16 (0), .int .u16 (8192), .int .u16 (0)]) ∧ Below w.heap.size w w' := by
  go_enter Tryd.func19, Tryd.ntmps19
  go_wp2_with fail
  refine (of34X _).mono ?_
  rintro _ r1 ⟨rfl, hbr1⟩
  obtain ⟨hcr1, hfr1⟩ := bcell hbr1
  have hzr1 := hbr1.size
  try simp only [World.size_alloc, World.size_setCell, World.size_drew] at hzr1
  have hlr1w0 : w.heap.size < r1.heap.size := by omega
  have t1 : r1.there w.heap.size 0 18 := there_on (there_row (c := #[.int .u16 0, .int .u16 0, .int .u16 0, .int .u16 0, .int .u16 0, .int .u16 0, .int .u16 0, .int .u16 0, .int .u16 0, .int .u16 0, .int .u16 0, .int .u16 0, .int .u16 0, .int .u16 0, .int .u16 0, .int .u16 0, .int .u16 0, .int .u16 0]) (t := 29) (heap_new (by simp only [World.size_alloc])) (by simp)) hbr1 (by (try simp only [World.size_alloc]); omega)
  go_wp2_with fail
  refine (of34Y _).mono ?_
  rintro _ r2 ⟨rfl, hbr2⟩
  obtain ⟨hcr2, hfr2⟩ := bcell hbr2
  have hzr2 := hbr2.size
  try simp only [World.size_alloc, World.size_setCell, World.size_drew] at hzr2
  have hlr2w0 : w.heap.size < r2.heap.size := by omega
  have t2 : r2.there w.heap.size 0 18 := there_on t1 hbr2 (by omega)
  go_wp2_with fail
  refine (of34Z _).mono ?_
  rintro _ r3 ⟨rfl, hbr3⟩
  obtain ⟨hcr3, hfr3⟩ := bcell hbr3
  have hzr3 := hbr3.size
  try simp only [World.size_alloc, World.size_setCell, World.size_drew] at hzr3
  have hlr3w0 : w.heap.size < r3.heap.size := by omega
  have t3 : r3.there w.heap.size 0 18 := there_on t2 hbr3 (by omega)
  go_wp2_with (first | fail | (refine WL.h ?_; refine wl_store (op := { dst := none, op := .store 29 (.tmp 0) (.tmp 4), type := _, pos := _, after := _, guard := none }) rfl 29 (.tmp 0) (.tmp 4) rfl (w.heap.size) 0 _ rfl rfl t3 hi_mat (by simp [Value.oneCell']) ?_; simp only [Act.put, List.setIfInBounds_toArray, List.set_cons_zero, List.set_cons_succ]))
  refine bodyPost_ret (v := (.agg #[.int .u16 (8192), .int .u16 (0), .int .u16 (0), .int .u16 (0), .int .u16 (0), .int .u16 (0), .int .u16 (0), .int .u16 (0), .int .u16 (8192), .int .u16 (0), .int .u16 (0), .int .u16 (0), .int .u16 (0), .int .u16 (0), .int .u16 (0), .int .u16 (0), .int .u16 (8192), .int .u16 (0)])) (results_one Tryd.results19 rfl (run_loadVar_mid _ _ 0 _ _ _ (World.rangeAt_setCells_same _ _ _ _ t3) hu_mat rfl hi_mat)) rfl ⟨rfl, bl_cells _ _ _ _ (by repeat' (first | (with_reducible exact Below.refl _ _) | (with_reducible refine bl_set ?_ _ ?_) | (with_reducible refine bl_alloc ?_ _) | (with_reducible refine bl_drew ?_) | (with_reducible refine bl_via (by with_reducible assumption) ?_) | (with_reducible assumption) | omega | (simp only []; omega) | (simp; omega))) (by omega)⟩
theorem of34M (w : World) : Calls Tryd.prog 17 #[.int .i64 0, .int .i64 (-134217728), .int .i64 0] w fun e w' => e = .returned (.agg #[.int .u16 (0), .int .u16 (0), .int .u16 (24575), .int .u16 (32767), .int .u16 (0), .int .u16 (0)]) ∧ Below w.heap.size w w' :=
  calls_val (of34 0 (-134217728) 0 (by omega) (by omega) (by omega) (by omega) (by omega) (by omega) w) (by kernel_rfl)
set_option maxRecDepth 100000 in
set_option maxHeartbeats 8000000 in
theorem lives34 (w : World) (hS : Sines w) :
    Calls Tryd.prog 11 #[] w fun e w' => e = .returned (.bool true) ∧ Below w.heap.size w w' := by
  have hev := @eq_vec
  have hem := @eq_mat
  go_enter Tryd.func11, Tryd.ntmps11
  go_wp2_with fail
  refine (of34X _).mono ?_
  rintro _ r0 ⟨rfl, hb0⟩
  have hs0 := hb0.size
  try simp only [World.size_alloc] at hs0
  have hw0 : Below w.heap.size w r0 := (by repeat' (first | (with_reducible exact Below.refl _ _) | (with_reducible refine bl_set ?_ _ ?_) | (with_reducible refine bl_alloc ?_ _) | (with_reducible refine bl_drew ?_) | (with_reducible refine bl_via (by with_reducible assumption) ?_) | (with_reducible assumption) | omega | (simp only []; omega) | (simp; omega)))
  clear hb0
  go_wp2_with (first | fail)
  refine (of34Yq _).mono ?_
  rintro _ r1 ⟨rfl, hb1⟩
  have hs1 := hb1.size
  have hw1 := bl_via hb1 hw0
  clear hb1 hw0 
  go_wp2_with (first | fail)
  refine (tri34a _).mono ?_
  rintro _ r2 ⟨rfl, hb2⟩
  have hs2 := hb2.size
  have hw2 := bl_via hb2 hw1
  clear hb2 hw1 
  go_wp2_with (first | fail | (refine WL.h ?_; first | (refine wl_store (op := { dst := none, op := .store 29 (.tmp 1) (.tmp 15), type := _, pos := _, after := _, guard := none }) rfl 29 (.tmp 1) (.tmp 15) rfl r2.heap.size 0 _ rfl rfl (there_new (c := #[.int .u16 0, .int .u16 0, .int .u16 0, .int .u16 0, .int .u16 0, .int .u16 0, .int .u16 0, .int .u16 0, .int .u16 0, .int .u16 0, .int .u16 0, .int .u16 0, .int .u16 0, .int .u16 0, .int .u16 0, .int .u16 0, .int .u16 0, .int .u16 0]) (t := 29) (by simp)) hi_mat (by simp [Value.oneCell']) ?_; refine wpList_gen (fun W => Below w.heap.size w W ∧ W.heap.size = r2.heap.size + 1 ∧ W.rangeAt r2.heap.size 0 [.int .u16 8192, .int .u16 0, .int .u16 0, .int .u16 0, .int .u16 0, .int .u16 0, .int .u16 0, .int .u16 0, .int .u16 8192, .int .u16 0, .int .u16 0, .int .u16 0, .int .u16 0, .int .u16 0, .int .u16 0, .int .u16 0, .int .u16 8192, .int .u16 0]) ⟨bl_cells _ _ _ _ (bl_alloc hw2 _) (by omega), size_store, range_here (by simp)⟩ ?_; rintro s2 ⟨hws2, hss2, fs2_1⟩; simp only [Act.put, List.setIfInBounds_toArray, List.set_cons_zero, List.set_cons_succ])))
  refine (of34X _).mono ?_
  rintro _ r3 ⟨rfl, hb3⟩
  have hs3 := hb3.size
  have hw3 := bl_via hb3 hws2
  have f3_1 := range_on fs2_1 hb3 (by omega)
  clear hb3 hws2 fs2_1
  go_wp2_with (first | fail)
  refine (of34Xq _).mono ?_
  rintro _ r4 ⟨rfl, hb4⟩
  have hs4 := hb4.size
  have hw4 := bl_via hb4 hw3
  have f4_1 := range_on f3_1 hb4 (by omega)
  clear hb4 hw3 f3_1
  go_wp2_with (first | fail)
  refine (tri34b _).mono ?_
  rintro _ r5 ⟨rfl, hb5⟩
  have hs5 := hb5.size
  have hw5 := bl_via hb5 hw4
  have f5_1 := range_on f4_1 hb5 (by omega)
  clear hb5 hw4 f4_1
  go_wp2_with (first | fail | (refine WL.h ?_; first | (refine wl_store (op := { dst := none, op := .store 29 (.tmp 3) (.tmp 21), type := _, pos := _, after := _, guard := none }) rfl 29 (.tmp 3) (.tmp 21) rfl r5.heap.size 0 _ rfl rfl (there_new (c := #[.int .u16 0, .int .u16 0, .int .u16 0, .int .u16 0, .int .u16 0, .int .u16 0, .int .u16 0, .int .u16 0, .int .u16 0, .int .u16 0, .int .u16 0, .int .u16 0, .int .u16 0, .int .u16 0, .int .u16 0, .int .u16 0, .int .u16 0, .int .u16 0]) (t := 29) (by simp)) hi_mat (by simp [Value.oneCell']) ?_; refine wpList_gen (fun W => Below w.heap.size w W ∧ W.heap.size = r5.heap.size + 1 ∧ W.rangeAt (r2.heap.size) 0 [.int .u16 8192, .int .u16 0, .int .u16 0, .int .u16 0, .int .u16 0, .int .u16 0, .int .u16 0, .int .u16 0, .int .u16 8192, .int .u16 0, .int .u16 0, .int .u16 0, .int .u16 0, .int .u16 0, .int .u16 0, .int .u16 0, .int .u16 8192, .int .u16 0] ∧ W.rangeAt r5.heap.size 0 [.int .u16 0, .int .u16 0, .int .u16 0, .int .u16 0, .int .u16 0, .int .u16 0, .int .u16 0, .int .u16 0, .int .u16 0, .int .u16 0, .int .u16 0, .int .u16 0, .int .u16 0, .int .u16 0, .int .u16 0, .int .u16 0, .int .u16 0, .int .u16 0]) ⟨bl_cells _ _ _ _ (bl_alloc hw5 _) (by omega), size_store, range_store f5_1 (by omega), range_here (by simp)⟩ ?_; clear f5_1; rintro s5 ⟨hws5, hss5, fs5_1, fs5_3⟩; simp only [Act.put, List.setIfInBounds_toArray, List.set_cons_zero, List.set_cons_succ])))
  refine (of34X _).mono ?_
  rintro _ r6 ⟨rfl, hb6⟩
  have hs6 := hb6.size
  have hw6 := bl_via hb6 hws5
  have f6_1 := range_on fs5_1 hb6 (by omega)
  have f6_3 := range_on fs5_3 hb6 (by omega)
  clear hb6 hws5 fs5_1 fs5_3
  go_wp2_with (first | fail)
  refine (of34Y _).mono ?_
  rintro _ r7 ⟨rfl, hb7⟩
  have hs7 := hb7.size
  have hw7 := bl_via hb7 hw6
  have f7_1 := range_on f6_1 hb7 (by omega)
  have f7_3 := range_on f6_3 hb7 (by omega)
  clear hb7 hw6 f6_1 f6_3
  go_wp2_with (first | fail)
  refine (of34Y _).mono ?_
  rintro _ r8 ⟨rfl, hb8⟩
  have hs8 := hb8.size
  have hw8 := bl_via hb8 hw7
  have f8_1 := range_on f7_1 hb8 (by omega)
  have f8_3 := range_on f7_3 hb8 (by omega)
  clear hb8 hw7 f7_1 f7_3
  go_wp2_with (first | fail)
  refine (of34N _).mono ?_
  rintro _ r9 ⟨rfl, hb9⟩
  have hs9 := hb9.size
  have hw9 := bl_via hb9 hw8
  have f9_1 := range_on f8_1 hb9 (by omega)
  have f9_3 := range_on f8_3 hb9 (by omega)
  clear hb9 hw8 f8_1 f8_3
  go_wp2_with (first | fail)
  refine (or34 _).mono ?_
  rintro _ r10 ⟨rfl, hb10⟩
  have hs10 := hb10.size
  have hw10 := bl_via hb10 hw9
  have f10_1 := range_on f9_1 hb10 (by omega)
  have f10_3 := range_on f9_3 hb10 (by omega)
  clear hb10 hw9 f9_1 f9_3
  go_wp2_with (first | fail | (refine WL.h ?_; first | (refine wl_store (op := { dst := none, op := .store 29 (.tmp 5) (.tmp 29), type := _, pos := _, after := _, guard := none }) rfl 29 (.tmp 5) (.tmp 29) rfl r10.heap.size 0 _ rfl rfl (there_new (c := #[.int .u16 0, .int .u16 0, .int .u16 0, .int .u16 0, .int .u16 0, .int .u16 0, .int .u16 0, .int .u16 0, .int .u16 0, .int .u16 0, .int .u16 0, .int .u16 0, .int .u16 0, .int .u16 0, .int .u16 0, .int .u16 0, .int .u16 0, .int .u16 0]) (t := 29) (by simp)) hi_mat (by simp [Value.oneCell']) ?_; refine wpList_gen (fun W => Below w.heap.size w W ∧ W.heap.size = r10.heap.size + 1 ∧ W.rangeAt (r2.heap.size) 0 [.int .u16 8192, .int .u16 0, .int .u16 0, .int .u16 0, .int .u16 0, .int .u16 0, .int .u16 0, .int .u16 0, .int .u16 8192, .int .u16 0, .int .u16 0, .int .u16 0, .int .u16 0, .int .u16 0, .int .u16 0, .int .u16 0, .int .u16 8192, .int .u16 0] ∧ W.rangeAt (r5.heap.size) 0 [.int .u16 0, .int .u16 0, .int .u16 0, .int .u16 0, .int .u16 0, .int .u16 0, .int .u16 0, .int .u16 0, .int .u16 0, .int .u16 0, .int .u16 0, .int .u16 0, .int .u16 0, .int .u16 0, .int .u16 0, .int .u16 0, .int .u16 0, .int .u16 0] ∧ W.rangeAt r10.heap.size 0 [.int .u16 0, .int .u16 0, .int .u16 8192, .int .u16 0, .int .u16 0, .int .u16 0, .int .u16 24575, .int .u16 32767, .int .u16 0, .int .u16 0, .int .u16 0, .int .u16 0, .int .u16 0, .int .u16 0, .int .u16 0, .int .u16 0, .int .u16 8192, .int .u16 0]) ⟨bl_cells _ _ _ _ (bl_alloc hw10 _) (by omega), size_store, range_store f10_1 (by omega), range_store f10_3 (by omega), range_here (by simp)⟩ ?_; clear f10_1 f10_3; rintro s10 ⟨hws10, hss10, fs10_1, fs10_3, fs10_5⟩; simp only [Act.put, List.setIfInBounds_toArray, List.set_cons_zero, List.set_cons_succ])))
  refine (turn34 _ (hS.on hws10)).mono ?_
  rintro _ r11 ⟨rfl, hb11⟩
  have hs11 := hb11.size
  have hw11 := bl_via hb11 hws10
  have f11_1 := range_on fs10_1 hb11 (by omega)
  have f11_3 := range_on fs10_3 hb11 (by omega)
  have f11_5 := range_on fs10_5 hb11 (by omega)
  clear hb11 hws10 fs10_1 fs10_3 fs10_5
  go_wp2_with (first | fail | (refine WL.h ?_; (refine wl_store (op := { dst := none, op := .store 29 (.tmp 7) (.tmp 34), type := _, pos := _, after := _, guard := none }) rfl 29 (.tmp 7) (.tmp 34) rfl r11.heap.size 0 _ rfl rfl (there_new (c := #[.int .u16 0, .int .u16 0, .int .u16 0, .int .u16 0, .int .u16 0, .int .u16 0, .int .u16 0, .int .u16 0, .int .u16 0, .int .u16 0, .int .u16 0, .int .u16 0, .int .u16 0, .int .u16 0, .int .u16 0, .int .u16 0, .int .u16 0, .int .u16 0]) (t := 29) (by simp)) hi_mat (by simp [Value.oneCell']) ?_; refine wpList_gen (fun W => Below w.heap.size w W ∧ W.heap.size = r11.heap.size + 1 ∧ W.rangeAt (r2.heap.size) 0 [.int .u16 8192, .int .u16 0, .int .u16 0, .int .u16 0, .int .u16 0, .int .u16 0, .int .u16 0, .int .u16 0, .int .u16 8192, .int .u16 0, .int .u16 0, .int .u16 0, .int .u16 0, .int .u16 0, .int .u16 0, .int .u16 0, .int .u16 8192, .int .u16 0] ∧ W.rangeAt (r5.heap.size) 0 [.int .u16 0, .int .u16 0, .int .u16 0, .int .u16 0, .int .u16 0, .int .u16 0, .int .u16 0, .int .u16 0, .int .u16 0, .int .u16 0, .int .u16 0, .int .u16 0, .int .u16 0, .int .u16 0, .int .u16 0, .int .u16 0, .int .u16 0, .int .u16 0] ∧ W.rangeAt (r10.heap.size) 0 [.int .u16 0, .int .u16 0, .int .u16 8192, .int .u16 0, .int .u16 0, .int .u16 0, .int .u16 24575, .int .u16 32767, .int .u16 0, .int .u16 0, .int .u16 0, .int .u16 0, .int .u16 0, .int .u16 0, .int .u16 0, .int .u16 0, .int .u16 8192, .int .u16 0] ∧ W.rangeAt r11.heap.size 0 [.int .u16 0, .int .u16 0, .int .u16 24575, .int .u16 32767, .int .u16 0, .int .u16 0, .int .u16 8192, .int .u16 0, .int .u16 0, .int .u16 0, .int .u16 0, .int .u16 0, .int .u16 0, .int .u16 0, .int .u16 0, .int .u16 0, .int .u16 8192, .int .u16 0]) ⟨bl_cells _ _ _ _ (bl_alloc hw11 _) (by omega), size_store, range_store f11_1 (by omega), range_store f11_3 (by omega), range_store f11_5 (by omega), range_here (by simp)⟩ ?_; clear f11_1 f11_3 f11_5; rintro s11 ⟨hws11, hss11, fs11_1, fs11_3, fs11_5, fs11_7⟩; simp only [Act.put, List.setIfInBounds_toArray, List.set_cons_zero, List.set_cons_succ])))
  have hecr12 := @Ext.cell2
  refine wp_region_floatl 6 5 _ _ _ _ _ (.cells #[.int .u16 0, .int .u16 0, .int .u16 0, .int .u16 0, .int .u16 0, .int .u16 0] 27) (by kernel_rfl) rfl rfl (by kernel_rfl) (by kernel_rfl) rfl rfl rfl rfl (fun _ _ => by simp [go_sem]) (fun _ _ d _ _ h => by cases d <;> exact h) (by kernel_rfl) (by kernel_rfl) rfl ?_
  apply Exists.intro
  refine ⟨fun W' => ?_, ?_⟩
  · simp only [List.take_succ_cons, List.take_zero]
    repeat (first | go_big_quiet_skip | (go_big_quiet_want; first | (refine QW.h ?_; first | (refine qw_load (op := { dst := some 37, op := .load 29 (.tmp 7), type := _, pos := _, after := _, guard := _ }) 29 (.tmp 7) rfl (r11.heap.size) 0 rfl [.int .u16 0, .int .u16 0, .int .u16 24575, .int .u16 32767, .int .u16 0, .int .u16 0, .int .u16 8192, .int .u16 0, .int .u16 0, .int .u16 0, .int .u16 0, .int .u16 0, .int .u16 0, .int .u16 0, .int .u16 0, .int .u16 0, .int .u16 8192, .int .u16 0] _ (range_ext2 fs11_7 (by omega) W') hu_mat rfl hi_mat ?_; simp only [Act.put, List.setIfInBounds_toArray, List.set_cons_zero, List.set_cons_succ]; go_big_quiet_on)) | (go_big_quiet_op; first | go_big_quiet_on | (go_big_quiet_call ((first | fail | (go_at_call 17; with_reducible exact ext_call (of34Xq _)) | (go_at_call 26; with_reducible exact ext_call (rot34 _))))))))
    exact wpQuiet_nil rfl
  clear hecr12
  simp only [List.drop_succ_cons, List.drop_zero, Act.put, List.setIfInBounds_toArray, List.set_cons_zero, List.set_cons_succ]
  intro B12 r12 hbr12 hBr12 hDr12 hEr12
  have hGr12_0 := block_cell hEr12 0
  have hGr12_1 := block_cell hEr12 1
  have hGr12_2 := block_cell hEr12 2
  have hGr12_3 := block_cell hEr12 3
  have hGr12_4 := block_cell hEr12 4
  have hGr12_5 := block_cell hEr12 5
  have hFr12 := block_free hEr12
  simp only [List.getElem?_toArray, List.getElem?_cons_zero, List.getElem?_cons_succ] at hGr12_0 hGr12_1 hGr12_2 hGr12_3 hGr12_4 hGr12_5
  clear hEr12
  try simp only [World.size_alloc, World.size_setCell, World.size_drew] at hBr12
  obtain ⟨hcr12, hfr12⟩ := bcell hbr12
  have hzr12 := hbr12.size
  try simp only [World.size_alloc, World.size_setCell, World.size_drew] at hzr12
  have hs12 := hbr12.size
  have hw12 := bl_via hbr12 hws11
  have f12_1 := range_on fs11_1 hbr12 (by omega)
  have f12_3 := range_on fs11_3 hbr12 (by omega)
  have f12_5 := range_on fs11_5 hbr12 (by omega)
  have f12_7 := range_on fs11_7 hbr12 (by omega)
  clear hws11 fs11_1 fs11_3 fs11_5 fs11_7
  have hth12 := there6 hGr12_0 hGr12_1 hGr12_2 hGr12_3 hGr12_4 hGr12_5 hFr12
  refine wpList_store_mid (op := { dst := none, op := .store 27 (.tmp 9) (.tmp 40), type := _, pos := _, after := _, guard := none }) rfl 27 (.tmp 9) (.tmp 40) rfl B12 0 _ rfl rfl hth12 hi_vec (by simp [Value.oneCell']) ?_
  refine wpList_gen (fun W => Below w.heap.size w W ∧ W.heap.size = r12.heap.size ∧ W.rangeAt (r2.heap.size) 0 [.int .u16 8192, .int .u16 0, .int .u16 0, .int .u16 0, .int .u16 0, .int .u16 0, .int .u16 0, .int .u16 0, .int .u16 8192, .int .u16 0, .int .u16 0, .int .u16 0, .int .u16 0, .int .u16 0, .int .u16 0, .int .u16 0, .int .u16 8192, .int .u16 0] ∧ W.rangeAt (r5.heap.size) 0 [.int .u16 0, .int .u16 0, .int .u16 0, .int .u16 0, .int .u16 0, .int .u16 0, .int .u16 0, .int .u16 0, .int .u16 0, .int .u16 0, .int .u16 0, .int .u16 0, .int .u16 0, .int .u16 0, .int .u16 0, .int .u16 0, .int .u16 0, .int .u16 0] ∧ W.rangeAt (r10.heap.size) 0 [.int .u16 0, .int .u16 0, .int .u16 8192, .int .u16 0, .int .u16 0, .int .u16 0, .int .u16 24575, .int .u16 32767, .int .u16 0, .int .u16 0, .int .u16 0, .int .u16 0, .int .u16 0, .int .u16 0, .int .u16 0, .int .u16 0, .int .u16 8192, .int .u16 0] ∧ W.rangeAt (r11.heap.size) 0 [.int .u16 0, .int .u16 0, .int .u16 24575, .int .u16 32767, .int .u16 0, .int .u16 0, .int .u16 8192, .int .u16 0, .int .u16 0, .int .u16 0, .int .u16 0, .int .u16 0, .int .u16 0, .int .u16 0, .int .u16 0, .int .u16 0, .int .u16 8192, .int .u16 0] ∧ W.rangeAt B12 0 [.int .u16 0, .int .u16 0, .int .u16 4096, .int .u16 0, .int .u16 0, .int .u16 0]) ⟨bl_cells _ _ _ _ hw12 (by omega), size_cells _ _ _ _, World.rangeAt_setCells_apart f12_1 _ _ _ (.inl (by omega)), World.rangeAt_setCells_apart f12_3 _ _ _ (.inl (by omega)), World.rangeAt_setCells_apart f12_5 _ _ _ (.inl (by omega)), World.rangeAt_setCells_apart f12_7 _ _ _ (.inl (by omega)), World.rangeAt_setCells_same _ _ _ _ hth12⟩ ?_
  clear hth12 hw12 hcr12 hfr12 hbr12 hFr12 hGr12_0 hGr12_1 hGr12_2 hGr12_3 hGr12_4 hGr12_5 f12_1 f12_3 f12_5 f12_7
  rintro s12 ⟨hws12, hss12, fs12_1, fs12_3, fs12_5, fs12_7, fs12_9⟩
  simp only [Act.put, List.setIfInBounds_toArray, List.set_cons_zero, List.set_cons_succ]
  go_wp2_with fail
  have hecr13 := @Ext.cell
  refine wp_region_ext (by kernel_rfl) (by kernel_rfl) ?_
  repeat (first | go_big_quiet_skip | (go_big_quiet_want; first | (refine QW.h ?_; first | (refine qw_load (op := { dst := some 45, op := .load 29 (.tmp 1), type := _, pos := _, after := _, guard := _ }) 29 (.tmp 1) rfl (r2.heap.size) 0 rfl [.int .u16 8192, .int .u16 0, .int .u16 0, .int .u16 0, .int .u16 0, .int .u16 0, .int .u16 0, .int .u16 0, .int .u16 8192, .int .u16 0, .int .u16 0, .int .u16 0, .int .u16 0, .int .u16 0, .int .u16 0, .int .u16 0, .int .u16 8192, .int .u16 0] _ (range_ext fs12_1 (by omega)) hu_mat rfl hi_mat ?_; simp only [Act.put, List.setIfInBounds_toArray, List.set_cons_zero, List.set_cons_succ]; go_big_quiet_on) | (refine qw_load (op := { dst := some 58, op := .load 29 (.tmp 5), type := _, pos := _, after := _, guard := _ }) 29 (.tmp 5) rfl (r10.heap.size) 0 rfl [.int .u16 0, .int .u16 0, .int .u16 8192, .int .u16 0, .int .u16 0, .int .u16 0, .int .u16 24575, .int .u16 32767, .int .u16 0, .int .u16 0, .int .u16 0, .int .u16 0, .int .u16 0, .int .u16 0, .int .u16 0, .int .u16 0, .int .u16 8192, .int .u16 0] _ (range_ext fs12_5 (by omega)) hu_mat rfl hi_mat ?_; simp only [Act.put, List.setIfInBounds_toArray, List.set_cons_zero, List.set_cons_succ]; go_big_quiet_on) | (refine qw_load (op := { dst := some 70, op := .load 29 (.tmp 7), type := _, pos := _, after := _, guard := _ }) 29 (.tmp 7) rfl (r11.heap.size) 0 rfl [.int .u16 0, .int .u16 0, .int .u16 24575, .int .u16 32767, .int .u16 0, .int .u16 0, .int .u16 8192, .int .u16 0, .int .u16 0, .int .u16 0, .int .u16 0, .int .u16 0, .int .u16 0, .int .u16 0, .int .u16 0, .int .u16 0, .int .u16 8192, .int .u16 0] _ (range_ext fs12_7 (by omega)) hu_mat rfl hi_mat ?_; simp only [Act.put, List.setIfInBounds_toArray, List.set_cons_zero, List.set_cons_succ]; go_big_quiet_on) | (refine qw_load (op := { dst := some 78, op := .load 27 (.tmp 9), type := _, pos := _, after := _, guard := _ }) 27 (.tmp 9) rfl (B12) 0 rfl [.int .u16 0, .int .u16 0, .int .u16 4096, .int .u16 0, .int .u16 0, .int .u16 0] _ (range_ext fs12_9 (by omega)) hu_vec rfl hi_vec ?_; simp only [Act.put, List.setIfInBounds_toArray, List.set_cons_zero, List.set_cons_succ]; go_big_quiet_on)) | (go_big_quiet_op; first | go_big_quiet_on | (go_big_quiet_call ((first | fail | (go_at_call 17; with_reducible exact ext_call (of34X _)) | (go_at_call 17; with_reducible exact ext_call (of34Y _)) | (go_at_call 17; with_reducible exact ext_call (of34Z _)) | (go_at_call 17; with_reducible exact ext_call (of34N _)) | (go_at_call 17; with_reducible exact ext_call (of34Yq _)) | (go_at_call 17; with_reducible exact ext_call (of34M _)) | (go_at_call 19; with_reducible exact ext_call (rows34 _))))))))
  clear hecr13
  refine wpQuiet_nil ?_
  rintro r13 ⟨⟨_, hbr13⟩, rfl⟩
  obtain ⟨hcr13, hfr13⟩ := bcell hbr13
  have hzr13 := hbr13.size
  try simp only [World.size_alloc, World.size_setCell, World.size_drew] at hzr13
  have hs13 := hbr13.size
  have hw13 := bl_via hbr13 hws12
  have f13_1 := range_on fs12_1 hbr13 (by omega)
  have f13_3 := range_on fs12_3 hbr13 (by omega)
  have f13_5 := range_on fs12_5 hbr13 (by omega)
  have f13_7 := range_on fs12_7 hbr13 (by omega)
  have f13_9 := range_on fs12_9 hbr13 (by omega)
  clear hws12 fs12_1 fs12_3 fs12_5 fs12_7 fs12_9
  go_wp2
  go_ret
  exact ⟨rfl, (by repeat' (first | (with_reducible exact Below.refl _ _) | (with_reducible refine bl_set ?_ _ ?_) | (with_reducible refine bl_alloc ?_ _) | (with_reducible refine bl_drew ?_) | (with_reducible refine bl_via (by with_reducible assumption) ?_) | (with_reducible assumption) | omega | (simp only []; omega) | (simp; omega)))⟩
end Go.Proofs.YtbbhppjamighdaaDoor
