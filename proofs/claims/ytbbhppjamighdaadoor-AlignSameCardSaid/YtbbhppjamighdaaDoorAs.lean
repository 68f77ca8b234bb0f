/- The walk of the law AlignSame: for every input it returns true. -/
import Derived.Test.YtbbhppjamighdaaDoorAm
import Derived.Test.YtbbhppjamighdaaDoorAj
namespace Go.Proofs.YtbbhppjamighdaaDoor
set_option linter.unusedSimpArgs false
set_option linter.unusedVariables false
open Go.RowKit

theorem transpose_V (s00 s01 s02 s10 s11 s12 s20 s21 s22 : Int) (s00_0 : -268435455 ≤ s00) (s00_1 : s00 ≤ 268435455) (s01_0 : -268435455 ≤ s01) (s01_1 : s01 ≤ 268435455) (s02_0 : -268435455 ≤ s02) (s02_1 : s02 ≤ 268435455) (s10_0 : -268435455 ≤ s10) (s10_1 : s10 ≤ 268435455) (s11_0 : -268435455 ≤ s11) (s11_1 : s11 ≤ 268435455) (s12_0 : -268435455 ≤ s12) (s12_1 : s12 ≤ 268435455) (s20_0 : -268435455 ≤ s20) (s20_1 : s20 ≤ 268435455) (s21_0 : -268435455 ≤ s21) (s21_1 : s21 ≤ 268435455) (s22_0 : -268435455 ≤ s22) (s22_1 : s22 ≤ 268435455) (w : World) : Calls Tryd.prog 53 #[(.agg #[.int .u16 (hi (s00)), .int .u16 (lo (s00)), .int .u16 (hi (s01)), .int .u16 (lo (s01)), .int .u16 (hi (s02)), .int .u16 (lo (s02)), .int .u16 (hi (s10)), .int .u16 (lo (s10)), .int .u16 (hi (s11)), .int .u16 (lo (s11)), .int .u16 (hi (s12)), .int .u16 (lo (s12)), .int .u16 (hi (s20)), .int .u16 (lo (s20)), .int .u16 (hi (s21)), .int .u16 (lo (s21)), .int .u16 (hi (s22)), .int .u16 (lo (s22))])] w fun e w' => e = .returned (.agg #[.int .u16 (hi (s00)), .int .u16 (lo (s00)), .int .u16 (hi (s10)), .int .u16 (lo (s10)), .int .u16 (hi (s20)), .int .u16 (lo (s20)), .int .u16 (hi (s01)), .int .u16 (lo (s01)), .int .u16 (hi (s11)), .int .u16 (lo (s11)), .int .u16 (hi (s21)), .int .u16 (lo (s21)), .int .u16 (hi (s02)), .int .u16 (lo (s02)), .int .u16 (hi (s12)), .int .u16 (lo (s12)), .int .u16 (hi (s22)), .int .u16 (lo (s22))]) ∧ Below w.heap.size w w' := by
  have k := transpose_any (hi s00) (lo s00) (hi s01) (lo s01) (hi s02) (lo s02) (hi s10) (lo s10) (hi s11) (lo s11) (hi s12) (lo s12) (hi s20) (lo s20) (hi s21) (lo s21) (hi s22) (lo s22) (W16.hi s00_0 s00_1) (W16.lo s00_0 s00_1) (W16.hi s01_0 s01_1) (W16.lo s01_0 s01_1) (W16.hi s02_0 s02_1) (W16.lo s02_0 s02_1) (W16.hi s10_0 s10_1) (W16.lo s10_0 s10_1) (W16.hi s11_0 s11_1) (W16.lo s11_0 s11_1) (W16.hi s12_0 s12_1) (W16.lo s12_0 s12_1) (W16.hi s20_0 s20_1) (W16.lo s20_0 s20_1) (W16.hi s21_0 s21_1) (W16.lo s21_0 s21_1) (W16.hi s22_0 s22_1) (W16.lo s22_0 s22_1) w
  simp only [val_of s00 s00_0 s00_1, val_of s01 s01_0 s01_1, val_of s02 s02_0 s02_1, val_of s10 s10_0 s10_1, val_of s11 s11_0 s11_1, val_of s12 s12_0 s12_1, val_of s20 s20_0 s20_1, val_of s21 s21_0 s21_1, val_of s22 s22_0 s22_1] at k
  exact k
theorem times_V (s00 s01 s02 s10 s11 s12 s20 s21 s22 x0 x1 x2 : Int) (s00_0 : -268435455 ≤ s00) (s00_1 : s00 ≤ 268435455) (s01_0 : -268435455 ≤ s01) (s01_1 : s01 ≤ 268435455) (s02_0 : -268435455 ≤ s02) (s02_1 : s02 ≤ 268435455) (s10_0 : -268435455 ≤ s10) (s10_1 : s10 ≤ 268435455) (s11_0 : -268435455 ≤ s11) (s11_1 : s11 ≤ 268435455) (s12_0 : -268435455 ≤ s12) (s12_1 : s12 ≤ 268435455) (s20_0 : -268435455 ≤ s20) (s20_1 : s20 ≤ 268435455) (s21_0 : -268435455 ≤ s21) (s21_1 : s21 ≤ 268435455) (s22_0 : -268435455 ≤ s22) (s22_1 : s22 ≤ 268435455) (x0_0 : -268435455 ≤ x0) (x0_1 : x0 ≤ 268435455) (x1_0 : -268435455 ≤ x1) (x1_1 : x1 ≤ 268435455) (x2_0 : -268435455 ≤ x2) (x2_1 : x2 ≤ 268435455) : ∃ o : Bool, ∀ w, Calls Tryd.prog 58 #[(.agg #[.int .u16 (hi (s00)), .int .u16 (lo (s00)), .int .u16 (hi (s01)), .int .u16 (lo (s01)), .int .u16 (hi (s02)), .int .u16 (lo (s02)), .int .u16 (hi (s10)), .int .u16 (lo (s10)), .int .u16 (hi (s11)), .int .u16 (lo (s11)), .int .u16 (hi (s12)), .int .u16 (lo (s12)), .int .u16 (hi (s20)), .int .u16 (lo (s20)), .int .u16 (hi (s21)), .int .u16 (lo (s21)), .int .u16 (hi (s22)), .int .u16 (lo (s22))]), (.agg #[.int .u16 (hi (x0)), .int .u16 (lo (x0)), .int .u16 (hi (x1)), .int .u16 (lo (x1)), .int .u16 (hi (x2)), .int .u16 (lo (x2))])] w fun e w' => e = .returned (.tuple #[(.agg #[.int .u16 (hi ((sat (rnd (dot s00 s01 s02 x0 x1 x2) 268435456) 268435455))), .int .u16 (lo ((sat (rnd (dot s00 s01 s02 x0 x1 x2) 268435456) 268435455))), .int .u16 (hi ((sat (rnd (dot s10 s11 s12 x0 x1 x2) 268435456) 268435455))), .int .u16 (lo ((sat (rnd (dot s10 s11 s12 x0 x1 x2) 268435456) 268435455))), .int .u16 (hi ((sat (rnd (dot s20 s21 s22 x0 x1 x2) 268435456) 268435455))), .int .u16 (lo ((sat (rnd (dot s20 s21 s22 x0 x1 x2) 268435456) 268435455)))]), .bool o]) ∧ Below w.heap.size w w' := by
  have k := fun w => times_any (hi s00) (lo s00) (hi s01) (lo s01) (hi s02) (lo s02) (hi s10) (lo s10) (hi s11) (lo s11) (hi s12) (lo s12) (hi s20) (lo s20) (hi s21) (lo s21) (hi s22) (lo s22) (hi x0) (lo x0) (hi x1) (lo x1) (hi x2) (lo x2) (W16.hi s00_0 s00_1) (W16.lo s00_0 s00_1) (W16.hi s01_0 s01_1) (W16.lo s01_0 s01_1) (W16.hi s02_0 s02_1) (W16.lo s02_0 s02_1) (W16.hi s10_0 s10_1) (W16.lo s10_0 s10_1) (W16.hi s11_0 s11_1) (W16.lo s11_0 s11_1) (W16.hi s12_0 s12_1) (W16.lo s12_0 s12_1) (W16.hi s20_0 s20_1) (W16.lo s20_0 s20_1) (W16.hi s21_0 s21_1) (W16.lo s21_0 s21_1) (W16.hi s22_0 s22_1) (W16.lo s22_0 s22_1) (W16.hi x0_0 x0_1) (W16.lo x0_0 x0_1) (W16.hi x1_0 x1_1) (W16.lo x1_0 x1_1) (W16.hi x2_0 x2_1) (W16.lo x2_0 x2_1) w
  simp only [val_of s00 s00_0 s00_1, val_of s01 s01_0 s01_1, val_of s02 s02_0 s02_1, val_of s10 s10_0 s10_1, val_of s11 s11_0 s11_1, val_of s12 s12_0 s12_1, val_of s20 s20_0 s20_1, val_of s21 s21_0 s21_1, val_of s22 s22_0 s22_1, val_of x0 x0_0 x0_1, val_of x1 x1_0 x1_1, val_of x2 x2_0 x2_1] at k
  exact ⟨_, k⟩
theorem vshift_V (x0 x1 x2 : Int) (x0_0 : -268435455 ≤ x0) (x0_1 : x0 ≤ 268435455) (x1_0 : -268435455 ≤ x1) (x1_1 : x1 ≤ 268435455) (x2_0 : -268435455 ≤ x2) (x2_1 : x2 ≤ 268435455) : ∃ o : Bool, ∀ w, Calls Tryd.prog 54 #[(.agg #[.int .u16 (hi (x0)), .int .u16 (lo (x0)), .int .u16 (hi (x1)), .int .u16 (lo (x1)), .int .u16 (hi (x2)), .int .u16 (lo (x2))]), .int .i64 1] w fun e w' => e = .returned (.tuple #[(.agg #[.int .u16 (hi ((shv x0 1))), .int .u16 (lo ((shv x0 1))), .int .u16 (hi ((shv x1 1))), .int .u16 (lo ((shv x1 1))), .int .u16 (hi ((shv x2 1))), .int .u16 (lo ((shv x2 1)))]), .bool o]) ∧ Below w.heap.size w w' := by
  have q_x0 := hi_lo x0 x0_0 x0_1
  have q_x1 := hi_lo x1 x1_0 x1_1
  have q_x2 := hi_lo x2 x2_0 x2_1
  have k := fun w => vshift_any (hi x0) (lo x0) (hi x1) (lo x1) (hi x2) (lo x2) 1 (by omega) (by omega) (by omega) (by omega) (by omega) (by omega) (by omega) (by omega) (by omega) (by omega) (by omega) (by omega) (by omega) (by omega) w
  simp only [val_of x0 x0_0 x0_1, val_of x1 x1_0 x1_1, val_of x2 x2_0 x2_1] at k
  exact ⟨_, k⟩
set_option maxRecDepth 100000 in
set_option maxHeartbeats 8000000 in
theorem orient_V (a0 a1 a2 a3 a4 a5 b0 b1 b2 b3 b4 b5 c0 c1 c2 c3 c4 c5 d0 d1 d2 d3 d4 d5 s00 s01 s02 s10 s11 s12 s20 s21 s22 t00 t01 t02 t10 t11 t12 t20 t21 t22 : Int) (s00_0 : -268435455 ≤ s00) (s00_1 : s00 ≤ 268435455) (s01_0 : -268435455 ≤ s01) (s01_1 : s01 ≤ 268435455) (s02_0 : -268435455 ≤ s02) (s02_1 : s02 ≤ 268435455) (s10_0 : -268435455 ≤ s10) (s10_1 : s10 ≤ 268435455) (s11_0 : -268435455 ≤ s11) (s11_1 : s11 ≤ 268435455) (s12_0 : -268435455 ≤ s12) (s12_1 : s12 ≤ 268435455) (s20_0 : -268435455 ≤ s20) (s20_1 : s20 ≤ 268435455) (s21_0 : -268435455 ≤ s21) (s21_1 : s21 ≤ 268435455) (s22_0 : -268435455 ≤ s22) (s22_1 : s22 ≤ 268435455) (t00_0 : -268435455 ≤ t00) (t00_1 : t00 ≤ 268435455) (t01_0 : -268435455 ≤ t01) (t01_1 : t01 ≤ 268435455) (t02_0 : -268435455 ≤ t02) (t02_1 : t02 ≤ 268435455) (t10_0 : -268435455 ≤ t10) (t10_1 : t10 ≤ 268435455) (t11_0 : -268435455 ≤ t11) (t11_1 : t11 ≤ 268435455) (t12_0 : -268435455 ≤ t12) (t12_1 : t12 ≤ 268435455) (t20_0 : -268435455 ≤ t20) (t20_1 : t20 ≤ 268435455) (t21_0 : -268435455 ≤ t21) (t21_1 : t21 ≤ 268435455) (t22_0 : -268435455 ≤ t22) (t22_1 : t22 ≤ 268435455) (C1 : (∀ w, Calls Tryd.prog 16 #[(.agg #[.int .u16 (a0), .int .u16 (a1), .int .u16 (a2), .int .u16 (a3), .int .u16 (a4), .int .u16 (a5)]), (.agg #[.int .u16 (b0), .int .u16 (b1), .int .u16 (b2), .int .u16 (b3), .int .u16 (b4), .int .u16 (b5)])] w fun e w' => e = .returned (.tuple #[(.agg #[.int .u16 (hi (s00)), .int .u16 (lo (s00)), .int .u16 (hi (s01)), .int .u16 (lo (s01)), .int .u16 (hi (s02)), .int .u16 (lo (s02)), .int .u16 (hi (s10)), .int .u16 (lo (s10)), .int .u16 (hi (s11)), .int .u16 (lo (s11)), .int .u16 (hi (s12)), .int .u16 (lo (s12)), .int .u16 (hi (s20)), .int .u16 (lo (s20)), .int .u16 (hi (s21)), .int .u16 (lo (s21)), .int .u16 (hi (s22)), .int .u16 (lo (s22))]), .int .i64 0]) ∧ Below w.heap.size w w')) (C2 : (∀ w, Calls Tryd.prog 16 #[(.agg #[.int .u16 (c0), .int .u16 (c1), .int .u16 (c2), .int .u16 (c3), .int .u16 (c4), .int .u16 (c5)]), (.agg #[.int .u16 (d0), .int .u16 (d1), .int .u16 (d2), .int .u16 (d3), .int .u16 (d4), .int .u16 (d5)])] w fun e w' => e = .returned (.tuple #[(.agg #[.int .u16 (hi (t00)), .int .u16 (lo (t00)), .int .u16 (hi (t01)), .int .u16 (lo (t01)), .int .u16 (hi (t02)), .int .u16 (lo (t02)), .int .u16 (hi (t10)), .int .u16 (lo (t10)), .int .u16 (hi (t11)), .int .u16 (lo (t11)), .int .u16 (hi (t12)), .int .u16 (lo (t12)), .int .u16 (hi (t20)), .int .u16 (lo (t20)), .int .u16 (hi (t21)), .int .u16 (lo (t21)), .int .u16 (hi (t22)), .int .u16 (lo (t22))]), .int .i64 0]) ∧ Below w.heap.size w w')) : (∀ w, Calls Tryd.prog 24 #[(.agg #[.int .u16 (a0), .int .u16 (a1), .int .u16 (a2), .int .u16 (a3), .int .u16 (a4), .int .u16 (a5)]), (.agg #[.int .u16 (b0), .int .u16 (b1), .int .u16 (b2), .int .u16 (b3), .int .u16 (b4), .int .u16 (b5)]), (.agg #[.int .u16 (c0), .int .u16 (c1), .int .u16 (c2), .int .u16 (c3), .int .u16 (c4), .int .u16 (c5)]), (.agg #[.int .u16 (d0), .int .u16 (d1), .int .u16 (d2), .int .u16 (d3), .int .u16 (d4), .int .u16 (d5)])] w fun e w' => e = .returned (.tuple #[(.agg #[.int .u16 (hi ((shv (sat (rnd (dot t00 t10 t20 s00 s10 s20) 268435456) 268435455) 1))), .int .u16 (lo ((shv (sat (rnd (dot t00 t10 t20 s00 s10 s20) 268435456) 268435455) 1))), .int .u16 (hi ((shv (sat (rnd (dot t01 t11 t21 s00 s10 s20) 268435456) 268435455) 1))), .int .u16 (lo ((shv (sat (rnd (dot t01 t11 t21 s00 s10 s20) 268435456) 268435455) 1))), .int .u16 (hi ((shv (sat (rnd (dot t02 t12 t22 s00 s10 s20) 268435456) 268435455) 1))), .int .u16 (lo ((shv (sat (rnd (dot t02 t12 t22 s00 s10 s20) 268435456) 268435455) 1))), .int .u16 (hi ((shv (sat (rnd (dot t00 t10 t20 s01 s11 s21) 268435456) 268435455) 1))), .int .u16 (lo ((shv (sat (rnd (dot t00 t10 t20 s01 s11 s21) 268435456) 268435455) 1))), .int .u16 (hi ((shv (sat (rnd (dot t01 t11 t21 s01 s11 s21) 268435456) 268435455) 1))), .int .u16 (lo ((shv (sat (rnd (dot t01 t11 t21 s01 s11 s21) 268435456) 268435455) 1))), .int .u16 (hi ((shv (sat (rnd (dot t02 t12 t22 s01 s11 s21) 268435456) 268435455) 1))), .int .u16 (lo ((shv (sat (rnd (dot t02 t12 t22 s01 s11 s21) 268435456) 268435455) 1))), .int .u16 (hi ((shv (sat (rnd (dot t00 t10 t20 s02 s12 s22) 268435456) 268435455) 1))), .int .u16 (lo ((shv (sat (rnd (dot t00 t10 t20 s02 s12 s22) 268435456) 268435455) 1))), .int .u16 (hi ((shv (sat (rnd (dot t01 t11 t21 s02 s12 s22) 268435456) 268435455) 1))), .int .u16 (lo ((shv (sat (rnd (dot t01 t11 t21 s02 s12 s22) 268435456) 268435455) 1))), .int .u16 (hi ((shv (sat (rnd (dot t02 t12 t22 s02 s12 s22) 268435456) 268435455) 1))), .int .u16 (lo ((shv (sat (rnd (dot t02 t12 t22 s02 s12 s22) 268435456) 268435455) 1)))]), .int .i64 0]) ∧ Below w.heap.size w w') := by
  obtain ⟨o0, Q0⟩ := times_V t00 t10 t20 t01 t11 t21 t02 t12 t22 s00 s10 s20 t00_0 t00_1 t10_0 t10_1 t20_0 t20_1 t01_0 t01_1 t11_0 t11_1 t21_0 t21_1 t02_0 t02_1 t12_0 t12_1 t22_0 t22_1 s00_0 s00_1 s10_0 s10_1 s20_0 s20_1
  have H0 := fun w => turned_of _ _ _ _ _ _ _ _ _ _ _ _ _ _ _ _ _ _ _ _ _ _ _ _ _ _ _ _ _ _ _ _ _ _ _ _ _ _ _ _ _ _ _ _ _ _ _ _ o0 (fun w => transpose_V t00 t01 t02 t10 t11 t12 t20 t21 t22 t00_0 t00_1 t01_0 t01_1 t02_0 t02_1 t10_0 t10_1 t11_0 t11_1 t12_0 t12_1 t20_0 t20_1 t21_0 t21_1 t22_0 t22_1 w) Q0 w
  obtain ⟨o1, Q1⟩ := times_V t00 t10 t20 t01 t11 t21 t02 t12 t22 s01 s11 s21 t00_0 t00_1 t10_0 t10_1 t20_0 t20_1 t01_0 t01_1 t11_0 t11_1 t21_0 t21_1 t02_0 t02_1 t12_0 t12_1 t22_0 t22_1 s01_0 s01_1 s11_0 s11_1 s21_0 s21_1
  have H1 := fun w => turned_of _ _ _ _ _ _ _ _ _ _ _ _ _ _ _ _ _ _ _ _ _ _ _ _ _ _ _ _ _ _ _ _ _ _ _ _ _ _ _ _ _ _ _ _ _ _ _ _ o1 (fun w => transpose_V t00 t01 t02 t10 t11 t12 t20 t21 t22 t00_0 t00_1 t01_0 t01_1 t02_0 t02_1 t10_0 t10_1 t11_0 t11_1 t12_0 t12_1 t20_0 t20_1 t21_0 t21_1 t22_0 t22_1 w) Q1 w
  obtain ⟨o2, Q2⟩ := times_V t00 t10 t20 t01 t11 t21 t02 t12 t22 s02 s12 s22 t00_0 t00_1 t10_0 t10_1 t20_0 t20_1 t01_0 t01_1 t11_0 t11_1 t21_0 t21_1 t02_0 t02_1 t12_0 t12_1 t22_0 t22_1 s02_0 s02_1 s12_0 s12_1 s22_0 s22_1
  have H2 := fun w => turned_of _ _ _ _ _ _ _ _ _ _ _ _ _ _ _ _ _ _ _ _ _ _ _ _ _ _ _ _ _ _ _ _ _ _ _ _ _ _ _ _ _ _ _ _ _ _ _ _ o2 (fun w => transpose_V t00 t01 t02 t10 t11 t12 t20 t21 t22 t00_0 t00_1 t01_0 t01_1 t02_0 t02_1 t10_0 t10_1 t11_0 t11_1 t12_0 t12_1 t20_0 t20_1 t21_0 t21_1 t22_0 t22_1 w) Q2 w
  have P := fun w => product_of _ _ _ _ _ _ _ _ _ _ _ _ _ _ _ _ _ _ _ _ _ _ _ _ _ _ _ _ _ _ _ _ _ _ _ _ _ _ _ _ _ _ _ _ _ _ _ _ _ _ _ _ _ _ o0 o1 o2 H0 H1 H2 w
  obtain ⟨z0, Z0⟩ := vshift_V (sat (rnd (dot t00 t10 t20 s00 s10 s20) 268435456) 268435455) (sat (rnd (dot t01 t11 t21 s00 s10 s20) 268435456) 268435455) (sat (rnd (dot t02 t12 t22 s00 s10 s20) 268435456) 268435455) (sat_bds _).1 (sat_bds _).2 (sat_bds _).1 (sat_bds _).2 (sat_bds _).1 (sat_bds _).2
  obtain ⟨z1, Z1⟩ := vshift_V (sat (rnd (dot t00 t10 t20 s01 s11 s21) 268435456) 268435455) (sat (rnd (dot t01 t11 t21 s01 s11 s21) 268435456) 268435455) (sat (rnd (dot t02 t12 t22 s01 s11 s21) 268435456) 268435455) (sat_bds _).1 (sat_bds _).2 (sat_bds _).1 (sat_bds _).2 (sat_bds _).1 (sat_bds _).2
  obtain ⟨z2, Z2⟩ := vshift_V (sat (rnd (dot t00 t10 t20 s02 s12 s22) 268435456) 268435455) (sat (rnd (dot t01 t11 t21 s02 s12 s22) 268435456) 268435455) (sat (rnd (dot t02 t12 t22 s02 s12 s22) 268435456) 268435455) (sat_bds _).1 (sat_bds _).2 (sat_bds _).1 (sat_bds _).2 (sat_bds _).1 (sat_bds _).2
  exact fun w => orient_of _ _ _ _ _ _ _ _ _ _ _ _ _ _ _ _ _ _ _ _ _ _ _ _ _ _ _ _ _ _ _ _ _ _ _ _ _ _ _ _ _ _ _ _ _ _ _ _ _ _ _ _ _ _ _ _ _ _ _ _ _ _ _ _ _ _ _ _ _ _ _ _ _ _ _ _ _ _ _ _ _ _ _ _ _ _ _ _ _ _ _ _ _ _ _ _ _ _ _ _ _ _ _ _ _ _ _ _ _ _ _ _ _ _ _ z0 z1 z2 C1 C2 (fun w => transpose_V s00 s01 s02 s10 s11 s12 s20 s21 s22 s00_0 s00_1 s01_0 s01_1 s02_0 s02_1 s10_0 s10_1 s11_0 s11_1 s12_0 s12_1 s20_0 s20_1 s21_0 s21_1 s22_0 s22_1 w) P Z0 Z1 Z2 w
theorem size34t (v : Int) (h0 : -9223372036854775807 ≤ v) (h1 : v ≤ 9223372036854775807) (w : World) :
    Calls Tryd.prog 23 #[.int .i64 v] w fun e w' => e = .returned (.int .i64 (mag v)) ∧ w = w' := by
  have hm : max v (-v) = mag v := by unfold mag; split <;> omega
  go_enter Tryd.func23, Tryd.ntmps23
  go_wp2
  go_ret
  exact ⟨rfl, rfl⟩
set_option maxRecDepth 100000 in
set_option maxHeartbeats 8000000 in
theorem same_bad (a0 a1 a2 a3 a4 a5 b0 b1 b2 b3 b4 b5 : Int) (T1 : (∀ w, Calls Tryd.prog 24 #[(.agg #[.int .u16 (a0), .int .u16 (a1), .int .u16 (a2), .int .u16 (a3), .int .u16 (a4), .int .u16 (a5)]), (.agg #[.int .u16 (b0), .int .u16 (b1), .int .u16 (b2), .int .u16 (b3), .int .u16 (b4), .int .u16 (b5)]), (.agg #[.int .u16 (a0), .int .u16 (a1), .int .u16 (a2), .int .u16 (a3), .int .u16 (a4), .int .u16 (a5)]), (.agg #[.int .u16 (b0), .int .u16 (b1), .int .u16 (b2), .int .u16 (b3), .int .u16 (b4), .int .u16 (b5)])] w fun e w' => e = .returned (.tuple #[(.agg #[.int .u16 (0), .int .u16 (0), .int .u16 (0), .int .u16 (0), .int .u16 (0), .int .u16 (0), .int .u16 (0), .int .u16 (0), .int .u16 (0), .int .u16 (0), .int .u16 (0), .int .u16 (0), .int .u16 (0), .int .u16 (0), .int .u16 (0), .int .u16 (0), .int .u16 (0), .int .u16 (0)]), .int .i64 2]) ∧ Below w.heap.size w w')) (T2 : (∀ w, Calls Tryd.prog 20 #[(.agg #[.int .u16 (a0), .int .u16 (a1), .int .u16 (a2), .int .u16 (a3), .int .u16 (a4), .int .u16 (a5)]), (.agg #[.int .u16 (b0), .int .u16 (b1), .int .u16 (b2), .int .u16 (b3), .int .u16 (b4), .int .u16 (b5)])] w fun e w' => e = .returned (.tuple #[(.agg #[.int .u16 (0), .int .u16 (0), .int .u16 (0), .int .u16 (0), .int .u16 (0), .int .u16 (0), .int .u16 (0), .int .u16 (0), .int .u16 (0), .int .u16 (0), .int .u16 (0), .int .u16 (0), .int .u16 (0), .int .u16 (0), .int .u16 (0), .int .u16 (0), .int .u16 (0), .int .u16 (0)]), .int .i64 2]) ∧ Below w.heap.size w w')) (w : World) (hS : Sines w) :
    Calls Tryd.prog 10 #[(.agg #[.int .u16 (a0), .int .u16 (a1), .int .u16 (a2), .int .u16 (a3), .int .u16 (a4), .int .u16 (a5)]), (.agg #[.int .u16 (b0), .int .u16 (b1), .int .u16 (b2), .int .u16 (b3), .int .u16 (b4), .int .u16 (b5)])] w fun e w' => e = .returned (.bool true) ∧ Below w.heap.size w w' := by
  have hem := @eq_mat
  have hen := @eq_n3
  have hev := @eq_vec
  go_enter Tryd.func10, Tryd.ntmps10
  go_wp2_with fail
  refine (lives34 _ (hS.on (bl_alloc (bl_alloc (Below.refl _ _) _) _))).mono ?_
  rintro _ r0 ⟨rfl, hb0⟩
  have f0_2 : r0.rangeAt (w.heap.size) 0 [.int .u16 a0, .int .u16 a1, .int .u16 a2, .int .u16 a3, .int .u16 a4, .int .u16 a5] := range_on (w := _) (range_row (c := #[.int .u16 a0, .int .u16 a1, .int .u16 a2, .int .u16 a3, .int .u16 a4, .int .u16 a5]) (t := 27) (fr := (0, 0)) (by repeat (first | exact heap_new (by simp only [World.size_alloc]) | exact heap_new rfl | refine heap_old (by (try simp only [World.size_alloc]); omega) ?_))) hb0 (by (try simp only [World.size_alloc]); omega)
  have f0_3 : r0.rangeAt (w.heap.size + 1) 0 [.int .u16 b0, .int .u16 b1, .int .u16 b2, .int .u16 b3, .int .u16 b4, .int .u16 b5] := range_on (w := _) (range_row (c := #[.int .u16 b0, .int .u16 b1, .int .u16 b2, .int .u16 b3, .int .u16 b4, .int .u16 b5]) (t := 27) (fr := (0, 0)) (by repeat (first | exact heap_new (by simp only [World.size_alloc]) | exact heap_new rfl | refine heap_old (by (try simp only [World.size_alloc]); omega) ?_))) hb0 (by (try simp only [World.size_alloc]); omega)
  have hs0 := hb0.size
  try simp only [World.size_alloc] at hs0
  have hw0 : Below w.heap.size w r0 := (by repeat' (first | (with_reducible exact Below.refl _ _) | (with_reducible refine bl_set ?_ _ ?_) | (with_reducible refine bl_alloc ?_ _) | (with_reducible refine bl_drew ?_) | (with_reducible refine bl_via (by with_reducible assumption) ?_) | (with_reducible assumption) | omega | (simp only []; omega) | (simp; omega)))
  clear hb0
  go_wp2_with (first | fail | (refine WL.h ?_; first | (refine wl_load (op := { dst := some 17, op := .load 27 (.tmp 2), type := _, pos := _, after := _, guard := _ }) rfl 27 (.tmp 2) rfl (w.heap.size) 0 rfl [.int .u16 a0, .int .u16 a1, .int .u16 a2, .int .u16 a3, .int .u16 a4, .int .u16 a5] _ f0_2 hu_vec rfl hi_vec ?_; simp only [Act.put, List.setIfInBounds_toArray, List.set_cons_zero, List.set_cons_succ]) | (refine wl_load (op := { dst := some 18, op := .load 27 (.tmp 3), type := _, pos := _, after := _, guard := _ }) rfl 27 (.tmp 3) rfl (w.heap.size + 1) 0 rfl [.int .u16 b0, .int .u16 b1, .int .u16 b2, .int .u16 b3, .int .u16 b4, .int .u16 b5] _ f0_3 hu_vec rfl hi_vec ?_; simp only [Act.put, List.setIfInBounds_toArray, List.set_cons_zero, List.set_cons_succ]) | (refine wl_load (op := { dst := some 19, op := .load 27 (.tmp 2), type := _, pos := _, after := _, guard := _ }) rfl 27 (.tmp 2) rfl (w.heap.size) 0 rfl [.int .u16 a0, .int .u16 a1, .int .u16 a2, .int .u16 a3, .int .u16 a4, .int .u16 a5] _ f0_2 hu_vec rfl hi_vec ?_; simp only [Act.put, List.setIfInBounds_toArray, List.set_cons_zero, List.set_cons_succ]) | (refine wl_load (op := { dst := some 20, op := .load 27 (.tmp 3), type := _, pos := _, after := _, guard := _ }) rfl 27 (.tmp 3) rfl (w.heap.size + 1) 0 rfl [.int .u16 b0, .int .u16 b1, .int .u16 b2, .int .u16 b3, .int .u16 b4, .int .u16 b5] _ f0_3 hu_vec rfl hi_vec ?_; simp only [Act.put, List.setIfInBounds_toArray, List.set_cons_zero, List.set_cons_succ])))
  refine (T1 _).mono ?_
  rintro _ r1 ⟨rfl, hb1⟩
  have hs1 := hb1.size
  have hw1 := bl_via hb1 hw0
  have f1_2 := range_on f0_2 hb1 (by omega)
  have f1_3 := range_on f0_3 hb1 (by omega)
  clear hb1 hw0 f0_2 f0_3
  go_wp2_with (first | fail | (refine WL.h ?_; first | (refine wl_store (op := { dst := none, op := .store 29 (.tmp 5) (.tmp 22), type := _, pos := _, after := _, guard := none }) rfl 29 (.tmp 5) (.tmp 22) rfl r1.heap.size 0 _ rfl rfl (there_new (c := #[.int .u16 0, .int .u16 0, .int .u16 0, .int .u16 0, .int .u16 0, .int .u16 0, .int .u16 0, .int .u16 0, .int .u16 0, .int .u16 0, .int .u16 0, .int .u16 0, .int .u16 0, .int .u16 0, .int .u16 0, .int .u16 0, .int .u16 0, .int .u16 0]) (t := 29) (by simp)) hi_mat (by simp [Value.oneCell']) ?_; refine wpList_gen (fun W => Below w.heap.size w W ∧ W.heap.size = r1.heap.size + 1 ∧ W.rangeAt (w.heap.size) 0 [.int .u16 a0, .int .u16 a1, .int .u16 a2, .int .u16 a3, .int .u16 a4, .int .u16 a5] ∧ W.rangeAt (w.heap.size + 1) 0 [.int .u16 b0, .int .u16 b1, .int .u16 b2, .int .u16 b3, .int .u16 b4, .int .u16 b5] ∧ W.rangeAt r1.heap.size 0 [.int .u16 0, .int .u16 0, .int .u16 0, .int .u16 0, .int .u16 0, .int .u16 0, .int .u16 0, .int .u16 0, .int .u16 0, .int .u16 0, .int .u16 0, .int .u16 0, .int .u16 0, .int .u16 0, .int .u16 0, .int .u16 0, .int .u16 0, .int .u16 0]) ⟨bl_cells _ _ _ _ (bl_alloc hw1 _) (by omega), size_store, range_store f1_2 (by omega), range_store f1_3 (by omega), range_here (by simp)⟩ ?_; clear f1_2 f1_3; rintro s1 ⟨hws1, hss1, fs1_2, fs1_3, fs1_5⟩; simp only [Act.put, List.setIfInBounds_toArray, List.set_cons_zero, List.set_cons_succ]) | (refine wl_load (op := { dst := some 27, op := .load 27 (.tmp 2), type := _, pos := _, after := _, guard := _ }) rfl 27 (.tmp 2) rfl (w.heap.size) 0 rfl [.int .u16 a0, .int .u16 a1, .int .u16 a2, .int .u16 a3, .int .u16 a4, .int .u16 a5] _ fs1_2 hu_vec rfl hi_vec ?_; simp only [Act.put, List.setIfInBounds_toArray, List.set_cons_zero, List.set_cons_succ]) | (refine wl_load (op := { dst := some 28, op := .load 27 (.tmp 3), type := _, pos := _, after := _, guard := _ }) rfl 27 (.tmp 3) rfl (w.heap.size + 1) 0 rfl [.int .u16 b0, .int .u16 b1, .int .u16 b2, .int .u16 b3, .int .u16 b4, .int .u16 b5] _ fs1_3 hu_vec rfl hi_vec ?_; simp only [Act.put, List.setIfInBounds_toArray, List.set_cons_zero, List.set_cons_succ])))
  refine (T2 _).mono ?_
  rintro _ r2 ⟨rfl, hb2⟩
  have hs2 := hb2.size
  have hw2 := bl_via hb2 hws1
  have f2_2 := range_on fs1_2 hb2 (by omega)
  have f2_3 := range_on fs1_3 hb2 (by omega)
  have f2_5 := range_on fs1_5 hb2 (by omega)
  clear hb2 hws1 fs1_2 fs1_3 fs1_5
  go_wp2_with (first | fail | (refine WL.h ?_; first | (refine wl_store (op := { dst := none, op := .store 29 (.tmp 7) (.tmp 30), type := _, pos := _, after := _, guard := none }) rfl 29 (.tmp 7) (.tmp 30) rfl r2.heap.size 0 _ rfl rfl (there_new (c := #[.int .u16 0, .int .u16 0, .int .u16 0, .int .u16 0, .int .u16 0, .int .u16 0, .int .u16 0, .int .u16 0, .int .u16 0, .int .u16 0, .int .u16 0, .int .u16 0, .int .u16 0, .int .u16 0, .int .u16 0, .int .u16 0, .int .u16 0, .int .u16 0]) (t := 29) (by simp)) hi_mat (by simp [Value.oneCell']) ?_; refine wpList_gen (fun W => Below w.heap.size w W ∧ W.heap.size = r2.heap.size + 1 ∧ W.rangeAt (w.heap.size) 0 [.int .u16 a0, .int .u16 a1, .int .u16 a2, .int .u16 a3, .int .u16 a4, .int .u16 a5] ∧ W.rangeAt (w.heap.size + 1) 0 [.int .u16 b0, .int .u16 b1, .int .u16 b2, .int .u16 b3, .int .u16 b4, .int .u16 b5] ∧ W.rangeAt (r1.heap.size) 0 [.int .u16 0, .int .u16 0, .int .u16 0, .int .u16 0, .int .u16 0, .int .u16 0, .int .u16 0, .int .u16 0, .int .u16 0, .int .u16 0, .int .u16 0, .int .u16 0, .int .u16 0, .int .u16 0, .int .u16 0, .int .u16 0, .int .u16 0, .int .u16 0] ∧ W.rangeAt r2.heap.size 0 [.int .u16 0, .int .u16 0, .int .u16 0, .int .u16 0, .int .u16 0, .int .u16 0, .int .u16 0, .int .u16 0, .int .u16 0, .int .u16 0, .int .u16 0, .int .u16 0, .int .u16 0, .int .u16 0, .int .u16 0, .int .u16 0, .int .u16 0, .int .u16 0]) ⟨bl_cells _ _ _ _ (bl_alloc hw2 _) (by omega), size_store, range_store f2_2 (by omega), range_store f2_3 (by omega), range_store f2_5 (by omega), range_here (by simp)⟩ ?_; clear f2_2 f2_3 f2_5; rintro s2 ⟨hws2, hss2, fs2_2, fs2_3, fs2_5, fs2_7⟩; simp only [Act.put, List.setIfInBounds_toArray, List.set_cons_zero, List.set_cons_succ])))
  go_ret
  exact ⟨rfl, (by repeat' (first | (with_reducible exact Below.refl _ _) | (with_reducible refine bl_set ?_ _ ?_) | (with_reducible refine bl_alloc ?_ _) | (with_reducible refine bl_drew ?_) | (with_reducible refine bl_via (by with_reducible assumption) ?_) | (with_reducible assumption) | omega | (simp only []; omega) | (simp; omega)))⟩
set_option maxRecDepth 100000 in
set_option maxHeartbeats 8000000 in
theorem same_walk (a0 a1 a2 a3 a4 a5 b0 b1 b2 b3 b4 b5 : Int) (f g : Nat → Int) (v u : Nat → Nat → Int)
    (T1 : (∀ w, Calls Tryd.prog 24 #[(.agg #[.int .u16 (a0), .int .u16 (a1), .int .u16 (a2), .int .u16 (a3), .int .u16 (a4), .int .u16 (a5)]), (.agg #[.int .u16 (b0), .int .u16 (b1), .int .u16 (b2), .int .u16 (b3), .int .u16 (b4), .int .u16 (b5)]), (.agg #[.int .u16 (a0), .int .u16 (a1), .int .u16 (a2), .int .u16 (a3), .int .u16 (a4), .int .u16 (a5)]), (.agg #[.int .u16 (b0), .int .u16 (b1), .int .u16 (b2), .int .u16 (b3), .int .u16 (b4), .int .u16 (b5)])] w fun e w' => e = .returned (.tuple #[(.agg #[.int .u16 (f 0), .int .u16 (f 1), .int .u16 (f 2), .int .u16 (f 3), .int .u16 (f 4), .int .u16 (f 5), .int .u16 (f 6), .int .u16 (f 7), .int .u16 (f 8), .int .u16 (f 9), .int .u16 (f 10), .int .u16 (f 11), .int .u16 (f 12), .int .u16 (f 13), .int .u16 (f 14), .int .u16 (f 15), .int .u16 (f 16), .int .u16 (f 17)]), .int .i64 0]) ∧ Below w.heap.size w w')) (hg : ∀ o, o < 18 → g o = (pick18 8192 0 0 0 0 0 0 0 8192 0 0 0 0 0 0 0 8192 0) o)
    (V : ∀ i j, i < 3 → j < 3 → ∀ w, Calls Tryd.prog 22 #[(.agg #[.int .u16 (f (i * 6 + j * 2)), .int .u16 (f (i * 6 + j * 2 + 1))])] w fun e w' => e = .returned (.int .i64 (v i j)) ∧ Below w.heap.size w w')
    (U : ∀ i j, i < 3 → j < 3 → ∀ w, Calls Tryd.prog 22 #[(.agg #[.int .u16 (g (i * 6 + j * 2)), .int .u16 (g (i * 6 + j * 2 + 1))])] w fun e w' => e = .returned (.int .i64 (u i j)) ∧ Below w.heap.size w w')
    (vb : ∀ i j, i < 3 → j < 3 → (-268435455 ≤ v i j ∧ v i j ≤ 268435455) ∧ (-268435455 ≤ u i j ∧ u i j ≤ 268435455) ∧ mag (v i j - u i j) ≤ 128)
    (A : (∀ w, Calls Tryd.prog 12 #[(.agg #[.int .u16 (f 0), .int .u16 (f 1), .int .u16 (f 2), .int .u16 (f 3), .int .u16 (f 4), .int .u16 (f 5), .int .u16 (f 6), .int .u16 (f 7), .int .u16 (f 8), .int .u16 (f 9), .int .u16 (f 10), .int .u16 (f 11), .int .u16 (f 12), .int .u16 (f 13), .int .u16 (f 14), .int .u16 (f 15), .int .u16 (f 16), .int .u16 (f 17)])] w fun e w' => e = .returned (.tuple #[(.agg #[.int .u16 (0), .int .u16 (0), .int .u16 (0), .int .u16 (0), .int .u16 (0), .int .u16 (0)]), .bool false]) ∧ Below w.heap.size w w')) (P : (∀ w, Calls Tryd.prog 14 #[(.agg #[.int .u16 (0), .int .u16 (0), .int .u16 (0), .int .u16 (0), .int .u16 (0), .int .u16 (0)])] w fun e w' => e = .returned (.agg #[.int .i64 0, .int .i64 0, .int .i64 0]) ∧ Below w.heap.size w w')) (w : World) (hS : Sines w) :
    Calls Tryd.prog 10 #[(.agg #[.int .u16 (a0), .int .u16 (a1), .int .u16 (a2), .int .u16 (a3), .int .u16 (a4), .int .u16 (a5)]), (.agg #[.int .u16 (b0), .int .u16 (b1), .int .u16 (b2), .int .u16 (b3), .int .u16 (b4), .int .u16 (b5)])] w fun e w' => e = .returned (.bool true) ∧ Below w.heap.size w w' := by
  have VB := keep vb
  have HG := keep hg
  clear vb hg
  have hem := @eq_mat
  have hen := @eq_n3
  have hev := @eq_vec
  go_enter Tryd.func10, Tryd.ntmps10
  go_wp2_with fail
  refine (lives34 _ (hS.on (bl_alloc (bl_alloc (Below.refl _ _) _) _))).mono ?_
  rintro _ r0 ⟨rfl, hb0⟩
  have f0_2 : r0.rangeAt (w.heap.size) 0 [.int .u16 a0, .int .u16 a1, .int .u16 a2, .int .u16 a3, .int .u16 a4, .int .u16 a5] := range_on (w := _) (range_row (c := #[.int .u16 a0, .int .u16 a1, .int .u16 a2, .int .u16 a3, .int .u16 a4, .int .u16 a5]) (t := 27) (fr := (0, 0)) (by repeat (first | exact heap_new (by simp only [World.size_alloc]) | exact heap_new rfl | refine heap_old (by (try simp only [World.size_alloc]); omega) ?_))) hb0 (by (try simp only [World.size_alloc]); omega)
  have f0_3 : r0.rangeAt (w.heap.size + 1) 0 [.int .u16 b0, .int .u16 b1, .int .u16 b2, .int .u16 b3, .int .u16 b4, .int .u16 b5] := range_on (w := _) (range_row (c := #[.int .u16 b0, .int .u16 b1, .int .u16 b2, .int .u16 b3, .int .u16 b4, .int .u16 b5]) (t := 27) (fr := (0, 0)) (by repeat (first | exact heap_new (by simp only [World.size_alloc]) | exact heap_new rfl | refine heap_old (by (try simp only [World.size_alloc]); omega) ?_))) hb0 (by (try simp only [World.size_alloc]); omega)
  have hs0 := hb0.size
  try simp only [World.size_alloc] at hs0
  have hw0 : Below w.heap.size w r0 := (by repeat' (first | (with_reducible exact Below.refl _ _) | (with_reducible refine bl_set ?_ _ ?_) | (with_reducible refine bl_alloc ?_ _) | (with_reducible refine bl_drew ?_) | (with_reducible refine bl_via (by with_reducible assumption) ?_) | (with_reducible assumption) | omega | (simp only []; omega) | (simp; omega)))
  clear hb0
  go_wp2_with (first | fail | (refine WL.h ?_; first | (refine wl_load (op := { dst := some 17, op := .load 27 (.tmp 2), type := _, pos := _, after := _, guard := _ }) rfl 27 (.tmp 2) rfl (w.heap.size) 0 rfl [.int .u16 a0, .int .u16 a1, .int .u16 a2, .int .u16 a3, .int .u16 a4, .int .u16 a5] _ f0_2 hu_vec rfl hi_vec ?_; simp only [Act.put, List.setIfInBounds_toArray, List.set_cons_zero, List.set_cons_succ]) | (refine wl_load (op := { dst := some 18, op := .load 27 (.tmp 3), type := _, pos := _, after := _, guard := _ }) rfl 27 (.tmp 3) rfl (w.heap.size + 1) 0 rfl [.int .u16 b0, .int .u16 b1, .int .u16 b2, .int .u16 b3, .int .u16 b4, .int .u16 b5] _ f0_3 hu_vec rfl hi_vec ?_; simp only [Act.put, List.setIfInBounds_toArray, List.set_cons_zero, List.set_cons_succ]) | (refine wl_load (op := { dst := some 19, op := .load 27 (.tmp 2), type := _, pos := _, after := _, guard := _ }) rfl 27 (.tmp 2) rfl (w.heap.size) 0 rfl [.int .u16 a0, .int .u16 a1, .int .u16 a2, .int .u16 a3, .int .u16 a4, .int .u16 a5] _ f0_2 hu_vec rfl hi_vec ?_; simp only [Act.put, List.setIfInBounds_toArray, List.set_cons_zero, List.set_cons_succ]) | (refine wl_load (op := { dst := some 20, op := .load 27 (.tmp 3), type := _, pos := _, after := _, guard := _ }) rfl 27 (.tmp 3) rfl (w.heap.size + 1) 0 rfl [.int .u16 b0, .int .u16 b1, .int .u16 b2, .int .u16 b3, .int .u16 b4, .int .u16 b5] _ f0_3 hu_vec rfl hi_vec ?_; simp only [Act.put, List.setIfInBounds_toArray, List.set_cons_zero, List.set_cons_succ])))
  refine (T1 _).mono ?_
  rintro _ r1 ⟨rfl, hb1⟩
  have hs1 := hb1.size
  have hw1 := bl_via hb1 hw0
  have f1_2 := range_on f0_2 hb1 (by omega)
  have f1_3 := range_on f0_3 hb1 (by omega)
  clear hb1 hw0 f0_2 f0_3
  go_wp2_with (first | fail | (refine WL.h ?_; first | (refine wl_store (op := { dst := none, op := .store 29 (.tmp 5) (.tmp 22), type := _, pos := _, after := _, guard := none }) rfl 29 (.tmp 5) (.tmp 22) rfl r1.heap.size 0 _ rfl rfl (there_new (c := #[.int .u16 0, .int .u16 0, .int .u16 0, .int .u16 0, .int .u16 0, .int .u16 0, .int .u16 0, .int .u16 0, .int .u16 0, .int .u16 0, .int .u16 0, .int .u16 0, .int .u16 0, .int .u16 0, .int .u16 0, .int .u16 0, .int .u16 0, .int .u16 0]) (t := 29) (by simp)) hi_mat (by simp [Value.oneCell']) ?_; refine wpList_gen (fun W => Below w.heap.size w W ∧ W.heap.size = r1.heap.size + 1 ∧ W.rangeAt (w.heap.size) 0 [.int .u16 a0, .int .u16 a1, .int .u16 a2, .int .u16 a3, .int .u16 a4, .int .u16 a5] ∧ W.rangeAt (w.heap.size + 1) 0 [.int .u16 b0, .int .u16 b1, .int .u16 b2, .int .u16 b3, .int .u16 b4, .int .u16 b5] ∧ W.rangeAt r1.heap.size 0 [.int .u16 ((f 0)), .int .u16 ((f 1)), .int .u16 ((f 2)), .int .u16 ((f 3)), .int .u16 ((f 4)), .int .u16 ((f 5)), .int .u16 ((f 6)), .int .u16 ((f 7)), .int .u16 ((f 8)), .int .u16 ((f 9)), .int .u16 ((f 10)), .int .u16 ((f 11)), .int .u16 ((f 12)), .int .u16 ((f 13)), .int .u16 ((f 14)), .int .u16 ((f 15)), .int .u16 ((f 16)), .int .u16 ((f 17))]) ⟨bl_cells _ _ _ _ (bl_alloc hw1 _) (by omega), size_store, range_store f1_2 (by omega), range_store f1_3 (by omega), range_here (by simp)⟩ ?_; clear f1_2 f1_3; rintro s1 ⟨hws1, hss1, fs1_2, fs1_3, fs1_5⟩; simp only [Act.put, List.setIfInBounds_toArray, List.set_cons_zero, List.set_cons_succ])))
  refine (rows34 _).mono ?_
  rintro _ r2 ⟨rfl, hb2⟩
  have hs2 := hb2.size
  have hw2 := bl_via hb2 hws1
  have f2_2 := range_on fs1_2 hb2 (by omega)
  have f2_3 := range_on fs1_3 hb2 (by omega)
  have f2_5 := range_on fs1_5 hb2 (by omega)
  clear hb2 hws1 fs1_2 fs1_3 fs1_5
  go_wp2_with (first | fail | (refine WL.h ?_; first | (refine wl_store (op := { dst := none, op := .store 29 (.tmp 9) (.tmp 35), type := _, pos := _, after := _, guard := none }) rfl 29 (.tmp 9) (.tmp 35) rfl r2.heap.size 0 _ rfl rfl (there_new (c := #[.int .u16 0, .int .u16 0, .int .u16 0, .int .u16 0, .int .u16 0, .int .u16 0, .int .u16 0, .int .u16 0, .int .u16 0, .int .u16 0, .int .u16 0, .int .u16 0, .int .u16 0, .int .u16 0, .int .u16 0, .int .u16 0, .int .u16 0, .int .u16 0]) (t := 29) (by simp)) hi_mat (by simp [Value.oneCell']) ?_; refine wpList_gen (fun W => Below w.heap.size w W ∧ W.heap.size = r2.heap.size + 1 ∧ W.rangeAt (w.heap.size) 0 [.int .u16 a0, .int .u16 a1, .int .u16 a2, .int .u16 a3, .int .u16 a4, .int .u16 a5] ∧ W.rangeAt (w.heap.size + 1) 0 [.int .u16 b0, .int .u16 b1, .int .u16 b2, .int .u16 b3, .int .u16 b4, .int .u16 b5] ∧ W.rangeAt (r1.heap.size) 0 [.int .u16 ((f 0)), .int .u16 ((f 1)), .int .u16 ((f 2)), .int .u16 ((f 3)), .int .u16 ((f 4)), .int .u16 ((f 5)), .int .u16 ((f 6)), .int .u16 ((f 7)), .int .u16 ((f 8)), .int .u16 ((f 9)), .int .u16 ((f 10)), .int .u16 ((f 11)), .int .u16 ((f 12)), .int .u16 ((f 13)), .int .u16 ((f 14)), .int .u16 ((f 15)), .int .u16 ((f 16)), .int .u16 ((f 17))] ∧ W.rangeAt r2.heap.size 0 [.int .u16 8192, .int .u16 0, .int .u16 0, .int .u16 0, .int .u16 0, .int .u16 0, .int .u16 0, .int .u16 0, .int .u16 8192, .int .u16 0, .int .u16 0, .int .u16 0, .int .u16 0, .int .u16 0, .int .u16 0, .int .u16 0, .int .u16 8192, .int .u16 0]) ⟨bl_cells _ _ _ _ (bl_alloc hw2 _) (by omega), size_store, range_store f2_2 (by omega), range_store f2_3 (by omega), range_store f2_5 (by omega), range_here (by simp)⟩ ?_; clear f2_2 f2_3 f2_5; rintro s2 ⟨hws2, hss2, fs2_2, fs2_3, fs2_5, fs2_9⟩; simp only [Act.put, List.setIfInBounds_toArray, List.set_cons_zero, List.set_cons_succ])))
  have F5 : Holds s2 (r1.heap.size) 18 f := holds_of18 fs2_5
  have F9 : Holds s2 (r2.heap.size) 18 g := Holds.congr (holds_of18 (g := (pick18 8192 0 0 0 0 0 0 0 8192 0 0 0 0 0 0 0 8192 0)) fs2_9) (fun o ho => (HG.out o ho).symm)
  have hz5 : r1.heap.size < s2.heap.size := by omega
  have hz9 : r2.heap.size < s2.heap.size := by omega
  go_loopw [10] (fun v W => ∃ i : Nat, i ≤ 3 ∧ v = .int .i64 i ∧ Below s2.heap.size s2 W) (fun v _ => (3 - intOf v).toNat)
  case atStart => exact ⟨0, by omega, rfl, Below.refl _ _⟩
  case round =>
    obtain ⟨wo, rfl⟩ : ∃ wo : World, wo = wr := ⟨_, rfl⟩
    obtain ⟨i, hI, rfl, hb1⟩ := hrel
    by_cases hlt : i < 3
    · go_wp2_with fail
      go_loopw [11] (fun v W => ∃ j : Nat, j ≤ 3 ∧ v = .int .i64 j ∧ Below s2.heap.size s2 W) (fun v _ => (3 - intOf v).toNat)
      case atStart => exact ⟨0, by omega, rfl, hb1⟩
      case round =>
        clear hb1
        obtain ⟨j, hj, rfl, hb1⟩ := hrel
        by_cases hjt : j < 3
        · have hsz := hb1.size
          obtain ⟨⟨v0, v1⟩, ⟨u0, u1⟩, s0⟩ := VB.out i j hlt hjt
          have d0 : decide (128 < mag (v i j - u i j)) = false := decide_eq_false (by omega)
          have hA : r1.heap.size < wr.heap.size := by omega
          have hB : r2.heap.size < wr.heap.size := by omega
          have hA0 : wr.cell? ⟨r1.heap.size, i * 6 + j * 2, none⟩ = some (.int .u16 (f (i * 6 + j * 2))) := (hb1.cell (p := ⟨_, _, none⟩) (by show r1.heap.size < _; omega)).trans (F5 _ (by omega))
          have hA1 : wr.cell? ⟨r1.heap.size, i * 6 + j * 2 + 1, none⟩ = some (.int .u16 (f (i * 6 + j * 2 + 1))) := (hb1.cell (p := ⟨_, _, none⟩) (by show r1.heap.size < _; omega)).trans (F5 _ (by omega))
          have hB0 : wr.cell? ⟨r2.heap.size, i * 6 + j * 2, none⟩ = some (.int .u16 (g (i * 6 + j * 2))) := (hb1.cell (p := ⟨_, _, none⟩) (by show r2.heap.size < _; omega)).trans (F9 _ (by omega))
          have hB1 : wr.cell? ⟨r2.heap.size, i * 6 + j * 2 + 1, none⟩ = some (.int .u16 (g (i * 6 + j * 2 + 1))) := (hb1.cell (p := ⟨_, _, none⟩) (by show r2.heap.size < _; omega)).trans (F9 _ (by omega))
          go_wp2_with fail
          have hecr9 := @Ext.cell
          refine wp_region_ext (by kernel_rfl) (by kernel_rfl) ?_
          repeat (first | go_big_quiet_skip | (go_big_quiet_want; go_big_quiet_op; first | go_big_quiet_on | (go_big_quiet_call ((first | fail | (go_at_call 22; with_reducible exact ext_call (V i j hlt hjt _)) | (go_at_call 22; with_reducible exact ext_call (U i j hlt hjt _)) | (go_at_call 23; with_reducible exact ext_call_same (size34t (v i j - u i j) (by omega) (by omega) _)))))))
          clear hecr9
          refine wpQuiet_nil ?_
          rintro r9 ⟨⟨_, hbr9⟩, rfl⟩
          obtain ⟨hcr9, hfr9⟩ := bcell hbr9
          have hzr9 := hbr9.size
          try simp only [World.size_alloc, World.size_setCell, World.size_drew] at hzr9
          have hb2 := bl_via hbr9 hb1
          clear hA0 hA1 hB0 hB1 hb1
          go_wp2_with fail
          go_roundw
          case rel => exact ⟨j + 1, by omega, by go_num, hb2⟩
          case measure => simp [intOf]; omega
        · obtain rfl : j = 3 := by omega
          go_wp2_with fail
          go_roundw
          case rel => exact ⟨i + 1, by omega, by go_num, hb1⟩
          case measure => simp [intOf]; omega
    · obtain rfl : i = 3 := by omega
      clear F5 F9 hlt hI
      obtain ⟨r3, rfl⟩ : ∃ r : World, r = wo := ⟨_, rfl⟩
      have hs3 := hb1.size
      have hw3 := bl_via hb1 hws2
      have f3_2 := range_on fs2_2 hb1 (by omega)
      have f3_3 := range_on fs2_3 hb1 (by omega)
      have f3_5 := range_on fs2_5 hb1 (by omega)
      have f3_9 := range_on fs2_9 hb1 (by omega)
      clear hb1 hws2 fs2_2 fs2_3 fs2_5 fs2_9
      go_wp2_with (first | fail | (refine WL.h ?_; first | (refine wl_load (op := { dst := some 60, op := .load 29 (.tmp 5), type := _, pos := _, after := _, guard := _ }) rfl 29 (.tmp 5) rfl (r1.heap.size) 0 rfl [.int .u16 ((f 0)), .int .u16 ((f 1)), .int .u16 ((f 2)), .int .u16 ((f 3)), .int .u16 ((f 4)), .int .u16 ((f 5)), .int .u16 ((f 6)), .int .u16 ((f 7)), .int .u16 ((f 8)), .int .u16 ((f 9)), .int .u16 ((f 10)), .int .u16 ((f 11)), .int .u16 ((f 12)), .int .u16 ((f 13)), .int .u16 ((f 14)), .int .u16 ((f 15)), .int .u16 ((f 16)), .int .u16 ((f 17))] _ f3_5 hu_mat rfl hi_mat ?_; simp only [Act.put, List.setIfInBounds_toArray, List.set_cons_zero, List.set_cons_succ])))
      refine (A _).mono ?_
      rintro _ r4 ⟨rfl, hb4⟩
      have hs4 := hb4.size
      have hw4 := bl_via hb4 hw3
      have f4_2 := range_on f3_2 hb4 (by omega)
      have f4_3 := range_on f3_3 hb4 (by omega)
      have f4_5 := range_on f3_5 hb4 (by omega)
      have f4_9 := range_on f3_9 hb4 (by omega)
      clear hb4 hw3 f3_2 f3_3 f3_5 f3_9
      go_wp2_with (first | fail)
      refine (P _).mono ?_
      rintro _ r5 ⟨rfl, hb5⟩
      have hs5 := hb5.size
      simp only [World.size_alloc] at hs5
      have hw5 := bl_via hb5 (bl_alloc hw4 _)
      have f5_2 := range_on (w := _) (range_alloc f4_2 (by omega)) hb5 (by (try simp only [World.size_alloc]); omega)
      have f5_3 := range_on (w := _) (range_alloc f4_3 (by omega)) hb5 (by (try simp only [World.size_alloc]); omega)
      have f5_5 := range_on (w := _) (range_alloc f4_5 (by omega)) hb5 (by (try simp only [World.size_alloc]); omega)
      have f5_9 := range_on (w := _) (range_alloc f4_9 (by omega)) hb5 (by (try simp only [World.size_alloc]); omega)
      clear hb5 hw4 f4_2 f4_3 f4_5 f4_9
      go_wp2
      go_ret
      exact ⟨rfl, (by repeat' (first | (with_reducible exact Below.refl _ _) | (with_reducible refine bl_set ?_ _ ?_) | (with_reducible refine bl_alloc ?_ _) | (with_reducible refine bl_drew ?_) | (with_reducible refine bl_via (by with_reducible assumption) ?_) | (with_reducible assumption) | omega | (simp only []; omega) | (simp; omega)))⟩
theorem ang_self (x : Int) : ang x x = 0 := by unfold ang; rw [show x - x = 0 by omega]; decide +kernel
theorem ano_self (x : Int) : ano x x = false := by unfold ano; rw [show x - x = 0 by omega]; decide +kernel
set_option maxRecDepth 100000 in
set_option maxHeartbeats 4000000 in
theorem same_angles (m00 m10 m20 m11 m21 m22 : Int) (m00_0 : -268435455 ≤ m00) (m00_1 : m00 ≤ 268435455) (m10_0 : -268435455 ≤ m10) (m10_1 : m10 ≤ 268435455) (m20_0 : -268435455 ≤ m20) (m20_1 : m20 ≤ 268435455) (m11_0 : -268435455 ≤ m11) (m11_1 : m11 ≤ 268435455) (m21_0 : -268435455 ≤ m21) (m21_1 : m21 ≤ 268435455) (m22_0 : -268435455 ≤ m22) (m22_1 : m22 ≤ 268435455) (w : World) : Calls Tryd.prog 12 #[(.agg #[.int .u16 (hi (m00)), .int .u16 (lo (m00)), .int .u16 (hi (m10)), .int .u16 (lo (m10)), .int .u16 (hi (m20)), .int .u16 (lo (m20)), .int .u16 (hi (m10)), .int .u16 (lo (m10)), .int .u16 (hi (m11)), .int .u16 (lo (m11)), .int .u16 (hi (m21)), .int .u16 (lo (m21)), .int .u16 (hi (m20)), .int .u16 (lo (m20)), .int .u16 (hi (m21)), .int .u16 (lo (m21)), .int .u16 (hi (m22)), .int .u16 (lo (m22))])] w fun e w' => e = .returned (.tuple #[(.agg #[.int .u16 (0), .int .u16 (0), .int .u16 (0), .int .u16 (0), .int .u16 (0), .int .u16 (0)]), .bool false]) ∧ Below w.heap.size w w' := by
  have q_m00 := hi_lo m00 m00_0 m00_1
  have q_m10 := hi_lo m10 m10_0 m10_1
  have q_m20 := hi_lo m20 m20_0 m20_1
  have q_m11 := hi_lo m11 m11_0 m11_1
  have q_m21 := hi_lo m21 m21_0 m21_1
  have q_m22 := hi_lo m22 m22_0 m22_1
  have k := angles_any (hi m00) (lo m00) (hi m10) (lo m10) (hi m20) (lo m20) (hi m10) (lo m10) (hi m11) (lo m11) (hi m21) (lo m21) (hi m20) (lo m20) (hi m21) (lo m21) (hi m22) (lo m22) (by omega) (by omega) (by omega) (by omega) (by omega) (by omega) (by omega) (by omega) (by omega) (by omega) (by omega) (by omega) (by omega) (by omega) (by omega) (by omega) (by omega) (by omega) (by omega) (by omega) (by omega) (by omega) (by omega) (by omega) (by omega) (by omega) (by omega) (by omega) (by omega) (by omega) (by omega) (by omega) (by omega) (by omega) (by omega) (by omega) w
  simp only [val_of m00 m00_0 m00_1, val_of m10 m10_0 m10_1, val_of m20 m20_0 m20_1, val_of m11 m11_0 m11_1, val_of m21 m21_0 m21_1, val_of m22 m22_0 m22_1, ang_self, ano_self, show hi 0 = 0 by decide +kernel, show lo 0 = 0 by decide +kernel, Bool.or_false] at k
  exact k
theorem pul34O (w : World) : Calls Tryd.prog 14 #[(.agg #[.int .u16 (0), .int .u16 (0), .int .u16 (0), .int .u16 (0), .int .u16 (0), .int .u16 (0)])] w fun e w' => e = .returned (.agg #[.int .i64 0, .int .i64 0, .int .i64 0]) ∧ Below w.heap.size w w' := calls_val (pulses_any 0 0 0 0 0 0 (by omega) (by omega) (by omega) (by omega) (by omega) (by omega) (by omega) (by omega) (by omega) (by omega) (by omega) (by omega) w) (by kernel_rfl)
theorem shv_dbl (x : Int) (h0 : -134217727 ≤ x) (h1 : x ≤ 134217727) : shv x 1 = 2 * x := by
  have e : shl x 1 = 2 * x := by unfold shl; rw [show min (1 : Int) 29 = 1 by omega, show pw 1 = 2 from rfl, Int.mul_comm]
  rw [shv_nn _ _ (by omega), e, sat_in _ _ (by omega) (by omega)]
theorem same_cell (T c : Int) (hc : -67108864 ≤ c ∧ c ≤ 67108864) (h0 : -10737418240 ≤ T - c * 268435456) (h1 : T - c * 268435456 ≤ 10737418240) :
    (-268435455 ≤ shv (sat (rnd T 268435456) 268435455) 1 ∧ shv (sat (rnd T 268435456) 268435455) 1 ≤ 268435455) ∧ mag (shv (sat (rnd T 268435456) 268435455) 1 - 2 * c) ≤ 128 := by
  have b0 := rnd_ge T 268435456 (c - 40) (by omega) (by omega)
  have b1 := rnd_le T 268435456 (c + 40) (by omega) (by omega)
  rw [sat_in _ _ (by omega) (by omega), shv_dbl _ (by omega) (by omega)]
  refine ⟨by omega, ?_⟩
  unfold mag; split <;> omega
theorem dot_com (u v x a b c : Int) : dot a b c u v x = dot u v x a b c := by unfold dot; rw [Int.mul_comm a, Int.mul_comm b, Int.mul_comm c]
def pick9s (a b c d e f g h k : Int) : Nat → Nat → Int
  | 0, 0 => a
  | 0, 1 => b
  | 0, _ => c
  | 1, 0 => d
  | 1, 1 => e
  | 1, _ => f
  | _, 0 => g
  | _, 1 => h
  | _, _ => k
theorem nine' {P : Nat → Nat → Prop} (h00 : P 0 0) (h01 : P 0 1) (h02 : P 0 2) (h10 : P 1 0) (h11 : P 1 1) (h12 : P 1 2) (h20 : P 2 0) (h21 : P 2 1) (h22 : P 2 2) : ∀ i j, i < 3 → j < 3 → P i j := fun i j hi hj => by
  rcases (show i = 0 ∨ i = 1 ∨ i = 2 by omega) with rfl | rfl | rfl <;> rcases (show j = 0 ∨ j = 1 ∨ j = 2 by omega) with rfl | rfl | rfl
  · exact h00
  · exact h01
  · exact h02
  · exact h10
  · exact h11
  · exact h12
  · exact h20
  · exact h21
  · exact h22
set_option maxRecDepth 100000 in
set_option maxHeartbeats 8000000 in
theorem same_law (a0 a1 a2 a3 a4 a5 b0 b1 b2 b3 b4 b5 : Int) (ha00 : 0 ≤ a0) (ha01 : a0 < 65536) (ha10 : 0 ≤ a1) (ha11 : a1 < 65536) (ha20 : 0 ≤ a2) (ha21 : a2 < 65536) (ha30 : 0 ≤ a3) (ha31 : a3 < 65536) (ha40 : 0 ≤ a4) (ha41 : a4 < 65536) (ha50 : 0 ≤ a5) (ha51 : a5 < 65536) (hb00 : 0 ≤ b0) (hb01 : b0 < 65536) (hb10 : 0 ≤ b1) (hb11 : b1 < 65536) (hb20 : 0 ≤ b2) (hb21 : b2 < 65536) (hb30 : 0 ≤ b3) (hb31 : b3 < 65536) (hb40 : 0 ≤ b4) (hb41 : b4 < 65536) (hb50 : 0 ≤ b5) (hb51 : b5 < 65536) (w : World) (hS : Sines w) : Calls Tryd.prog 10 #[(.agg #[.int .u16 (a0), .int .u16 (a1), .int .u16 (a2), .int .u16 (a3), .int .u16 (a4), .int .u16 (a5)]), (.agg #[.int .u16 (b0), .int .u16 (b1), .int .u16 (b2), .int .u16 (b3), .int .u16 (b4), .int .u16 (b5)])] w fun e w' => e = .returned (.bool true) ∧ Below w.heap.size w w' := by
  rcases triad_facts a0 a1 a2 a3 a4 a5 b0 b1 b2 b3 b4 b5 ha00 ha01 ha10 ha11 ha20 ha21 ha30 ha31 ha40 ha41 ha50 ha51 hb00 hb01 hb10 hb11 hb20 hb21 hb30 hb31 hb40 hb41 hb50 hb51 with ⟨U0, U1, U2, Y0, Y1, Y2, Z0, Z1, Z2, T1, _, _, ⟨⟨U0_0, U0_1⟩, ⟨U1_0, U1_1⟩, ⟨U2_0, U2_1⟩, ⟨Y0_0, Y0_1⟩, ⟨Y1_0, Y1_1⟩, ⟨Y2_0, Y2_1⟩, ⟨Z0_0, Z0_1⟩, ⟨Z1_0, Z1_1⟩, ⟨Z2_0, Z2_1⟩⟩, ⟨nU0, nU1⟩, ⟨nY0, nY1⟩, ⟨nZ0, nZ1⟩, ⟨uz0, uz1⟩, ⟨uy0, uy1⟩, ⟨zy0, zy1⟩⟩ | ⟨T1, T2, _⟩
  · have O1 := orient_V a0 a1 a2 a3 a4 a5 b0 b1 b2 b3 b4 b5 a0 a1 a2 a3 a4 a5 b0 b1 b2 b3 b4 b5 U0 U1 U2 Y0 Y1 Y2 Z0 Z1 Z2 U0 U1 U2 Y0 Y1 Y2 Z0 Z1 Z2 U0_0 U0_1 U1_0 U1_1 U2_0 U2_1 Y0_0 Y0_1 Y1_0 Y1_1 Y2_0 Y2_1 Z0_0 Z0_1 Z1_0 Z1_1 Z2_0 Z2_1 U0_0 U0_1 U1_0 U1_1 U2_0 U2_1 Y0_0 Y0_1 Y1_0 Y1_1 Y2_0 Y2_1 Z0_0 Z0_1 Z1_0 Z1_1 Z2_0 Z2_1 T1 T1
    have yz : Y0 * Z0 + Y1 * Z1 + Y2 * Z2 = Z0 * Y0 + Z1 * Y1 + Z2 * Y2 := by grind
    obtain ⟨⟨n00, n00'⟩, ⟨n11, n11'⟩, ⟨n22, n22'⟩, ⟨n01, n01'⟩, ⟨n02, n02'⟩, ⟨n12, n12'⟩⟩ := same_near U0 U1 U2 Y0 Y1 Y2 Z0 Z1 Z2 nU0 nU1 nY0 nY1 nZ0 nZ1 (by omega) (by omega) (by omega) (by omega) (by omega) (by omega)
    have b00 := same_cell (dot U0 Y0 Z0 U0 Y0 Z0) 67108864 (by omega) (by unfold dot; omega) (by unfold dot; omega)
    have b10 := same_cell (dot U0 Y0 Z0 U1 Y1 Z1) 0 (by omega) (by unfold dot; omega) (by unfold dot; omega)
    have b11 := same_cell (dot U1 Y1 Z1 U1 Y1 Z1) 67108864 (by omega) (by unfold dot; omega) (by unfold dot; omega)
    have b20 := same_cell (dot U0 Y0 Z0 U2 Y2 Z2) 0 (by omega) (by unfold dot; omega) (by unfold dot; omega)
    have b21 := same_cell (dot U1 Y1 Z1 U2 Y2 Z2) 0 (by omega) (by unfold dot; omega) (by unfold dot; omega)
    have b22 := same_cell (dot U2 Y2 Z2 U2 Y2 Z2) 67108864 (by omega) (by unfold dot; omega) (by unfold dot; omega)
    have c01 : (shv (sat (rnd (dot U1 Y1 Z1 U0 Y0 Z0) 268435456) 268435455) 1) = (shv (sat (rnd (dot U0 Y0 Z0 U1 Y1 Z1) 268435456) 268435455) 1) := by rw [dot_com]
    have c02 : (shv (sat (rnd (dot U2 Y2 Z2 U0 Y0 Z0) 268435456) 268435455) 1) = (shv (sat (rnd (dot U0 Y0 Z0 U2 Y2 Z2) 268435456) 268435455) 1) := by rw [dot_com]
    have c12 : (shv (sat (rnd (dot U2 Y2 Z2 U1 Y1 Z1) 268435456) 268435455) 1) = (shv (sat (rnd (dot U1 Y1 Z1 U2 Y2 Z2) 268435456) 268435455) 1) := by rw [dot_com]
    simp only [c01, c02, c12] at O1
    clear c01 c02 c12
    generalize (shv (sat (rnd (dot U0 Y0 Z0 U0 Y0 Z0) 268435456) 268435455) 1) = m00 at *
    generalize (shv (sat (rnd (dot U0 Y0 Z0 U1 Y1 Z1) 268435456) 268435455) 1) = m10 at *
    generalize (shv (sat (rnd (dot U1 Y1 Z1 U1 Y1 Z1) 268435456) 268435455) 1) = m11 at *
    generalize (shv (sat (rnd (dot U0 Y0 Z0 U2 Y2 Z2) 268435456) 268435455) 1) = m20 at *
    generalize (shv (sat (rnd (dot U1 Y1 Z1 U2 Y2 Z2) 268435456) 268435455) 1) = m21 at *
    generalize (shv (sat (rnd (dot U2 Y2 Z2 U2 Y2 Z2) 268435456) 268435455) 1) = m22 at *
    clear n00 n00' n11 n11' n22 n22' n01 n01' n02 n02' n12 n12' yz nU0 nU1 nY0 nY1 nZ0 nZ1 uz0 uz1 uy0 uy1 zy0 zy1 T1 U0_0 U0_1 U1_0 U1_1 U2_0 U2_1 Y0_0 Y0_1 Y1_0 Y1_1 Y2_0 Y2_1 Z0_0 Z0_1 Z1_0 Z1_1 Z2_0 Z2_1
    refine same_walk a0 a1 a2 a3 a4 a5 b0 b1 b2 b3 b4 b5 (pick18 (hi m00) (lo m00) (hi m10) (lo m10) (hi m20) (lo m20) (hi m10) (lo m10) (hi m11) (lo m11) (hi m21) (lo m21) (hi m20) (lo m20) (hi m21) (lo m21) (hi m22) (lo m22)) (pick18 8192 0 0 0 0 0 0 0 8192 0 0 0 0 0 0 0 8192 0) (pick9s m00 m10 m20 m10 m11 m21 m20 m21 m22) (pick9s 134217728 0 0 0 134217728 0 0 0 134217728) O1 (fun o ho => rfl) (nine' (fun w => rvalue_V m00 b00.1.1 b00.1.2 w) (fun w => rvalue_V m10 b10.1.1 b10.1.2 w) (fun w => rvalue_V m20 b20.1.1 b20.1.2 w) (fun w => rvalue_V m10 b10.1.1 b10.1.2 w) (fun w => rvalue_V m11 b11.1.1 b11.1.2 w) (fun w => rvalue_V m21 b21.1.1 b21.1.2 w) (fun w => rvalue_V m20 b20.1.1 b20.1.2 w) (fun w => rvalue_V m21 b21.1.1 b21.1.2 w) (fun w => rvalue_V m22 b22.1.1 b22.1.2 w)) (nine' (fun w => calls_val (rvalue_any 8192 0 (by omega) (by omega) (by omega) (by omega) w) (by kernel_rfl)) (fun w => calls_val (rvalue_any 0 0 (by omega) (by omega) (by omega) (by omega) w) (by kernel_rfl)) (fun w => calls_val (rvalue_any 0 0 (by omega) (by omega) (by omega) (by omega) w) (by kernel_rfl)) (fun w => calls_val (rvalue_any 0 0 (by omega) (by omega) (by omega) (by omega) w) (by kernel_rfl)) (fun w => calls_val (rvalue_any 8192 0 (by omega) (by omega) (by omega) (by omega) w) (by kernel_rfl)) (fun w => calls_val (rvalue_any 0 0 (by omega) (by omega) (by omega) (by omega) w) (by kernel_rfl)) (fun w => calls_val (rvalue_any 0 0 (by omega) (by omega) (by omega) (by omega) w) (by kernel_rfl)) (fun w => calls_val (rvalue_any 0 0 (by omega) (by omega) (by omega) (by omega) w) (by kernel_rfl)) (fun w => calls_val (rvalue_any 8192 0 (by omega) (by omega) (by omega) (by omega) w) (by kernel_rfl))) (nine' ⟨b00.1, (by show (-268435455 : Int) ≤ 134217728 ∧ (134217728 : Int) ≤ 268435455; omega), (by show mag (m00 - 134217728) ≤ 128; exact b00.2)⟩ ⟨b10.1, (by show (-268435455 : Int) ≤ 0 ∧ (0 : Int) ≤ 268435455; omega), (by show mag (m10 - 0) ≤ 128; exact b10.2)⟩ ⟨b20.1, (by show (-268435455 : Int) ≤ 0 ∧ (0 : Int) ≤ 268435455; omega), (by show mag (m20 - 0) ≤ 128; exact b20.2)⟩ ⟨b10.1, (by show (-268435455 : Int) ≤ 0 ∧ (0 : Int) ≤ 268435455; omega), (by show mag (m10 - 0) ≤ 128; exact b10.2)⟩ ⟨b11.1, (by show (-268435455 : Int) ≤ 134217728 ∧ (134217728 : Int) ≤ 268435455; omega), (by show mag (m11 - 134217728) ≤ 128; exact b11.2)⟩ ⟨b21.1, (by show (-268435455 : Int) ≤ 0 ∧ (0 : Int) ≤ 268435455; omega), (by show mag (m21 - 0) ≤ 128; exact b21.2)⟩ ⟨b20.1, (by show (-268435455 : Int) ≤ 0 ∧ (0 : Int) ≤ 268435455; omega), (by show mag (m20 - 0) ≤ 128; exact b20.2)⟩ ⟨b21.1, (by show (-268435455 : Int) ≤ 0 ∧ (0 : Int) ≤ 268435455; omega), (by show mag (m21 - 0) ≤ 128; exact b21.2)⟩ ⟨b22.1, (by show (-268435455 : Int) ≤ 134217728 ∧ (134217728 : Int) ≤ 268435455; omega), (by show mag (m22 - 134217728) ≤ 128; exact b22.2)⟩) (fun w => same_angles m00 m10 m20 m11 m21 m22 b00.1.1 b00.1.2 b10.1.1 b10.1.2 b20.1.1 b20.1.2 b11.1.1 b11.1.2 b21.1.1 b21.1.2 b22.1.1 b22.1.2 w) pul34O w hS
  · exact same_bad a0 a1 a2 a3 a4 a5 b0 b1 b2 b3 b4 b5 (fun w => orient_bad_t _ _ _ _ _ _ _ _ _ _ _ _ _ _ _ _ _ _ _ _ _ _ _ _ _ _ _ _ _ _ _ _ _ _ _ _ _ _ _ _ _ _ _ _ _ _ _ _ _ _ _ _ _ _ _ _ _ _ _ _ _ T1 T1 w) T2 w hS
end Go.Proofs.YtbbhppjamighdaaDoor
