/- Triad by values, of package align and of its reference: what both return, and that the rows are a frame. -/
import Derived.Test.YtbbhppjamighdaaDoorAg
import Derived.Test.YtbbhppjamighdaaDoorPy
import Derived.Test.YtbbhppjamighdaaDoorWf
import Derived.Test.YtbbhppjamighdaaDoorWa
namespace Go.Proofs.YtbbhppjamighdaaDoor
set_option linter.unusedSimpArgs false
set_option linter.unusedVariables false
open Go.RowKit

theorem cross_V (u v x a b c : Int) (u_0 : -268435455 ≤ u) (u_1 : u ≤ 268435455) (v_0 : -268435455 ≤ v) (v_1 : v ≤ 268435455) (x_0 : -268435455 ≤ x) (x_1 : x ≤ 268435455) (a_0 : -268435455 ≤ a) (a_1 : a ≤ 268435455) (b_0 : -268435455 ≤ b) (b_1 : b ≤ 268435455) (c_0 : -268435455 ≤ c) (c_1 : c ≤ 268435455) : ∃ o : Bool, ∀ w, Calls Tryd.prog 41 #[(.agg #[.int .u16 (hi (u)), .int .u16 (lo (u)), .int .u16 (hi (v)), .int .u16 (lo (v)), .int .u16 (hi (x)), .int .u16 (lo (x))]), (.agg #[.int .u16 (hi (a)), .int .u16 (lo (a)), .int .u16 (hi (b)), .int .u16 (lo (b)), .int .u16 (hi (c)), .int .u16 (lo (c))])] w fun e w' => e = .returned (.tuple #[(.agg #[.int .u16 (hi ((sat (rnd (v * c - x * b) 268435456) 268435455))), .int .u16 (lo ((sat (rnd (v * c - x * b) 268435456) 268435455))), .int .u16 (hi ((sat (rnd (x * a - u * c) 268435456) 268435455))), .int .u16 (lo ((sat (rnd (x * a - u * c) 268435456) 268435455))), .int .u16 (hi ((sat (rnd (u * b - v * a) 268435456) 268435455))), .int .u16 (lo ((sat (rnd (u * b - v * a) 268435456) 268435455)))]), .bool o]) ∧ Below w.heap.size w w' := by
  have q_u := hi_lo u u_0 u_1
  have e_u := val_of u u_0 u_1
  have q_v := hi_lo v v_0 v_1
  have e_v := val_of v v_0 v_1
  have q_x := hi_lo x x_0 x_1
  have e_x := val_of x x_0 x_1
  have q_a := hi_lo a a_0 a_1
  have e_a := val_of a a_0 a_1
  have q_b := hi_lo b b_0 b_1
  have e_b := val_of b b_0 b_1
  have q_c := hi_lo c c_0 c_1
  have e_c := val_of c c_0 c_1
  have k := fun w => cross_any (hi u) (lo u) (hi v) (lo v) (hi x) (lo x) (hi a) (lo a) (hi b) (lo b) (hi c) (lo c) (by omega) (by omega) (by omega) (by omega) (by omega) (by omega) (by omega) (by omega) (by omega) (by omega) (by omega) (by omega) (by omega) (by omega) (by omega) (by omega) (by omega) (by omega) (by omega) (by omega) (by omega) (by omega) (by omega) (by omega) w
  simp only [e_u, e_v, e_x, e_a, e_b, e_c] at k
  exact ⟨_, k⟩
theorem rcross_V (u v x a b c : Int) (u_0 : -268435455 ≤ u) (u_1 : u ≤ 268435455) (v_0 : -268435455 ≤ v) (v_1 : v ≤ 268435455) (x_0 : -268435455 ≤ x) (x_1 : x ≤ 268435455) (a_0 : -268435455 ≤ a) (a_1 : a ≤ 268435455) (b_0 : -268435455 ≤ b) (b_1 : b ≤ 268435455) (c_0 : -268435455 ≤ c) (c_1 : c ≤ 268435455) : ∃ o : Bool, ∀ w, Calls Tryd.prog 76 #[(.agg #[.int .u16 (hi (u)), .int .u16 (lo (u)), .int .u16 (hi (v)), .int .u16 (lo (v)), .int .u16 (hi (x)), .int .u16 (lo (x))]), (.agg #[.int .u16 (hi (a)), .int .u16 (lo (a)), .int .u16 (hi (b)), .int .u16 (lo (b)), .int .u16 (hi (c)), .int .u16 (lo (c))])] w fun e w' => e = .returned (.tuple #[(.agg #[.int .u16 (hi ((sat (rnd (v * c - x * b) 268435456) 268435455))), .int .u16 (lo ((sat (rnd (v * c - x * b) 268435456) 268435455))), .int .u16 (hi ((sat (rnd (x * a - u * c) 268435456) 268435455))), .int .u16 (lo ((sat (rnd (x * a - u * c) 268435456) 268435455))), .int .u16 (hi ((sat (rnd (u * b - v * a) 268435456) 268435455))), .int .u16 (lo ((sat (rnd (u * b - v * a) 268435456) 268435455)))]), .bool o]) ∧ Below w.heap.size w w' := by
  have q_u := hi_lo u u_0 u_1
  have e_u := val_of u u_0 u_1
  have q_v := hi_lo v v_0 v_1
  have e_v := val_of v v_0 v_1
  have q_x := hi_lo x x_0 x_1
  have e_x := val_of x x_0 x_1
  have q_a := hi_lo a a_0 a_1
  have e_a := val_of a a_0 a_1
  have q_b := hi_lo b b_0 b_1
  have e_b := val_of b b_0 b_1
  have q_c := hi_lo c c_0 c_1
  have e_c := val_of c c_0 c_1
  have k := fun w => rcross_any (hi u) (lo u) (hi v) (lo v) (hi x) (lo x) (hi a) (lo a) (hi b) (lo b) (hi c) (lo c) (by omega) (by omega) (by omega) (by omega) (by omega) (by omega) (by omega) (by omega) (by omega) (by omega) (by omega) (by omega) (by omega) (by omega) (by omega) (by omega) (by omega) (by omega) (by omega) (by omega) (by omega) (by omega) (by omega) (by omega) w
  simp only [e_u, e_v, e_x, e_a, e_b, e_c] at k
  exact ⟨_, k⟩
theorem length_V (u v x : Int) (u_0 : -268435455 ≤ u) (u_1 : u ≤ 268435455) (v_0 : -268435455 ≤ v) (v_1 : v ≤ 268435455) (x_0 : -268435455 ≤ x) (x_1 : x ≤ 268435455) : ∃ o : Bool, ∀ w, Calls Tryd.prog 42 #[(.agg #[.int .u16 (hi (u)), .int .u16 (lo (u)), .int .u16 (hi (v)), .int .u16 (lo (v)), .int .u16 (hi (x)), .int .u16 (lo (x))])] w fun e w' => e = .returned (.tuple #[(.agg #[.int .u16 (hi ((sat (nsq (dot u v x u v x)) 268435455))), .int .u16 (lo ((sat (nsq (dot u v x u v x)) 268435455)))]), .bool o]) ∧ Below w.heap.size w w' := by
  have q_u := hi_lo u u_0 u_1
  have e_u := val_of u u_0 u_1
  have q_v := hi_lo v v_0 v_1
  have e_v := val_of v v_0 v_1
  have q_x := hi_lo x x_0 x_1
  have e_x := val_of x x_0 x_1
  have k := fun w => length_any (hi u) (lo u) (hi v) (lo v) (hi x) (lo x) (by omega) (by omega) (by omega) (by omega) (by omega) (by omega) (by omega) (by omega) (by omega) (by omega) (by omega) (by omega) w
  simp only [e_u, e_v, e_x] at k
  exact ⟨_, k⟩
theorem rlength_V (u v x : Int) (u_0 : -268435455 ≤ u) (u_1 : u ≤ 268435455) (v_0 : -268435455 ≤ v) (v_1 : v ≤ 268435455) (x_0 : -268435455 ≤ x) (x_1 : x ≤ 268435455) : ∃ o : Bool, ∀ w, Calls Tryd.prog 75 #[(.agg #[.int .u16 (hi (u)), .int .u16 (lo (u)), .int .u16 (hi (v)), .int .u16 (lo (v)), .int .u16 (hi (x)), .int .u16 (lo (x))])] w fun e w' => e = .returned (.tuple #[(.agg #[.int .u16 (hi ((sat (nsq (dot u v x u v x)) 268435455))), .int .u16 (lo ((sat (nsq (dot u v x u v x)) 268435455)))]), .bool o]) ∧ Below w.heap.size w w' := by
  have q_u := hi_lo u u_0 u_1
  have e_u := val_of u u_0 u_1
  have q_v := hi_lo v v_0 v_1
  have e_v := val_of v v_0 v_1
  have q_x := hi_lo x x_0 x_1
  have e_x := val_of x x_0 x_1
  have k := fun w => rlength_any (hi u) (lo u) (hi v) (lo v) (hi x) (lo x) (by omega) (by omega) (by omega) (by omega) (by omega) (by omega) (by omega) (by omega) (by omega) (by omega) (by omega) (by omega) w
  simp only [e_u, e_v, e_x] at k
  exact ⟨_, k⟩
theorem value_V (u : Int) (u_0 : -268435455 ≤ u) (u_1 : u ≤ 268435455) (w : World) : Calls Tryd.prog 37 #[(.agg #[.int .u16 (hi (u)), .int .u16 (lo (u))])] w fun e w' => e = .returned (.int .i64 u) ∧ Below w.heap.size w w' := by
  have q_u := hi_lo u u_0 u_1
  have e_u := val_of u u_0 u_1
  have k := value_any (hi u) (lo u) (by omega) (by omega) (by omega) (by omega) w
  rw [e_u] at k
  exact k
theorem rvalue_V (u : Int) (u_0 : -268435455 ≤ u) (u_1 : u ≤ 268435455) (w : World) : Calls Tryd.prog 22 #[(.agg #[.int .u16 (hi (u)), .int .u16 (lo (u))])] w fun e w' => e = .returned (.int .i64 u) ∧ Below w.heap.size w w' := by
  have q_u := hi_lo u u_0 u_1
  have e_u := val_of u u_0 u_1
  have k := rvalue_any (hi u) (lo u) (by omega) (by omega) (by omega) (by omega) w
  rw [e_u] at k
  exact k
theorem unit_V (u v x : Int) (u_0 : -268435455 ≤ u) (u_1 : u ≤ 268435455) (v_0 : -268435455 ≤ v) (v_1 : v ≤ 268435455) (x_0 : -268435455 ≤ x) (x_1 : x ≤ 268435455) (h : ¬ (u = 0 ∧ v = 0 ∧ x = 0)) (w : World) : Calls Tryd.prog 40 #[(.agg #[.int .u16 (hi (u)), .int .u16 (lo (u)), .int .u16 (hi (v)), .int .u16 (lo (v)), .int .u16 (hi (x)), .int .u16 (lo (x))])] w fun e w' => e = .returned (.tuple #[(.agg #[.int .u16 (hi ((uni u v x u))), .int .u16 (lo ((uni u v x u))), .int .u16 (hi ((uni u v x v))), .int .u16 (lo ((uni u v x v))), .int .u16 (hi ((uni u v x x))), .int .u16 (lo ((uni u v x x)))]), .bool false]) ∧ Below w.heap.size w w' := by
  have q_u := hi_lo u u_0 u_1
  have e_u := val_of u u_0 u_1
  have q_v := hi_lo v v_0 v_1
  have e_v := val_of v v_0 v_1
  have q_x := hi_lo x x_0 x_1
  have e_x := val_of x x_0 x_1
  have k := unit_any (hi u) (lo u) (hi v) (lo v) (hi x) (lo x) (by omega) (by omega) (by omega) (by omega) (by omega) (by omega) (by omega) (by omega) (by omega) (by omega) (by omega) (by omega) w
  rw [e_u, e_v, e_x] at k
  unfold unitV at k
  rw [if_neg h] at k
  exact k
theorem runit_V (u v x : Int) (u_0 : -268435455 ≤ u) (u_1 : u ≤ 268435455) (v_0 : -268435455 ≤ v) (v_1 : v ≤ 268435455) (x_0 : -268435455 ≤ x) (x_1 : x ≤ 268435455) (h : ¬ (u = 0 ∧ v = 0 ∧ x = 0)) (w : World) : Calls Tryd.prog 74 #[(.agg #[.int .u16 (hi (u)), .int .u16 (lo (u)), .int .u16 (hi (v)), .int .u16 (lo (v)), .int .u16 (hi (x)), .int .u16 (lo (x))])] w fun e w' => e = .returned (.tuple #[(.agg #[.int .u16 (hi ((uni u v x u))), .int .u16 (lo ((uni u v x u))), .int .u16 (hi ((uni u v x v))), .int .u16 (lo ((uni u v x v))), .int .u16 (hi ((uni u v x x))), .int .u16 (lo ((uni u v x x)))]), .bool false]) ∧ Below w.heap.size w w' := by
  have q_u := hi_lo u u_0 u_1
  have e_u := val_of u u_0 u_1
  have q_v := hi_lo v v_0 v_1
  have e_v := val_of v v_0 v_1
  have q_x := hi_lo x x_0 x_1
  have e_x := val_of x x_0 x_1
  have k := runit_any (hi u) (lo u) (hi v) (lo v) (hi x) (lo x) (by omega) (by omega) (by omega) (by omega) (by omega) (by omega) (by omega) (by omega) (by omega) (by omega) (by omega) (by omega) w
  rw [e_u, e_v, e_x] at k
  unfold unitV at k
  rw [if_neg h] at k
  exact k
theorem uni_sz (x y z v : Int) : -268435455 ≤ uni x y z v ∧ uni x y z v ≤ 268435455 := ⟨sat_lo _ _ (by omega), sat_hi _ _ (by omega)⟩
theorem unit_W (a0 a1 a2 a3 a4 a5 : Int) (ha00 : 0 ≤ a0) (ha01 : a0 < 65536) (ha10 : 0 ≤ a1) (ha11 : a1 < 65536) (ha20 : 0 ≤ a2) (ha21 : a2 < 65536) (ha30 : 0 ≤ a3) (ha31 : a3 < 65536) (ha40 : 0 ≤ a4) (ha41 : a4 < 65536) (ha50 : 0 ≤ a5) (ha51 : a5 < 65536) (h : ¬ ((val a0 a1) = 0 ∧ (val a2 a3) = 0 ∧ (val a4 a5) = 0)) (w : World) : Calls Tryd.prog 40 #[(.agg #[.int .u16 (a0), .int .u16 (a1), .int .u16 (a2), .int .u16 (a3), .int .u16 (a4), .int .u16 (a5)])] w fun e w' => e = .returned (.tuple #[(.agg #[.int .u16 (hi ((uni (val a0 a1) (val a2 a3) (val a4 a5) (val a0 a1)))), .int .u16 (lo ((uni (val a0 a1) (val a2 a3) (val a4 a5) (val a0 a1)))), .int .u16 (hi ((uni (val a0 a1) (val a2 a3) (val a4 a5) (val a2 a3)))), .int .u16 (lo ((uni (val a0 a1) (val a2 a3) (val a4 a5) (val a2 a3)))), .int .u16 (hi ((uni (val a0 a1) (val a2 a3) (val a4 a5) (val a4 a5)))), .int .u16 (lo ((uni (val a0 a1) (val a2 a3) (val a4 a5) (val a4 a5))))]), .bool false]) ∧ Below w.heap.size w w' := by
  have k := unit_any a0 a1 a2 a3 a4 a5 ha00 ha01 ha10 ha11 ha20 ha21 ha30 ha31 ha40 ha41 ha50 ha51 w
  unfold unitV at k
  rw [if_neg h] at k
  exact k
theorem runit_W (a0 a1 a2 a3 a4 a5 : Int) (ha00 : 0 ≤ a0) (ha01 : a0 < 65536) (ha10 : 0 ≤ a1) (ha11 : a1 < 65536) (ha20 : 0 ≤ a2) (ha21 : a2 < 65536) (ha30 : 0 ≤ a3) (ha31 : a3 < 65536) (ha40 : 0 ≤ a4) (ha41 : a4 < 65536) (ha50 : 0 ≤ a5) (ha51 : a5 < 65536) (h : ¬ ((val a0 a1) = 0 ∧ (val a2 a3) = 0 ∧ (val a4 a5) = 0)) (w : World) : Calls Tryd.prog 74 #[(.agg #[.int .u16 (a0), .int .u16 (a1), .int .u16 (a2), .int .u16 (a3), .int .u16 (a4), .int .u16 (a5)])] w fun e w' => e = .returned (.tuple #[(.agg #[.int .u16 (hi ((uni (val a0 a1) (val a2 a3) (val a4 a5) (val a0 a1)))), .int .u16 (lo ((uni (val a0 a1) (val a2 a3) (val a4 a5) (val a0 a1)))), .int .u16 (hi ((uni (val a0 a1) (val a2 a3) (val a4 a5) (val a2 a3)))), .int .u16 (lo ((uni (val a0 a1) (val a2 a3) (val a4 a5) (val a2 a3)))), .int .u16 (hi ((uni (val a0 a1) (val a2 a3) (val a4 a5) (val a4 a5)))), .int .u16 (lo ((uni (val a0 a1) (val a2 a3) (val a4 a5) (val a4 a5))))]), .bool false]) ∧ Below w.heap.size w w' := by
  have k := runit_any a0 a1 a2 a3 a4 a5 ha00 ha01 ha10 ha11 ha20 ha21 ha30 ha31 ha40 ha41 ha50 ha51 w
  unfold unitV at k
  rw [if_neg h] at k
  exact k
theorem sat_W (x : Int) : (0 ≤ hi (sat x 268435455) ∧ hi (sat x 268435455) < 65536) ∧ (0 ≤ lo (sat x 268435455) ∧ lo (sat x 268435455) < 65536) := by
  have h := hi_lo (sat x 268435455) (sat_lo _ _ (by omega)) (sat_hi _ _ (by omega))
  omega
/-- The words of a unit, whatever they are, are words. -/
theorem unitV_words (x y z : Int) : ∃ (w0 w1 w2 w3 w4 w5 : Int) (b : Bool), unitV x y z = (.tuple #[(.agg #[.int .u16 (w0), .int .u16 (w1), .int .u16 (w2), .int .u16 (w3), .int .u16 (w4), .int .u16 (w5)]), .bool b]) ∧ (W16 w0 ∧ W16 w1 ∧ W16 w2 ∧ W16 w3 ∧ W16 w4 ∧ W16 w5) := by
  unfold unitV
  by_cases h : x = 0 ∧ y = 0 ∧ z = 0
  · rw [if_pos h]
    exact ⟨_, _, _, _, _, _, _, rfl, ⟨by omega, by omega⟩, ⟨by omega, by omega⟩, ⟨by omega, by omega⟩, ⟨by omega, by omega⟩, ⟨by omega, by omega⟩, ⟨by omega, by omega⟩⟩
  · rw [if_neg h]
    unfold uni
    exact ⟨_, _, _, _, _, _, _, rfl, (sat_W _).1, (sat_W _).2, (sat_W _).1, (sat_W _).2, (sat_W _).1, (sat_W _).2⟩
theorem unit_zero (x y z : Int) (h : x = 0 ∧ y = 0 ∧ z = 0) : unitV x y z = (.tuple #[(.agg #[.int .u16 (0), .int .u16 (0), .int .u16 (0), .int .u16 (0), .int .u16 (0), .int .u16 (0)]), .bool true]) := by unfold unitV; rw [if_pos h]
set_option maxRecDepth 100000 in
set_option maxHeartbeats 8000000 in
theorem triad_zero_a (a0 a1 a2 a3 a4 a5 b0 b1 b2 b3 b4 b5 : Int) (ha00 : 0 ≤ a0) (ha01 : a0 < 65536) (ha10 : 0 ≤ a1) (ha11 : a1 < 65536) (ha20 : 0 ≤ a2) (ha21 : a2 < 65536) (ha30 : 0 ≤ a3) (ha31 : a3 < 65536) (ha40 : 0 ≤ a4) (ha41 : a4 < 65536) (ha50 : 0 ≤ a5) (ha51 : a5 < 65536) (hb00 : 0 ≤ b0) (hb01 : b0 < 65536) (hb10 : 0 ≤ b1) (hb11 : b1 < 65536) (hb20 : 0 ≤ b2) (hb21 : b2 < 65536) (hb30 : 0 ≤ b3) (hb31 : b3 < 65536) (hb40 : 0 ≤ b4) (hb41 : b4 < 65536) (hb50 : 0 ≤ b5) (hb51 : b5 < 65536) (h : (val a0 a1) = 0 ∧ (val a2 a3) = 0 ∧ (val a4 a5) = 0) : ((∀ w, Calls Tryd.prog 16 #[(.agg #[.int .u16 (a0), .int .u16 (a1), .int .u16 (a2), .int .u16 (a3), .int .u16 (a4), .int .u16 (a5)]), (.agg #[.int .u16 (b0), .int .u16 (b1), .int .u16 (b2), .int .u16 (b3), .int .u16 (b4), .int .u16 (b5)])] w fun e w' => e = .returned (.tuple #[(.agg #[.int .u16 (0), .int .u16 (0), .int .u16 (0), .int .u16 (0), .int .u16 (0), .int .u16 (0), .int .u16 (0), .int .u16 (0), .int .u16 (0), .int .u16 (0), .int .u16 (0), .int .u16 (0), .int .u16 (0), .int .u16 (0), .int .u16 (0), .int .u16 (0), .int .u16 (0), .int .u16 (0)]), .int .i64 2]) ∧ Below w.heap.size w w')) ∧ ((∀ w, Calls Tryd.prog 20 #[(.agg #[.int .u16 (a0), .int .u16 (a1), .int .u16 (a2), .int .u16 (a3), .int .u16 (a4), .int .u16 (a5)]), (.agg #[.int .u16 (b0), .int .u16 (b1), .int .u16 (b2), .int .u16 (b3), .int .u16 (b4), .int .u16 (b5)])] w fun e w' => e = .returned (.tuple #[(.agg #[.int .u16 (0), .int .u16 (0), .int .u16 (0), .int .u16 (0), .int .u16 (0), .int .u16 (0), .int .u16 (0), .int .u16 (0), .int .u16 (0), .int .u16 (0), .int .u16 (0), .int .u16 (0), .int .u16 (0), .int .u16 (0), .int .u16 (0), .int .u16 (0), .int .u16 (0), .int .u16 (0)]), .int .i64 2]) ∧ Below w.heap.size w w')) ∧ ((∀ w, Calls Tryd.prog 47 #[(.agg #[.int .u16 (a0), .int .u16 (a1), .int .u16 (a2), .int .u16 (a3), .int .u16 (a4), .int .u16 (a5)]), (.agg #[.int .u16 (b0), .int .u16 (b1), .int .u16 (b2), .int .u16 (b3), .int .u16 (b4), .int .u16 (b5)])] w fun e w' => e = .returned (.bool false) ∧ Below w.heap.size w w')) := by
  have A1 := fun w => unit_any a0 a1 a2 a3 a4 a5 ha00 ha01 ha10 ha11 ha20 ha21 ha30 ha31 ha40 ha41 ha50 ha51 w
  have A2 := fun w => unit_any b0 b1 b2 b3 b4 b5 hb00 hb01 hb10 hb11 hb20 hb21 hb30 hb31 hb40 hb41 hb50 hb51 w
  have R1 := fun w => runit_any a0 a1 a2 a3 a4 a5 ha00 ha01 ha10 ha11 ha20 ha21 ha30 ha31 ha40 ha41 ha50 ha51 w
  have R2 := fun w => runit_any b0 b1 b2 b3 b4 b5 hb00 hb01 hb10 hb11 hb20 hb21 hb30 hb31 hb40 hb41 hb50 hb51 w
  rw [unit_zero _ _ _ h] at A1 R1
  obtain ⟨s0, s1, s2, s3, s4, s5, zb, eb, ⟨ws0, ws1, ws2, ws3, ws4, ws5⟩⟩ := unitV_words (val b0 b1) (val b2 b3) (val b4 b5)
  rw [eb] at A2 R2
  have Y1 := fun w => rcross_any 0 0 0 0 0 0 s0 s1 s2 s3 s4 s5 (by omega) (by omega) (by omega) (by omega) (by omega) (by omega) (by omega) (by omega) (by omega) (by omega) (by omega) (by omega) ws0.1 ws0.2 ws1.1 ws1.2 ws2.1 ws2.2 ws3.1 ws3.2 ws4.1 ws4.2 ws5.1 ws5.2 w
  obtain ⟨c0_0, c0_1⟩ := sat_bds (rnd (val 0 0 * val s4 s5 - val 0 0 * val s2 s3) 268435456)
  generalize sat (rnd (val 0 0 * val s4 s5 - val 0 0 * val s2 s3) 268435456) 268435455 = c0 at *
  obtain ⟨c1_0, c1_1⟩ := sat_bds (rnd (val 0 0 * val s0 s1 - val 0 0 * val s4 s5) 268435456)
  generalize sat (rnd (val 0 0 * val s0 s1 - val 0 0 * val s4 s5) 268435456) 268435455 = c1 at *
  obtain ⟨c2_0, c2_1⟩ := sat_bds (rnd (val 0 0 * val s2 s3 - val 0 0 * val s0 s1) 268435456)
  generalize sat (rnd (val 0 0 * val s2 s3 - val 0 0 * val s0 s1) 268435456) 268435455 = c2 at *
  obtain ⟨ol', L2⟩ := rlength_V c0 c1 c2 c0_0 c0_1 c1_0 c1_1 c2_0 c2_1
  have D1 := fun w => runit34_of _ _ _ _ _ _ _ _ _ _ _ _ true R1 w
  have D2 := fun w => runit34_of _ _ _ _ _ _ _ _ _ _ _ _ zb R2 w
  have D3 := fun w => rcross34_of _ _ _ _ _ _ _ _ _ _ _ _ _ _ _ _ _ _ _ Y1 w
  have US := fun w => usable_1 _ _ _ _ _ _ _ _ _ _ _ _ _ _ _ _ _ _ _ _ _ _ _ _ _ _ _ _ _ _ _ _ ol' zb R1 R2 D1 D2 D3 L2 w
  exact ⟨fun w => triad_bad_t _ _ _ _ _ _ _ _ _ _ _ _ _ _ _ _ _ _ _ _ _ _ _ _ zb A1 A2 w, fun w => rtriad_bad _ _ _ _ _ _ _ _ _ _ _ _ US w, US⟩
set_option maxRecDepth 100000 in
set_option maxHeartbeats 8000000 in
theorem triad_zero_b (a0 a1 a2 a3 a4 a5 b0 b1 b2 b3 b4 b5 : Int) (ha00 : 0 ≤ a0) (ha01 : a0 < 65536) (ha10 : 0 ≤ a1) (ha11 : a1 < 65536) (ha20 : 0 ≤ a2) (ha21 : a2 < 65536) (ha30 : 0 ≤ a3) (ha31 : a3 < 65536) (ha40 : 0 ≤ a4) (ha41 : a4 < 65536) (ha50 : 0 ≤ a5) (ha51 : a5 < 65536) (hb00 : 0 ≤ b0) (hb01 : b0 < 65536) (hb10 : 0 ≤ b1) (hb11 : b1 < 65536) (hb20 : 0 ≤ b2) (hb21 : b2 < 65536) (hb30 : 0 ≤ b3) (hb31 : b3 < 65536) (hb40 : 0 ≤ b4) (hb41 : b4 < 65536) (hb50 : 0 ≤ b5) (hb51 : b5 < 65536) (h : (val b0 b1) = 0 ∧ (val b2 b3) = 0 ∧ (val b4 b5) = 0) (na : ¬ ((val a0 a1) = 0 ∧ (val a2 a3) = 0 ∧ (val a4 a5) = 0)) : ((∀ w, Calls Tryd.prog 16 #[(.agg #[.int .u16 (a0), .int .u16 (a1), .int .u16 (a2), .int .u16 (a3), .int .u16 (a4), .int .u16 (a5)]), (.agg #[.int .u16 (b0), .int .u16 (b1), .int .u16 (b2), .int .u16 (b3), .int .u16 (b4), .int .u16 (b5)])] w fun e w' => e = .returned (.tuple #[(.agg #[.int .u16 (0), .int .u16 (0), .int .u16 (0), .int .u16 (0), .int .u16 (0), .int .u16 (0), .int .u16 (0), .int .u16 (0), .int .u16 (0), .int .u16 (0), .int .u16 (0), .int .u16 (0), .int .u16 (0), .int .u16 (0), .int .u16 (0), .int .u16 (0), .int .u16 (0), .int .u16 (0)]), .int .i64 2]) ∧ Below w.heap.size w w')) ∧ ((∀ w, Calls Tryd.prog 20 #[(.agg #[.int .u16 (a0), .int .u16 (a1), .int .u16 (a2), .int .u16 (a3), .int .u16 (a4), .int .u16 (a5)]), (.agg #[.int .u16 (b0), .int .u16 (b1), .int .u16 (b2), .int .u16 (b3), .int .u16 (b4), .int .u16 (b5)])] w fun e w' => e = .returned (.tuple #[(.agg #[.int .u16 (0), .int .u16 (0), .int .u16 (0), .int .u16 (0), .int .u16 (0), .int .u16 (0), .int .u16 (0), .int .u16 (0), .int .u16 (0), .int .u16 (0), .int .u16 (0), .int .u16 (0), .int .u16 (0), .int .u16 (0), .int .u16 (0), .int .u16 (0), .int .u16 (0), .int .u16 (0)]), .int .i64 2]) ∧ Below w.heap.size w w')) ∧ ((∀ w, Calls Tryd.prog 47 #[(.agg #[.int .u16 (a0), .int .u16 (a1), .int .u16 (a2), .int .u16 (a3), .int .u16 (a4), .int .u16 (a5)]), (.agg #[.int .u16 (b0), .int .u16 (b1), .int .u16 (b2), .int .u16 (b3), .int .u16 (b4), .int .u16 (b5)])] w fun e w' => e = .returned (.bool false) ∧ Below w.heap.size w w')) := by
  have A1 := fun w => unit_any a0 a1 a2 a3 a4 a5 ha00 ha01 ha10 ha11 ha20 ha21 ha30 ha31 ha40 ha41 ha50 ha51 w
  have A2 := fun w => unit_any b0 b1 b2 b3 b4 b5 hb00 hb01 hb10 hb11 hb20 hb21 hb30 hb31 hb40 hb41 hb50 hb51 w
  have R1 := fun w => runit_any a0 a1 a2 a3 a4 a5 ha00 ha01 ha10 ha11 ha20 ha21 ha30 ha31 ha40 ha41 ha50 ha51 w
  have R2 := fun w => runit_any b0 b1 b2 b3 b4 b5 hb00 hb01 hb10 hb11 hb20 hb21 hb30 hb31 hb40 hb41 hb50 hb51 w
  clear A1 R1
  have A1 := fun w => unit_W a0 a1 a2 a3 a4 a5 ha00 ha01 ha10 ha11 ha20 ha21 ha30 ha31 ha40 ha41 ha50 ha51 na w
  have R1 := fun w => runit_W a0 a1 a2 a3 a4 a5 ha00 ha01 ha10 ha11 ha20 ha21 ha30 ha31 ha40 ha41 ha50 ha51 na w
  rw [unit_zero _ _ _ h] at A2 R2
  obtain ⟨y0_0, y0_1⟩ := uni_sz (val a0 a1) (val a2 a3) (val a4 a5) (val a0 a1)
  obtain ⟨y1_0, y1_1⟩ := uni_sz (val a0 a1) (val a2 a3) (val a4 a5) (val a2 a3)
  obtain ⟨y2_0, y2_1⟩ := uni_sz (val a0 a1) (val a2 a3) (val a4 a5) (val a4 a5)
  generalize (uni (val a0 a1) (val a2 a3) (val a4 a5) (val a0 a1)) = y0 at *
  have q0 := hi_lo y0 y0_0 y0_1
  generalize (uni (val a0 a1) (val a2 a3) (val a4 a5) (val a2 a3)) = y1 at *
  have q1 := hi_lo y1 y1_0 y1_1
  generalize (uni (val a0 a1) (val a2 a3) (val a4 a5) (val a4 a5)) = y2 at *
  have q2 := hi_lo y2 y2_0 y2_1
  have Y1 := fun w => rcross_any (hi y0) (lo y0) (hi y1) (lo y1) (hi y2) (lo y2) 0 0 0 0 0 0 (by omega) (by omega) (by omega) (by omega) (by omega) (by omega) (by omega) (by omega) (by omega) (by omega) (by omega) (by omega) (by omega) (by omega) (by omega) (by omega) (by omega) (by omega) (by omega) (by omega) (by omega) (by omega) (by omega) (by omega) w
  obtain ⟨c0_0, c0_1⟩ := sat_bds (rnd (val (hi y1) (lo y1) * val 0 0 - val (hi y2) (lo y2) * val 0 0) 268435456)
  generalize sat (rnd (val (hi y1) (lo y1) * val 0 0 - val (hi y2) (lo y2) * val 0 0) 268435456) 268435455 = c0 at *
  obtain ⟨c1_0, c1_1⟩ := sat_bds (rnd (val (hi y2) (lo y2) * val 0 0 - val (hi y0) (lo y0) * val 0 0) 268435456)
  generalize sat (rnd (val (hi y2) (lo y2) * val 0 0 - val (hi y0) (lo y0) * val 0 0) 268435456) 268435455 = c1 at *
  obtain ⟨c2_0, c2_1⟩ := sat_bds (rnd (val (hi y0) (lo y0) * val 0 0 - val (hi y1) (lo y1) * val 0 0) 268435456)
  generalize sat (rnd (val (hi y0) (lo y0) * val 0 0 - val (hi y1) (lo y1) * val 0 0) 268435456) 268435455 = c2 at *
  obtain ⟨ol', L2⟩ := rlength_V c0 c1 c2 c0_0 c0_1 c1_0 c1_1 c2_0 c2_1
  have D1 := fun w => runit34_of _ _ _ _ _ _ _ _ _ _ _ _ false R1 w
  have D2 := fun w => runit34_of _ _ _ _ _ _ _ _ _ _ _ _ true R2 w
  have D3 := fun w => rcross34_of _ _ _ _ _ _ _ _ _ _ _ _ _ _ _ _ _ _ _ Y1 w
  have US := fun w => usable_2 _ _ _ _ _ _ _ _ _ _ _ _ _ _ _ _ _ _ _ _ _ _ _ _ _ _ _ _ _ _ _ _ ol' R1 R2 D1 D2 D3 L2 w
  exact ⟨fun w => triad_bad_f _ _ _ _ _ _ _ _ _ _ _ _ _ _ _ _ _ _ _ _ _ _ _ _ A1 A2 w, fun w => rtriad_bad _ _ _ _ _ _ _ _ _ _ _ _ US w, US⟩
set_option maxRecDepth 100000 in
set_option maxHeartbeats 8000000 in
theorem triad_facts (a0 a1 a2 a3 a4 a5 b0 b1 b2 b3 b4 b5 : Int) (ha00 : 0 ≤ a0) (ha01 : a0 < 65536) (ha10 : 0 ≤ a1) (ha11 : a1 < 65536) (ha20 : 0 ≤ a2) (ha21 : a2 < 65536) (ha30 : 0 ≤ a3) (ha31 : a3 < 65536) (ha40 : 0 ≤ a4) (ha41 : a4 < 65536) (ha50 : 0 ≤ a5) (ha51 : a5 < 65536) (hb00 : 0 ≤ b0) (hb01 : b0 < 65536) (hb10 : 0 ≤ b1) (hb11 : b1 < 65536) (hb20 : 0 ≤ b2) (hb21 : b2 < 65536) (hb30 : 0 ≤ b3) (hb31 : b3 < 65536) (hb40 : 0 ≤ b4) (hb41 : b4 < 65536) (hb50 : 0 ≤ b5) (hb51 : b5 < 65536) : (∃ U0 U1 U2 Y0 Y1 Y2 Z0 Z1 Z2 : Int, ((∀ w, Calls Tryd.prog 16 #[(.agg #[.int .u16 (a0), .int .u16 (a1), .int .u16 (a2), .int .u16 (a3), .int .u16 (a4), .int .u16 (a5)]), (.agg #[.int .u16 (b0), .int .u16 (b1), .int .u16 (b2), .int .u16 (b3), .int .u16 (b4), .int .u16 (b5)])] w fun e w' => e = .returned (.tuple #[(.agg #[.int .u16 (hi (U0)), .int .u16 (lo (U0)), .int .u16 (hi (U1)), .int .u16 (lo (U1)), .int .u16 (hi (U2)), .int .u16 (lo (U2)), .int .u16 (hi (Y0)), .int .u16 (lo (Y0)), .int .u16 (hi (Y1)), .int .u16 (lo (Y1)), .int .u16 (hi (Y2)), .int .u16 (lo (Y2)), .int .u16 (hi (Z0)), .int .u16 (lo (Z0)), .int .u16 (hi (Z1)), .int .u16 (lo (Z1)), .int .u16 (hi (Z2)), .int .u16 (lo (Z2))]), .int .i64 0]) ∧ Below w.heap.size w w')) ∧ ((∀ w, Calls Tryd.prog 20 #[(.agg #[.int .u16 (a0), .int .u16 (a1), .int .u16 (a2), .int .u16 (a3), .int .u16 (a4), .int .u16 (a5)]), (.agg #[.int .u16 (b0), .int .u16 (b1), .int .u16 (b2), .int .u16 (b3), .int .u16 (b4), .int .u16 (b5)])] w fun e w' => e = .returned (.tuple #[(.agg #[.int .u16 (hi (U0)), .int .u16 (lo (U0)), .int .u16 (hi (U1)), .int .u16 (lo (U1)), .int .u16 (hi (U2)), .int .u16 (lo (U2)), .int .u16 (hi (Y0)), .int .u16 (lo (Y0)), .int .u16 (hi (Y1)), .int .u16 (lo (Y1)), .int .u16 (hi (Y2)), .int .u16 (lo (Y2)), .int .u16 (hi (Z0)), .int .u16 (lo (Z0)), .int .u16 (hi (Z1)), .int .u16 (lo (Z1)), .int .u16 (hi (Z2)), .int .u16 (lo (Z2))]), .int .i64 0]) ∧ Below w.heap.size w w')) ∧ ((∀ w, Calls Tryd.prog 47 #[(.agg #[.int .u16 (a0), .int .u16 (a1), .int .u16 (a2), .int .u16 (a3), .int .u16 (a4), .int .u16 (a5)]), (.agg #[.int .u16 (b0), .int .u16 (b1), .int .u16 (b2), .int .u16 (b3), .int .u16 (b4), .int .u16 (b5)])] w fun e w' => e = .returned (.bool true) ∧ Below w.heap.size w w')) ∧ ((-268435455 ≤ U0 ∧ U0 ≤ 268435455) ∧ (-268435455 ≤ U1 ∧ U1 ≤ 268435455) ∧ (-268435455 ≤ U2 ∧ U2 ≤ 268435455) ∧ (-268435455 ≤ Y0 ∧ Y0 ≤ 268435455) ∧ (-268435455 ≤ Y1 ∧ Y1 ≤ 268435455) ∧ (-268435455 ≤ Y2 ∧ Y2 ≤ 268435455) ∧ (-268435455 ≤ Z0 ∧ Z0 ≤ 268435455) ∧ (-268435455 ≤ Z1 ∧ Z1 ≤ 268435455) ∧ (-268435455 ≤ Z2 ∧ Z2 ≤ 268435455)) ∧ (18014397972611076 ≤ U0 * U0 + U1 * U1 + U2 * U2 ∧ U0 * U0 + U1 * U1 + U2 * U2 ≤ 18014399046352900) ∧ (18014397972611076 ≤ Y0 * Y0 + Y1 * Y1 + Y2 * Y2 ∧ Y0 * Y0 + Y1 * Y1 + Y2 * Y2 ≤ 18014399046352900) ∧ (18014397972611076 ≤ Z0 * Z0 + Z1 * Z1 + Z2 * Z2 ∧ Z0 * Z0 + Z1 * Z1 + Z2 * Z2 ≤ 18014399046352900) ∧ (-4294967296 ≤ U0 * Z0 + U1 * Z1 + U2 * Z2 ∧ U0 * Z0 + U1 * Z1 + U2 * Z2 ≤ 4294967296) ∧ (-2147483648 ≤ U0 * Y0 + U1 * Y1 + U2 * Y2 ∧ U0 * Y0 + U1 * Y1 + U2 * Y2 ≤ 2147483648) ∧ (-2147483648 ≤ Z0 * Y0 + Z1 * Y1 + Z2 * Y2 ∧ Z0 * Y0 + Z1 * Y1 + Z2 * Y2 ≤ 2147483648)) ∨ (((∀ w, Calls Tryd.prog 16 #[(.agg #[.int .u16 (a0), .int .u16 (a1), .int .u16 (a2), .int .u16 (a3), .int .u16 (a4), .int .u16 (a5)]), (.agg #[.int .u16 (b0), .int .u16 (b1), .int .u16 (b2), .int .u16 (b3), .int .u16 (b4), .int .u16 (b5)])] w fun e w' => e = .returned (.tuple #[(.agg #[.int .u16 (0), .int .u16 (0), .int .u16 (0), .int .u16 (0), .int .u16 (0), .int .u16 (0), .int .u16 (0), .int .u16 (0), .int .u16 (0), .int .u16 (0), .int .u16 (0), .int .u16 (0), .int .u16 (0), .int .u16 (0), .int .u16 (0), .int .u16 (0), .int .u16 (0), .int .u16 (0)]), .int .i64 2]) ∧ Below w.heap.size w w')) ∧ ((∀ w, Calls Tryd.prog 20 #[(.agg #[.int .u16 (a0), .int .u16 (a1), .int .u16 (a2), .int .u16 (a3), .int .u16 (a4), .int .u16 (a5)]), (.agg #[.int .u16 (b0), .int .u16 (b1), .int .u16 (b2), .int .u16 (b3), .int .u16 (b4), .int .u16 (b5)])] w fun e w' => e = .returned (.tuple #[(.agg #[.int .u16 (0), .int .u16 (0), .int .u16 (0), .int .u16 (0), .int .u16 (0), .int .u16 (0), .int .u16 (0), .int .u16 (0), .int .u16 (0), .int .u16 (0), .int .u16 (0), .int .u16 (0), .int .u16 (0), .int .u16 (0), .int .u16 (0), .int .u16 (0), .int .u16 (0), .int .u16 (0)]), .int .i64 2]) ∧ Below w.heap.size w w')) ∧ ((∀ w, Calls Tryd.prog 47 #[(.agg #[.int .u16 (a0), .int .u16 (a1), .int .u16 (a2), .int .u16 (a3), .int .u16 (a4), .int .u16 (a5)]), (.agg #[.int .u16 (b0), .int .u16 (b1), .int .u16 (b2), .int .u16 (b3), .int .u16 (b4), .int .u16 (b5)])] w fun e w' => e = .returned (.bool false) ∧ Below w.heap.size w w'))) := by
  by_cases na : (val a0 a1) = 0 ∧ (val a2 a3) = 0 ∧ (val a4 a5) = 0
  · exact Or.inr (triad_zero_a a0 a1 a2 a3 a4 a5 b0 b1 b2 b3 b4 b5 ha00 ha01 ha10 ha11 ha20 ha21 ha30 ha31 ha40 ha41 ha50 ha51 hb00 hb01 hb10 hb11 hb20 hb21 hb30 hb31 hb40 hb41 hb50 hb51 na)
  by_cases nb : (val b0 b1) = 0 ∧ (val b2 b3) = 0 ∧ (val b4 b5) = 0
  · exact Or.inr (triad_zero_b a0 a1 a2 a3 a4 a5 b0 b1 b2 b3 b4 b5 ha00 ha01 ha10 ha11 ha20 ha21 ha30 ha31 ha40 ha41 ha50 ha51 hb00 hb01 hb10 hb11 hb20 hb21 hb30 hb31 hb40 hb41 hb50 hb51 nb na)
  have A1 := fun w => unit_W a0 a1 a2 a3 a4 a5 ha00 ha01 ha10 ha11 ha20 ha21 ha30 ha31 ha40 ha41 ha50 ha51 na w
  have R1 := fun w => runit_W a0 a1 a2 a3 a4 a5 ha00 ha01 ha10 ha11 ha20 ha21 ha30 ha31 ha40 ha41 ha50 ha51 na w
  obtain ⟨_, _, _, _, _, _, _, _, nU0, nU1⟩ := uni_full (val a0 a1) (val a2 a3) (val a4 a5) na (val_lo _ _) (val_hi _ _) (val_lo _ _) (val_hi _ _) (val_lo _ _) (val_hi _ _)
  obtain ⟨U0_0, U0_1⟩ := uni_sz (val a0 a1) (val a2 a3) (val a4 a5) (val a0 a1)
  obtain ⟨U1_0, U1_1⟩ := uni_sz (val a0 a1) (val a2 a3) (val a4 a5) (val a2 a3)
  obtain ⟨U2_0, U2_1⟩ := uni_sz (val a0 a1) (val a2 a3) (val a4 a5) (val a4 a5)
  generalize (uni (val a0 a1) (val a2 a3) (val a4 a5) (val a0 a1)) = U0 at *
  generalize (uni (val a0 a1) (val a2 a3) (val a4 a5) (val a2 a3)) = U1 at *
  generalize (uni (val a0 a1) (val a2 a3) (val a4 a5) (val a4 a5)) = U2 at *
  have A2 := fun w => unit_W b0 b1 b2 b3 b4 b5 hb00 hb01 hb10 hb11 hb20 hb21 hb30 hb31 hb40 hb41 hb50 hb51 nb w
  have R2 := fun w => runit_W b0 b1 b2 b3 b4 b5 hb00 hb01 hb10 hb11 hb20 hb21 hb30 hb31 hb40 hb41 hb50 hb51 nb w
  obtain ⟨_, _, _, _, _, _, _, _, nV0, nV1⟩ := uni_full (val b0 b1) (val b2 b3) (val b4 b5) nb (val_lo _ _) (val_hi _ _) (val_lo _ _) (val_hi _ _) (val_lo _ _) (val_hi _ _)
  obtain ⟨V0_0, V0_1⟩ := uni_sz (val b0 b1) (val b2 b3) (val b4 b5) (val b0 b1)
  obtain ⟨V1_0, V1_1⟩ := uni_sz (val b0 b1) (val b2 b3) (val b4 b5) (val b2 b3)
  obtain ⟨V2_0, V2_1⟩ := uni_sz (val b0 b1) (val b2 b3) (val b4 b5) (val b4 b5)
  generalize (uni (val b0 b1) (val b2 b3) (val b4 b5) (val b0 b1)) = V0 at *
  generalize (uni (val b0 b1) (val b2 b3) (val b4 b5) (val b2 b3)) = V1 at *
  generalize (uni (val b0 b1) (val b2 b3) (val b4 b5) (val b4 b5)) = V2 at *
  obtain ⟨o1, X1⟩ := cross_V U0 U1 U2 V0 V1 V2 U0_0 U0_1 U1_0 U1_1 U2_0 U2_1 V0_0 V0_1 V1_0 V1_1 V2_0 V2_1
  obtain ⟨r1, Y1⟩ := rcross_V U0 U1 U2 V0 V1 V2 U0_0 U0_1 U1_0 U1_1 U2_0 U2_1 V0_0 V0_1 V1_0 V1_1 V2_0 V2_1
  obtain ⟨c0_0, c0_1⟩ := sat_bds (rnd (U1 * V2 - U2 * V1) 268435456)
  generalize hc0 : sat (rnd (U1 * V2 - U2 * V1) 268435456) 268435455 = c0 at *
  obtain ⟨c1_0, c1_1⟩ := sat_bds (rnd (U2 * V0 - U0 * V2) 268435456)
  generalize hc1 : sat (rnd (U2 * V0 - U0 * V2) 268435456) 268435455 = c1 at *
  obtain ⟨c2_0, c2_1⟩ := sat_bds (rnd (U0 * V1 - U1 * V0) 268435456)
  generalize hc2 : sat (rnd (U0 * V1 - U1 * V0) 268435456) 268435455 = c2 at *
  obtain ⟨ol, L1⟩ := length_V c0 c1 c2 c0_0 c0_1 c1_0 c1_1 c2_0 c2_1
  obtain ⟨ol', L2⟩ := rlength_V c0 c1 c2 c0_0 c0_1 c1_0 c1_1 c2_0 c2_1
  obtain ⟨L_0, L_1⟩ := sat_bds (nsq (dot c0 c1 c2 c0 c1 c2))
  generalize hl : sat (nsq (dot c0 c1 c2 c0 c1 c2)) 268435455 = L at *
  have LV := fun w => value_V L L_0 L_1 w
  have LR := fun w => rvalue_V L L_0 L_1 w
  have D1 := fun w => runit34_of _ _ _ _ _ _ _ _ _ _ _ _ false R1 w
  have D2 := fun w => runit34_of _ _ _ _ _ _ _ _ _ _ _ _ false R2 w
  have D3 := fun w => rcross34_of _ _ _ _ _ _ _ _ _ _ _ _ _ _ _ _ _ _ _ Y1 w
  by_cases hL : 4194304 ≤ L
  · obtain ⟨zc, zd, nY, nZ, dUZ, dUY, dZY⟩ := frame_ok U0 U1 U2 V0 V1 V2 c0 c1 c2 _ _ _ _ _ _ _ _ _ nU0 nU1 nV1 hc0.symm hc1.symm hc2.symm (by rw [hl]; exact hL) rfl rfl rfl rfl rfl rfl rfl rfl rfl
    have T1 := fun w => unit_V c0 c1 c2 c0_0 c0_1 c1_0 c1_1 c2_0 c2_1 zc w
    have S1 := fun w => runit_V c0 c1 c2 c0_0 c0_1 c1_0 c1_1 c2_0 c2_1 zc w
    obtain ⟨Z0_0, Z0_1⟩ := uni_sz c0 c1 c2 c0
    generalize (uni c0 c1 c2 c0) = Z0 at *
    obtain ⟨Z1_0, Z1_1⟩ := uni_sz c0 c1 c2 c1
    generalize (uni c0 c1 c2 c1) = Z1 at *
    obtain ⟨Z2_0, Z2_1⟩ := uni_sz c0 c1 c2 c2
    generalize (uni c0 c1 c2 c2) = Z2 at *
    obtain ⟨o2, X2⟩ := cross_V Z0 Z1 Z2 U0 U1 U2 Z0_0 Z0_1 Z1_0 Z1_1 Z2_0 Z2_1 U0_0 U0_1 U1_0 U1_1 U2_0 U2_1
    obtain ⟨r2, Y2_⟩ := rcross_V Z0 Z1 Z2 U0 U1 U2 Z0_0 Z0_1 Z1_0 Z1_1 Z2_0 Z2_1 U0_0 U0_1 U1_0 U1_1 U2_0 U2_1
    obtain ⟨d0_0, d0_1⟩ := sat_bds (rnd (Z1 * U2 - Z2 * U1) 268435456)
    generalize hd0 : sat (rnd (Z1 * U2 - Z2 * U1) 268435456) 268435455 = d0 at *
    obtain ⟨d1_0, d1_1⟩ := sat_bds (rnd (Z2 * U0 - Z0 * U2) 268435456)
    generalize hd1 : sat (rnd (Z2 * U0 - Z0 * U2) 268435456) 268435455 = d1 at *
    obtain ⟨d2_0, d2_1⟩ := sat_bds (rnd (Z0 * U1 - Z1 * U0) 268435456)
    generalize hd2 : sat (rnd (Z0 * U1 - Z1 * U0) 268435456) 268435455 = d2 at *
    have T2 := fun w => unit_V d0 d1 d2 d0_0 d0_1 d1_0 d1_1 d2_0 d2_1 zd w
    have S2 := fun w => runit_V d0 d1 d2 d0_0 d0_1 d1_0 d1_1 d2_0 d2_1 zd w
    obtain ⟨Y0_0, Y0_1⟩ := uni_sz d0 d1 d2 d0
    generalize (uni d0 d1 d2 d0) = Y0 at *
    obtain ⟨Y1_0, Y1_1⟩ := uni_sz d0 d1 d2 d1
    generalize (uni d0 d1 d2 d1) = Y1 at *
    obtain ⟨Y2_0, Y2_1⟩ := uni_sz d0 d1 d2 d2
    generalize (uni d0 d1 d2 d2) = Y2 at *
    have C6 := fun w => across_of _ _ _ _ _ _ _ _ _ _ _ _ _ _ _ _ _ _ _ _ _ _ _ _ o1 false X1 T1 w
    have C7 := fun w => across_of _ _ _ _ _ _ _ _ _ _ _ _ _ _ _ _ _ _ _ _ _ _ _ _ o2 false X2 T2 w
    have D4 := fun w => runit34_of _ _ _ _ _ _ _ _ _ _ _ _ false S1 w
    have D5 := fun w => rcross34_of _ _ _ _ _ _ _ _ _ _ _ _ _ _ _ _ _ _ _ Y2_ w
    have D6 := fun w => runit34_of _ _ _ _ _ _ _ _ _ _ _ _ false S2 w
    have US := fun w => usable_4 _ _ _ _ _ _ _ _ _ _ _ _ _ _ _ _ _ _ _ _ _ _ _ _ _ _ _ _ _ _ _ _ L ol' R1 R2 D1 D2 D3 L2 LR (decide_eq_true hL) w
    exact Or.inl ⟨U0, U1, U2, Y0, Y1, Y2, Z0, Z1, Z2, fun w => triad_of _ _ _ _ _ _ _ _ _ _ _ _ _ _ _ _ _ _ _ _ _ _ _ _ _ _ _ _ _ _ _ _ _ _ _ _ _ _ _ _ _ _ _ _ L o1 ol A1 A2 X1 L1 LV (decide_eq_false (by omega)) C6 C7 w, fun w => rtriad_of _ _ _ _ _ _ _ _ _ _ _ _ _ _ _ _ _ _ _ _ _ _ _ _ _ _ _ _ _ _ _ _ _ _ _ _ _ _ _ _ _ _ _ _ _ _ _ _ US D1 D2 D3 D4 D5 D6 w, US, ⟨⟨U0_0, U0_1⟩, ⟨U1_0, U1_1⟩, ⟨U2_0, U2_1⟩, ⟨Y0_0, Y0_1⟩, ⟨Y1_0, Y1_1⟩, ⟨Y2_0, Y2_1⟩, ⟨Z0_0, Z0_1⟩, ⟨Z1_0, Z1_1⟩, ⟨Z2_0, Z2_1⟩⟩, ⟨nU0, nU1⟩, nY, nZ, dUZ, dUY, dZY⟩
  · have US := fun w => usable_3 _ _ _ _ _ _ _ _ _ _ _ _ _ _ _ _ _ _ _ _ _ _ _ _ _ _ _ _ _ _ _ _ L ol' R1 R2 D1 D2 D3 L2 LR (decide_eq_false hL) w
    exact Or.inr ⟨fun w => triad_short _ _ _ _ _ _ _ _ _ _ _ _ _ _ _ _ _ _ _ _ _ _ _ _ _ _ _ _ _ _ _ _ L o1 ol A1 A2 X1 L1 LV (decide_eq_true (by omega)) w, fun w => rtriad_bad _ _ _ _ _ _ _ _ _ _ _ _ US w, US⟩
end Go.Proofs.YtbbhppjamighdaaDoor
