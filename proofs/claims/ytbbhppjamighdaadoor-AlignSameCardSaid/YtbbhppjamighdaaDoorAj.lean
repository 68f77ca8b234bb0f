/- Angles and Pulses by values, of package align and of its reference; the walk of the law AlignAngles: for every input it returns true. -/
import Derived.Test.YtbbhppjamighdaaDoorAg
import Derived.Test.YtbbhppjamighdaaDoorAi
import Derived.Test.YtbbhppjamighdaaDoorWc
import Derived.Test.YtbbhppjamighdaaDoorWa
namespace Go.Proofs.YtbbhppjamighdaaDoor
set_option linter.unusedSimpArgs false
set_option linter.unusedVariables false
open Go.RowKit

theorem eq_n3 (d : Nat) (x0 x1 x2 y0 y1 y2 : Int) (w : World) : (Op.equalIn (d + 2) 33 (.agg #[.int .i64 x0, .int .i64 x1, .int .i64 x2]) (.agg #[.int .i64 y0, .int .i64 y1, .int .i64 y2])).run Tryd.prog w = .ok ((x0 == y0 && (x1 == y1 && x2 == y2))) w := by
  have hu : Tryd.prog.underlying 33 = some (.array 3 3) := by kernel_rfl
  have hc : Tryd.prog.cellsOf 3 = 1 := by kernel_rfl
  have hk : Tryd.prog.plainKey 3 = true := by kernel_rfl
  have hue : Tryd.prog.underlying 3 = some (.int .i64) := by kernel_rfl
  obtain ⟨i, hi⟩ : ∃ i, Tryd.prog.info? 3 = some i := ⟨_, rfl⟩
  rw [run_equalIn_array w (d + 1) _ _ hu hi, hc]
  have e1 := fun (a b : Int) => run_equalIn_int (P := Tryd.prog) w d 3 .i64 .i64 a b hue
  have p0 := fun (a b c : Int) => run_part_plain (P := Tryd.prog) (xs := #[.int .i64 a, .int .i64 b, .int .i64 c]) (off := 0 * 1) (v := .int .i64 a) w hk rfl
  have p1 := fun (a b c : Int) => run_part_plain (P := Tryd.prog) (xs := #[.int .i64 a, .int .i64 b, .int .i64 c]) (off := 1 * 1) (v := .int .i64 b) w hk rfl
  have p2 := fun (a b c : Int) => run_part_plain (P := Tryd.prog) (xs := #[.int .i64 a, .int .i64 b, .int .i64 c]) (off := 2 * 1) (v := .int .i64 c) w hk rfl
  simp only [List.range, List.range.loop, Op.eqItems, Sem.run_bind, p0, e1, Result.andThen_ok]
  cases h0 : x0 == y0
  · simp
  · simp only [Bool.not_true, Bool.false_eq_true, if_false, Sem.run_bind, p1, e1, Result.andThen_ok]
    cases h1 : x1 == y1
    · simp
    · simp only [Bool.not_true, Bool.false_eq_true, if_false, Sem.run_bind, p2, e1, Result.andThen_ok]
      cases h2 : x2 == y2 <;> simp


def pk6 (a b c d e f : Int) : Nat → Int
  | 0 => a
  | 1 => b
  | 2 => c
  | 3 => d
  | 4 => e
  | _ => f
def pk3 (a b c : Int) : Nat → Int
  | 0 => a
  | 1 => b
  | _ => c
def pkb (a b c : Bool) : Nat → Bool
  | 0 => a
  | 1 => b
  | _ => c
theorem turn_words (w : World) : Calls Tryd.prog 33 #[.int .i64 42722830] w fun e w' => e = .returned (.agg #[.int .u16 (2607), .int .u16 (9742)]) ∧ Below w.heap.size w w' :=
  calls_val (exactly_of 42722830 _ _ _ (fun w => clamp_any 42722830 w) w) (by kernel_rfl)
theorem rturn_words (w : World) : Calls Tryd.prog 29 #[.int .i64 42722830] w fun e w' => e = .returned (.agg #[.int .u16 (2607), .int .u16 (9742)]) ∧ Below w.heap.size w w' :=
  calls_val (rdouble_any 42722830 (by omega) (by omega) w) (by kernel_rfl)
/-- One angle: the rounded product of a saturated difference with 1 / (2 pi). -/
def ang (x y : Int) : Int := mulv (sat (x - y) 268435455) 42722830
def ano (x y : Int) : Bool := outb (x - y) 268435455
theorem ang_mul (x y : Int) (w : World) : Calls Tryd.prog 32 #[(.agg #[.int .u16 (hi (sat (x - y) 268435455)), .int .u16 (lo (sat (x - y) 268435455))]), (.agg #[.int .u16 (2607), .int .u16 (9742)])] w fun e w' => e = .returned (.agg #[.int .u16 (hi (ang x y)), .int .u16 (lo (ang x y))]) ∧ Below w.heap.size w w' := by
  obtain ⟨s0, s1⟩ := sat_bds (x - y)
  obtain ⟨q0, q1, q2, q3⟩ := hi_lo _ s0 s1
  have k := mul_any (hi (sat (x - y) 268435455)) (lo (sat (x - y) 268435455)) 2607 9742 q0 (by omega) q2 (by omega) (by omega) (by omega) (by omega) (by omega) w
  rw [val_of _ s0 s1, show val 2607 9742 = 42722830 by decide +kernel] at k
  exact k
theorem rang_mul (x y : Int) (w : World) : Calls Tryd.prog 35 #[(.agg #[.int .u16 (hi (sat (x - y) 268435455)), .int .u16 (lo (sat (x - y) 268435455))]), (.agg #[.int .u16 (2607), .int .u16 (9742)])] w fun e w' => e = .returned (.agg #[.int .u16 (hi (ang x y)), .int .u16 (lo (ang x y))]) ∧ Below w.heap.size w w' := by
  obtain ⟨s0, s1⟩ := sat_bds (x - y)
  obtain ⟨q0, q1, q2, q3⟩ := hi_lo _ s0 s1
  have k := rmul_any (hi (sat (x - y) 268435455)) (lo (sat (x - y) 268435455)) 2607 9742 q0 (by omega) q2 (by omega) (by omega) (by omega) (by omega) (by omega) w
  rw [val_of _ s0 s1, show val 2607 9742 = 42722830 by decide +kernel] at k
  exact k
set_option maxRecDepth 100000 in
theorem angles_any (m0 m1 m2 m3 m4 m5 m6 m7 m8 m9 m10 m11 m12 m13 m14 m15 m16 m17 : Int) (hm00 : 0 ≤ m0) (hm01 : m0 < 65536) (hm10 : 0 ≤ m1) (hm11 : m1 < 65536) (hm20 : 0 ≤ m2) (hm21 : m2 < 65536) (hm30 : 0 ≤ m3) (hm31 : m3 < 65536) (hm40 : 0 ≤ m4) (hm41 : m4 < 65536) (hm50 : 0 ≤ m5) (hm51 : m5 < 65536) (hm60 : 0 ≤ m6) (hm61 : m6 < 65536) (hm70 : 0 ≤ m7) (hm71 : m7 < 65536) (hm80 : 0 ≤ m8) (hm81 : m8 < 65536) (hm90 : 0 ≤ m9) (hm91 : m9 < 65536) (hm100 : 0 ≤ m10) (hm101 : m10 < 65536) (hm110 : 0 ≤ m11) (hm111 : m11 < 65536) (hm120 : 0 ≤ m12) (hm121 : m12 < 65536) (hm130 : 0 ≤ m13) (hm131 : m13 < 65536) (hm140 : 0 ≤ m14) (hm141 : m14 < 65536) (hm150 : 0 ≤ m15) (hm151 : m15 < 65536) (hm160 : 0 ≤ m16) (hm161 : m16 < 65536) (hm170 : 0 ≤ m17) (hm171 : m17 < 65536) (w : World) : Calls Tryd.prog 12 #[(.agg #[.int .u16 (m0), .int .u16 (m1), .int .u16 (m2), .int .u16 (m3), .int .u16 (m4), .int .u16 (m5), .int .u16 (m6), .int .u16 (m7), .int .u16 (m8), .int .u16 (m9), .int .u16 (m10), .int .u16 (m11), .int .u16 (m12), .int .u16 (m13), .int .u16 (m14), .int .u16 (m15), .int .u16 (m16), .int .u16 (m17)])] w fun e w' => e = .returned (.tuple #[(.agg #[.int .u16 (hi (ang (val m14 m15) (val m10 m11))), .int .u16 (lo (ang (val m14 m15) (val m10 m11))), .int .u16 (hi (ang (val m4 m5) (val m12 m13))), .int .u16 (lo (ang (val m4 m5) (val m12 m13))), .int .u16 (hi (ang (val m6 m7) (val m2 m3))), .int .u16 (lo (ang (val m6 m7) (val m2 m3)))]), .bool ((ano (val m14 m15) (val m10 m11) || ano (val m4 m5) (val m12 m13)) || ano (val m6 m7) (val m2 m3))]) ∧ Below w.heap.size w w' := by
  exact calls_val (angles_fn (pick18 m0 m1 m2 m3 m4 m5 m6 m7 m8 m9 m10 m11 m12 m13 m14 m15 m16 m17) (pk6 (hi (ang (val m14 m15) (val m10 m11))) (lo (ang (val m14 m15) (val m10 m11))) (hi (ang (val m4 m5) (val m12 m13))) (lo (ang (val m4 m5) (val m12 m13))) (hi (ang (val m6 m7) (val m2 m3))) (lo (ang (val m6 m7) (val m2 m3)))) (pk6 (hi (sat ((val m14 m15) - (val m10 m11)) 268435455)) (lo (sat ((val m14 m15) - (val m10 m11)) 268435455)) (hi (sat ((val m4 m5) - (val m12 m13)) 268435455)) (lo (sat ((val m4 m5) - (val m12 m13)) 268435455)) (hi (sat ((val m6 m7) - (val m2 m3)) 268435455)) (lo (sat ((val m6 m7) - (val m2 m3)) 268435455))) 2607 9742 (pkb (ano (val m14 m15) (val m10 m11)) (ano (val m4 m5) (val m12 m13)) (ano (val m6 m7) (val m2 m3))) (fun w => sub_any m14 m15 m10 m11 hm140 hm141 hm150 hm151 hm100 hm101 hm110 hm111 w) (fun w => sub_any m4 m5 m12 m13 hm40 hm41 hm50 hm51 hm120 hm121 hm130 hm131 w) (fun w => sub_any m6 m7 m2 m3 hm60 hm61 hm70 hm71 hm20 hm21 hm30 hm31 w) turn_words (fun w => ang_mul (val m14 m15) (val m10 m11) w) (fun w => ang_mul (val m4 m5) (val m12 m13) w) (fun w => ang_mul (val m6 m7) (val m2 m3) w) w) (by simp only [orb, pkb, Bool.false_or]; rfl)
set_option maxRecDepth 100000 in
theorem rangles_any (m0 m1 m2 m3 m4 m5 m6 m7 m8 m9 m10 m11 m12 m13 m14 m15 m16 m17 : Int) (hm00 : 0 ≤ m0) (hm01 : m0 < 65536) (hm10 : 0 ≤ m1) (hm11 : m1 < 65536) (hm20 : 0 ≤ m2) (hm21 : m2 < 65536) (hm30 : 0 ≤ m3) (hm31 : m3 < 65536) (hm40 : 0 ≤ m4) (hm41 : m4 < 65536) (hm50 : 0 ≤ m5) (hm51 : m5 < 65536) (hm60 : 0 ≤ m6) (hm61 : m6 < 65536) (hm70 : 0 ≤ m7) (hm71 : m7 < 65536) (hm80 : 0 ≤ m8) (hm81 : m8 < 65536) (hm90 : 0 ≤ m9) (hm91 : m9 < 65536) (hm100 : 0 ≤ m10) (hm101 : m10 < 65536) (hm110 : 0 ≤ m11) (hm111 : m11 < 65536) (hm120 : 0 ≤ m12) (hm121 : m12 < 65536) (hm130 : 0 ≤ m13) (hm131 : m13 < 65536) (hm140 : 0 ≤ m14) (hm141 : m14 < 65536) (hm150 : 0 ≤ m15) (hm151 : m15 < 65536) (hm160 : 0 ≤ m16) (hm161 : m16 < 65536) (hm170 : 0 ≤ m17) (hm171 : m17 < 65536) (w : World) : Calls Tryd.prog 13 #[(.agg #[.int .u16 (m0), .int .u16 (m1), .int .u16 (m2), .int .u16 (m3), .int .u16 (m4), .int .u16 (m5), .int .u16 (m6), .int .u16 (m7), .int .u16 (m8), .int .u16 (m9), .int .u16 (m10), .int .u16 (m11), .int .u16 (m12), .int .u16 (m13), .int .u16 (m14), .int .u16 (m15), .int .u16 (m16), .int .u16 (m17)])] w fun e w' => e = .returned (.tuple #[(.agg #[.int .u16 (hi (ang (val m14 m15) (val m10 m11))), .int .u16 (lo (ang (val m14 m15) (val m10 m11))), .int .u16 (hi (ang (val m4 m5) (val m12 m13))), .int .u16 (lo (ang (val m4 m5) (val m12 m13))), .int .u16 (hi (ang (val m6 m7) (val m2 m3))), .int .u16 (lo (ang (val m6 m7) (val m2 m3)))]), .bool ((ano (val m14 m15) (val m10 m11) || ano (val m4 m5) (val m12 m13)) || ano (val m6 m7) (val m2 m3))]) ∧ Below w.heap.size w w' := by
  exact calls_val (rangles_fn (pick18 m0 m1 m2 m3 m4 m5 m6 m7 m8 m9 m10 m11 m12 m13 m14 m15 m16 m17) (pk6 (hi (ang (val m14 m15) (val m10 m11))) (lo (ang (val m14 m15) (val m10 m11))) (hi (ang (val m4 m5) (val m12 m13))) (lo (ang (val m4 m5) (val m12 m13))) (hi (ang (val m6 m7) (val m2 m3))) (lo (ang (val m6 m7) (val m2 m3)))) (pk6 (hi (sat ((val m14 m15) - (val m10 m11)) 268435455)) (lo (sat ((val m14 m15) - (val m10 m11)) 268435455)) (hi (sat ((val m4 m5) - (val m12 m13)) 268435455)) (lo (sat ((val m4 m5) - (val m12 m13)) 268435455)) (hi (sat ((val m6 m7) - (val m2 m3)) 268435455)) (lo (sat ((val m6 m7) - (val m2 m3)) 268435455))) (pk3 (val m14 m15) (val m4 m5) (val m6 m7)) (pk3 (val m10 m11) (val m12 m13) (val m2 m3)) 2607 9742 (pkb (ano (val m14 m15) (val m10 m11)) (ano (val m4 m5) (val m12 m13)) (ano (val m6 m7) (val m2 m3))) (fun i h => by rcases (show i = 0 ∨ i = 1 ∨ i = 2 by omega) with rfl | rfl | rfl <;> exact ⟨val_lo _ _, val_hi _ _⟩) (fun i h => by rcases (show i = 0 ∨ i = 1 ∨ i = 2 by omega) with rfl | rfl | rfl <;> exact ⟨val_lo _ _, val_hi _ _⟩) (fun w => rvalue_any m14 m15 hm140 hm141 hm150 hm151 w) (fun w => rvalue_any m10 m11 hm100 hm101 hm110 hm111 w) (fun w => rclamp_any ((val m14 m15) - (val m10 m11)) w) (fun w => rvalue_any m4 m5 hm40 hm41 hm50 hm51 w) (fun w => rvalue_any m12 m13 hm120 hm121 hm130 hm131 w) (fun w => rclamp_any ((val m4 m5) - (val m12 m13)) w) (fun w => rvalue_any m6 m7 hm60 hm61 hm70 hm71 w) (fun w => rvalue_any m2 m3 hm20 hm21 hm30 hm31 w) (fun w => rclamp_any ((val m6 m7) - (val m2 m3)) w) rturn_words (fun w => rang_mul (val m14 m15) (val m10 m11) w) (fun w => rang_mul (val m4 m5) (val m12 m13) w) (fun w => rang_mul (val m6 m7) (val m2 m3) w) w) (by simp only [orb, pkb, Bool.false_or]; rfl)
theorem mag_nn (v : Int) : 0 ≤ mag v := by unfold mag; split <;> omega
theorem mag_bd (x y : Int) : 0 ≤ mag (val x y) ∧ mag (val x y) ≤ 268435455 := by have := val_lo x y; have := val_hi x y; unfold mag; split <;> omega
theorem pg_rnd (m : Nat → Int) (bb : Nat → Bool) (i : Nat) (v : Int) (h : m i = mag v) (hb : bb i = decide (0 ≤ v)) : pg m bb i = rnd v 256 := by
  unfold pg
  have k := half_eq (mag v) 128 (by omega) (mag_nn v)
  rw [show (2 : Int) * 128 = 256 by decide] at k
  rw [h, hb, k]
  by_cases c : 0 ≤ v
  · rw [if_pos (by simpa using c), show mag v = v by unfold mag; rw [if_neg (by omega)]]
  · rw [if_neg (by simpa using c), show mag v = -v by unfold mag; rw [if_pos (by omega)], rnd_neg _ _ (by omega), Int.neg_neg]
theorem mag_words (v : Int) (h0 : -268435455 ≤ v) (h1 : v ≤ 268435455) : (hi (mag v) == hi v && lo (mag v) == lo v) = decide (0 ≤ v) := by
  by_cases c : 0 ≤ v
  · rw [show mag v = v by unfold mag; rw [if_neg (by omega)]]; simp [c]
  · rw [decide_eq_false c]
    have e : mag v = -v := by unfold mag; rw [if_pos (by omega)]
    exact dbl_neb _ _ (by omega) (by omega) h0 h1 (by omega)
theorem val_mag (x y : Int) (w : World) : Calls Tryd.prog 37 #[(.agg #[.int .u16 (hi (mag (val x y))), .int .u16 (lo (mag (val x y)))])] w fun e w' => e = .returned (.int .i64 (mag (val x y))) ∧ Below w.heap.size w w' := by
  have e : 0 ≤ mag (val x y) ∧ mag (val x y) ≤ 268435455 := by have := val_lo x y; have := val_hi x y; unfold mag; split <;> omega
  obtain ⟨q0, q1, q2, q3⟩ := hi_lo (mag (val x y)) (by omega) (by omega)
  have k := value_any (hi (mag (val x y))) (lo (mag (val x y))) q0 (by omega) q2 (by omega) w
  rw [val_of _ (by omega) (by omega)] at k
  exact k
set_option maxRecDepth 100000 in
theorem pulses_any (a0 a1 a2 a3 a4 a5 : Int) (ha00 : 0 ≤ a0) (ha01 : a0 < 65536) (ha10 : 0 ≤ a1) (ha11 : a1 < 65536) (ha20 : 0 ≤ a2) (ha21 : a2 < 65536) (ha30 : 0 ≤ a3) (ha31 : a3 < 65536) (ha40 : 0 ≤ a4) (ha41 : a4 < 65536) (ha50 : 0 ≤ a5) (ha51 : a5 < 65536) (w : World) : Calls Tryd.prog 14 #[(.agg #[.int .u16 (a0), .int .u16 (a1), .int .u16 (a2), .int .u16 (a3), .int .u16 (a4), .int .u16 (a5)])] w fun e w' => e = .returned (.agg #[.int .i64 (rnd (val a0 a1) 256), .int .i64 (rnd (val a2 a3) 256), .int .i64 (rnd (val a4 a5) 256)]) ∧ Below w.heap.size w w' := by
  have k := pulses_fn (pk6 a0 a1 a2 a3 a4 a5) (pk6 (hi (mag (val a0 a1))) (lo (mag (val a0 a1))) (hi (mag (val a2 a3))) (lo (mag (val a2 a3))) (hi (mag (val a4 a5))) (lo (mag (val a4 a5)))) (pk6 (hi (val a0 a1)) (lo (val a0 a1)) (hi (val a2 a3)) (lo (val a2 a3)) (hi (val a4 a5)) (lo (val a4 a5))) (pk3 (mag (val a0 a1)) (mag (val a2 a3)) (mag (val a4 a5))) (pkb (decide (0 ≤ (val a0 a1))) (decide (0 ≤ (val a2 a3))) (decide (0 ≤ (val a4 a5)))) (fun i h => by rcases (show i = 0 ∨ i = 1 ∨ i = 2 by omega) with rfl | rfl | rfl <;> exact mag_bd _ _) (fun w => abs_any a0 a1 ha00 ha01 ha10 ha11 w) (fun w => val_mag a0 a1 w) (fun w => canon_any a0 a1 ha00 ha01 ha10 ha11 w) (mag_words _ (val_lo _ _) (val_hi _ _)) (fun w => abs_any a2 a3 ha20 ha21 ha30 ha31 w) (fun w => val_mag a2 a3 w) (fun w => canon_any a2 a3 ha20 ha21 ha30 ha31 w) (mag_words _ (val_lo _ _) (val_hi _ _)) (fun w => abs_any a4 a5 ha40 ha41 ha50 ha51 w) (fun w => val_mag a4 a5 w) (fun w => canon_any a4 a5 ha40 ha41 ha50 ha51 w) (mag_words _ (val_lo _ _) (val_hi _ _)) w
  rw [pg_rnd _ _ 0 (val a0 a1) rfl rfl, pg_rnd _ _ 1 (val a2 a3) rfl rfl, pg_rnd _ _ 2 (val a4 a5) rfl rfl] at k
  exact k
set_option maxRecDepth 100000 in
theorem rpulses_any (a0 a1 a2 a3 a4 a5 : Int) (ha00 : 0 ≤ a0) (ha01 : a0 < 65536) (ha10 : 0 ≤ a1) (ha11 : a1 < 65536) (ha20 : 0 ≤ a2) (ha21 : a2 < 65536) (ha30 : 0 ≤ a3) (ha31 : a3 < 65536) (ha40 : 0 ≤ a4) (ha41 : a4 < 65536) (ha50 : 0 ≤ a5) (ha51 : a5 < 65536) (w : World) : Calls Tryd.prog 15 #[(.agg #[.int .u16 (a0), .int .u16 (a1), .int .u16 (a2), .int .u16 (a3), .int .u16 (a4), .int .u16 (a5)])] w fun e w' => e = .returned (.agg #[.int .i64 (rnd (val a0 a1) 256), .int .i64 (rnd (val a2 a3) 256), .int .i64 (rnd (val a4 a5) 256)]) ∧ Below w.heap.size w w' :=
  rpulses_fn (pk6 a0 a1 a2 a3 a4 a5) (pk3 (val a0 a1) (val a2 a3) (val a4 a5)) (pk3 (rnd (val a0 a1) 256) (rnd (val a2 a3) 256) (rnd (val a4 a5) 256)) (fun w => rvalues_any a0 a1 a2 a3 a4 a5 ha00 ha01 ha10 ha11 ha20 ha21 ha30 ha31 ha40 ha41 ha50 ha51 w) (fun w => rround_any (val a0 a1) 256 (by have := val_lo a0 a1; omega) (by have := val_hi a0 a1; omega) (by omega) (by omega) w) (fun w => rround_any (val a2 a3) 256 (by have := val_lo a2 a3; omega) (by have := val_hi a2 a3; omega) (by omega) (by omega) w) (fun w => rround_any (val a4 a5) 256 (by have := val_lo a4 a5; omega) (by have := val_hi a4 a5; omega) (by omega) (by omega) w) w
set_option maxRecDepth 100000 in
set_option maxHeartbeats 8000000 in
theorem angles_law_of (m0 m1 m2 m3 m4 m5 m6 m7 m8 m9 m10 m11 m12 m13 m14 m15 m16 m17 a0 a1 a2 a3 a4 a5 g0 g1 g2 g3 g4 g5 n0 n1 n2 : Int) (o : Bool)
    (A1 : (∀ w, Calls Tryd.prog 12 #[(.agg #[.int .u16 (m0), .int .u16 (m1), .int .u16 (m2), .int .u16 (m3), .int .u16 (m4), .int .u16 (m5), .int .u16 (m6), .int .u16 (m7), .int .u16 (m8), .int .u16 (m9), .int .u16 (m10), .int .u16 (m11), .int .u16 (m12), .int .u16 (m13), .int .u16 (m14), .int .u16 (m15), .int .u16 (m16), .int .u16 (m17)])] w fun e w' => e = .returned (.tuple #[(.agg #[.int .u16 (g0), .int .u16 (g1), .int .u16 (g2), .int .u16 (g3), .int .u16 (g4), .int .u16 (g5)]), .bool o]) ∧ Below w.heap.size w w')) (A2 : (∀ w, Calls Tryd.prog 13 #[(.agg #[.int .u16 (m0), .int .u16 (m1), .int .u16 (m2), .int .u16 (m3), .int .u16 (m4), .int .u16 (m5), .int .u16 (m6), .int .u16 (m7), .int .u16 (m8), .int .u16 (m9), .int .u16 (m10), .int .u16 (m11), .int .u16 (m12), .int .u16 (m13), .int .u16 (m14), .int .u16 (m15), .int .u16 (m16), .int .u16 (m17)])] w fun e w' => e = .returned (.tuple #[(.agg #[.int .u16 (g0), .int .u16 (g1), .int .u16 (g2), .int .u16 (g3), .int .u16 (g4), .int .u16 (g5)]), .bool o]) ∧ Below w.heap.size w w')) (P1 : (∀ w, Calls Tryd.prog 14 #[(.agg #[.int .u16 (a0), .int .u16 (a1), .int .u16 (a2), .int .u16 (a3), .int .u16 (a4), .int .u16 (a5)])] w fun e w' => e = .returned (.agg #[.int .i64 n0, .int .i64 n1, .int .i64 n2]) ∧ Below w.heap.size w w')) (P2 : (∀ w, Calls Tryd.prog 15 #[(.agg #[.int .u16 (a0), .int .u16 (a1), .int .u16 (a2), .int .u16 (a3), .int .u16 (a4), .int .u16 (a5)])] w fun e w' => e = .returned (.agg #[.int .i64 n0, .int .i64 n1, .int .i64 n2]) ∧ Below w.heap.size w w')) (w : World) (hS : Sines w) :
    Calls Tryd.prog 3 #[(.agg #[.int .u16 (m0), .int .u16 (m1), .int .u16 (m2), .int .u16 (m3), .int .u16 (m4), .int .u16 (m5), .int .u16 (m6), .int .u16 (m7), .int .u16 (m8), .int .u16 (m9), .int .u16 (m10), .int .u16 (m11), .int .u16 (m12), .int .u16 (m13), .int .u16 (m14), .int .u16 (m15), .int .u16 (m16), .int .u16 (m17)]), (.agg #[.int .u16 (a0), .int .u16 (a1), .int .u16 (a2), .int .u16 (a3), .int .u16 (a4), .int .u16 (a5)])] w fun e w' => e = .returned (.bool true) ∧ Below w.heap.size w w' := by
  have hev := @eq_vec
  have hen := @eq_n3
  go_enter Tryd.func3, Tryd.ntmps3
  go_wp2_with fail
  refine (lives34 _ (hS.on (bl_alloc (bl_alloc (Below.refl _ _) _) _))).mono ?_
  rintro _ r0 ⟨rfl, hb0⟩
  have f0_2 : r0.rangeAt (w.heap.size) 0 [.int .u16 m0, .int .u16 m1, .int .u16 m2, .int .u16 m3, .int .u16 m4, .int .u16 m5, .int .u16 m6, .int .u16 m7, .int .u16 m8, .int .u16 m9, .int .u16 m10, .int .u16 m11, .int .u16 m12, .int .u16 m13, .int .u16 m14, .int .u16 m15, .int .u16 m16, .int .u16 m17] := range_on (w := _) (range_row (c := #[.int .u16 m0, .int .u16 m1, .int .u16 m2, .int .u16 m3, .int .u16 m4, .int .u16 m5, .int .u16 m6, .int .u16 m7, .int .u16 m8, .int .u16 m9, .int .u16 m10, .int .u16 m11, .int .u16 m12, .int .u16 m13, .int .u16 m14, .int .u16 m15, .int .u16 m16, .int .u16 m17]) (t := 29) (fr := (0, 0)) (by repeat (first | exact heap_new (by simp only [World.size_alloc]) | exact heap_new rfl | refine heap_old (by (try simp only [World.size_alloc]); omega) ?_))) hb0 (by (try simp only [World.size_alloc]); omega)
  have f0_3 : r0.rangeAt (w.heap.size + 1) 0 [.int .u16 a0, .int .u16 a1, .int .u16 a2, .int .u16 a3, .int .u16 a4, .int .u16 a5] := range_on (w := _) (range_row (c := #[.int .u16 a0, .int .u16 a1, .int .u16 a2, .int .u16 a3, .int .u16 a4, .int .u16 a5]) (t := 27) (fr := (0, 0)) (by repeat (first | exact heap_new (by simp only [World.size_alloc]) | exact heap_new rfl | refine heap_old (by (try simp only [World.size_alloc]); omega) ?_))) hb0 (by (try simp only [World.size_alloc]); omega)
  have hs0 := hb0.size
  try simp only [World.size_alloc] at hs0
  have hw0 : Below w.heap.size w r0 := (by repeat' (first | (with_reducible exact Below.refl _ _) | (with_reducible refine bl_set ?_ _ ?_) | (with_reducible refine bl_alloc ?_ _) | (with_reducible refine bl_drew ?_) | (with_reducible refine bl_via (by with_reducible assumption) ?_) | (with_reducible assumption) | omega | (simp only []; omega) | (simp; omega)))
  clear hb0
  go_wp2_with (first | fail | (refine WL.h ?_; first | (refine wl_load (op := { dst := some 12, op := .load 29 (.tmp 2), type := _, pos := _, after := _, guard := _ }) rfl 29 (.tmp 2) rfl (w.heap.size) 0 rfl [.int .u16 m0, .int .u16 m1, .int .u16 m2, .int .u16 m3, .int .u16 m4, .int .u16 m5, .int .u16 m6, .int .u16 m7, .int .u16 m8, .int .u16 m9, .int .u16 m10, .int .u16 m11, .int .u16 m12, .int .u16 m13, .int .u16 m14, .int .u16 m15, .int .u16 m16, .int .u16 m17] _ f0_2 hu_mat rfl hi_mat ?_; simp only [Act.put, List.setIfInBounds_toArray, List.set_cons_zero, List.set_cons_succ])))
  refine (A1 _).mono ?_
  rintro _ r1 ⟨rfl, hb1⟩
  have hs1 := hb1.size
  have hw1 := bl_via hb1 hw0
  have f1_2 := range_on f0_2 hb1 (by omega)
  have f1_3 := range_on f0_3 hb1 (by omega)
  clear hb1 hw0 f0_2 f0_3
  go_wp2_with (first | fail | (refine WL.h ?_; first | (refine wl_store (op := { dst := none, op := .store 27 (.tmp 5) (.tmp 14), type := _, pos := _, after := _, guard := none }) rfl 27 (.tmp 5) (.tmp 14) rfl r1.heap.size 0 _ rfl rfl (there_new (c := #[.int .u16 0, .int .u16 0, .int .u16 0, .int .u16 0, .int .u16 0, .int .u16 0]) (t := 27) (by simp)) hi_vec (by simp [Value.oneCell']) ?_; refine wpList_gen (fun W => Below w.heap.size w W ∧ W.heap.size = r1.heap.size + 1 ∧ W.rangeAt (w.heap.size) 0 [.int .u16 m0, .int .u16 m1, .int .u16 m2, .int .u16 m3, .int .u16 m4, .int .u16 m5, .int .u16 m6, .int .u16 m7, .int .u16 m8, .int .u16 m9, .int .u16 m10, .int .u16 m11, .int .u16 m12, .int .u16 m13, .int .u16 m14, .int .u16 m15, .int .u16 m16, .int .u16 m17] ∧ W.rangeAt (w.heap.size + 1) 0 [.int .u16 a0, .int .u16 a1, .int .u16 a2, .int .u16 a3, .int .u16 a4, .int .u16 a5] ∧ W.rangeAt r1.heap.size 0 [.int .u16 g0, .int .u16 g1, .int .u16 g2, .int .u16 g3, .int .u16 g4, .int .u16 g5]) ⟨bl_cells _ _ _ _ (bl_alloc hw1 _) (by omega), size_store, range_store f1_2 (by omega), range_store f1_3 (by omega), range_here (by simp)⟩ ?_; clear f1_2 f1_3; rintro s1 ⟨hws1, hss1, fs1_2, fs1_3, fs1_5⟩; simp only [Act.put, List.setIfInBounds_toArray, List.set_cons_zero, List.set_cons_succ]) | (refine wl_load (op := { dst := some 17, op := .load 29 (.tmp 2), type := _, pos := _, after := _, guard := _ }) rfl 29 (.tmp 2) rfl (w.heap.size) 0 rfl [.int .u16 m0, .int .u16 m1, .int .u16 m2, .int .u16 m3, .int .u16 m4, .int .u16 m5, .int .u16 m6, .int .u16 m7, .int .u16 m8, .int .u16 m9, .int .u16 m10, .int .u16 m11, .int .u16 m12, .int .u16 m13, .int .u16 m14, .int .u16 m15, .int .u16 m16, .int .u16 m17] _ fs1_2 hu_mat rfl hi_mat ?_; simp only [Act.put, List.setIfInBounds_toArray, List.set_cons_zero, List.set_cons_succ])))
  refine (A2 _).mono ?_
  rintro _ r2 ⟨rfl, hb2⟩
  have hs2 := hb2.size
  have hw2 := bl_via hb2 hws1
  have f2_2 := range_on fs1_2 hb2 (by omega)
  have f2_3 := range_on fs1_3 hb2 (by omega)
  have f2_5 := range_on fs1_5 hb2 (by omega)
  clear hb2 hws1 fs1_2 fs1_3 fs1_5
  go_wp2_with (first | fail | (refine WL.h ?_; (refine wl_store (op := { dst := none, op := .store 27 (.tmp 7) (.tmp 19), type := _, pos := _, after := _, guard := none }) rfl 27 (.tmp 7) (.tmp 19) rfl r2.heap.size 0 _ rfl rfl (there_new (c := #[.int .u16 0, .int .u16 0, .int .u16 0, .int .u16 0, .int .u16 0, .int .u16 0]) (t := 27) (by simp)) hi_vec (by simp [Value.oneCell']) ?_; refine wpList_gen (fun W => Below w.heap.size w W ∧ W.heap.size = r2.heap.size + 1 ∧ W.rangeAt (w.heap.size) 0 [.int .u16 m0, .int .u16 m1, .int .u16 m2, .int .u16 m3, .int .u16 m4, .int .u16 m5, .int .u16 m6, .int .u16 m7, .int .u16 m8, .int .u16 m9, .int .u16 m10, .int .u16 m11, .int .u16 m12, .int .u16 m13, .int .u16 m14, .int .u16 m15, .int .u16 m16, .int .u16 m17] ∧ W.rangeAt (w.heap.size + 1) 0 [.int .u16 a0, .int .u16 a1, .int .u16 a2, .int .u16 a3, .int .u16 a4, .int .u16 a5] ∧ W.rangeAt (r1.heap.size) 0 [.int .u16 g0, .int .u16 g1, .int .u16 g2, .int .u16 g3, .int .u16 g4, .int .u16 g5] ∧ W.rangeAt r2.heap.size 0 [.int .u16 g0, .int .u16 g1, .int .u16 g2, .int .u16 g3, .int .u16 g4, .int .u16 g5]) ⟨bl_cells _ _ _ _ (bl_alloc hw2 _) (by omega), size_store, range_store f2_2 (by omega), range_store f2_3 (by omega), range_store f2_5 (by omega), range_here (by simp)⟩ ?_; clear f2_2 f2_3 f2_5; rintro s2 ⟨hws2, hss2, fs2_2, fs2_3, fs2_5, fs2_7⟩; simp only [Act.put, List.setIfInBounds_toArray, List.set_cons_zero, List.set_cons_succ])))
  have hecr3 := @Ext.cell
  refine wp_region_ext (by kernel_rfl) (by kernel_rfl) ?_
  repeat (first | go_big_quiet_skip | (go_big_quiet_want; first | (refine QW.h ?_; first | (refine qw_load (op := { dst := some 21, op := .load 27 (.tmp 5), type := _, pos := _, after := _, guard := _ }) 27 (.tmp 5) rfl (r1.heap.size) 0 rfl [.int .u16 g0, .int .u16 g1, .int .u16 g2, .int .u16 g3, .int .u16 g4, .int .u16 g5] _ (range_ext fs2_5 (by omega)) hu_vec rfl hi_vec ?_; simp only [Act.put, List.setIfInBounds_toArray, List.set_cons_zero, List.set_cons_succ]; go_big_quiet_on) | (refine qw_load (op := { dst := some 22, op := .load 27 (.tmp 7), type := _, pos := _, after := _, guard := _ }) 27 (.tmp 7) rfl (r2.heap.size) 0 rfl [.int .u16 g0, .int .u16 g1, .int .u16 g2, .int .u16 g3, .int .u16 g4, .int .u16 g5] _ (range_ext fs2_7 (by omega)) hu_vec rfl hi_vec ?_; simp only [Act.put, List.setIfInBounds_toArray, List.set_cons_zero, List.set_cons_succ]; go_big_quiet_on) | (refine qw_load (op := { dst := some 30, op := .load 27 (.tmp 3), type := _, pos := _, after := _, guard := _ }) 27 (.tmp 3) rfl (w.heap.size + 1) 0 rfl [.int .u16 a0, .int .u16 a1, .int .u16 a2, .int .u16 a3, .int .u16 a4, .int .u16 a5] _ (range_ext fs2_3 (by omega)) hu_vec rfl hi_vec ?_; simp only [Act.put, List.setIfInBounds_toArray, List.set_cons_zero, List.set_cons_succ]; go_big_quiet_on) | (refine qw_load (op := { dst := some 32, op := .load 27 (.tmp 3), type := _, pos := _, after := _, guard := _ }) 27 (.tmp 3) rfl (w.heap.size + 1) 0 rfl [.int .u16 a0, .int .u16 a1, .int .u16 a2, .int .u16 a3, .int .u16 a4, .int .u16 a5] _ (range_ext fs2_3 (by omega)) hu_vec rfl hi_vec ?_; simp only [Act.put, List.setIfInBounds_toArray, List.set_cons_zero, List.set_cons_succ]; go_big_quiet_on)) | (go_big_quiet_op; first | go_big_quiet_on | (go_big_quiet_call ((first | fail | (go_at_call 14; with_reducible exact ext_call (P1 _)) | (go_at_call 15; with_reducible exact ext_call (P2 _))))))))
  clear hecr3
  refine wpQuiet_nil ?_
  rintro r3 ⟨⟨_, hbr3⟩, rfl⟩
  obtain ⟨hcr3, hfr3⟩ := bcell hbr3
  have hzr3 := hbr3.size
  try simp only [World.size_alloc, World.size_setCell, World.size_drew] at hzr3
  have hs3 := hbr3.size
  have hw3 := bl_via hbr3 hws2
  have f3_2 := range_on fs2_2 hbr3 (by omega)
  have f3_3 := range_on fs2_3 hbr3 (by omega)
  have f3_5 := range_on fs2_5 hbr3 (by omega)
  have f3_7 := range_on fs2_7 hbr3 (by omega)
  clear hws2 fs2_2 fs2_3 fs2_5 fs2_7
  go_wp2
  go_ret
  exact ⟨rfl, (by repeat' (first | (with_reducible exact Below.refl _ _) | (with_reducible refine bl_set ?_ _ ?_) | (with_reducible refine bl_alloc ?_ _) | (with_reducible refine bl_drew ?_) | (with_reducible refine bl_via (by with_reducible assumption) ?_) | (with_reducible assumption) | omega | (simp only []; omega) | (simp; omega)))⟩
theorem angles_law (m0 m1 m2 m3 m4 m5 m6 m7 m8 m9 m10 m11 m12 m13 m14 m15 m16 m17 a0 a1 a2 a3 a4 a5 : Int) (hm00 : 0 ≤ m0) (hm01 : m0 < 65536) (hm10 : 0 ≤ m1) (hm11 : m1 < 65536) (hm20 : 0 ≤ m2) (hm21 : m2 < 65536) (hm30 : 0 ≤ m3) (hm31 : m3 < 65536) (hm40 : 0 ≤ m4) (hm41 : m4 < 65536) (hm50 : 0 ≤ m5) (hm51 : m5 < 65536) (hm60 : 0 ≤ m6) (hm61 : m6 < 65536) (hm70 : 0 ≤ m7) (hm71 : m7 < 65536) (hm80 : 0 ≤ m8) (hm81 : m8 < 65536) (hm90 : 0 ≤ m9) (hm91 : m9 < 65536) (hm100 : 0 ≤ m10) (hm101 : m10 < 65536) (hm110 : 0 ≤ m11) (hm111 : m11 < 65536) (hm120 : 0 ≤ m12) (hm121 : m12 < 65536) (hm130 : 0 ≤ m13) (hm131 : m13 < 65536) (hm140 : 0 ≤ m14) (hm141 : m14 < 65536) (hm150 : 0 ≤ m15) (hm151 : m15 < 65536) (hm160 : 0 ≤ m16) (hm161 : m16 < 65536) (hm170 : 0 ≤ m17) (hm171 : m17 < 65536) (ha00 : 0 ≤ a0) (ha01 : a0 < 65536) (ha10 : 0 ≤ a1) (ha11 : a1 < 65536) (ha20 : 0 ≤ a2) (ha21 : a2 < 65536) (ha30 : 0 ≤ a3) (ha31 : a3 < 65536) (ha40 : 0 ≤ a4) (ha41 : a4 < 65536) (ha50 : 0 ≤ a5) (ha51 : a5 < 65536) (w : World) (hS : Sines w) : Calls Tryd.prog 3 #[(.agg #[.int .u16 (m0), .int .u16 (m1), .int .u16 (m2), .int .u16 (m3), .int .u16 (m4), .int .u16 (m5), .int .u16 (m6), .int .u16 (m7), .int .u16 (m8), .int .u16 (m9), .int .u16 (m10), .int .u16 (m11), .int .u16 (m12), .int .u16 (m13), .int .u16 (m14), .int .u16 (m15), .int .u16 (m16), .int .u16 (m17)]), (.agg #[.int .u16 (a0), .int .u16 (a1), .int .u16 (a2), .int .u16 (a3), .int .u16 (a4), .int .u16 (a5)])] w fun e w' => e = .returned (.bool true) ∧ Below w.heap.size w w' :=
  angles_law_of m0 m1 m2 m3 m4 m5 m6 m7 m8 m9 m10 m11 m12 m13 m14 m15 m16 m17 a0 a1 a2 a3 a4 a5 _ _ _ _ _ _ _ _ _ _ (fun w => angles_any m0 m1 m2 m3 m4 m5 m6 m7 m8 m9 m10 m11 m12 m13 m14 m15 m16 m17 hm00 hm01 hm10 hm11 hm20 hm21 hm30 hm31 hm40 hm41 hm50 hm51 hm60 hm61 hm70 hm71 hm80 hm81 hm90 hm91 hm100 hm101 hm110 hm111 hm120 hm121 hm130 hm131 hm140 hm141 hm150 hm151 hm160 hm161 hm170 hm171 w) (fun w => rangles_any m0 m1 m2 m3 m4 m5 m6 m7 m8 m9 m10 m11 m12 m13 m14 m15 m16 m17 hm00 hm01 hm10 hm11 hm20 hm21 hm30 hm31 hm40 hm41 hm50 hm51 hm60 hm61 hm70 hm71 hm80 hm81 hm90 hm91 hm100 hm101 hm110 hm111 hm120 hm121 hm130 hm131 hm140 hm141 hm150 hm151 hm160 hm161 hm170 hm171 w) (fun w => pulses_any a0 a1 a2 a3 a4 a5 ha00 ha01 ha10 ha11 ha20 ha21 ha30 ha31 ha40 ha41 ha50 ha51 w) (fun w => rpulses_any a0 a1 a2 a3 a4 a5 ha00 ha01 ha10 ha11 ha20 ha21 ha30 ha31 ha40 ha41 ha50 ha51 w) w hS
end Go.Proofs.YtbbhppjamighdaaDoor
