/- The walk of the law DescentThrottles: for every input it returns true. -/
import Derived.Test.YtpmocegfiniafaaQk
namespace Go.Proofs.Ytpmocegfiniafaa
set_option linter.unusedSimpArgs false
set_option linter.unusedVariables false
open Go.RowKit

theorem size35 (v : Int) (h0 : -9223372036854775807 ≤ v) (h1 : v ≤ 9223372036854775807) (w : World) :
    Calls Try.prog 22 #[.int .i64 v] w fun e w' => e = .returned (.int .i64 (mag v)) ∧ w = w' := by
  have hm : max v (-v) = mag v := by unfold mag; split <;> omega
  go_enter Try.func22, Try.ntmps22
  go_wp2
  go_ret
  exact ⟨rfl, rfl⟩
theorem thrv_cases (v a b c d : Int) (h : 0 ≤ a ∧ a ≤ b ∧ b ≤ c ∧ c ≤ d) : (v ≤ a ∧ thrv v a b c d = a) ∨ (a < v ∧ v ≤ b ∧ thrv v a b c d = v) ∨ (b < v ∧ v < c ∧ 2 * v ≤ b + c ∧ thrv v a b c d = b) ∨ (b < v ∧ v < c ∧ b + c < 2 * v ∧ thrv v a b c d = c) ∨ (b < v ∧ c ≤ v ∧ v ≤ d ∧ thrv v a b c d = v) ∨ (d < v ∧ thrv v a b c d = d) := by
  rcases (show v ≤ a ∨ (a < v ∧ v ≤ b) ∨ (b < v ∧ v < c ∧ 2 * v ≤ b + c) ∨ (b < v ∧ v < c ∧ b + c < 2 * v) ∨ (b < v ∧ c ≤ v ∧ v ≤ d) ∨ d < v by omega) with g | g | g | g | g | g
  · have e1 : nearv v a b = a := by unfold nearv; rw [if_pos g]
    have e2 : nearv v c d = c := by unfold nearv; rw [if_pos (by omega)]
    refine .inl ⟨g, ?_⟩; unfold thrv; rw [e1, e2, if_pos (by omega)]
  · have e1 : nearv v a b = v := by unfold nearv; rw [if_neg (by omega), if_neg (by omega)]
    have e2 : nearv v c d = c := by unfold nearv; rw [if_pos (by omega)]
    refine .inr (.inl ⟨g.1, g.2, ?_⟩); unfold thrv; rw [e1, e2, if_pos (by omega)]
  · have e1 : nearv v a b = b := by unfold nearv; rw [if_neg (by omega), if_pos (by omega)]
    have e2 : nearv v c d = c := by unfold nearv; rw [if_pos (by omega)]
    refine .inr (.inr (.inl ⟨g.1, g.2.1, g.2.2, ?_⟩)); unfold thrv; rw [e1, e2, if_pos (by omega)]
  · have e1 : nearv v a b = b := by unfold nearv; rw [if_neg (by omega), if_pos (by omega)]
    have e2 : nearv v c d = c := by unfold nearv; rw [if_pos (by omega)]
    refine .inr (.inr (.inr (.inl ⟨g.1, g.2.1, g.2.2, ?_⟩))); unfold thrv; rw [e1, e2, if_neg (by omega)]
  · have e1 : nearv v a b = b := by unfold nearv; rw [if_neg (by omega), if_pos (by omega)]
    have e2 : nearv v c d = v := by
      unfold nearv
      by_cases q : v ≤ c
      · rw [if_pos q]; omega
      · rw [if_neg q, if_neg (by omega)]
    refine .inr (.inr (.inr (.inr (.inl ⟨g.1, g.2.1, g.2.2, ?_⟩)))); unfold thrv; rw [e1, e2]; split <;> omega
  · have e2 : nearv v c d = d := by
      unfold nearv
      rw [if_neg (by omega), if_pos (by omega)]
    have e1 : nearv v a b = b := by
      unfold nearv
      rw [if_neg (by omega), if_pos (by omega)]
    refine .inr (.inr (.inr (.inr (.inr ⟨g, ?_⟩)))); unfold thrv; rw [e1, e2]; split <;> omega
theorem thrv_mono (v w a b c d : Int) (h : 0 ≤ a ∧ a ≤ b ∧ b ≤ c ∧ c ≤ d) (hv : v ≤ w) : thrv v a b c d ≤ thrv w a b c d := by
  have k1 := thrv_cases v a b c d h
  have k2 := thrv_cases w a b c d h
  generalize thrv v a b c d = x at *
  generalize thrv w a b c d = y at *
  rcases k1 with k | k | k | k | k | k <;> rcases k2 with l | l | l | l | l | l <;> omega
theorem thrv_alw (v a b c d : Int) (h : 0 ≤ a ∧ a ≤ b ∧ b ≤ c ∧ c ≤ d) : alw (thrv v a b c d) a b c d = true ∧ (alw v a b c d = true → thrv v a b c d = v) := by
  have k1 := thrv_cases v a b c d h
  have e : ∀ x, (alw x a b c d = true) = ((a ≤ x ∧ x ≤ b) ∨ (c ≤ x ∧ x ≤ d)) := fun x => by unfold alw; simp
  rw [e, e]
  generalize thrv v a b c d = x at *
  rcases k1 with k | k | k | k | k | k <;> exact ⟨by omega, fun _ => by omega⟩
theorem thrv_near (v a b c d l : Int) (h : 0 ≤ a ∧ a ≤ b ∧ b ≤ c ∧ c ≤ d) (hl : l = a ∨ l = b ∨ l = c ∨ l = d) : mag (v - thrv v a b c d) ≤ mag (v - l) := by
  have k1 := thrv_cases v a b c d h
  generalize thrv v a b c d = x at *
  have m1 : mag (v - x) = if v - x < 0 then -(v - x) else v - x := rfl
  have m2 : mag (v - l) = if v - l < 0 then -(v - l) else v - l := rfl
  rw [m1, m2]
  rcases k1 with k | k | k | k | k | k <;> split <;> split <;> omega
theorem thrv_bd (v a b c d : Int) (v0 : -268435455 ≤ v) (v1 : v ≤ 268435455) (h : 0 ≤ a ∧ a ≤ b ∧ b ≤ c ∧ c ≤ d) (hd : d ≤ 268435455) : -268435455 ≤ thrv v a b c d ∧ thrv v a b c d ≤ 268435455 := by
  have k1 := thrv_cases v a b c d h
  generalize thrv v a b c d = x at *
  rcases k1 with k | k | k | k | k | k <;> omega
set_option maxHeartbeats 4000000 in
theorem throttles_bad (e0 e1 e2 e3 e4 e5 e6 e7 v0 v1 o0 o1 : Int) (he00 : 0 ≤ e0) (he01 : e0 < 65536) (he10 : 0 ≤ e1) (he11 : e1 < 65536) (he20 : 0 ≤ e2) (he21 : e2 < 65536) (he30 : 0 ≤ e3) (he31 : e3 < 65536) (he40 : 0 ≤ e4) (he41 : e4 < 65536) (he50 : 0 ≤ e5) (he51 : e5 < 65536) (he60 : 0 ≤ e6) (he61 : e6 < 65536) (he70 : 0 ≤ e7) (he71 : e7 < 65536) (hv00 : 0 ≤ v0) (hv01 : v0 < 65536) (hv10 : 0 ≤ v1) (hv11 : v1 < 65536) (ho00 : 0 ≤ o0) (ho01 : o0 < 65536) (ho10 : 0 ≤ o1) (ho11 : o1 < 65536) (C1 : (∀ w, Calls Try.prog 18 #[(.agg #[.int .u16 (e0), .int .u16 (e1), .int .u16 (e2), .int .u16 (e3), .int .u16 (e4), .int .u16 (e5), .int .u16 (e6), .int .u16 (e7)]), (.agg #[.int .u16 (v0), .int .u16 (v1)])] w fun e w' => e = .returned (.tuple #[(.agg #[.int .u16 (0), .int .u16 (0)]), .int .i64 2]) ∧ Below w.heap.size w w')) (C2 : (∀ w, Calls Try.prog 18 #[(.agg #[.int .u16 (e0), .int .u16 (e1), .int .u16 (e2), .int .u16 (e3), .int .u16 (e4), .int .u16 (e5), .int .u16 (e6), .int .u16 (e7)]), (.agg #[.int .u16 (o0), .int .u16 (o1)])] w fun e w' => e = .returned (.tuple #[(.agg #[.int .u16 (0), .int .u16 (0)]), .int .i64 2]) ∧ Below w.heap.size w w')) (C3 : (∀ w, Calls Try.prog 19 #[(.agg #[.int .u16 (e0), .int .u16 (e1), .int .u16 (e2), .int .u16 (e3), .int .u16 (e4), .int .u16 (e5), .int .u16 (e6), .int .u16 (e7)])] w fun e w' => e = .returned (.bool false) ∧ Below w.heap.size w w')) (w : World) :
    Calls Try.prog 6 #[(.agg #[.int .u16 (e0), .int .u16 (e1), .int .u16 (e2), .int .u16 (e3), .int .u16 (e4), .int .u16 (e5), .int .u16 (e6), .int .u16 (e7)]), (.agg #[.int .u16 (v0), .int .u16 (v1)]), (.agg #[.int .u16 (o0), .int .u16 (o1)])] w fun e w' => e = .returned (.bool true) ∧ Below w.heap.size w w' := by
  have heq := @eq_dbl
  go_enter Try.func6, Try.ntmps6
  go_wp2_with fail
  refine (lives35 _).mono ?_
  rintro _ r1 ⟨rfl, hbr1⟩
  obtain ⟨hcr1, hfr1⟩ := bcell hbr1
  have hzr1 := hbr1.size
  try simp only [World.size_alloc, World.size_setCell, World.size_drew] at hzr1
  have hlr1w0 : w.heap.size < r1.heap.size := by omega
  have hlr1w1 : w.heap.size + 1 < r1.heap.size := by omega
  have hlr1w2 : w.heap.size + 1 + 1 < r1.heap.size := by omega
  go_wp2_with fail
  refine (C1 _).mono ?_
  rintro _ r2 ⟨rfl, hbr2⟩
  obtain ⟨hcr2, hfr2⟩ := bcell hbr2
  have hzr2 := hbr2.size
  try simp only [World.size_alloc, World.size_setCell, World.size_drew] at hzr2
  have hlr2w0 : w.heap.size < r2.heap.size := by omega
  have hlr2w1 : w.heap.size + 1 < r2.heap.size := by omega
  have hlr2w2 : w.heap.size + 1 + 1 < r2.heap.size := by omega
  go_wp2_with fail
  refine (C2 _).mono ?_
  rintro _ r3 ⟨rfl, hbr3⟩
  obtain ⟨hcr3, hfr3⟩ := bcell hbr3
  have hzr3 := hbr3.size
  try simp only [World.size_alloc, World.size_setCell, World.size_drew] at hzr3
  have hlr3w0 : w.heap.size < r3.heap.size := by omega
  have hlr3w1 : w.heap.size + 1 < r3.heap.size := by omega
  have hlr3w2 : w.heap.size + 1 + 1 < r3.heap.size := by omega
  have hlr3r20 : r2.heap.size < r3.heap.size := by omega
  go_wp2_with fail
  refine (C3 _).mono ?_
  rintro _ r4 ⟨rfl, hbr4⟩
  obtain ⟨hcr4, hfr4⟩ := bcell hbr4
  have hzr4 := hbr4.size
  try simp only [World.size_alloc, World.size_setCell, World.size_drew] at hzr4
  have hlr4w0 : w.heap.size < r4.heap.size := by omega
  have hlr4w1 : w.heap.size + 1 < r4.heap.size := by omega
  have hlr4w2 : w.heap.size + 1 + 1 < r4.heap.size := by omega
  have hlr4r20 : r2.heap.size < r4.heap.size := by omega
  have hlr4r30 : r3.heap.size < r4.heap.size := by omega
  go_wp2
  go_ret
  exact ⟨rfl, (by repeat' (first | (with_reducible exact Below.refl _ _) | (with_reducible refine bl_set ?_ _ ?_) | (with_reducible refine bl_alloc ?_ _) | (with_reducible refine bl_drew ?_) | (with_reducible refine bl_via (by with_reducible assumption) ?_) | (with_reducible assumption) | omega | (simp only []; omega) | (simp; omega)))⟩
set_option maxRecDepth 100000 in
set_option maxHeartbeats 8000000 in
theorem throttles_false_false (e0 e1 e2 e3 e4 e5 e6 e7 v0 v1 o0 o1 x0 x1 y0 y1 v o x y s s1 s2 s3 s4 l0 l1 l2 l3 : Int)
    (C1 : (∀ w, Calls Try.prog 18 #[(.agg #[.int .u16 (e0), .int .u16 (e1), .int .u16 (e2), .int .u16 (e3), .int .u16 (e4), .int .u16 (e5), .int .u16 (e6), .int .u16 (e7)]), (.agg #[.int .u16 (v0), .int .u16 (v1)])] w fun e w' => e = .returned (.tuple #[(.agg #[.int .u16 (x0), .int .u16 (x1)]), .int .i64 0]) ∧ Below w.heap.size w w'))
    (C2 : (∀ w, Calls Try.prog 18 #[(.agg #[.int .u16 (e0), .int .u16 (e1), .int .u16 (e2), .int .u16 (e3), .int .u16 (e4), .int .u16 (e5), .int .u16 (e6), .int .u16 (e7)]), (.agg #[.int .u16 (o0), .int .u16 (o1)])] w fun e w' => e = .returned (.tuple #[(.agg #[.int .u16 (y0), .int .u16 (y1)]), .int .i64 0]) ∧ Below w.heap.size w w'))
    (C3 : (∀ w, Calls Try.prog 19 #[(.agg #[.int .u16 (e0), .int .u16 (e1), .int .u16 (e2), .int .u16 (e3), .int .u16 (e4), .int .u16 (e5), .int .u16 (e6), .int .u16 (e7)])] w fun e w' => e = .returned (.bool true) ∧ Below w.heap.size w w'))
    (C4 : (∀ w, Calls Try.prog 20 #[(.agg #[.int .u16 (e0), .int .u16 (e1), .int .u16 (e2), .int .u16 (e3), .int .u16 (e4), .int .u16 (e5), .int .u16 (e6), .int .u16 (e7)]), (.agg #[.int .u16 (v0), .int .u16 (v1)])] w fun e w' => e = .returned (.agg #[.int .u16 (x0), .int .u16 (x1)]) ∧ Below w.heap.size w w'))
    (V1 : (∀ w, Calls Try.prog 12 #[(.agg #[.int .u16 (v0), .int .u16 (v1)])] w fun e w' => e = .returned (.int .i64 v) ∧ Below w.heap.size w w'))
    (V2 : (∀ w, Calls Try.prog 12 #[(.agg #[.int .u16 (o0), .int .u16 (o1)])] w fun e w' => e = .returned (.int .i64 o) ∧ Below w.heap.size w w'))
    (V3 : (∀ w, Calls Try.prog 12 #[(.agg #[.int .u16 (x0), .int .u16 (x1)])] w fun e w' => e = .returned (.int .i64 x) ∧ Below w.heap.size w w'))
    (V4 : (∀ w, Calls Try.prog 12 #[(.agg #[.int .u16 (y0), .int .u16 (y1)])] w fun e w' => e = .returned (.int .i64 y) ∧ Below w.heap.size w w'))
    (A1 : (∀ w, Calls Try.prog 21 #[(.agg #[.int .u16 (e0), .int .u16 (e1), .int .u16 (e2), .int .u16 (e3), .int .u16 (e4), .int .u16 (e5), .int .u16 (e6), .int .u16 (e7)]), .int .i64 x] w fun e w' => e = .returned (.bool true) ∧ Below w.heap.size w w'))
    (A2 : (∀ w, Calls Try.prog 21 #[(.agg #[.int .u16 (e0), .int .u16 (e1), .int .u16 (e2), .int .u16 (e3), .int .u16 (e4), .int .u16 (e5), .int .u16 (e6), .int .u16 (e7)]), .int .i64 v] w fun e w' => e = .returned (.bool false) ∧ Below w.heap.size w w'))
    (vb0 : -268435455 ≤ v) (vb1 : v ≤ 268435455) (xb0 : -268435455 ≤ x) (xb1 : x ≤ 268435455)
    (S0 : (∀ w, Calls Try.prog 22 #[.int .i64 (v - x)] w fun e w' => e = .returned (.int .i64 s) ∧ w = w'))
    (L0 : (∀ w, Calls Try.prog 12 #[(.agg #[.int .u16 (e0), .int .u16 (e1)])] w fun e w' => e = .returned (.int .i64 l0) ∧ Below w.heap.size w w'))
    (lb0 : -268435455 ≤ l0) (lc0 : l0 ≤ 268435455)
    (S1 : (∀ w, Calls Try.prog 22 #[.int .i64 (v - l0)] w fun e w' => e = .returned (.int .i64 s1) ∧ w = w'))
    (q0 : decide (s1 < s) = false)
    (L1 : (∀ w, Calls Try.prog 12 #[(.agg #[.int .u16 (e2), .int .u16 (e3)])] w fun e w' => e = .returned (.int .i64 l1) ∧ Below w.heap.size w w'))
    (lb1 : -268435455 ≤ l1) (lc1 : l1 ≤ 268435455)
    (S2 : (∀ w, Calls Try.prog 22 #[.int .i64 (v - l1)] w fun e w' => e = .returned (.int .i64 s2) ∧ w = w'))
    (q1 : decide (s2 < s) = false)
    (L2 : (∀ w, Calls Try.prog 12 #[(.agg #[.int .u16 (e4), .int .u16 (e5)])] w fun e w' => e = .returned (.int .i64 l2) ∧ Below w.heap.size w w'))
    (lb2 : -268435455 ≤ l2) (lc2 : l2 ≤ 268435455)
    (S3 : (∀ w, Calls Try.prog 22 #[.int .i64 (v - l2)] w fun e w' => e = .returned (.int .i64 s3) ∧ w = w'))
    (q2 : decide (s3 < s) = false)
    (L3 : (∀ w, Calls Try.prog 12 #[(.agg #[.int .u16 (e6), .int .u16 (e7)])] w fun e w' => e = .returned (.int .i64 l3) ∧ Below w.heap.size w w'))
    (lb3 : -268435455 ≤ l3) (lc3 : l3 ≤ 268435455)
    (S4 : (∀ w, Calls Try.prog 22 #[.int .i64 (v - l3)] w fun e w' => e = .returned (.int .i64 s4) ∧ w = w'))
    (q3 : decide (s4 < s) = false)
    (dv : decide (v ≤ o) = false) (w : World) :
    Calls Try.prog 6 #[(.agg #[.int .u16 (e0), .int .u16 (e1), .int .u16 (e2), .int .u16 (e3), .int .u16 (e4), .int .u16 (e5), .int .u16 (e6), .int .u16 (e7)]), (.agg #[.int .u16 (v0), .int .u16 (v1)]), (.agg #[.int .u16 (o0), .int .u16 (o1)])] w fun e w' => e = .returned (.bool true) ∧ Below w.heap.size w w' := by
  have heq := @eq_dbl
  skip
  go_enter Try.func6, Try.ntmps6
  go_wp2_with fail
  refine (lives35 _).mono ?_
  rintro _ r1 ⟨rfl, hbr1⟩
  obtain ⟨hcr1, hfr1⟩ := bcell hbr1
  have hzr1 := hbr1.size
  try simp only [World.size_alloc, World.size_setCell, World.size_drew] at hzr1
  have hlr1w0 : w.heap.size < r1.heap.size := by omega
  have hlr1w1 : w.heap.size + 1 < r1.heap.size := by omega
  have hlr1w2 : w.heap.size + 1 + 1 < r1.heap.size := by omega
  go_wp2_with fail
  refine (C1 _).mono ?_
  rintro _ r2 ⟨rfl, hbr2⟩
  obtain ⟨hcr2, hfr2⟩ := bcell hbr2
  have hzr2 := hbr2.size
  try simp only [World.size_alloc, World.size_setCell, World.size_drew] at hzr2
  have hlr2w0 : w.heap.size < r2.heap.size := by omega
  have hlr2w1 : w.heap.size + 1 < r2.heap.size := by omega
  have hlr2w2 : w.heap.size + 1 + 1 < r2.heap.size := by omega
  go_wp2_with fail
  refine (C2 _).mono ?_
  rintro _ r3 ⟨rfl, hbr3⟩
  obtain ⟨hcr3, hfr3⟩ := bcell hbr3
  have hzr3 := hbr3.size
  try simp only [World.size_alloc, World.size_setCell, World.size_drew] at hzr3
  have hlr3w0 : w.heap.size < r3.heap.size := by omega
  have hlr3w1 : w.heap.size + 1 < r3.heap.size := by omega
  have hlr3w2 : w.heap.size + 1 + 1 < r3.heap.size := by omega
  have hlr3r20 : r2.heap.size < r3.heap.size := by omega
  go_wp2_with fail
  refine (C3 _).mono ?_
  rintro _ r4 ⟨rfl, hbr4⟩
  obtain ⟨hcr4, hfr4⟩ := bcell hbr4
  have hzr4 := hbr4.size
  try simp only [World.size_alloc, World.size_setCell, World.size_drew] at hzr4
  have hlr4w0 : w.heap.size < r4.heap.size := by omega
  have hlr4w1 : w.heap.size + 1 < r4.heap.size := by omega
  have hlr4w2 : w.heap.size + 1 + 1 < r4.heap.size := by omega
  have hlr4r20 : r2.heap.size < r4.heap.size := by omega
  have hlr4r30 : r3.heap.size < r4.heap.size := by omega
  go_wp2_with fail
  have hecr5 := @Ext.cell
  refine wp_region_ext (by kernel_rfl) (by kernel_rfl) ?_
  repeat (first | go_big_quiet_skip | (go_big_quiet_want; go_big_quiet_op; first | go_big_quiet_on | (go_big_quiet_call ((first | fail | (go_at_call 20; with_reducible exact ext_call (C4 _)))))))
  clear hecr5
  refine wpQuiet_nil ?_
  rintro r5 ⟨⟨_, hbr5⟩, rfl⟩
  obtain ⟨hcr5, hfr5⟩ := bcell hbr5
  have hzr5 := hbr5.size
  try simp only [World.size_alloc, World.size_setCell, World.size_drew] at hzr5
  have hlr5w0 : w.heap.size < r5.heap.size := by omega
  have hlr5w1 : w.heap.size + 1 < r5.heap.size := by omega
  have hlr5w2 : w.heap.size + 1 + 1 < r5.heap.size := by omega
  have hlr5r20 : r2.heap.size < r5.heap.size := by omega
  have hlr5r30 : r3.heap.size < r5.heap.size := by omega
  go_wp2_with fail
  have hecr6 := @Ext.cell
  refine wp_region_ext (by kernel_rfl) (by kernel_rfl) ?_
  repeat (first | go_big_quiet_skip | (go_big_quiet_want; go_big_quiet_op; first | go_big_quiet_on | (go_big_quiet_call ((first | fail | (go_at_call 12; with_reducible exact ext_call (V1 _)) | (go_at_call 12; with_reducible exact ext_call (V2 _)))))))
  clear hecr6
  refine wpQuiet_nil ?_
  rintro r6 ⟨⟨_, hbr6⟩, rfl⟩
  obtain ⟨hcr6, hfr6⟩ := bcell hbr6
  have hzr6 := hbr6.size
  try simp only [World.size_alloc, World.size_setCell, World.size_drew] at hzr6
  have hlr6w0 : w.heap.size < r6.heap.size := by omega
  have hlr6w1 : w.heap.size + 1 < r6.heap.size := by omega
  have hlr6w2 : w.heap.size + 1 + 1 < r6.heap.size := by omega
  have hlr6r20 : r2.heap.size < r6.heap.size := by omega
  have hlr6r30 : r3.heap.size < r6.heap.size := by omega
  go_wp2_with fail
  have hecr7 := @Ext.cell
  refine wp_region_ext (by kernel_rfl) (by kernel_rfl) ?_
  repeat (first | go_big_quiet_skip | (go_big_quiet_want; go_big_quiet_op; first | go_big_quiet_on | (go_big_quiet_call ((first | fail | (go_at_call 12; with_reducible exact ext_call (V3 _)) | (go_at_call 12; with_reducible exact ext_call (V4 _)))))))
  clear hecr7
  refine wpQuiet_nil ?_
  rintro r7 ⟨⟨_, hbr7⟩, rfl⟩
  obtain ⟨hcr7, hfr7⟩ := bcell hbr7
  have hzr7 := hbr7.size
  try simp only [World.size_alloc, World.size_setCell, World.size_drew] at hzr7
  have hlr7w0 : w.heap.size < r7.heap.size := by omega
  have hlr7w1 : w.heap.size + 1 < r7.heap.size := by omega
  have hlr7w2 : w.heap.size + 1 + 1 < r7.heap.size := by omega
  have hlr7r20 : r2.heap.size < r7.heap.size := by omega
  have hlr7r30 : r3.heap.size < r7.heap.size := by omega
  go_wp2_with fail
  refine (A1 _).mono ?_
  rintro _ r8 ⟨rfl, hbr8⟩
  obtain ⟨hcr8, hfr8⟩ := bcell hbr8
  have hzr8 := hbr8.size
  try simp only [World.size_alloc, World.size_setCell, World.size_drew] at hzr8
  have hlr8w0 : w.heap.size < r8.heap.size := by omega
  have hlr8w1 : w.heap.size + 1 < r8.heap.size := by omega
  have hlr8w2 : w.heap.size + 1 + 1 < r8.heap.size := by omega
  have hlr8r20 : r2.heap.size < r8.heap.size := by omega
  have hlr8r30 : r3.heap.size < r8.heap.size := by omega
  go_wp2_with fail
  refine (A2 _).mono ?_
  rintro _ r9 ⟨rfl, hbr9⟩
  obtain ⟨hcr9, hfr9⟩ := bcell hbr9
  have hzr9 := hbr9.size
  try simp only [World.size_alloc, World.size_setCell, World.size_drew] at hzr9
  have hlr9w0 : w.heap.size < r9.heap.size := by omega
  have hlr9w1 : w.heap.size + 1 < r9.heap.size := by omega
  have hlr9w2 : w.heap.size + 1 + 1 < r9.heap.size := by omega
  have hlr9r20 : r2.heap.size < r9.heap.size := by omega
  have hlr9r30 : r3.heap.size < r9.heap.size := by omega
  go_wp2_with fail
  refine wp_loop_rounds 5 ?_
  try rw [rounds_succ]
  go_wp2_with fail
  refine (L0 _).mono ?_
  rintro _ r10 ⟨rfl, hbr10⟩
  obtain ⟨hcr10, hfr10⟩ := bcell hbr10
  have hzr10 := hbr10.size
  try simp only [World.size_alloc, World.size_setCell, World.size_drew] at hzr10
  have hlr10r90 : r9.heap.size < r10.heap.size := by omega
  go_wp2_with fail
  refine (S1 _).mono ?_
  rintro _ _ ⟨rfl, rfl⟩
  go_wp2_with fail
  refine (S0 _).mono ?_
  rintro _ _ ⟨rfl, rfl⟩
  go_wp2_with fail
  try rw [rounds_succ]
  go_wp2_with fail
  refine (L1 _).mono ?_
  rintro _ r11 ⟨rfl, hbr11⟩
  obtain ⟨hcr11, hfr11⟩ := bcell hbr11
  have hzr11 := hbr11.size
  try simp only [World.size_alloc, World.size_setCell, World.size_drew] at hzr11
  have hlr11r90 : r9.heap.size < r11.heap.size := by omega
  go_wp2_with fail
  refine (S2 _).mono ?_
  rintro _ _ ⟨rfl, rfl⟩
  go_wp2_with fail
  refine (S0 _).mono ?_
  rintro _ _ ⟨rfl, rfl⟩
  go_wp2_with fail
  try rw [rounds_succ]
  go_wp2_with fail
  refine (L2 _).mono ?_
  rintro _ r12 ⟨rfl, hbr12⟩
  obtain ⟨hcr12, hfr12⟩ := bcell hbr12
  have hzr12 := hbr12.size
  try simp only [World.size_alloc, World.size_setCell, World.size_drew] at hzr12
  have hlr12r90 : r9.heap.size < r12.heap.size := by omega
  go_wp2_with fail
  refine (S3 _).mono ?_
  rintro _ _ ⟨rfl, rfl⟩
  go_wp2_with fail
  refine (S0 _).mono ?_
  rintro _ _ ⟨rfl, rfl⟩
  go_wp2_with fail
  try rw [rounds_succ]
  go_wp2_with fail
  refine (L3 _).mono ?_
  rintro _ r13 ⟨rfl, hbr13⟩
  obtain ⟨hcr13, hfr13⟩ := bcell hbr13
  have hzr13 := hbr13.size
  try simp only [World.size_alloc, World.size_setCell, World.size_drew] at hzr13
  have hlr13r90 : r9.heap.size < r13.heap.size := by omega
  go_wp2_with fail
  refine (S4 _).mono ?_
  rintro _ _ ⟨rfl, rfl⟩
  go_wp2_with fail
  refine (S0 _).mono ?_
  rintro _ _ ⟨rfl, rfl⟩
  go_wp2_with fail
  try rw [rounds_succ]
  go_wp2
  go_ret
  exact ⟨rfl, (by repeat' (first | (with_reducible exact Below.refl _ _) | (with_reducible refine bl_set ?_ _ ?_) | (with_reducible refine bl_alloc ?_ _) | (with_reducible refine bl_drew ?_) | (with_reducible refine bl_via (by with_reducible assumption) ?_) | (with_reducible assumption) | omega | (simp only []; omega) | (simp; omega)))⟩
set_option maxRecDepth 100000 in
set_option maxHeartbeats 8000000 in
theorem throttles_false_true (e0 e1 e2 e3 e4 e5 e6 e7 v0 v1 o0 o1 x0 x1 y0 y1 v o x y s s1 s2 s3 s4 l0 l1 l2 l3 : Int)
    (C1 : (∀ w, Calls Try.prog 18 #[(.agg #[.int .u16 (e0), .int .u16 (e1), .int .u16 (e2), .int .u16 (e3), .int .u16 (e4), .int .u16 (e5), .int .u16 (e6), .int .u16 (e7)]), (.agg #[.int .u16 (v0), .int .u16 (v1)])] w fun e w' => e = .returned (.tuple #[(.agg #[.int .u16 (x0), .int .u16 (x1)]), .int .i64 0]) ∧ Below w.heap.size w w'))
    (C2 : (∀ w, Calls Try.prog 18 #[(.agg #[.int .u16 (e0), .int .u16 (e1), .int .u16 (e2), .int .u16 (e3), .int .u16 (e4), .int .u16 (e5), .int .u16 (e6), .int .u16 (e7)]), (.agg #[.int .u16 (o0), .int .u16 (o1)])] w fun e w' => e = .returned (.tuple #[(.agg #[.int .u16 (y0), .int .u16 (y1)]), .int .i64 0]) ∧ Below w.heap.size w w'))
    (C3 : (∀ w, Calls Try.prog 19 #[(.agg #[.int .u16 (e0), .int .u16 (e1), .int .u16 (e2), .int .u16 (e3), .int .u16 (e4), .int .u16 (e5), .int .u16 (e6), .int .u16 (e7)])] w fun e w' => e = .returned (.bool true) ∧ Below w.heap.size w w'))
    (C4 : (∀ w, Calls Try.prog 20 #[(.agg #[.int .u16 (e0), .int .u16 (e1), .int .u16 (e2), .int .u16 (e3), .int .u16 (e4), .int .u16 (e5), .int .u16 (e6), .int .u16 (e7)]), (.agg #[.int .u16 (v0), .int .u16 (v1)])] w fun e w' => e = .returned (.agg #[.int .u16 (x0), .int .u16 (x1)]) ∧ Below w.heap.size w w'))
    (V1 : (∀ w, Calls Try.prog 12 #[(.agg #[.int .u16 (v0), .int .u16 (v1)])] w fun e w' => e = .returned (.int .i64 v) ∧ Below w.heap.size w w'))
    (V2 : (∀ w, Calls Try.prog 12 #[(.agg #[.int .u16 (o0), .int .u16 (o1)])] w fun e w' => e = .returned (.int .i64 o) ∧ Below w.heap.size w w'))
    (V3 : (∀ w, Calls Try.prog 12 #[(.agg #[.int .u16 (x0), .int .u16 (x1)])] w fun e w' => e = .returned (.int .i64 x) ∧ Below w.heap.size w w'))
    (V4 : (∀ w, Calls Try.prog 12 #[(.agg #[.int .u16 (y0), .int .u16 (y1)])] w fun e w' => e = .returned (.int .i64 y) ∧ Below w.heap.size w w'))
    (A1 : (∀ w, Calls Try.prog 21 #[(.agg #[.int .u16 (e0), .int .u16 (e1), .int .u16 (e2), .int .u16 (e3), .int .u16 (e4), .int .u16 (e5), .int .u16 (e6), .int .u16 (e7)]), .int .i64 x] w fun e w' => e = .returned (.bool true) ∧ Below w.heap.size w w'))
    (A2 : (∀ w, Calls Try.prog 21 #[(.agg #[.int .u16 (e0), .int .u16 (e1), .int .u16 (e2), .int .u16 (e3), .int .u16 (e4), .int .u16 (e5), .int .u16 (e6), .int .u16 (e7)]), .int .i64 v] w fun e w' => e = .returned (.bool false) ∧ Below w.heap.size w w'))
    (vb0 : -268435455 ≤ v) (vb1 : v ≤ 268435455) (xb0 : -268435455 ≤ x) (xb1 : x ≤ 268435455)
    (S0 : (∀ w, Calls Try.prog 22 #[.int .i64 (v - x)] w fun e w' => e = .returned (.int .i64 s) ∧ w = w'))
    (L0 : (∀ w, Calls Try.prog 12 #[(.agg #[.int .u16 (e0), .int .u16 (e1)])] w fun e w' => e = .returned (.int .i64 l0) ∧ Below w.heap.size w w'))
    (lb0 : -268435455 ≤ l0) (lc0 : l0 ≤ 268435455)
    (S1 : (∀ w, Calls Try.prog 22 #[.int .i64 (v - l0)] w fun e w' => e = .returned (.int .i64 s1) ∧ w = w'))
    (q0 : decide (s1 < s) = false)
    (L1 : (∀ w, Calls Try.prog 12 #[(.agg #[.int .u16 (e2), .int .u16 (e3)])] w fun e w' => e = .returned (.int .i64 l1) ∧ Below w.heap.size w w'))
    (lb1 : -268435455 ≤ l1) (lc1 : l1 ≤ 268435455)
    (S2 : (∀ w, Calls Try.prog 22 #[.int .i64 (v - l1)] w fun e w' => e = .returned (.int .i64 s2) ∧ w = w'))
    (q1 : decide (s2 < s) = false)
    (L2 : (∀ w, Calls Try.prog 12 #[(.agg #[.int .u16 (e4), .int .u16 (e5)])] w fun e w' => e = .returned (.int .i64 l2) ∧ Below w.heap.size w w'))
    (lb2 : -268435455 ≤ l2) (lc2 : l2 ≤ 268435455)
    (S3 : (∀ w, Calls Try.prog 22 #[.int .i64 (v - l2)] w fun e w' => e = .returned (.int .i64 s3) ∧ w = w'))
    (q2 : decide (s3 < s) = false)
    (L3 : (∀ w, Calls Try.prog 12 #[(.agg #[.int .u16 (e6), .int .u16 (e7)])] w fun e w' => e = .returned (.int .i64 l3) ∧ Below w.heap.size w w'))
    (lb3 : -268435455 ≤ l3) (lc3 : l3 ≤ 268435455)
    (S4 : (∀ w, Calls Try.prog 22 #[.int .i64 (v - l3)] w fun e w' => e = .returned (.int .i64 s4) ∧ w = w'))
    (q3 : decide (s4 < s) = false)
    (dv : decide (v ≤ o) = true)
    (h2 : decide (y < x) = false) (w : World) :
    Calls Try.prog 6 #[(.agg #[.int .u16 (e0), .int .u16 (e1), .int .u16 (e2), .int .u16 (e3), .int .u16 (e4), .int .u16 (e5), .int .u16 (e6), .int .u16 (e7)]), (.agg #[.int .u16 (v0), .int .u16 (v1)]), (.agg #[.int .u16 (o0), .int .u16 (o1)])] w fun e w' => e = .returned (.bool true) ∧ Below w.heap.size w w' := by
  have heq := @eq_dbl
  skip
  go_enter Try.func6, Try.ntmps6
  go_wp2_with fail
  refine (lives35 _).mono ?_
  rintro _ r1 ⟨rfl, hbr1⟩
  obtain ⟨hcr1, hfr1⟩ := bcell hbr1
  have hzr1 := hbr1.size
  try simp only [World.size_alloc, World.size_setCell, World.size_drew] at hzr1
  have hlr1w0 : w.heap.size < r1.heap.size := by omega
  have hlr1w1 : w.heap.size + 1 < r1.heap.size := by omega
  have hlr1w2 : w.heap.size + 1 + 1 < r1.heap.size := by omega
  go_wp2_with fail
  refine (C1 _).mono ?_
  rintro _ r2 ⟨rfl, hbr2⟩
  obtain ⟨hcr2, hfr2⟩ := bcell hbr2
  have hzr2 := hbr2.size
  try simp only [World.size_alloc, World.size_setCell, World.size_drew] at hzr2
  have hlr2w0 : w.heap.size < r2.heap.size := by omega
  have hlr2w1 : w.heap.size + 1 < r2.heap.size := by omega
  have hlr2w2 : w.heap.size + 1 + 1 < r2.heap.size := by omega
  go_wp2_with fail
  refine (C2 _).mono ?_
  rintro _ r3 ⟨rfl, hbr3⟩
  obtain ⟨hcr3, hfr3⟩ := bcell hbr3
  have hzr3 := hbr3.size
  try simp only [World.size_alloc, World.size_setCell, World.size_drew] at hzr3
  have hlr3w0 : w.heap.size < r3.heap.size := by omega
  have hlr3w1 : w.heap.size + 1 < r3.heap.size := by omega
  have hlr3w2 : w.heap.size + 1 + 1 < r3.heap.size := by omega
  have hlr3r20 : r2.heap.size < r3.heap.size := by omega
  go_wp2_with fail
  refine (C3 _).mono ?_
  rintro _ r4 ⟨rfl, hbr4⟩
  obtain ⟨hcr4, hfr4⟩ := bcell hbr4
  have hzr4 := hbr4.size
  try simp only [World.size_alloc, World.size_setCell, World.size_drew] at hzr4
  have hlr4w0 : w.heap.size < r4.heap.size := by omega
  have hlr4w1 : w.heap.size + 1 < r4.heap.size := by omega
  have hlr4w2 : w.heap.size + 1 + 1 < r4.heap.size := by omega
  have hlr4r20 : r2.heap.size < r4.heap.size := by omega
  have hlr4r30 : r3.heap.size < r4.heap.size := by omega
  go_wp2_with fail
  have hecr5 := @Ext.cell
  refine wp_region_ext (by kernel_rfl) (by kernel_rfl) ?_
  repeat (first | go_big_quiet_skip | (go_big_quiet_want; go_big_quiet_op; first | go_big_quiet_on | (go_big_quiet_call ((first | fail | (go_at_call 20; with_reducible exact ext_call (C4 _)))))))
  clear hecr5
  refine wpQuiet_nil ?_
  rintro r5 ⟨⟨_, hbr5⟩, rfl⟩
  obtain ⟨hcr5, hfr5⟩ := bcell hbr5
  have hzr5 := hbr5.size
  try simp only [World.size_alloc, World.size_setCell, World.size_drew] at hzr5
  have hlr5w0 : w.heap.size < r5.heap.size := by omega
  have hlr5w1 : w.heap.size + 1 < r5.heap.size := by omega
  have hlr5w2 : w.heap.size + 1 + 1 < r5.heap.size := by omega
  have hlr5r20 : r2.heap.size < r5.heap.size := by omega
  have hlr5r30 : r3.heap.size < r5.heap.size := by omega
  go_wp2_with fail
  have hecr6 := @Ext.cell
  refine wp_region_ext (by kernel_rfl) (by kernel_rfl) ?_
  repeat (first | go_big_quiet_skip | (go_big_quiet_want; go_big_quiet_op; first | go_big_quiet_on | (go_big_quiet_call ((first | fail | (go_at_call 12; with_reducible exact ext_call (V1 _)) | (go_at_call 12; with_reducible exact ext_call (V2 _)))))))
  clear hecr6
  refine wpQuiet_nil ?_
  rintro r6 ⟨⟨_, hbr6⟩, rfl⟩
  obtain ⟨hcr6, hfr6⟩ := bcell hbr6
  have hzr6 := hbr6.size
  try simp only [World.size_alloc, World.size_setCell, World.size_drew] at hzr6
  have hlr6w0 : w.heap.size < r6.heap.size := by omega
  have hlr6w1 : w.heap.size + 1 < r6.heap.size := by omega
  have hlr6w2 : w.heap.size + 1 + 1 < r6.heap.size := by omega
  have hlr6r20 : r2.heap.size < r6.heap.size := by omega
  have hlr6r30 : r3.heap.size < r6.heap.size := by omega
  go_wp2_with fail
  have hecr7 := @Ext.cell
  refine wp_region_ext (by kernel_rfl) (by kernel_rfl) ?_
  repeat (first | go_big_quiet_skip | (go_big_quiet_want; go_big_quiet_op; first | go_big_quiet_on | (go_big_quiet_call ((first | fail | (go_at_call 12; with_reducible exact ext_call (V3 _)) | (go_at_call 12; with_reducible exact ext_call (V4 _)))))))
  clear hecr7
  refine wpQuiet_nil ?_
  rintro r7 ⟨⟨_, hbr7⟩, rfl⟩
  obtain ⟨hcr7, hfr7⟩ := bcell hbr7
  have hzr7 := hbr7.size
  try simp only [World.size_alloc, World.size_setCell, World.size_drew] at hzr7
  have hlr7w0 : w.heap.size < r7.heap.size := by omega
  have hlr7w1 : w.heap.size + 1 < r7.heap.size := by omega
  have hlr7w2 : w.heap.size + 1 + 1 < r7.heap.size := by omega
  have hlr7r20 : r2.heap.size < r7.heap.size := by omega
  have hlr7r30 : r3.heap.size < r7.heap.size := by omega
  go_wp2_with fail
  refine (A1 _).mono ?_
  rintro _ r8 ⟨rfl, hbr8⟩
  obtain ⟨hcr8, hfr8⟩ := bcell hbr8
  have hzr8 := hbr8.size
  try simp only [World.size_alloc, World.size_setCell, World.size_drew] at hzr8
  have hlr8w0 : w.heap.size < r8.heap.size := by omega
  have hlr8w1 : w.heap.size + 1 < r8.heap.size := by omega
  have hlr8w2 : w.heap.size + 1 + 1 < r8.heap.size := by omega
  have hlr8r20 : r2.heap.size < r8.heap.size := by omega
  have hlr8r30 : r3.heap.size < r8.heap.size := by omega
  go_wp2_with fail
  refine (A2 _).mono ?_
  rintro _ r9 ⟨rfl, hbr9⟩
  obtain ⟨hcr9, hfr9⟩ := bcell hbr9
  have hzr9 := hbr9.size
  try simp only [World.size_alloc, World.size_setCell, World.size_drew] at hzr9
  have hlr9w0 : w.heap.size < r9.heap.size := by omega
  have hlr9w1 : w.heap.size + 1 < r9.heap.size := by omega
  have hlr9w2 : w.heap.size + 1 + 1 < r9.heap.size := by omega
  have hlr9r20 : r2.heap.size < r9.heap.size := by omega
  have hlr9r30 : r3.heap.size < r9.heap.size := by omega
  go_wp2_with fail
  refine wp_loop_rounds 5 ?_
  try rw [rounds_succ]
  go_wp2_with fail
  refine (L0 _).mono ?_
  rintro _ r10 ⟨rfl, hbr10⟩
  obtain ⟨hcr10, hfr10⟩ := bcell hbr10
  have hzr10 := hbr10.size
  try simp only [World.size_alloc, World.size_setCell, World.size_drew] at hzr10
  have hlr10r90 : r9.heap.size < r10.heap.size := by omega
  go_wp2_with fail
  refine (S1 _).mono ?_
  rintro _ _ ⟨rfl, rfl⟩
  go_wp2_with fail
  refine (S0 _).mono ?_
  rintro _ _ ⟨rfl, rfl⟩
  go_wp2_with fail
  try rw [rounds_succ]
  go_wp2_with fail
  refine (L1 _).mono ?_
  rintro _ r11 ⟨rfl, hbr11⟩
  obtain ⟨hcr11, hfr11⟩ := bcell hbr11
  have hzr11 := hbr11.size
  try simp only [World.size_alloc, World.size_setCell, World.size_drew] at hzr11
  have hlr11r90 : r9.heap.size < r11.heap.size := by omega
  go_wp2_with fail
  refine (S2 _).mono ?_
  rintro _ _ ⟨rfl, rfl⟩
  go_wp2_with fail
  refine (S0 _).mono ?_
  rintro _ _ ⟨rfl, rfl⟩
  go_wp2_with fail
  try rw [rounds_succ]
  go_wp2_with fail
  refine (L2 _).mono ?_
  rintro _ r12 ⟨rfl, hbr12⟩
  obtain ⟨hcr12, hfr12⟩ := bcell hbr12
  have hzr12 := hbr12.size
  try simp only [World.size_alloc, World.size_setCell, World.size_drew] at hzr12
  have hlr12r90 : r9.heap.size < r12.heap.size := by omega
  go_wp2_with fail
  refine (S3 _).mono ?_
  rintro _ _ ⟨rfl, rfl⟩
  go_wp2_with fail
  refine (S0 _).mono ?_
  rintro _ _ ⟨rfl, rfl⟩
  go_wp2_with fail
  try rw [rounds_succ]
  go_wp2_with fail
  refine (L3 _).mono ?_
  rintro _ r13 ⟨rfl, hbr13⟩
  obtain ⟨hcr13, hfr13⟩ := bcell hbr13
  have hzr13 := hbr13.size
  try simp only [World.size_alloc, World.size_setCell, World.size_drew] at hzr13
  have hlr13r90 : r9.heap.size < r13.heap.size := by omega
  go_wp2_with fail
  refine (S4 _).mono ?_
  rintro _ _ ⟨rfl, rfl⟩
  go_wp2_with fail
  refine (S0 _).mono ?_
  rintro _ _ ⟨rfl, rfl⟩
  go_wp2_with fail
  try rw [rounds_succ]
  go_wp2
  go_ret
  exact ⟨rfl, (by repeat' (first | (with_reducible exact Below.refl _ _) | (with_reducible refine bl_set ?_ _ ?_) | (with_reducible refine bl_alloc ?_ _) | (with_reducible refine bl_drew ?_) | (with_reducible refine bl_via (by with_reducible assumption) ?_) | (with_reducible assumption) | omega | (simp only []; omega) | (simp; omega)))⟩
set_option maxRecDepth 100000 in
set_option maxHeartbeats 8000000 in
theorem throttles_true_false (e0 e1 e2 e3 e4 e5 e6 e7 v0 v1 o0 o1 x0 x1 y0 y1 v o x y s s1 s2 s3 s4 l0 l1 l2 l3 : Int)
    (C1 : (∀ w, Calls Try.prog 18 #[(.agg #[.int .u16 (e0), .int .u16 (e1), .int .u16 (e2), .int .u16 (e3), .int .u16 (e4), .int .u16 (e5), .int .u16 (e6), .int .u16 (e7)]), (.agg #[.int .u16 (v0), .int .u16 (v1)])] w fun e w' => e = .returned (.tuple #[(.agg #[.int .u16 (x0), .int .u16 (x1)]), .int .i64 0]) ∧ Below w.heap.size w w'))
    (C2 : (∀ w, Calls Try.prog 18 #[(.agg #[.int .u16 (e0), .int .u16 (e1), .int .u16 (e2), .int .u16 (e3), .int .u16 (e4), .int .u16 (e5), .int .u16 (e6), .int .u16 (e7)]), (.agg #[.int .u16 (o0), .int .u16 (o1)])] w fun e w' => e = .returned (.tuple #[(.agg #[.int .u16 (y0), .int .u16 (y1)]), .int .i64 0]) ∧ Below w.heap.size w w'))
    (C3 : (∀ w, Calls Try.prog 19 #[(.agg #[.int .u16 (e0), .int .u16 (e1), .int .u16 (e2), .int .u16 (e3), .int .u16 (e4), .int .u16 (e5), .int .u16 (e6), .int .u16 (e7)])] w fun e w' => e = .returned (.bool true) ∧ Below w.heap.size w w'))
    (C4 : (∀ w, Calls Try.prog 20 #[(.agg #[.int .u16 (e0), .int .u16 (e1), .int .u16 (e2), .int .u16 (e3), .int .u16 (e4), .int .u16 (e5), .int .u16 (e6), .int .u16 (e7)]), (.agg #[.int .u16 (v0), .int .u16 (v1)])] w fun e w' => e = .returned (.agg #[.int .u16 (x0), .int .u16 (x1)]) ∧ Below w.heap.size w w'))
    (V1 : (∀ w, Calls Try.prog 12 #[(.agg #[.int .u16 (v0), .int .u16 (v1)])] w fun e w' => e = .returned (.int .i64 v) ∧ Below w.heap.size w w'))
    (V2 : (∀ w, Calls Try.prog 12 #[(.agg #[.int .u16 (o0), .int .u16 (o1)])] w fun e w' => e = .returned (.int .i64 o) ∧ Below w.heap.size w w'))
    (V3 : (∀ w, Calls Try.prog 12 #[(.agg #[.int .u16 (x0), .int .u16 (x1)])] w fun e w' => e = .returned (.int .i64 x) ∧ Below w.heap.size w w'))
    (V4 : (∀ w, Calls Try.prog 12 #[(.agg #[.int .u16 (y0), .int .u16 (y1)])] w fun e w' => e = .returned (.int .i64 y) ∧ Below w.heap.size w w'))
    (A1 : (∀ w, Calls Try.prog 21 #[(.agg #[.int .u16 (e0), .int .u16 (e1), .int .u16 (e2), .int .u16 (e3), .int .u16 (e4), .int .u16 (e5), .int .u16 (e6), .int .u16 (e7)]), .int .i64 x] w fun e w' => e = .returned (.bool true) ∧ Below w.heap.size w w'))
    (A2 : (∀ w, Calls Try.prog 21 #[(.agg #[.int .u16 (e0), .int .u16 (e1), .int .u16 (e2), .int .u16 (e3), .int .u16 (e4), .int .u16 (e5), .int .u16 (e6), .int .u16 (e7)]), .int .i64 v] w fun e w' => e = .returned (.bool true) ∧ Below w.heap.size w w'))
    (vb0 : -268435455 ≤ v) (vb1 : v ≤ 268435455) (xb0 : -268435455 ≤ x) (xb1 : x ≤ 268435455)
    (S0 : (∀ w, Calls Try.prog 22 #[.int .i64 (v - x)] w fun e w' => e = .returned (.int .i64 s) ∧ w = w'))
    (L0 : (∀ w, Calls Try.prog 12 #[(.agg #[.int .u16 (e0), .int .u16 (e1)])] w fun e w' => e = .returned (.int .i64 l0) ∧ Below w.heap.size w w'))
    (lb0 : -268435455 ≤ l0) (lc0 : l0 ≤ 268435455)
    (S1 : (∀ w, Calls Try.prog 22 #[.int .i64 (v - l0)] w fun e w' => e = .returned (.int .i64 s1) ∧ w = w'))
    (q0 : decide (s1 < s) = false)
    (L1 : (∀ w, Calls Try.prog 12 #[(.agg #[.int .u16 (e2), .int .u16 (e3)])] w fun e w' => e = .returned (.int .i64 l1) ∧ Below w.heap.size w w'))
    (lb1 : -268435455 ≤ l1) (lc1 : l1 ≤ 268435455)
    (S2 : (∀ w, Calls Try.prog 22 #[.int .i64 (v - l1)] w fun e w' => e = .returned (.int .i64 s2) ∧ w = w'))
    (q1 : decide (s2 < s) = false)
    (L2 : (∀ w, Calls Try.prog 12 #[(.agg #[.int .u16 (e4), .int .u16 (e5)])] w fun e w' => e = .returned (.int .i64 l2) ∧ Below w.heap.size w w'))
    (lb2 : -268435455 ≤ l2) (lc2 : l2 ≤ 268435455)
    (S3 : (∀ w, Calls Try.prog 22 #[.int .i64 (v - l2)] w fun e w' => e = .returned (.int .i64 s3) ∧ w = w'))
    (q2 : decide (s3 < s) = false)
    (L3 : (∀ w, Calls Try.prog 12 #[(.agg #[.int .u16 (e6), .int .u16 (e7)])] w fun e w' => e = .returned (.int .i64 l3) ∧ Below w.heap.size w w'))
    (lb3 : -268435455 ≤ l3) (lc3 : l3 ≤ 268435455)
    (S4 : (∀ w, Calls Try.prog 22 #[.int .i64 (v - l3)] w fun e w' => e = .returned (.int .i64 s4) ∧ w = w'))
    (q3 : decide (s4 < s) = false)
    (dv : decide (v ≤ o) = false)
    (h1 : (x != v) = false) (w : World) :
    Calls Try.prog 6 #[(.agg #[.int .u16 (e0), .int .u16 (e1), .int .u16 (e2), .int .u16 (e3), .int .u16 (e4), .int .u16 (e5), .int .u16 (e6), .int .u16 (e7)]), (.agg #[.int .u16 (v0), .int .u16 (v1)]), (.agg #[.int .u16 (o0), .int .u16 (o1)])] w fun e w' => e = .returned (.bool true) ∧ Below w.heap.size w w' := by
  have heq := @eq_dbl
  skip
  go_enter Try.func6, Try.ntmps6
  go_wp2_with fail
  refine (lives35 _).mono ?_
  rintro _ r1 ⟨rfl, hbr1⟩
  obtain ⟨hcr1, hfr1⟩ := bcell hbr1
  have hzr1 := hbr1.size
  try simp only [World.size_alloc, World.size_setCell, World.size_drew] at hzr1
  have hlr1w0 : w.heap.size < r1.heap.size := by omega
  have hlr1w1 : w.heap.size + 1 < r1.heap.size := by omega
  have hlr1w2 : w.heap.size + 1 + 1 < r1.heap.size := by omega
  go_wp2_with fail
  refine (C1 _).mono ?_
  rintro _ r2 ⟨rfl, hbr2⟩
  obtain ⟨hcr2, hfr2⟩ := bcell hbr2
  have hzr2 := hbr2.size
  try simp only [World.size_alloc, World.size_setCell, World.size_drew] at hzr2
  have hlr2w0 : w.heap.size < r2.heap.size := by omega
  have hlr2w1 : w.heap.size + 1 < r2.heap.size := by omega
  have hlr2w2 : w.heap.size + 1 + 1 < r2.heap.size := by omega
  go_wp2_with fail
  refine (C2 _).mono ?_
  rintro _ r3 ⟨rfl, hbr3⟩
  obtain ⟨hcr3, hfr3⟩ := bcell hbr3
  have hzr3 := hbr3.size
  try simp only [World.size_alloc, World.size_setCell, World.size_drew] at hzr3
  have hlr3w0 : w.heap.size < r3.heap.size := by omega
  have hlr3w1 : w.heap.size + 1 < r3.heap.size := by omega
  have hlr3w2 : w.heap.size + 1 + 1 < r3.heap.size := by omega
  have hlr3r20 : r2.heap.size < r3.heap.size := by omega
  go_wp2_with fail
  refine (C3 _).mono ?_
  rintro _ r4 ⟨rfl, hbr4⟩
  obtain ⟨hcr4, hfr4⟩ := bcell hbr4
  have hzr4 := hbr4.size
  try simp only [World.size_alloc, World.size_setCell, World.size_drew] at hzr4
  have hlr4w0 : w.heap.size < r4.heap.size := by omega
  have hlr4w1 : w.heap.size + 1 < r4.heap.size := by omega
  have hlr4w2 : w.heap.size + 1 + 1 < r4.heap.size := by omega
  have hlr4r20 : r2.heap.size < r4.heap.size := by omega
  have hlr4r30 : r3.heap.size < r4.heap.size := by omega
  go_wp2_with fail
  have hecr5 := @Ext.cell
  refine wp_region_ext (by kernel_rfl) (by kernel_rfl) ?_
  repeat (first | go_big_quiet_skip | (go_big_quiet_want; go_big_quiet_op; first | go_big_quiet_on | (go_big_quiet_call ((first | fail | (go_at_call 20; with_reducible exact ext_call (C4 _)))))))
  clear hecr5
  refine wpQuiet_nil ?_
  rintro r5 ⟨⟨_, hbr5⟩, rfl⟩
  obtain ⟨hcr5, hfr5⟩ := bcell hbr5
  have hzr5 := hbr5.size
  try simp only [World.size_alloc, World.size_setCell, World.size_drew] at hzr5
  have hlr5w0 : w.heap.size < r5.heap.size := by omega
  have hlr5w1 : w.heap.size + 1 < r5.heap.size := by omega
  have hlr5w2 : w.heap.size + 1 + 1 < r5.heap.size := by omega
  have hlr5r20 : r2.heap.size < r5.heap.size := by omega
  have hlr5r30 : r3.heap.size < r5.heap.size := by omega
  go_wp2_with fail
  have hecr6 := @Ext.cell
  refine wp_region_ext (by kernel_rfl) (by kernel_rfl) ?_
  repeat (first | go_big_quiet_skip | (go_big_quiet_want; go_big_quiet_op; first | go_big_quiet_on | (go_big_quiet_call ((first | fail | (go_at_call 12; with_reducible exact ext_call (V1 _)) | (go_at_call 12; with_reducible exact ext_call (V2 _)))))))
  clear hecr6
  refine wpQuiet_nil ?_
  rintro r6 ⟨⟨_, hbr6⟩, rfl⟩
  obtain ⟨hcr6, hfr6⟩ := bcell hbr6
  have hzr6 := hbr6.size
  try simp only [World.size_alloc, World.size_setCell, World.size_drew] at hzr6
  have hlr6w0 : w.heap.size < r6.heap.size := by omega
  have hlr6w1 : w.heap.size + 1 < r6.heap.size := by omega
  have hlr6w2 : w.heap.size + 1 + 1 < r6.heap.size := by omega
  have hlr6r20 : r2.heap.size < r6.heap.size := by omega
  have hlr6r30 : r3.heap.size < r6.heap.size := by omega
  go_wp2_with fail
  have hecr7 := @Ext.cell
  refine wp_region_ext (by kernel_rfl) (by kernel_rfl) ?_
  repeat (first | go_big_quiet_skip | (go_big_quiet_want; go_big_quiet_op; first | go_big_quiet_on | (go_big_quiet_call ((first | fail | (go_at_call 12; with_reducible exact ext_call (V3 _)) | (go_at_call 12; with_reducible exact ext_call (V4 _)))))))
  clear hecr7
  refine wpQuiet_nil ?_
  rintro r7 ⟨⟨_, hbr7⟩, rfl⟩
  obtain ⟨hcr7, hfr7⟩ := bcell hbr7
  have hzr7 := hbr7.size
  try simp only [World.size_alloc, World.size_setCell, World.size_drew] at hzr7
  have hlr7w0 : w.heap.size < r7.heap.size := by omega
  have hlr7w1 : w.heap.size + 1 < r7.heap.size := by omega
  have hlr7w2 : w.heap.size + 1 + 1 < r7.heap.size := by omega
  have hlr7r20 : r2.heap.size < r7.heap.size := by omega
  have hlr7r30 : r3.heap.size < r7.heap.size := by omega
  go_wp2_with fail
  refine (A1 _).mono ?_
  rintro _ r8 ⟨rfl, hbr8⟩
  obtain ⟨hcr8, hfr8⟩ := bcell hbr8
  have hzr8 := hbr8.size
  try simp only [World.size_alloc, World.size_setCell, World.size_drew] at hzr8
  have hlr8w0 : w.heap.size < r8.heap.size := by omega
  have hlr8w1 : w.heap.size + 1 < r8.heap.size := by omega
  have hlr8w2 : w.heap.size + 1 + 1 < r8.heap.size := by omega
  have hlr8r20 : r2.heap.size < r8.heap.size := by omega
  have hlr8r30 : r3.heap.size < r8.heap.size := by omega
  go_wp2_with fail
  refine (A2 _).mono ?_
  rintro _ r9 ⟨rfl, hbr9⟩
  obtain ⟨hcr9, hfr9⟩ := bcell hbr9
  have hzr9 := hbr9.size
  try simp only [World.size_alloc, World.size_setCell, World.size_drew] at hzr9
  have hlr9w0 : w.heap.size < r9.heap.size := by omega
  have hlr9w1 : w.heap.size + 1 < r9.heap.size := by omega
  have hlr9w2 : w.heap.size + 1 + 1 < r9.heap.size := by omega
  have hlr9r20 : r2.heap.size < r9.heap.size := by omega
  have hlr9r30 : r3.heap.size < r9.heap.size := by omega
  go_wp2_with fail
  refine wp_loop_rounds 5 ?_
  try rw [rounds_succ]
  go_wp2_with fail
  refine (L0 _).mono ?_
  rintro _ r10 ⟨rfl, hbr10⟩
  obtain ⟨hcr10, hfr10⟩ := bcell hbr10
  have hzr10 := hbr10.size
  try simp only [World.size_alloc, World.size_setCell, World.size_drew] at hzr10
  have hlr10r90 : r9.heap.size < r10.heap.size := by omega
  go_wp2_with fail
  refine (S1 _).mono ?_
  rintro _ _ ⟨rfl, rfl⟩
  go_wp2_with fail
  refine (S0 _).mono ?_
  rintro _ _ ⟨rfl, rfl⟩
  go_wp2_with fail
  try rw [rounds_succ]
  go_wp2_with fail
  refine (L1 _).mono ?_
  rintro _ r11 ⟨rfl, hbr11⟩
  obtain ⟨hcr11, hfr11⟩ := bcell hbr11
  have hzr11 := hbr11.size
  try simp only [World.size_alloc, World.size_setCell, World.size_drew] at hzr11
  have hlr11r90 : r9.heap.size < r11.heap.size := by omega
  go_wp2_with fail
  refine (S2 _).mono ?_
  rintro _ _ ⟨rfl, rfl⟩
  go_wp2_with fail
  refine (S0 _).mono ?_
  rintro _ _ ⟨rfl, rfl⟩
  go_wp2_with fail
  try rw [rounds_succ]
  go_wp2_with fail
  refine (L2 _).mono ?_
  rintro _ r12 ⟨rfl, hbr12⟩
  obtain ⟨hcr12, hfr12⟩ := bcell hbr12
  have hzr12 := hbr12.size
  try simp only [World.size_alloc, World.size_setCell, World.size_drew] at hzr12
  have hlr12r90 : r9.heap.size < r12.heap.size := by omega
  go_wp2_with fail
  refine (S3 _).mono ?_
  rintro _ _ ⟨rfl, rfl⟩
  go_wp2_with fail
  refine (S0 _).mono ?_
  rintro _ _ ⟨rfl, rfl⟩
  go_wp2_with fail
  try rw [rounds_succ]
  go_wp2_with fail
  refine (L3 _).mono ?_
  rintro _ r13 ⟨rfl, hbr13⟩
  obtain ⟨hcr13, hfr13⟩ := bcell hbr13
  have hzr13 := hbr13.size
  try simp only [World.size_alloc, World.size_setCell, World.size_drew] at hzr13
  have hlr13r90 : r9.heap.size < r13.heap.size := by omega
  go_wp2_with fail
  refine (S4 _).mono ?_
  rintro _ _ ⟨rfl, rfl⟩
  go_wp2_with fail
  refine (S0 _).mono ?_
  rintro _ _ ⟨rfl, rfl⟩
  go_wp2_with fail
  try rw [rounds_succ]
  go_wp2
  go_ret
  exact ⟨rfl, (by repeat' (first | (with_reducible exact Below.refl _ _) | (with_reducible refine bl_set ?_ _ ?_) | (with_reducible refine bl_alloc ?_ _) | (with_reducible refine bl_drew ?_) | (with_reducible refine bl_via (by with_reducible assumption) ?_) | (with_reducible assumption) | omega | (simp only []; omega) | (simp; omega)))⟩
set_option maxRecDepth 100000 in
set_option maxHeartbeats 8000000 in
theorem throttles_true_true (e0 e1 e2 e3 e4 e5 e6 e7 v0 v1 o0 o1 x0 x1 y0 y1 v o x y s s1 s2 s3 s4 l0 l1 l2 l3 : Int)
    (C1 : (∀ w, Calls Try.prog 18 #[(.agg #[.int .u16 (e0), .int .u16 (e1), .int .u16 (e2), .int .u16 (e3), .int .u16 (e4), .int .u16 (e5), .int .u16 (e6), .int .u16 (e7)]), (.agg #[.int .u16 (v0), .int .u16 (v1)])] w fun e w' => e = .returned (.tuple #[(.agg #[.int .u16 (x0), .int .u16 (x1)]), .int .i64 0]) ∧ Below w.heap.size w w'))
    (C2 : (∀ w, Calls Try.prog 18 #[(.agg #[.int .u16 (e0), .int .u16 (e1), .int .u16 (e2), .int .u16 (e3), .int .u16 (e4), .int .u16 (e5), .int .u16 (e6), .int .u16 (e7)]), (.agg #[.int .u16 (o0), .int .u16 (o1)])] w fun e w' => e = .returned (.tuple #[(.agg #[.int .u16 (y0), .int .u16 (y1)]), .int .i64 0]) ∧ Below w.heap.size w w'))
    (C3 : (∀ w, Calls Try.prog 19 #[(.agg #[.int .u16 (e0), .int .u16 (e1), .int .u16 (e2), .int .u16 (e3), .int .u16 (e4), .int .u16 (e5), .int .u16 (e6), .int .u16 (e7)])] w fun e w' => e = .returned (.bool true) ∧ Below w.heap.size w w'))
    (C4 : (∀ w, Calls Try.prog 20 #[(.agg #[.int .u16 (e0), .int .u16 (e1), .int .u16 (e2), .int .u16 (e3), .int .u16 (e4), .int .u16 (e5), .int .u16 (e6), .int .u16 (e7)]), (.agg #[.int .u16 (v0), .int .u16 (v1)])] w fun e w' => e = .returned (.agg #[.int .u16 (x0), .int .u16 (x1)]) ∧ Below w.heap.size w w'))
    (V1 : (∀ w, Calls Try.prog 12 #[(.agg #[.int .u16 (v0), .int .u16 (v1)])] w fun e w' => e = .returned (.int .i64 v) ∧ Below w.heap.size w w'))
    (V2 : (∀ w, Calls Try.prog 12 #[(.agg #[.int .u16 (o0), .int .u16 (o1)])] w fun e w' => e = .returned (.int .i64 o) ∧ Below w.heap.size w w'))
    (V3 : (∀ w, Calls Try.prog 12 #[(.agg #[.int .u16 (x0), .int .u16 (x1)])] w fun e w' => e = .returned (.int .i64 x) ∧ Below w.heap.size w w'))
    (V4 : (∀ w, Calls Try.prog 12 #[(.agg #[.int .u16 (y0), .int .u16 (y1)])] w fun e w' => e = .returned (.int .i64 y) ∧ Below w.heap.size w w'))
    (A1 : (∀ w, Calls Try.prog 21 #[(.agg #[.int .u16 (e0), .int .u16 (e1), .int .u16 (e2), .int .u16 (e3), .int .u16 (e4), .int .u16 (e5), .int .u16 (e6), .int .u16 (e7)]), .int .i64 x] w fun e w' => e = .returned (.bool true) ∧ Below w.heap.size w w'))
    (A2 : (∀ w, Calls Try.prog 21 #[(.agg #[.int .u16 (e0), .int .u16 (e1), .int .u16 (e2), .int .u16 (e3), .int .u16 (e4), .int .u16 (e5), .int .u16 (e6), .int .u16 (e7)]), .int .i64 v] w fun e w' => e = .returned (.bool true) ∧ Below w.heap.size w w'))
    (vb0 : -268435455 ≤ v) (vb1 : v ≤ 268435455) (xb0 : -268435455 ≤ x) (xb1 : x ≤ 268435455)
    (S0 : (∀ w, Calls Try.prog 22 #[.int .i64 (v - x)] w fun e w' => e = .returned (.int .i64 s) ∧ w = w'))
    (L0 : (∀ w, Calls Try.prog 12 #[(.agg #[.int .u16 (e0), .int .u16 (e1)])] w fun e w' => e = .returned (.int .i64 l0) ∧ Below w.heap.size w w'))
    (lb0 : -268435455 ≤ l0) (lc0 : l0 ≤ 268435455)
    (S1 : (∀ w, Calls Try.prog 22 #[.int .i64 (v - l0)] w fun e w' => e = .returned (.int .i64 s1) ∧ w = w'))
    (q0 : decide (s1 < s) = false)
    (L1 : (∀ w, Calls Try.prog 12 #[(.agg #[.int .u16 (e2), .int .u16 (e3)])] w fun e w' => e = .returned (.int .i64 l1) ∧ Below w.heap.size w w'))
    (lb1 : -268435455 ≤ l1) (lc1 : l1 ≤ 268435455)
    (S2 : (∀ w, Calls Try.prog 22 #[.int .i64 (v - l1)] w fun e w' => e = .returned (.int .i64 s2) ∧ w = w'))
    (q1 : decide (s2 < s) = false)
    (L2 : (∀ w, Calls Try.prog 12 #[(.agg #[.int .u16 (e4), .int .u16 (e5)])] w fun e w' => e = .returned (.int .i64 l2) ∧ Below w.heap.size w w'))
    (lb2 : -268435455 ≤ l2) (lc2 : l2 ≤ 268435455)
    (S3 : (∀ w, Calls Try.prog 22 #[.int .i64 (v - l2)] w fun e w' => e = .returned (.int .i64 s3) ∧ w = w'))
    (q2 : decide (s3 < s) = false)
    (L3 : (∀ w, Calls Try.prog 12 #[(.agg #[.int .u16 (e6), .int .u16 (e7)])] w fun e w' => e = .returned (.int .i64 l3) ∧ Below w.heap.size w w'))
    (lb3 : -268435455 ≤ l3) (lc3 : l3 ≤ 268435455)
    (S4 : (∀ w, Calls Try.prog 22 #[.int .i64 (v - l3)] w fun e w' => e = .returned (.int .i64 s4) ∧ w = w'))
    (q3 : decide (s4 < s) = false)
    (dv : decide (v ≤ o) = true)
    (h1 : (x != v) = false)
    (h2 : decide (y < x) = false) (w : World) :
    Calls Try.prog 6 #[(.agg #[.int .u16 (e0), .int .u16 (e1), .int .u16 (e2), .int .u16 (e3), .int .u16 (e4), .int .u16 (e5), .int .u16 (e6), .int .u16 (e7)]), (.agg #[.int .u16 (v0), .int .u16 (v1)]), (.agg #[.int .u16 (o0), .int .u16 (o1)])] w fun e w' => e = .returned (.bool true) ∧ Below w.heap.size w w' := by
  have heq := @eq_dbl
  skip
  go_enter Try.func6, Try.ntmps6
  go_wp2_with fail
  refine (lives35 _).mono ?_
  rintro _ r1 ⟨rfl, hbr1⟩
  obtain ⟨hcr1, hfr1⟩ := bcell hbr1
  have hzr1 := hbr1.size
  try simp only [World.size_alloc, World.size_setCell, World.size_drew] at hzr1
  have hlr1w0 : w.heap.size < r1.heap.size := by omega
  have hlr1w1 : w.heap.size + 1 < r1.heap.size := by omega
  have hlr1w2 : w.heap.size + 1 + 1 < r1.heap.size := by omega
  go_wp2_with fail
  refine (C1 _).mono ?_
  rintro _ r2 ⟨rfl, hbr2⟩
  obtain ⟨hcr2, hfr2⟩ := bcell hbr2
  have hzr2 := hbr2.size
  try simp only [World.size_alloc, World.size_setCell, World.size_drew] at hzr2
  have hlr2w0 : w.heap.size < r2.heap.size := by omega
  have hlr2w1 : w.heap.size + 1 < r2.heap.size := by omega
  have hlr2w2 : w.heap.size + 1 + 1 < r2.heap.size := by omega
  go_wp2_with fail
  refine (C2 _).mono ?_
  rintro _ r3 ⟨rfl, hbr3⟩
  obtain ⟨hcr3, hfr3⟩ := bcell hbr3
  have hzr3 := hbr3.size
  try simp only [World.size_alloc, World.size_setCell, World.size_drew] at hzr3
  have hlr3w0 : w.heap.size < r3.heap.size := by omega
  have hlr3w1 : w.heap.size + 1 < r3.heap.size := by omega
  have hlr3w2 : w.heap.size + 1 + 1 < r3.heap.size := by omega
  have hlr3r20 : r2.heap.size < r3.heap.size := by omega
  go_wp2_with fail
  refine (C3 _).mono ?_
  rintro _ r4 ⟨rfl, hbr4⟩
  obtain ⟨hcr4, hfr4⟩ := bcell hbr4
  have hzr4 := hbr4.size
  try simp only [World.size_alloc, World.size_setCell, World.size_drew] at hzr4
  have hlr4w0 : w.heap.size < r4.heap.size := by omega
  have hlr4w1 : w.heap.size + 1 < r4.heap.size := by omega
  have hlr4w2 : w.heap.size + 1 + 1 < r4.heap.size := by omega
  have hlr4r20 : r2.heap.size < r4.heap.size := by omega
  have hlr4r30 : r3.heap.size < r4.heap.size := by omega
  go_wp2_with fail
  have hecr5 := @Ext.cell
  refine wp_region_ext (by kernel_rfl) (by kernel_rfl) ?_
  repeat (first | go_big_quiet_skip | (go_big_quiet_want; go_big_quiet_op; first | go_big_quiet_on | (go_big_quiet_call ((first | fail | (go_at_call 20; with_reducible exact ext_call (C4 _)))))))
  clear hecr5
  refine wpQuiet_nil ?_
  rintro r5 ⟨⟨_, hbr5⟩, rfl⟩
  obtain ⟨hcr5, hfr5⟩ := bcell hbr5
  have hzr5 := hbr5.size
  try simp only [World.size_alloc, World.size_setCell, World.size_drew] at hzr5
  have hlr5w0 : w.heap.size < r5.heap.size := by omega
  have hlr5w1 : w.heap.size + 1 < r5.heap.size := by omega
  have hlr5w2 : w.heap.size + 1 + 1 < r5.heap.size := by omega
  have hlr5r20 : r2.heap.size < r5.heap.size := by omega
  have hlr5r30 : r3.heap.size < r5.heap.size := by omega
  go_wp2_with fail
  have hecr6 := @Ext.cell
  refine wp_region_ext (by kernel_rfl) (by kernel_rfl) ?_
  repeat (first | go_big_quiet_skip | (go_big_quiet_want; go_big_quiet_op; first | go_big_quiet_on | (go_big_quiet_call ((first | fail | (go_at_call 12; with_reducible exact ext_call (V1 _)) | (go_at_call 12; with_reducible exact ext_call (V2 _)))))))
  clear hecr6
  refine wpQuiet_nil ?_
  rintro r6 ⟨⟨_, hbr6⟩, rfl⟩
  obtain ⟨hcr6, hfr6⟩ := bcell hbr6
  have hzr6 := hbr6.size
  try simp only [World.size_alloc, World.size_setCell, World.size_drew] at hzr6
  have hlr6w0 : w.heap.size < r6.heap.size := by omega
  have hlr6w1 : w.heap.size + 1 < r6.heap.size := by omega
  have hlr6w2 : w.heap.size + 1 + 1 < r6.heap.size := by omega
  have hlr6r20 : r2.heap.size < r6.heap.size := by omega
  have hlr6r30 : r3.heap.size < r6.heap.size := by omega
  go_wp2_with fail
  have hecr7 := @Ext.cell
  refine wp_region_ext (by kernel_rfl) (by kernel_rfl) ?_
  repeat (first | go_big_quiet_skip | (go_big_quiet_want; go_big_quiet_op; first | go_big_quiet_on | (go_big_quiet_call ((first | fail | (go_at_call 12; with_reducible exact ext_call (V3 _)) | (go_at_call 12; with_reducible exact ext_call (V4 _)))))))
  clear hecr7
  refine wpQuiet_nil ?_
  rintro r7 ⟨⟨_, hbr7⟩, rfl⟩
  obtain ⟨hcr7, hfr7⟩ := bcell hbr7
  have hzr7 := hbr7.size
  try simp only [World.size_alloc, World.size_setCell, World.size_drew] at hzr7
  have hlr7w0 : w.heap.size < r7.heap.size := by omega
  have hlr7w1 : w.heap.size + 1 < r7.heap.size := by omega
  have hlr7w2 : w.heap.size + 1 + 1 < r7.heap.size := by omega
  have hlr7r20 : r2.heap.size < r7.heap.size := by omega
  have hlr7r30 : r3.heap.size < r7.heap.size := by omega
  go_wp2_with fail
  refine (A1 _).mono ?_
  rintro _ r8 ⟨rfl, hbr8⟩
  obtain ⟨hcr8, hfr8⟩ := bcell hbr8
  have hzr8 := hbr8.size
  try simp only [World.size_alloc, World.size_setCell, World.size_drew] at hzr8
  have hlr8w0 : w.heap.size < r8.heap.size := by omega
  have hlr8w1 : w.heap.size + 1 < r8.heap.size := by omega
  have hlr8w2 : w.heap.size + 1 + 1 < r8.heap.size := by omega
  have hlr8r20 : r2.heap.size < r8.heap.size := by omega
  have hlr8r30 : r3.heap.size < r8.heap.size := by omega
  go_wp2_with fail
  refine (A2 _).mono ?_
  rintro _ r9 ⟨rfl, hbr9⟩
  obtain ⟨hcr9, hfr9⟩ := bcell hbr9
  have hzr9 := hbr9.size
  try simp only [World.size_alloc, World.size_setCell, World.size_drew] at hzr9
  have hlr9w0 : w.heap.size < r9.heap.size := by omega
  have hlr9w1 : w.heap.size + 1 < r9.heap.size := by omega
  have hlr9w2 : w.heap.size + 1 + 1 < r9.heap.size := by omega
  have hlr9r20 : r2.heap.size < r9.heap.size := by omega
  have hlr9r30 : r3.heap.size < r9.heap.size := by omega
  go_wp2_with fail
  refine wp_loop_rounds 5 ?_
  try rw [rounds_succ]
  go_wp2_with fail
  refine (L0 _).mono ?_
  rintro _ r10 ⟨rfl, hbr10⟩
  obtain ⟨hcr10, hfr10⟩ := bcell hbr10
  have hzr10 := hbr10.size
  try simp only [World.size_alloc, World.size_setCell, World.size_drew] at hzr10
  have hlr10r90 : r9.heap.size < r10.heap.size := by omega
  go_wp2_with fail
  refine (S1 _).mono ?_
  rintro _ _ ⟨rfl, rfl⟩
  go_wp2_with fail
  refine (S0 _).mono ?_
  rintro _ _ ⟨rfl, rfl⟩
  go_wp2_with fail
  try rw [rounds_succ]
  go_wp2_with fail
  refine (L1 _).mono ?_
  rintro _ r11 ⟨rfl, hbr11⟩
  obtain ⟨hcr11, hfr11⟩ := bcell hbr11
  have hzr11 := hbr11.size
  try simp only [World.size_alloc, World.size_setCell, World.size_drew] at hzr11
  have hlr11r90 : r9.heap.size < r11.heap.size := by omega
  go_wp2_with fail
  refine (S2 _).mono ?_
  rintro _ _ ⟨rfl, rfl⟩
  go_wp2_with fail
  refine (S0 _).mono ?_
  rintro _ _ ⟨rfl, rfl⟩
  go_wp2_with fail
  try rw [rounds_succ]
  go_wp2_with fail
  refine (L2 _).mono ?_
  rintro _ r12 ⟨rfl, hbr12⟩
  obtain ⟨hcr12, hfr12⟩ := bcell hbr12
  have hzr12 := hbr12.size
  try simp only [World.size_alloc, World.size_setCell, World.size_drew] at hzr12
  have hlr12r90 : r9.heap.size < r12.heap.size := by omega
  go_wp2_with fail
  refine (S3 _).mono ?_
  rintro _ _ ⟨rfl, rfl⟩
  go_wp2_with fail
  refine (S0 _).mono ?_
  rintro _ _ ⟨rfl, rfl⟩
  go_wp2_with fail
  try rw [rounds_succ]
  go_wp2_with fail
  refine (L3 _).mono ?_
  rintro _ r13 ⟨rfl, hbr13⟩
  obtain ⟨hcr13, hfr13⟩ := bcell hbr13
  have hzr13 := hbr13.size
  try simp only [World.size_alloc, World.size_setCell, World.size_drew] at hzr13
  have hlr13r90 : r9.heap.size < r13.heap.size := by omega
  go_wp2_with fail
  refine (S4 _).mono ?_
  rintro _ _ ⟨rfl, rfl⟩
  go_wp2_with fail
  refine (S0 _).mono ?_
  rintro _ _ ⟨rfl, rfl⟩
  go_wp2_with fail
  try rw [rounds_succ]
  go_wp2
  go_ret
  exact ⟨rfl, (by repeat' (first | (with_reducible exact Below.refl _ _) | (with_reducible refine bl_set ?_ _ ?_) | (with_reducible refine bl_alloc ?_ _) | (with_reducible refine bl_drew ?_) | (with_reducible refine bl_via (by with_reducible assumption) ?_) | (with_reducible assumption) | omega | (simp only []; omega) | (simp; omega)))⟩
theorem throttles_walk (e0 e1 e2 e3 e4 e5 e6 e7 v0 v1 o0 o1 x0 x1 y0 y1 v o x y s s1 s2 s3 s4 l0 l1 l2 l3 : Int) (av bv : Bool)
    (C1 : (∀ w, Calls Try.prog 18 #[(.agg #[.int .u16 (e0), .int .u16 (e1), .int .u16 (e2), .int .u16 (e3), .int .u16 (e4), .int .u16 (e5), .int .u16 (e6), .int .u16 (e7)]), (.agg #[.int .u16 (v0), .int .u16 (v1)])] w fun e w' => e = .returned (.tuple #[(.agg #[.int .u16 (x0), .int .u16 (x1)]), .int .i64 0]) ∧ Below w.heap.size w w'))
    (C2 : (∀ w, Calls Try.prog 18 #[(.agg #[.int .u16 (e0), .int .u16 (e1), .int .u16 (e2), .int .u16 (e3), .int .u16 (e4), .int .u16 (e5), .int .u16 (e6), .int .u16 (e7)]), (.agg #[.int .u16 (o0), .int .u16 (o1)])] w fun e w' => e = .returned (.tuple #[(.agg #[.int .u16 (y0), .int .u16 (y1)]), .int .i64 0]) ∧ Below w.heap.size w w'))
    (C3 : (∀ w, Calls Try.prog 19 #[(.agg #[.int .u16 (e0), .int .u16 (e1), .int .u16 (e2), .int .u16 (e3), .int .u16 (e4), .int .u16 (e5), .int .u16 (e6), .int .u16 (e7)])] w fun e w' => e = .returned (.bool true) ∧ Below w.heap.size w w'))
    (C4 : (∀ w, Calls Try.prog 20 #[(.agg #[.int .u16 (e0), .int .u16 (e1), .int .u16 (e2), .int .u16 (e3), .int .u16 (e4), .int .u16 (e5), .int .u16 (e6), .int .u16 (e7)]), (.agg #[.int .u16 (v0), .int .u16 (v1)])] w fun e w' => e = .returned (.agg #[.int .u16 (x0), .int .u16 (x1)]) ∧ Below w.heap.size w w'))
    (V1 : (∀ w, Calls Try.prog 12 #[(.agg #[.int .u16 (v0), .int .u16 (v1)])] w fun e w' => e = .returned (.int .i64 v) ∧ Below w.heap.size w w'))
    (V2 : (∀ w, Calls Try.prog 12 #[(.agg #[.int .u16 (o0), .int .u16 (o1)])] w fun e w' => e = .returned (.int .i64 o) ∧ Below w.heap.size w w'))
    (V3 : (∀ w, Calls Try.prog 12 #[(.agg #[.int .u16 (x0), .int .u16 (x1)])] w fun e w' => e = .returned (.int .i64 x) ∧ Below w.heap.size w w'))
    (V4 : (∀ w, Calls Try.prog 12 #[(.agg #[.int .u16 (y0), .int .u16 (y1)])] w fun e w' => e = .returned (.int .i64 y) ∧ Below w.heap.size w w'))
    (A1 : (∀ w, Calls Try.prog 21 #[(.agg #[.int .u16 (e0), .int .u16 (e1), .int .u16 (e2), .int .u16 (e3), .int .u16 (e4), .int .u16 (e5), .int .u16 (e6), .int .u16 (e7)]), .int .i64 x] w fun e w' => e = .returned (.bool true) ∧ Below w.heap.size w w'))
    (A2 : (∀ w, Calls Try.prog 21 #[(.agg #[.int .u16 (e0), .int .u16 (e1), .int .u16 (e2), .int .u16 (e3), .int .u16 (e4), .int .u16 (e5), .int .u16 (e6), .int .u16 (e7)]), .int .i64 v] w fun e w' => e = .returned (.bool av) ∧ Below w.heap.size w w'))
    (h1 : av = false ∨ av = true ∧ (x != v) = false)
    (dv : decide (v ≤ o) = bv)
    (h2 : bv = false ∨ bv = true ∧ decide (y < x) = false)
    (vb0 : -268435455 ≤ v) (vb1 : v ≤ 268435455) (xb0 : -268435455 ≤ x) (xb1 : x ≤ 268435455)
    (S0 : (∀ w, Calls Try.prog 22 #[.int .i64 (v - x)] w fun e w' => e = .returned (.int .i64 s) ∧ w = w'))
    (L0 : (∀ w, Calls Try.prog 12 #[(.agg #[.int .u16 (e0), .int .u16 (e1)])] w fun e w' => e = .returned (.int .i64 l0) ∧ Below w.heap.size w w'))
    (lb0 : -268435455 ≤ l0) (lc0 : l0 ≤ 268435455)
    (S1 : (∀ w, Calls Try.prog 22 #[.int .i64 (v - l0)] w fun e w' => e = .returned (.int .i64 s1) ∧ w = w'))
    (q0 : decide (s1 < s) = false)
    (L1 : (∀ w, Calls Try.prog 12 #[(.agg #[.int .u16 (e2), .int .u16 (e3)])] w fun e w' => e = .returned (.int .i64 l1) ∧ Below w.heap.size w w'))
    (lb1 : -268435455 ≤ l1) (lc1 : l1 ≤ 268435455)
    (S2 : (∀ w, Calls Try.prog 22 #[.int .i64 (v - l1)] w fun e w' => e = .returned (.int .i64 s2) ∧ w = w'))
    (q1 : decide (s2 < s) = false)
    (L2 : (∀ w, Calls Try.prog 12 #[(.agg #[.int .u16 (e4), .int .u16 (e5)])] w fun e w' => e = .returned (.int .i64 l2) ∧ Below w.heap.size w w'))
    (lb2 : -268435455 ≤ l2) (lc2 : l2 ≤ 268435455)
    (S3 : (∀ w, Calls Try.prog 22 #[.int .i64 (v - l2)] w fun e w' => e = .returned (.int .i64 s3) ∧ w = w'))
    (q2 : decide (s3 < s) = false)
    (L3 : (∀ w, Calls Try.prog 12 #[(.agg #[.int .u16 (e6), .int .u16 (e7)])] w fun e w' => e = .returned (.int .i64 l3) ∧ Below w.heap.size w w'))
    (lb3 : -268435455 ≤ l3) (lc3 : l3 ≤ 268435455)
    (S4 : (∀ w, Calls Try.prog 22 #[.int .i64 (v - l3)] w fun e w' => e = .returned (.int .i64 s4) ∧ w = w'))
    (q3 : decide (s4 < s) = false) (w : World) :
    Calls Try.prog 6 #[(.agg #[.int .u16 (e0), .int .u16 (e1), .int .u16 (e2), .int .u16 (e3), .int .u16 (e4), .int .u16 (e5), .int .u16 (e6), .int .u16 (e7)]), (.agg #[.int .u16 (v0), .int .u16 (v1)]), (.agg #[.int .u16 (o0), .int .u16 (o1)])] w fun e w' => e = .returned (.bool true) ∧ Below w.heap.size w w' := by
  cases av <;> cases bv <;> simp only [Bool.false_eq_true, Bool.true_eq_false, false_and, true_and, false_or, or_false, true_or, or_true, reduceCtorEq] at h1 h2
  · exact throttles_false_false _ _ _ _ _ _ _ _ _ _ _ _ _ _ _ _ _ _ _ _ _ _ _ _ _ _ _ _ _ C1 C2 C3 C4 V1 V2 V3 V4 A1 A2 vb0 vb1 xb0 xb1 S0 L0 lb0 lc0 S1 q0 L1 lb1 lc1 S2 q1 L2 lb2 lc2 S3 q2 L3 lb3 lc3 S4 q3 dv w
  · exact throttles_false_true _ _ _ _ _ _ _ _ _ _ _ _ _ _ _ _ _ _ _ _ _ _ _ _ _ _ _ _ _ C1 C2 C3 C4 V1 V2 V3 V4 A1 A2 vb0 vb1 xb0 xb1 S0 L0 lb0 lc0 S1 q0 L1 lb1 lc1 S2 q1 L2 lb2 lc2 S3 q2 L3 lb3 lc3 S4 q3 dv h2 w
  · exact throttles_true_false _ _ _ _ _ _ _ _ _ _ _ _ _ _ _ _ _ _ _ _ _ _ _ _ _ _ _ _ _ C1 C2 C3 C4 V1 V2 V3 V4 A1 A2 vb0 vb1 xb0 xb1 S0 L0 lb0 lc0 S1 q0 L1 lb1 lc1 S2 q1 L2 lb2 lc2 S3 q2 L3 lb3 lc3 S4 q3 dv (by simpa using h1) w
  · exact throttles_true_true _ _ _ _ _ _ _ _ _ _ _ _ _ _ _ _ _ _ _ _ _ _ _ _ _ _ _ _ _ C1 C2 C3 C4 V1 V2 V3 V4 A1 A2 vb0 vb1 xb0 xb1 S0 L0 lb0 lc0 S1 q0 L1 lb1 lc1 S2 q1 L2 lb2 lc2 S3 q2 L3 lb3 lc3 S4 q3 dv (by simpa using h1) h2 w
theorem throttles_law (e0 e1 e2 e3 e4 e5 e6 e7 v0 v1 o0 o1 : Int) (he00 : 0 ≤ e0) (he01 : e0 < 65536) (he10 : 0 ≤ e1) (he11 : e1 < 65536) (he20 : 0 ≤ e2) (he21 : e2 < 65536) (he30 : 0 ≤ e3) (he31 : e3 < 65536) (he40 : 0 ≤ e4) (he41 : e4 < 65536) (he50 : 0 ≤ e5) (he51 : e5 < 65536) (he60 : 0 ≤ e6) (he61 : e6 < 65536) (he70 : 0 ≤ e7) (he71 : e7 < 65536) (hv00 : 0 ≤ v0) (hv01 : v0 < 65536) (hv10 : 0 ≤ v1) (hv11 : v1 < 65536) (ho00 : 0 ≤ o0) (ho01 : o0 < 65536) (ho10 : 0 ≤ o1) (ho11 : o1 < 65536) (w : World) :
    Calls Try.prog 6 #[(.agg #[.int .u16 (e0), .int .u16 (e1), .int .u16 (e2), .int .u16 (e3), .int .u16 (e4), .int .u16 (e5), .int .u16 (e6), .int .u16 (e7)]), (.agg #[.int .u16 (v0), .int .u16 (v1)]), (.agg #[.int .u16 (o0), .int .u16 (o1)])] w fun e w' => e = .returned (.bool true) ∧ Below w.heap.size w w' := by
  by_cases h : 0 ≤ val e0 e1 ∧ val e0 e1 ≤ val e2 e3 ∧ val e2 e3 ≤ val e4 e5 ∧ val e4 e5 ≤ val e6 e7
  all_goals have b00 := val_lo e0 e1
  all_goals have b01 := val_hi e0 e1
  all_goals have b10 := val_lo e2 e3
  all_goals have b11 := val_hi e2 e3
  all_goals have b20 := val_lo e4 e5
  all_goals have b21 := val_hi e4 e5
  all_goals have b30 := val_lo e6 e7
  all_goals have b31 := val_hi e6 e7
  · have vl := val_lo v0 v1
    have vh := val_hi v0 v1
    have ol := val_lo o0 o1
    have oh := val_hi o0 o1
    obtain ⟨xl, xh⟩ := thrv_bd (val v0 v1) (val e0 e1) (val e2 e3) (val e4 e5) (val e6 e7) vl vh h b31
    obtain ⟨yl, yh⟩ := thrv_bd (val o0 o1) (val e0 e1) (val e2 e3) (val e4 e5) (val e6 e7) ol oh h b31
    have kx := hi_lo _ xl xh
    have ky := hi_lo _ yl yh
    have V3 := fun w => rvalue_any (hi (thrv (val v0 v1) (val e0 e1) (val e2 e3) (val e4 e5) (val e6 e7))) (lo (thrv (val v0 v1) (val e0 e1) (val e2 e3) (val e4 e5) (val e6 e7))) (by omega) (by omega) (by omega) (by omega) w
    simp only [val_of _ xl xh] at V3
    have V4 := fun w => rvalue_any (hi (thrv (val o0 o1) (val e0 e1) (val e2 e3) (val e4 e5) (val e6 e7))) (lo (thrv (val o0 o1) (val e0 e1) (val e2 e3) (val e4 e5) (val e6 e7))) (by omega) (by omega) (by omega) (by omega) w
    simp only [val_of _ yl yh] at V4
    obtain ⟨g1, g2⟩ := thrv_alw (val v0 v1) (val e0 e1) (val e2 e3) (val e4 e5) (val e6 e7) h
    have A1 := fun w => allowed_any (thrv (val v0 v1) (val e0 e1) (val e2 e3) (val e4 e5) (val e6 e7)) e0 e1 e2 e3 e4 e5 e6 e7 he00 he01 he10 he11 he20 he21 he30 he31 he40 he41 he50 he51 he60 he61 he70 he71 w
    simp only [g1] at A1
    refine throttles_walk e0 e1 e2 e3 e4 e5 e6 e7 v0 v1 o0 o1 _ _ _ _ (val v0 v1) (val o0 o1) (thrv (val v0 v1) (val e0 e1) (val e2 e3) (val e4 e5) (val e6 e7)) (thrv (val o0 o1) (val e0 e1) (val e2 e3) (val e4 e5) (val e6 e7)) _ _ _ _ _ _ _ _ _ _ _
      (fun w => throttle_any v0 v1 e0 e1 e2 e3 e4 e5 e6 e7 hv00 hv01 hv10 hv11 he00 he01 he10 he11 he20 he21 he30 he31 he40 he41 he50 he51 he60 he61 he70 he71 h w) (fun w => throttle_any o0 o1 e0 e1 e2 e3 e4 e5 e6 e7 ho00 ho01 ho10 ho11 he00 he01 he10 he11 he20 he21 he30 he31 he40 he41 he50 he51 he60 he61 he70 he71 h w) (fun w => valid_yes e0 e1 e2 e3 e4 e5 e6 e7 he00 he01 he10 he11 he20 he21 he30 he31 he40 he41 he50 he51 he60 he61 he70 he71 h w) (fun w => rthrottle_any v0 v1 e0 e1 e2 e3 e4 e5 e6 e7 hv00 hv01 hv10 hv11 he00 he01 he10 he11 he20 he21 he30 he31 he40 he41 he50 he51 he60 he61 he70 he71 h w)
      (fun w => rvalue_any v0 v1 hv00 hv01 hv10 hv11 w) (fun w => rvalue_any o0 o1 ho00 ho01 ho10 ho11 w) V3 V4 A1 (fun w => allowed_any (val v0 v1) e0 e1 e2 e3 e4 e5 e6 e7 he00 he01 he10 he11 he20 he21 he30 he31 he40 he41 he50 he51 he60 he61 he70 he71 w) ?_ rfl ?_ vl vh xl xh (fun w => size35 _ (by omega) (by omega) w)
      (fun w => rvalue_any e0 e1 he00 he01 he10 he11 w) b00 b01 (fun w => size35 _ (by omega) (by omega) w) (decide_eq_false (by have := thrv_near (val v0 v1) (val e0 e1) (val e2 e3) (val e4 e5) (val e6 e7) (val e0 e1) h (by omega); omega))
      (fun w => rvalue_any e2 e3 he20 he21 he30 he31 w) b10 b11 (fun w => size35 _ (by omega) (by omega) w) (decide_eq_false (by have := thrv_near (val v0 v1) (val e0 e1) (val e2 e3) (val e4 e5) (val e6 e7) (val e2 e3) h (by omega); omega))
      (fun w => rvalue_any e4 e5 he40 he41 he50 he51 w) b20 b21 (fun w => size35 _ (by omega) (by omega) w) (decide_eq_false (by have := thrv_near (val v0 v1) (val e0 e1) (val e2 e3) (val e4 e5) (val e6 e7) (val e4 e5) h (by omega); omega))
      (fun w => rvalue_any e6 e7 he60 he61 he70 he71 w) b30 b31 (fun w => size35 _ (by omega) (by omega) w) (decide_eq_false (by have := thrv_near (val v0 v1) (val e0 e1) (val e2 e3) (val e4 e5) (val e6 e7) (val e6 e7) h (by omega); omega))
      w
    · cases ha : alw (val v0 v1) (val e0 e1) (val e2 e3) (val e4 e5) (val e6 e7)
      · exact .inl rfl
      · exact .inr ⟨rfl, by rw [g2 ha]; simp⟩
    · by_cases hv : val v0 v1 ≤ val o0 o1
      · exact .inr ⟨decide_eq_true hv, decide_eq_false (by have := thrv_mono (val v0 v1) (val o0 o1) (val e0 e1) (val e2 e3) (val e4 e5) (val e6 e7) h hv; omega)⟩
      · exact .inl (decide_eq_false hv)
  · exact throttles_bad e0 e1 e2 e3 e4 e5 e6 e7 v0 v1 o0 o1 he00 he01 he10 he11 he20 he21 he30 he31 he40 he41 he50 he51 he60 he61 he70 he71 hv00 hv01 hv10 hv11 ho00 ho01 ho10 ho11 (fun w => throttle_bad v0 v1 e0 e1 e2 e3 e4 e5 e6 e7 hv00 hv01 hv10 hv11 he00 he01 he10 he11 he20 he21 he30 he31 he40 he41 he50 he51 he60 he61 he70 he71 h w) (fun w => throttle_bad o0 o1 e0 e1 e2 e3 e4 e5 e6 e7 ho00 ho01 ho10 ho11 he00 he01 he10 he11 he20 he21 he30 he31 he40 he41 he50 he51 he60 he61 he70 he71 h w) (fun w => valid_no e0 e1 e2 e3 e4 e5 e6 e7 he00 he01 he10 he11 he20 he21 he30 he31 he40 he41 he50 he51 he60 he61 he70 he71 h w) w
end Go.Proofs.Ytpmocegfiniafaa
