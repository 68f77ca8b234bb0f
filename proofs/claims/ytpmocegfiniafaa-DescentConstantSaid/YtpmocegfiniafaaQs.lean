/- The law DescentCommands: for every input it returns true. Printed by gen_qs.py. -/
import Derived.Test.YtpmocegfiniafaaQk
import Derived.Test.YtpmocegfiniafaaQr
namespace Go.Proofs.Ytpmocegfiniafaa
set_option linter.unusedSimpArgs false
set_option linter.unusedVariables false
open Go.RowKit

set_option maxRecDepth 100000 in
set_option maxHeartbeats 4000000 in
theorem command_bad (s0 s1 s2 s3 s4 s5 s6 s7 s8 s9 s10 s11 t0 t1 t2 t3 t4 t5 t6 t7 t8 t9 t10 t11 t12 t13 : Int) (hs00 : 0 ≤ s0) (hs01 : s0 < 65536) (hs10 : 0 ≤ s1) (hs11 : s1 < 65536) (hs20 : 0 ≤ s2) (hs21 : s2 < 65536) (hs30 : 0 ≤ s3) (hs31 : s3 < 65536) (hs40 : 0 ≤ s4) (hs41 : s4 < 65536) (hs50 : 0 ≤ s5) (hs51 : s5 < 65536) (hs60 : 0 ≤ s6) (hs61 : s6 < 65536) (hs70 : 0 ≤ s7) (hs71 : s7 < 65536) (hs80 : 0 ≤ s8) (hs81 : s8 < 65536) (hs90 : 0 ≤ s9) (hs91 : s9 < 65536) (hs100 : 0 ≤ s10) (hs101 : s10 < 65536) (hs110 : 0 ≤ s11) (hs111 : s11 < 65536) (ht00 : 0 ≤ t0) (ht01 : t0 < 65536) (ht10 : 0 ≤ t1) (ht11 : t1 < 65536) (ht20 : 0 ≤ t2) (ht21 : t2 < 65536) (ht30 : 0 ≤ t3) (ht31 : t3 < 65536) (ht40 : 0 ≤ t4) (ht41 : t4 < 65536) (ht50 : 0 ≤ t5) (ht51 : t5 < 65536) (ht60 : 0 ≤ t6) (ht61 : t6 < 65536) (ht70 : 0 ≤ t7) (ht71 : t7 < 65536) (ht80 : 0 ≤ t8) (ht81 : t8 < 65536) (ht90 : 0 ≤ t9) (ht91 : t9 < 65536) (ht100 : 0 ≤ t10) (ht101 : t10 < 65536) (ht110 : 0 ≤ t11) (ht111 : t11 < 65536) (ht120 : 0 ≤ t12) (ht121 : t12 < 65536) (ht130 : 0 ≤ t13) (ht131 : t13 < 65536) (hT : val t12 t13 ≤ 0) (w : World) :
    Calls Try.prog 11 #[(.agg #[.int .u16 (s0), .int .u16 (s1), .int .u16 (s2), .int .u16 (s3), .int .u16 (s4), .int .u16 (s5), .int .u16 (s6), .int .u16 (s7), .int .u16 (s8), .int .u16 (s9), .int .u16 (s10), .int .u16 (s11)]), (.agg #[.int .u16 (t0), .int .u16 (t1), .int .u16 (t2), .int .u16 (t3), .int .u16 (t4), .int .u16 (t5), .int .u16 (t6), .int .u16 (t7), .int .u16 (t8), .int .u16 (t9), .int .u16 (t10), .int .u16 (t11), .int .u16 (t12), .int .u16 (t13)])] w fun e w' => e = .returned (.tuple #[(.agg #[.int .u16 (0), .int .u16 (0), .int .u16 (0), .int .u16 (0), .int .u16 (0), .int .u16 (0)]), .bool false, .int .i64 2]) ∧ Below w.heap.size w w' := by
  have C1 := fun w => value_any t12 t13 ht120 ht121 ht130 ht131 w
  have hd : decide (val t12 t13 ≤ 0) = true := decide_eq_true hT
  generalize val t12 t13 = tt at *
  clear hT hs00 hs01 hs10 hs11 hs20 hs21 hs30 hs31 hs40 hs41 hs50 hs51 hs60 hs61 hs70 hs71 hs80 hs81 hs90 hs91 hs100 hs101 hs110 hs111 ht00 ht01 ht10 ht11 ht20 ht21 ht30 ht31 ht40 ht41 ht50 ht51 ht60 ht61 ht70 ht71 ht80 ht81 ht90 ht91 ht100 ht101 ht110 ht111 ht120 ht121 ht130 ht131
  go_enter Try.func11, Try.ntmps11
  go_wp2_with fail
  refine (C1 _).mono ?_
  rintro _ r1 ⟨rfl, hbr1⟩
  obtain ⟨hcr1, hfr1⟩ := bcell hbr1
  have hzr1 := hbr1.size
  try simp only [World.size_alloc, World.size_setCell, World.size_drew] at hzr1
  have hlr1w0 : w.heap.size < r1.heap.size := by omega
  have hlr1w1 : w.heap.size + 1 < r1.heap.size := by omega
  have hlr1w2 : w.heap.size + 1 + 1 < r1.heap.size := by omega
  go_wp2
  refine bodyPost_ret (v := (.tuple #[(.agg #[.int .u16 (0), .int .u16 (0), .int .u16 (0), .int .u16 (0), .int .u16 (0), .int .u16 (0)]), .bool false, .int .i64 2])) (by simp [results, Try.results11, go_sem, *]) rfl ⟨rfl, ?_⟩; exact (by repeat' (first | (with_reducible exact Below.refl _ _) | (with_reducible refine bl_set ?_ _ ?_) | (with_reducible refine bl_alloc ?_ _) | (with_reducible refine bl_drew ?_) | (with_reducible refine bl_via (by with_reducible assumption) ?_) | (with_reducible assumption) | omega | (simp only []; omega) | (simp; omega)))

set_option maxRecDepth 100000 in
set_option maxHeartbeats 8000000 in
theorem commands_bad (s0 s1 s2 s3 s4 s5 s6 s7 s8 s9 s10 s11 t0 t1 t2 t3 t4 t5 t6 t7 t8 t9 t10 t11 t12 t13 : Int) (hs00 : 0 ≤ s0) (hs01 : s0 < 65536) (hs10 : 0 ≤ s1) (hs11 : s1 < 65536) (hs20 : 0 ≤ s2) (hs21 : s2 < 65536) (hs30 : 0 ≤ s3) (hs31 : s3 < 65536) (hs40 : 0 ≤ s4) (hs41 : s4 < 65536) (hs50 : 0 ≤ s5) (hs51 : s5 < 65536) (hs60 : 0 ≤ s6) (hs61 : s6 < 65536) (hs70 : 0 ≤ s7) (hs71 : s7 < 65536) (hs80 : 0 ≤ s8) (hs81 : s8 < 65536) (hs90 : 0 ≤ s9) (hs91 : s9 < 65536) (hs100 : 0 ≤ s10) (hs101 : s10 < 65536) (hs110 : 0 ≤ s11) (hs111 : s11 < 65536) (ht00 : 0 ≤ t0) (ht01 : t0 < 65536) (ht10 : 0 ≤ t1) (ht11 : t1 < 65536) (ht20 : 0 ≤ t2) (ht21 : t2 < 65536) (ht30 : 0 ≤ t3) (ht31 : t3 < 65536) (ht40 : 0 ≤ t4) (ht41 : t4 < 65536) (ht50 : 0 ≤ t5) (ht51 : t5 < 65536) (ht60 : 0 ≤ t6) (ht61 : t6 < 65536) (ht70 : 0 ≤ t7) (ht71 : t7 < 65536) (ht80 : 0 ≤ t8) (ht81 : t8 < 65536) (ht90 : 0 ≤ t9) (ht91 : t9 < 65536) (ht100 : 0 ≤ t10) (ht101 : t10 < 65536) (ht110 : 0 ≤ t11) (ht111 : t11 < 65536) (ht120 : 0 ≤ t12) (ht121 : t12 < 65536) (ht130 : 0 ≤ t13) (ht131 : t13 < 65536) (hT : val t12 t13 ≤ 0) (w : World) :
    Calls Try.prog 3 #[(.agg #[.int .u16 (s0), .int .u16 (s1), .int .u16 (s2), .int .u16 (s3), .int .u16 (s4), .int .u16 (s5), .int .u16 (s6), .int .u16 (s7), .int .u16 (s8), .int .u16 (s9), .int .u16 (s10), .int .u16 (s11)]), (.agg #[.int .u16 (t0), .int .u16 (t1), .int .u16 (t2), .int .u16 (t3), .int .u16 (t4), .int .u16 (t5), .int .u16 (t6), .int .u16 (t7), .int .u16 (t8), .int .u16 (t9), .int .u16 (t10), .int .u16 (t11), .int .u16 (t12), .int .u16 (t13)])] w fun e w' => e = .returned (.bool true) ∧ Below w.heap.size w w' := by
  have K := fun w => command_bad s0 s1 s2 s3 s4 s5 s6 s7 s8 s9 s10 s11 t0 t1 t2 t3 t4 t5 t6 t7 t8 t9 t10 t11 t12 t13 hs00 hs01 hs10 hs11 hs20 hs21 hs30 hs31 hs40 hs41 hs50 hs51 hs60 hs61 hs70 hs71 hs80 hs81 hs90 hs91 hs100 hs101 hs110 hs111 ht00 ht01 ht10 ht11 ht20 ht21 ht30 ht31 ht40 ht41 ht50 ht51 ht60 ht61 ht70 ht71 ht80 ht81 ht90 ht91 ht100 ht101 ht110 ht111 ht120 ht121 ht130 ht131 hT w
  have C1 := fun w => value_any t12 t13 ht120 ht121 ht130 ht131 w
  have R1 := fun w => rvalue_any t12 t13 ht120 ht121 ht130 ht131 w
  have hd : decide (val t12 t13 ≤ 0) = true := decide_eq_true hT
  generalize val t12 t13 = tt at *
  clear hT C1 hs00 hs01 hs10 hs11 hs20 hs21 hs30 hs31 hs40 hs41 hs50 hs51 hs60 hs61 hs70 hs71 hs80 hs81 hs90 hs91 hs100 hs101 hs110 hs111 ht00 ht01 ht10 ht11 ht20 ht21 ht30 ht31 ht40 ht41 ht50 ht51 ht60 ht61 ht70 ht71 ht80 ht81 ht90 ht91 ht100 ht101 ht110 ht111 ht120 ht121 ht130 ht131
  have hev := @eq_vec
  go_enter Try.func3, Try.ntmps3
  go_wp2_with fail
  refine (lives35 _).mono ?_
  rintro _ r1 ⟨rfl, hbr1⟩
  obtain ⟨hcr1, hfr1⟩ := bcell hbr1
  have hzr1 := hbr1.size
  try simp only [World.size_alloc, World.size_setCell, World.size_drew] at hzr1
  have hlr1w0 : w.heap.size < r1.heap.size := by omega
  have hlr1w1 : w.heap.size + 1 < r1.heap.size := by omega
  go_wp2_with fail
  refine (K _).mono ?_
  rintro _ r2 ⟨rfl, hbr2⟩
  obtain ⟨hcr2, hfr2⟩ := bcell hbr2
  have hzr2 := hbr2.size
  try simp only [World.size_alloc, World.size_setCell, World.size_drew] at hzr2
  have hlr2w0 : w.heap.size < r2.heap.size := by omega
  have hlr2w1 : w.heap.size + 1 < r2.heap.size := by omega
  go_wp2_with fail
  refine (R1 _).mono ?_
  rintro _ r3 ⟨rfl, hbr3⟩
  obtain ⟨hcr3, hfr3⟩ := bcell hbr3
  have hzr3 := hbr3.size
  try simp only [World.size_alloc, World.size_setCell, World.size_drew] at hzr3
  have hlr3w0 : w.heap.size < r3.heap.size := by omega
  have hlr3w1 : w.heap.size + 1 < r3.heap.size := by omega
  have hlr3r20 : r2.heap.size < r3.heap.size := by omega
  go_wp2
  go_ret
  exact ⟨rfl, (by repeat' (first | (with_reducible exact Below.refl _ _) | (with_reducible refine bl_set ?_ _ ?_) | (with_reducible refine bl_alloc ?_ _) | (with_reducible refine bl_drew ?_) | (with_reducible refine bl_via (by with_reducible assumption) ?_) | (with_reducible assumption) | omega | (simp only []; omega) | (simp; omega)))⟩

set_option maxRecDepth 100000 in
set_option maxHeartbeats 8000000 in
theorem commands_of (c0 c1 c2 c3 c4 c5 tt s0 s1 s2 s3 s4 s5 s6 s7 s8 s9 s10 s11 t0 t1 t2 t3 t4 t5 t6 t7 t8 t9 t10 t11 t12 t13 : Int) (o : Bool) (hd : decide (tt ≤ 0) = false)
    (K : ∀ w, Calls Try.prog 11 #[(.agg #[.int .u16 (s0), .int .u16 (s1), .int .u16 (s2), .int .u16 (s3), .int .u16 (s4), .int .u16 (s5), .int .u16 (s6), .int .u16 (s7), .int .u16 (s8), .int .u16 (s9), .int .u16 (s10), .int .u16 (s11)]), (.agg #[.int .u16 (t0), .int .u16 (t1), .int .u16 (t2), .int .u16 (t3), .int .u16 (t4), .int .u16 (t5), .int .u16 (t6), .int .u16 (t7), .int .u16 (t8), .int .u16 (t9), .int .u16 (t10), .int .u16 (t11), .int .u16 (t12), .int .u16 (t13)])] w fun e w' => e = .returned (.tuple #[(.agg #[.int .u16 (c0), .int .u16 (c1), .int .u16 (c2), .int .u16 (c3), .int .u16 (c4), .int .u16 (c5)]), .bool o, .int .i64 0]) ∧ Below w.heap.size w w')
    (R1 : ∀ w, Calls Try.prog 12 #[(.agg #[.int .u16 (t12), .int .u16 (t13)])] w fun e w' => e = .returned (.int .i64 tt) ∧ Below w.heap.size w w')
    (R2 : ∀ w, Calls Try.prog 13 #[(.agg #[.int .u16 (s0), .int .u16 (s1), .int .u16 (s2), .int .u16 (s3), .int .u16 (s4), .int .u16 (s5), .int .u16 (s6), .int .u16 (s7), .int .u16 (s8), .int .u16 (s9), .int .u16 (s10), .int .u16 (s11)]), (.agg #[.int .u16 (t0), .int .u16 (t1), .int .u16 (t2), .int .u16 (t3), .int .u16 (t4), .int .u16 (t5), .int .u16 (t6), .int .u16 (t7), .int .u16 (t8), .int .u16 (t9), .int .u16 (t10), .int .u16 (t11), .int .u16 (t12), .int .u16 (t13)])] w fun e w' => e = .returned (.tuple #[(.agg #[.int .u16 (c0), .int .u16 (c1), .int .u16 (c2), .int .u16 (c3), .int .u16 (c4), .int .u16 (c5)]), .bool o]) ∧ Below w.heap.size w w') (w : World) :
    Calls Try.prog 3 #[(.agg #[.int .u16 (s0), .int .u16 (s1), .int .u16 (s2), .int .u16 (s3), .int .u16 (s4), .int .u16 (s5), .int .u16 (s6), .int .u16 (s7), .int .u16 (s8), .int .u16 (s9), .int .u16 (s10), .int .u16 (s11)]), (.agg #[.int .u16 (t0), .int .u16 (t1), .int .u16 (t2), .int .u16 (t3), .int .u16 (t4), .int .u16 (t5), .int .u16 (t6), .int .u16 (t7), .int .u16 (t8), .int .u16 (t9), .int .u16 (t10), .int .u16 (t11), .int .u16 (t12), .int .u16 (t13)])] w fun e w' => e = .returned (.bool true) ∧ Below w.heap.size w w' := by
  have hev := @eq_vec
  go_enter Try.func3, Try.ntmps3
  go_wp2_with fail
  refine (lives35 _).mono ?_
  rintro _ r1 ⟨rfl, hbr1⟩
  obtain ⟨hcr1, hfr1⟩ := bcell hbr1
  have hzr1 := hbr1.size
  try simp only [World.size_alloc, World.size_setCell, World.size_drew] at hzr1
  have hlr1w0 : w.heap.size < r1.heap.size := by omega
  have hlr1w1 : w.heap.size + 1 < r1.heap.size := by omega
  go_wp2_with fail
  refine (K _).mono ?_
  rintro _ r2 ⟨rfl, hbr2⟩
  obtain ⟨hcr2, hfr2⟩ := bcell hbr2
  have hzr2 := hbr2.size
  try simp only [World.size_alloc, World.size_setCell, World.size_drew] at hzr2
  have hlr2w0 : w.heap.size < r2.heap.size := by omega
  have hlr2w1 : w.heap.size + 1 < r2.heap.size := by omega
  go_wp2_with fail
  refine (R1 _).mono ?_
  rintro _ r3 ⟨rfl, hbr3⟩
  obtain ⟨hcr3, hfr3⟩ := bcell hbr3
  have hzr3 := hbr3.size
  try simp only [World.size_alloc, World.size_setCell, World.size_drew] at hzr3
  have hlr3w0 : w.heap.size < r3.heap.size := by omega
  have hlr3w1 : w.heap.size + 1 < r3.heap.size := by omega
  have hlr3r20 : r2.heap.size < r3.heap.size := by omega
  go_wp2_with fail
  refine (R2 _).mono ?_
  rintro _ r4 ⟨rfl, hbr4⟩
  obtain ⟨hcr4, hfr4⟩ := bcell hbr4
  have hzr4 := hbr4.size
  try simp only [World.size_alloc, World.size_setCell, World.size_drew] at hzr4
  have hlr4w0 : w.heap.size < r4.heap.size := by omega
  have hlr4w1 : w.heap.size + 1 < r4.heap.size := by omega
  have hlr4r20 : r2.heap.size < r4.heap.size := by omega
  go_wp2
  go_ret
  exact ⟨rfl, (by repeat' (first | (with_reducible exact Below.refl _ _) | (with_reducible refine bl_set ?_ _ ?_) | (with_reducible refine bl_alloc ?_ _) | (with_reducible refine bl_drew ?_) | (with_reducible refine bl_via (by with_reducible assumption) ?_) | (with_reducible assumption) | omega | (simp only []; omega) | (simp; omega)))⟩

theorem commands_law (s0 s1 s2 s3 s4 s5 s6 s7 s8 s9 s10 s11 t0 t1 t2 t3 t4 t5 t6 t7 t8 t9 t10 t11 t12 t13 : Int) (hs00 : 0 ≤ s0) (hs01 : s0 < 65536) (hs10 : 0 ≤ s1) (hs11 : s1 < 65536) (hs20 : 0 ≤ s2) (hs21 : s2 < 65536) (hs30 : 0 ≤ s3) (hs31 : s3 < 65536) (hs40 : 0 ≤ s4) (hs41 : s4 < 65536) (hs50 : 0 ≤ s5) (hs51 : s5 < 65536) (hs60 : 0 ≤ s6) (hs61 : s6 < 65536) (hs70 : 0 ≤ s7) (hs71 : s7 < 65536) (hs80 : 0 ≤ s8) (hs81 : s8 < 65536) (hs90 : 0 ≤ s9) (hs91 : s9 < 65536) (hs100 : 0 ≤ s10) (hs101 : s10 < 65536) (hs110 : 0 ≤ s11) (hs111 : s11 < 65536) (ht00 : 0 ≤ t0) (ht01 : t0 < 65536) (ht10 : 0 ≤ t1) (ht11 : t1 < 65536) (ht20 : 0 ≤ t2) (ht21 : t2 < 65536) (ht30 : 0 ≤ t3) (ht31 : t3 < 65536) (ht40 : 0 ≤ t4) (ht41 : t4 < 65536) (ht50 : 0 ≤ t5) (ht51 : t5 < 65536) (ht60 : 0 ≤ t6) (ht61 : t6 < 65536) (ht70 : 0 ≤ t7) (ht71 : t7 < 65536) (ht80 : 0 ≤ t8) (ht81 : t8 < 65536) (ht90 : 0 ≤ t9) (ht91 : t9 < 65536) (ht100 : 0 ≤ t10) (ht101 : t10 < 65536) (ht110 : 0 ≤ t11) (ht111 : t11 < 65536) (ht120 : 0 ≤ t12) (ht121 : t12 < 65536) (ht130 : 0 ≤ t13) (ht131 : t13 < 65536) (w : World) :
    Calls Try.prog 3 #[(.agg #[.int .u16 (s0), .int .u16 (s1), .int .u16 (s2), .int .u16 (s3), .int .u16 (s4), .int .u16 (s5), .int .u16 (s6), .int .u16 (s7), .int .u16 (s8), .int .u16 (s9), .int .u16 (s10), .int .u16 (s11)]), (.agg #[.int .u16 (t0), .int .u16 (t1), .int .u16 (t2), .int .u16 (t3), .int .u16 (t4), .int .u16 (t5), .int .u16 (t6), .int .u16 (t7), .int .u16 (t8), .int .u16 (t9), .int .u16 (t10), .int .u16 (t11), .int .u16 (t12), .int .u16 (t13)])] w fun e w' => e = .returned (.bool true) ∧ Below w.heap.size w w' := by
  by_cases hT : val t12 t13 ≤ 0
  · exact commands_bad s0 s1 s2 s3 s4 s5 s6 s7 s8 s9 s10 s11 t0 t1 t2 t3 t4 t5 t6 t7 t8 t9 t10 t11 t12 t13 hs00 hs01 hs10 hs11 hs20 hs21 hs30 hs31 hs40 hs41 hs50 hs51 hs60 hs61 hs70 hs71 hs80 hs81 hs90 hs91 hs100 hs101 hs110 hs111 ht00 ht01 ht10 ht11 ht20 ht21 ht30 ht31 ht40 ht41 ht50 ht51 ht60 ht61 ht70 ht71 ht80 ht81 ht90 ht91 ht100 ht101 ht110 ht111 ht120 ht121 ht130 ht131 hT w
  · have R2 := fun w => rcommand_any s0 s1 s2 s3 s4 s5 s6 s7 s8 s9 s10 s11 t0 t1 t2 t3 t4 t5 t6 t7 t8 t9 t10 t11 t12 t13 hs00 hs01 hs10 hs11 hs20 hs21 hs30 hs31 hs40 hs41 hs50 hs51 hs60 hs61 hs70 hs71 hs80 hs81 hs90 hs91 hs100 hs101 hs110 hs111 ht00 ht01 ht10 ht11 ht20 ht21 ht30 ht31 ht40 ht41 ht50 ht51 ht60 ht61 ht70 ht71 ht80 ht81 ht90 ht91 ht100 ht101 ht110 ht111 ht120 ht121 ht130 ht131 w
    have K := fun w => command_any s0 s1 s2 s3 s4 s5 s6 s7 s8 s9 s10 s11 t0 t1 t2 t3 t4 t5 t6 t7 t8 t9 t10 t11 t12 t13 hs00 hs01 hs10 hs11 hs20 hs21 hs30 hs31 hs40 hs41 hs50 hs51 hs60 hs61 hs70 hs71 hs80 hs81 hs90 hs91 hs100 hs101 hs110 hs111 ht00 ht01 ht10 ht11 ht20 ht21 ht30 ht31 ht40 ht41 ht50 ht51 ht60 ht61 ht70 ht71 ht80 ht81 ht90 ht91 ht100 ht101 ht110 ht111 ht120 ht121 ht130 ht131 (by omega) w
    refine commands_of _ _ _ _ _ _ (val t12 t13) s0 s1 s2 s3 s4 s5 s6 s7 s8 s9 s10 s11 t0 t1 t2 t3 t4 t5 t6 t7 t8 t9 t10 t11 t12 t13 _ (decide_eq_false hT) K (fun w => rvalue_any t12 t13 ht120 ht121 ht130 ht131 w) ?_ w
    exact fun w => calls_val (R2 w) (by simp only [Bool.or_assoc, Bool.or_comm, Bool.or_left_comm])
end Go.Proofs.Ytpmocegfiniafaa
