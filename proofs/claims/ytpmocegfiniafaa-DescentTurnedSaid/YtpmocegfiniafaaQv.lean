/- The law DescentTurned: for every input it returns true. Printed by gen_qv.py. -/
import Derived.Test.YtpmocegfiniafaaQs
import Derived.Test.YtpmocegfiniafaaQu
namespace Go.Proofs.Ytpmocegfiniafaa
set_option linter.unusedSimpArgs false
set_option linter.unusedVariables false
open Go.RowKit

set_option maxRecDepth 100000 in
set_option maxHeartbeats 8000000 in
theorem negated_of (s0 s1 s2 s3 s4 s5 s6 s7 s8 s9 s10 s11 t0 t1 t2 t3 t4 t5 t6 t7 t8 t9 t10 t11 t12 t13 p0 p1 p2 p3 p4 p5 p6 p7 p8 p9 p10 p11 q0 q1 q2 q3 q4 q5 q6 q7 q8 q9 q10 q11 c0 c1 c2 c3 c4 c5 d0 d1 d2 d3 d4 d5 ee : Int) (o : Bool)
    (N1 : ∀ w, Calls Try.prog 27 #[(.agg #[.int .u16 (s0), .int .u16 (s1), .int .u16 (s2), .int .u16 (s3), .int .u16 (s4), .int .u16 (s5)])] w fun e w' => e = .returned (.agg #[.int .u16 (p0), .int .u16 (p1), .int .u16 (p2), .int .u16 (p3), .int .u16 (p4), .int .u16 (p5)]) ∧ Below w.heap.size w w')
    (N2 : ∀ w, Calls Try.prog 27 #[(.agg #[.int .u16 (s6), .int .u16 (s7), .int .u16 (s8), .int .u16 (s9), .int .u16 (s10), .int .u16 (s11)])] w fun e w' => e = .returned (.agg #[.int .u16 (p6), .int .u16 (p7), .int .u16 (p8), .int .u16 (p9), .int .u16 (p10), .int .u16 (p11)]) ∧ Below w.heap.size w w')
    (N3 : ∀ w, Calls Try.prog 27 #[(.agg #[.int .u16 (t0), .int .u16 (t1), .int .u16 (t2), .int .u16 (t3), .int .u16 (t4), .int .u16 (t5)])] w fun e w' => e = .returned (.agg #[.int .u16 (q0), .int .u16 (q1), .int .u16 (q2), .int .u16 (q3), .int .u16 (q4), .int .u16 (q5)]) ∧ Below w.heap.size w w')
    (N4 : ∀ w, Calls Try.prog 27 #[(.agg #[.int .u16 (t6), .int .u16 (t7), .int .u16 (t8), .int .u16 (t9), .int .u16 (t10), .int .u16 (t11)])] w fun e w' => e = .returned (.agg #[.int .u16 (q6), .int .u16 (q7), .int .u16 (q8), .int .u16 (q9), .int .u16 (q10), .int .u16 (q11)]) ∧ Below w.heap.size w w')
    (K1 : ∀ w, Calls Try.prog 11 #[(.agg #[.int .u16 (s0), .int .u16 (s1), .int .u16 (s2), .int .u16 (s3), .int .u16 (s4), .int .u16 (s5), .int .u16 (s6), .int .u16 (s7), .int .u16 (s8), .int .u16 (s9), .int .u16 (s10), .int .u16 (s11)]), (.agg #[.int .u16 (t0), .int .u16 (t1), .int .u16 (t2), .int .u16 (t3), .int .u16 (t4), .int .u16 (t5), .int .u16 (t6), .int .u16 (t7), .int .u16 (t8), .int .u16 (t9), .int .u16 (t10), .int .u16 (t11), .int .u16 (t12), .int .u16 (t13)])] w fun e w' => e = .returned (.tuple #[(.agg #[.int .u16 (c0), .int .u16 (c1), .int .u16 (c2), .int .u16 (c3), .int .u16 (c4), .int .u16 (c5)]), .bool o, .int .i64 ee]) ∧ Below w.heap.size w w')
    (K2 : ∀ w, Calls Try.prog 11 #[(.agg #[.int .u16 (p0), .int .u16 (p1), .int .u16 (p2), .int .u16 (p3), .int .u16 (p4), .int .u16 (p5), .int .u16 (p6), .int .u16 (p7), .int .u16 (p8), .int .u16 (p9), .int .u16 (p10), .int .u16 (p11)]), (.agg #[.int .u16 (q0), .int .u16 (q1), .int .u16 (q2), .int .u16 (q3), .int .u16 (q4), .int .u16 (q5), .int .u16 (q6), .int .u16 (q7), .int .u16 (q8), .int .u16 (q9), .int .u16 (q10), .int .u16 (q11), .int .u16 (t12), .int .u16 (t13)])] w fun e w' => e = .returned (.tuple #[(.agg #[.int .u16 (d0), .int .u16 (d1), .int .u16 (d2), .int .u16 (d3), .int .u16 (d4), .int .u16 (d5)]), .bool o, .int .i64 ee]) ∧ Below w.heap.size w w')
    (N5 : ∀ w, Calls Try.prog 27 #[(.agg #[.int .u16 (c0), .int .u16 (c1), .int .u16 (c2), .int .u16 (c3), .int .u16 (c4), .int .u16 (c5)])] w fun e w' => e = .returned (.agg #[.int .u16 (d0), .int .u16 (d1), .int .u16 (d2), .int .u16 (d3), .int .u16 (d4), .int .u16 (d5)]) ∧ Below w.heap.size w w') (w : World) :
    Calls Try.prog 9 #[(.agg #[.int .u16 (s0), .int .u16 (s1), .int .u16 (s2), .int .u16 (s3), .int .u16 (s4), .int .u16 (s5), .int .u16 (s6), .int .u16 (s7), .int .u16 (s8), .int .u16 (s9), .int .u16 (s10), .int .u16 (s11)]), (.agg #[.int .u16 (t0), .int .u16 (t1), .int .u16 (t2), .int .u16 (t3), .int .u16 (t4), .int .u16 (t5), .int .u16 (t6), .int .u16 (t7), .int .u16 (t8), .int .u16 (t9), .int .u16 (t10), .int .u16 (t11), .int .u16 (t12), .int .u16 (t13)])] w fun e w' => e = .returned (.bool true) ∧ Below w.heap.size w w' := by
  have hev := @eq_vec
  go_enter Try.func9, Try.ntmps9
  go_wp2_with fail
  refine (lives35 _).mono ?_
  rintro _ r1 ⟨rfl, hbr1⟩
  obtain ⟨hcr1, hfr1⟩ := bcell hbr1
  have hzr1 := hbr1.size
  try simp only [World.size_alloc, World.size_setCell, World.size_drew] at hzr1
  have hlr1w0 : w.heap.size < r1.heap.size := by omega
  have hlr1w1 : w.heap.size + 1 < r1.heap.size := by omega
  go_wp2_with fail
  refine (K1 _).mono ?_
  rintro _ r2 ⟨rfl, hbr2⟩
  obtain ⟨hcr2, hfr2⟩ := bcell hbr2
  have hzr2 := hbr2.size
  try simp only [World.size_alloc, World.size_setCell, World.size_drew] at hzr2
  have hlr2w0 : w.heap.size < r2.heap.size := by omega
  have hlr2w1 : w.heap.size + 1 < r2.heap.size := by omega
  go_wp2_with fail
  have hecr3 := @Ext.cell2
  refine wp_region_floatl2 21 20 19 _ _ _ _ _ (.cells #[.int .u16 0, .int .u16 0, .int .u16 0, .int .u16 0, .int .u16 0, .int .u16 0] 27) (by kernel_rfl) rfl rfl (by kernel_rfl) (by kernel_rfl) (by kernel_rfl) rfl rfl rfl rfl (fun _ _ => by simp [go_sem]) (fun _ _ d _ _ h => by cases d <;> exact h) (by kernel_rfl) (by kernel_rfl) rfl ?_
  apply Exists.intro
  refine ⟨fun W' => ?_, ?_⟩
  · simp only [List.take_succ_cons, List.take_zero]
    repeat (first | go_big_quiet_skip | (go_big_quiet_want; go_big_quiet_op; first | go_big_quiet_on | (go_big_quiet_call ((first | fail | (go_at_call 27; with_reducible exact ext_call (N1 _)) | (go_at_call 27; with_reducible exact ext_call (N2 _)) | (go_at_call 27; with_reducible exact ext_call (N3 _)) | (go_at_call 27; with_reducible exact ext_call (N4 _)) | (go_at_call 11; with_reducible exact ext_call (K2 _)))))))
    exact wpQuiet_nil rfl
  clear hecr3
  simp only [List.drop_succ_cons, List.drop_zero, Act.put, List.setIfInBounds_toArray, List.set_cons_zero, List.set_cons_succ]
  intro B3 r3 hbr3 hBr3 hDr3 hEr3
  have hGr3_0 := block_cell hEr3 0
  have hGr3_1 := block_cell hEr3 1
  have hGr3_2 := block_cell hEr3 2
  have hGr3_3 := block_cell hEr3 3
  have hGr3_4 := block_cell hEr3 4
  have hGr3_5 := block_cell hEr3 5
  have hFr3 := block_free hEr3
  simp only [List.getElem?_toArray, List.getElem?_cons_zero, List.getElem?_cons_succ] at hGr3_0 hGr3_1 hGr3_2 hGr3_3 hGr3_4 hGr3_5
  clear hEr3
  try simp only [World.size_alloc, World.size_setCell, World.size_drew] at hBr3
  obtain ⟨hcr3, hfr3⟩ := bcell hbr3
  have hzr3 := hbr3.size
  try simp only [World.size_alloc, World.size_setCell, World.size_drew] at hzr3
  have hlr3w0 : w.heap.size < r3.heap.size := by omega
  have hlr3w1 : w.heap.size + 1 < r3.heap.size := by omega
  have hlr3r20 : r2.heap.size < r3.heap.size := by omega
  have n3 : r2.heap.size ≠ B3 := by omega
  have n3' := Ne.symm n3
  go_wp2_with fail
  have hecr4 := @Ext.cell
  refine wp_region_ext (by kernel_rfl) (by kernel_rfl) ?_
  repeat (first | go_big_quiet_skip | (go_big_quiet_want; go_big_quiet_op; first | go_big_quiet_on | (go_big_quiet_call ((first | fail | (go_at_call 27; with_reducible exact ext_call (N5 _)))))))
  clear hecr4
  refine wpQuiet_nil ?_
  rintro r4 ⟨⟨_, hbr4⟩, rfl⟩
  obtain ⟨hcr4, hfr4⟩ := bcell hbr4
  have hzr4 := hbr4.size
  try simp only [World.size_alloc, World.size_setCell, World.size_drew] at hzr4
  have hlr4w0 : w.heap.size < r4.heap.size := by omega
  have hlr4w1 : w.heap.size + 1 < r4.heap.size := by omega
  have hlr4r20 : r2.heap.size < r4.heap.size := by omega
  have hlr4B3 : B3 < r4.heap.size := by omega
  go_wp2
  go_ret
  exact ⟨rfl, (by repeat' (first | (with_reducible exact Below.refl _ _) | (with_reducible refine bl_set ?_ _ ?_) | (with_reducible refine bl_alloc ?_ _) | (with_reducible refine bl_drew ?_) | (with_reducible refine bl_via (by with_reducible assumption) ?_) | (with_reducible assumption) | omega | (simp only []; omega) | (simp; omega)))⟩

theorem zero_neg (w : World) : Calls Try.prog 27 #[(.agg #[.int .u16 (0), .int .u16 (0), .int .u16 (0), .int .u16 (0), .int .u16 (0), .int .u16 (0)])] w fun e w' => e = .returned (.agg #[.int .u16 (0), .int .u16 (0), .int .u16 (0), .int .u16 (0), .int .u16 (0), .int .u16 (0)]) ∧ Below w.heap.size w w' := by
  have k := vneg_any 0 0 0 0 0 0 (by omega) (by omega) (by omega) (by omega) (by omega) (by omega) (by omega) (by omega) (by omega) (by omega) (by omega) (by omega) w
  rw [show -val 0 0 = 0 by decide +kernel, show hi 0 = 0 by decide +kernel, show lo 0 = 0 by decide +kernel] at k
  exact k
theorem cmc_bd (a b c d T : Int) : -268435455 ≤ cmc a b c d T ∧ cmc a b c d T ≤ 268435455 := ⟨sat_lo _ _ (by omega), sat_hi _ _ (by omega)⟩
set_option maxRecDepth 100000 in
set_option maxHeartbeats 8000000 in
theorem turned_law (s0 s1 s2 s3 s4 s5 s6 s7 s8 s9 s10 s11 t0 t1 t2 t3 t4 t5 t6 t7 t8 t9 t10 t11 t12 t13 : Int) (hs00 : 0 ≤ s0) (hs01 : s0 < 65536) (hs10 : 0 ≤ s1) (hs11 : s1 < 65536) (hs20 : 0 ≤ s2) (hs21 : s2 < 65536) (hs30 : 0 ≤ s3) (hs31 : s3 < 65536) (hs40 : 0 ≤ s4) (hs41 : s4 < 65536) (hs50 : 0 ≤ s5) (hs51 : s5 < 65536) (hs60 : 0 ≤ s6) (hs61 : s6 < 65536) (hs70 : 0 ≤ s7) (hs71 : s7 < 65536) (hs80 : 0 ≤ s8) (hs81 : s8 < 65536) (hs90 : 0 ≤ s9) (hs91 : s9 < 65536) (hs100 : 0 ≤ s10) (hs101 : s10 < 65536) (hs110 : 0 ≤ s11) (hs111 : s11 < 65536) (ht00 : 0 ≤ t0) (ht01 : t0 < 65536) (ht10 : 0 ≤ t1) (ht11 : t1 < 65536) (ht20 : 0 ≤ t2) (ht21 : t2 < 65536) (ht30 : 0 ≤ t3) (ht31 : t3 < 65536) (ht40 : 0 ≤ t4) (ht41 : t4 < 65536) (ht50 : 0 ≤ t5) (ht51 : t5 < 65536) (ht60 : 0 ≤ t6) (ht61 : t6 < 65536) (ht70 : 0 ≤ t7) (ht71 : t7 < 65536) (ht80 : 0 ≤ t8) (ht81 : t8 < 65536) (ht90 : 0 ≤ t9) (ht91 : t9 < 65536) (ht100 : 0 ≤ t10) (ht101 : t10 < 65536) (ht110 : 0 ≤ t11) (ht111 : t11 < 65536) (ht120 : 0 ≤ t12) (ht121 : t12 < 65536) (ht130 : 0 ≤ t13) (ht131 : t13 < 65536) (w : World) :
    Calls Try.prog 9 #[(.agg #[.int .u16 (s0), .int .u16 (s1), .int .u16 (s2), .int .u16 (s3), .int .u16 (s4), .int .u16 (s5), .int .u16 (s6), .int .u16 (s7), .int .u16 (s8), .int .u16 (s9), .int .u16 (s10), .int .u16 (s11)]), (.agg #[.int .u16 (t0), .int .u16 (t1), .int .u16 (t2), .int .u16 (t3), .int .u16 (t4), .int .u16 (t5), .int .u16 (t6), .int .u16 (t7), .int .u16 (t8), .int .u16 (t9), .int .u16 (t10), .int .u16 (t11), .int .u16 (t12), .int .u16 (t13)])] w fun e w' => e = .returned (.bool true) ∧ Below w.heap.size w w' := by
  have l0 := val_lo s0 s1
  have g0 := val_hi s0 s1
  have k0 := hi_lo (-val s0 s1) (by omega) (by omega)
  have e0 := val_of (-val s0 s1) (by omega) (by omega)
  have l1 := val_lo s2 s3
  have g1 := val_hi s2 s3
  have k1 := hi_lo (-val s2 s3) (by omega) (by omega)
  have e1 := val_of (-val s2 s3) (by omega) (by omega)
  have l2 := val_lo s4 s5
  have g2 := val_hi s4 s5
  have k2 := hi_lo (-val s4 s5) (by omega) (by omega)
  have e2 := val_of (-val s4 s5) (by omega) (by omega)
  have l3 := val_lo s6 s7
  have g3 := val_hi s6 s7
  have k3 := hi_lo (-val s6 s7) (by omega) (by omega)
  have e3 := val_of (-val s6 s7) (by omega) (by omega)
  have l4 := val_lo s8 s9
  have g4 := val_hi s8 s9
  have k4 := hi_lo (-val s8 s9) (by omega) (by omega)
  have e4 := val_of (-val s8 s9) (by omega) (by omega)
  have l5 := val_lo s10 s11
  have g5 := val_hi s10 s11
  have k5 := hi_lo (-val s10 s11) (by omega) (by omega)
  have e5 := val_of (-val s10 s11) (by omega) (by omega)
  have l6 := val_lo t0 t1
  have g6 := val_hi t0 t1
  have k6 := hi_lo (-val t0 t1) (by omega) (by omega)
  have e6 := val_of (-val t0 t1) (by omega) (by omega)
  have l7 := val_lo t2 t3
  have g7 := val_hi t2 t3
  have k7 := hi_lo (-val t2 t3) (by omega) (by omega)
  have e7 := val_of (-val t2 t3) (by omega) (by omega)
  have l8 := val_lo t4 t5
  have g8 := val_hi t4 t5
  have k8 := hi_lo (-val t4 t5) (by omega) (by omega)
  have e8 := val_of (-val t4 t5) (by omega) (by omega)
  have l9 := val_lo t6 t7
  have g9 := val_hi t6 t7
  have k9 := hi_lo (-val t6 t7) (by omega) (by omega)
  have e9 := val_of (-val t6 t7) (by omega) (by omega)
  have l10 := val_lo t8 t9
  have g10 := val_hi t8 t9
  have k10 := hi_lo (-val t8 t9) (by omega) (by omega)
  have e10 := val_of (-val t8 t9) (by omega) (by omega)
  have l11 := val_lo t10 t11
  have g11 := val_hi t10 t11
  have k11 := hi_lo (-val t10 t11) (by omega) (by omega)
  have e11 := val_of (-val t10 t11) (by omega) (by omega)
  have N1 := fun w => vneg_any s0 s1 s2 s3 s4 s5 hs00 hs01 hs10 hs11 hs20 hs21 hs30 hs31 hs40 hs41 hs50 hs51 w
  have N2 := fun w => vneg_any s6 s7 s8 s9 s10 s11 hs60 hs61 hs70 hs71 hs80 hs81 hs90 hs91 hs100 hs101 hs110 hs111 w
  have N3 := fun w => vneg_any t0 t1 t2 t3 t4 t5 ht00 ht01 ht10 ht11 ht20 ht21 ht30 ht31 ht40 ht41 ht50 ht51 w
  have N4 := fun w => vneg_any t6 t7 t8 t9 t10 t11 ht60 ht61 ht70 ht71 ht80 ht81 ht90 ht91 ht100 ht101 ht110 ht111 w
  by_cases hT : val t12 t13 ≤ 0
  · have K1 := fun w => command_bad s0 s1 s2 s3 s4 s5 s6 s7 s8 s9 s10 s11 t0 t1 t2 t3 t4 t5 t6 t7 t8 t9 t10 t11 t12 t13 hs00 hs01 hs10 hs11 hs20 hs21 hs30 hs31 hs40 hs41 hs50 hs51 hs60 hs61 hs70 hs71 hs80 hs81 hs90 hs91 hs100 hs101 hs110 hs111 ht00 ht01 ht10 ht11 ht20 ht21 ht30 ht31 ht40 ht41 ht50 ht51 ht60 ht61 ht70 ht71 ht80 ht81 ht90 ht91 ht100 ht101 ht110 ht111 ht120 ht121 ht130 ht131 hT w
    have K2 := fun w => command_bad (hi (-val s0 s1)) (lo (-val s0 s1)) (hi (-val s2 s3)) (lo (-val s2 s3)) (hi (-val s4 s5)) (lo (-val s4 s5)) (hi (-val s6 s7)) (lo (-val s6 s7)) (hi (-val s8 s9)) (lo (-val s8 s9)) (hi (-val s10 s11)) (lo (-val s10 s11)) (hi (-val t0 t1)) (lo (-val t0 t1)) (hi (-val t2 t3)) (lo (-val t2 t3)) (hi (-val t4 t5)) (lo (-val t4 t5)) (hi (-val t6 t7)) (lo (-val t6 t7)) (hi (-val t8 t9)) (lo (-val t8 t9)) (hi (-val t10 t11)) (lo (-val t10 t11)) t12 t13 (by omega) (by omega) (by omega) (by omega) (by omega) (by omega) (by omega) (by omega) (by omega) (by omega) (by omega) (by omega) (by omega) (by omega) (by omega) (by omega) (by omega) (by omega) (by omega) (by omega) (by omega) (by omega) (by omega) (by omega) (by omega) (by omega) (by omega) (by omega) (by omega) (by omega) (by omega) (by omega) (by omega) (by omega) (by omega) (by omega) (by omega) (by omega) (by omega) (by omega) (by omega) (by omega) (by omega) (by omega) (by omega) (by omega) (by omega) (by omega) ht120 ht121 ht130 ht131 hT w
    exact negated_of _ _ _ _ _ _ _ _ _ _ _ _ _ _ _ _ _ _ _ _ _ _ _ _ _ _ _ _ _ _ _ _ _ _ _ _ _ _ _ _ _ _ _ _ _ _ _ _ _ _ _ _ _ _ _ _ _ _ _ _ _ _ _ _ N1 N2 N3 N4 K1 K2 zero_neg w
  · have K1 := fun w => command_any s0 s1 s2 s3 s4 s5 s6 s7 s8 s9 s10 s11 t0 t1 t2 t3 t4 t5 t6 t7 t8 t9 t10 t11 t12 t13 hs00 hs01 hs10 hs11 hs20 hs21 hs30 hs31 hs40 hs41 hs50 hs51 hs60 hs61 hs70 hs71 hs80 hs81 hs90 hs91 hs100 hs101 hs110 hs111 ht00 ht01 ht10 ht11 ht20 ht21 ht30 ht31 ht40 ht41 ht50 ht51 ht60 ht61 ht70 ht71 ht80 ht81 ht90 ht91 ht100 ht101 ht110 ht111 ht120 ht121 ht130 ht131 (by omega) w
    have K2 := fun w => command_any (hi (-val s0 s1)) (lo (-val s0 s1)) (hi (-val s2 s3)) (lo (-val s2 s3)) (hi (-val s4 s5)) (lo (-val s4 s5)) (hi (-val s6 s7)) (lo (-val s6 s7)) (hi (-val s8 s9)) (lo (-val s8 s9)) (hi (-val s10 s11)) (lo (-val s10 s11)) (hi (-val t0 t1)) (lo (-val t0 t1)) (hi (-val t2 t3)) (lo (-val t2 t3)) (hi (-val t4 t5)) (lo (-val t4 t5)) (hi (-val t6 t7)) (lo (-val t6 t7)) (hi (-val t8 t9)) (lo (-val t8 t9)) (hi (-val t10 t11)) (lo (-val t10 t11)) t12 t13 (by omega) (by omega) (by omega) (by omega) (by omega) (by omega) (by omega) (by omega) (by omega) (by omega) (by omega) (by omega) (by omega) (by omega) (by omega) (by omega) (by omega) (by omega) (by omega) (by omega) (by omega) (by omega) (by omega) (by omega) (by omega) (by omega) (by omega) (by omega) (by omega) (by omega) (by omega) (by omega) (by omega) (by omega) (by omega) (by omega) (by omega) (by omega) (by omega) (by omega) (by omega) (by omega) (by omega) (by omega) (by omega) (by omega) (by omega) (by omega) ht120 ht121 ht130 ht131 (by omega) w
    simp only [e0, e1, e2, e3, e4, e5, e6, e7, e8, e9, e10, e11, cmc_ng, cm1_ng, cm2_ng, cm3_ng, cma_ng, cmb_ng, cmd_ng] at K2
    clear l0 g0 k0 e0 l1 g1 k1 e1 l2 g2 k2 e2 l3 g3 k3 e3 l4 g4 k4 e4 l5 g5 k5 e5 l6 g6 k6 e6 l7 g7 k7 e7 l8 g8 k8 e8 l9 g9 k9 e9 l10 g10 k10 e10 l11 g11 k11 e11
    obtain ⟨b0, b0'⟩ := cmc_bd (val s0 s1) (val s6 s7) (val t0 t1) (val t6 t7) (val t12 t13)
    obtain ⟨b1, b1'⟩ := cmc_bd (val s2 s3) (val s8 s9) (val t2 t3) (val t8 t9) (val t12 t13)
    obtain ⟨b2, b2'⟩ := cmc_bd (val s4 s5) (val s10 s11) (val t4 t5) (val t10 t11) (val t12 t13)
    have j0 := hi_lo _ b0 b0'
    have j1 := hi_lo _ b1 b1'
    have j2 := hi_lo _ b2 b2'
    have N5 := fun w => vneg_any (hi (cmc (val s0 s1) (val s6 s7) (val t0 t1) (val t6 t7) (val t12 t13))) (lo (cmc (val s0 s1) (val s6 s7) (val t0 t1) (val t6 t7) (val t12 t13))) (hi (cmc (val s2 s3) (val s8 s9) (val t2 t3) (val t8 t9) (val t12 t13))) (lo (cmc (val s2 s3) (val s8 s9) (val t2 t3) (val t8 t9) (val t12 t13))) (hi (cmc (val s4 s5) (val s10 s11) (val t4 t5) (val t10 t11) (val t12 t13))) (lo (cmc (val s4 s5) (val s10 s11) (val t4 t5) (val t10 t11) (val t12 t13))) (by omega) (by omega) (by omega) (by omega) (by omega) (by omega) (by omega) (by omega) (by omega) (by omega) (by omega) (by omega) w
    simp only [val_of _ b0 b0', val_of _ b1 b1', val_of _ b2 b2'] at N5
    exact negated_of _ _ _ _ _ _ _ _ _ _ _ _ _ _ _ _ _ _ _ _ _ _ _ _ _ _ _ _ _ _ _ _ _ _ _ _ _ _ _ _ _ _ _ _ _ _ _ _ _ _ _ _ _ _ _ _ _ _ _ _ _ _ _ _ N1 N2 N3 N4 K1 K2 N5 w
end Go.Proofs.Ytpmocegfiniafaa
