/- Contracts of the reference's divided and Command over this translation: what they return, given what the functions of vectors return. -/
import Derived.Test.YtpmocegfiniafaaWc
import Derived.Test.YtpmocegfiniafaaKg
import Derived.Test.YtpmocegfiniafaaWd
namespace Go.Proofs.Ytpmocegfiniafaa
set_option linter.unusedSimpArgs false
set_option linter.unusedVariables false
open Go.RowKit

set_option maxRecDepth 100000 in
set_option maxHeartbeats 4000000 in
theorem rdiv3_t (a0 a1 a2 a3 a4 a5 t0 t1 q0 q1 q2 q3 q4 q5 : Int) (o1 o2 : Bool)
    (D0 : (∀ w, Calls Try.prog 60 #[(.agg #[.int .u16 (a0), .int .u16 (a1)]), (.agg #[.int .u16 (t0), .int .u16 (t1)])] w fun e w' => e = .returned (.tuple #[(.agg #[.int .u16 (q0), .int .u16 (q1)]), .bool true]) ∧ Below w.heap.size w w'))
    (D1 : (∀ w, Calls Try.prog 60 #[(.agg #[.int .u16 (a2), .int .u16 (a3)]), (.agg #[.int .u16 (t0), .int .u16 (t1)])] w fun e w' => e = .returned (.tuple #[(.agg #[.int .u16 (q2), .int .u16 (q3)]), .bool o1]) ∧ Below w.heap.size w w'))
    (D2 : (∀ w, Calls Try.prog 60 #[(.agg #[.int .u16 (a4), .int .u16 (a5)]), (.agg #[.int .u16 (t0), .int .u16 (t1)])] w fun e w' => e = .returned (.tuple #[(.agg #[.int .u16 (q4), .int .u16 (q5)]), .bool o2]) ∧ Below w.heap.size w w')) (w : World) :
    Calls Try.prog 38 #[(.agg #[.int .u16 (a0), .int .u16 (a1), .int .u16 (a2), .int .u16 (a3), .int .u16 (a4), .int .u16 (a5)]), (.agg #[.int .u16 (t0), .int .u16 (t1)])] w fun e w' => e = .returned (.tuple #[(.agg #[.int .u16 (q0), .int .u16 (q1), .int .u16 (q2), .int .u16 (q3), .int .u16 (q4), .int .u16 (q5)]), .bool true]) ∧ Below w.heap.size w w' := by
  go_enter Try.func38, Try.ntmps38
  go_wp2_with fail
  refine (D0 _).mono ?_
  rintro _ r1 ⟨rfl, hbr1⟩
  obtain ⟨hcr1, hfr1⟩ := bcell hbr1
  have hzr1 := hbr1.size
  try simp only [World.size_alloc, World.size_setCell, World.size_drew] at hzr1
  have hlr1w0 : w.heap.size < r1.heap.size := by omega
  have hlr1w1 : w.heap.size + 1 < r1.heap.size := by omega
  have hlr1w2 : w.heap.size + 1 + 1 < r1.heap.size := by omega
  go_wp2_with fail
  refine (D1 _).mono ?_
  rintro _ r2 ⟨rfl, hbr2⟩
  obtain ⟨hcr2, hfr2⟩ := bcell hbr2
  have hzr2 := hbr2.size
  try simp only [World.size_alloc, World.size_setCell, World.size_drew] at hzr2
  have hlr2w0 : w.heap.size < r2.heap.size := by omega
  have hlr2w1 : w.heap.size + 1 < r2.heap.size := by omega
  have hlr2w2 : w.heap.size + 1 + 1 < r2.heap.size := by omega
  have hlr2r10 : r1.heap.size < r2.heap.size := by omega
  go_wp2_with fail
  refine (D2 _).mono ?_
  rintro _ r3 ⟨rfl, hbr3⟩
  obtain ⟨hcr3, hfr3⟩ := bcell hbr3
  have hzr3 := hbr3.size
  try simp only [World.size_alloc, World.size_setCell, World.size_drew] at hzr3
  have hlr3w0 : w.heap.size < r3.heap.size := by omega
  have hlr3w1 : w.heap.size + 1 < r3.heap.size := by omega
  have hlr3w2 : w.heap.size + 1 + 1 < r3.heap.size := by omega
  have hlr3r10 : r1.heap.size < r3.heap.size := by omega
  have hlr3r20 : r2.heap.size < r3.heap.size := by omega
  go_wp2
  refine bodyPost_ret (v := (.tuple #[(.agg #[.int .u16 (q0), .int .u16 (q1), .int .u16 (q2), .int .u16 (q3), .int .u16 (q4), .int .u16 (q5)]), .bool true])) (by simp [results, Try.results38, go_sem, *]) rfl ⟨rfl, ?_⟩; exact (by repeat' (first | (with_reducible exact Below.refl _ _) | (with_reducible refine bl_set ?_ _ ?_) | (with_reducible refine bl_alloc ?_ _) | (with_reducible refine bl_drew ?_) | (with_reducible refine bl_via (by with_reducible assumption) ?_) | (with_reducible assumption) | omega | (simp only []; omega) | (simp; omega)))
set_option maxRecDepth 100000 in
set_option maxHeartbeats 4000000 in
theorem rdiv3_ft (a0 a1 a2 a3 a4 a5 t0 t1 q0 q1 q2 q3 q4 q5 : Int) (o2 : Bool)
    (D0 : (∀ w, Calls Try.prog 60 #[(.agg #[.int .u16 (a0), .int .u16 (a1)]), (.agg #[.int .u16 (t0), .int .u16 (t1)])] w fun e w' => e = .returned (.tuple #[(.agg #[.int .u16 (q0), .int .u16 (q1)]), .bool false]) ∧ Below w.heap.size w w'))
    (D1 : (∀ w, Calls Try.prog 60 #[(.agg #[.int .u16 (a2), .int .u16 (a3)]), (.agg #[.int .u16 (t0), .int .u16 (t1)])] w fun e w' => e = .returned (.tuple #[(.agg #[.int .u16 (q2), .int .u16 (q3)]), .bool true]) ∧ Below w.heap.size w w'))
    (D2 : (∀ w, Calls Try.prog 60 #[(.agg #[.int .u16 (a4), .int .u16 (a5)]), (.agg #[.int .u16 (t0), .int .u16 (t1)])] w fun e w' => e = .returned (.tuple #[(.agg #[.int .u16 (q4), .int .u16 (q5)]), .bool o2]) ∧ Below w.heap.size w w')) (w : World) :
    Calls Try.prog 38 #[(.agg #[.int .u16 (a0), .int .u16 (a1), .int .u16 (a2), .int .u16 (a3), .int .u16 (a4), .int .u16 (a5)]), (.agg #[.int .u16 (t0), .int .u16 (t1)])] w fun e w' => e = .returned (.tuple #[(.agg #[.int .u16 (q0), .int .u16 (q1), .int .u16 (q2), .int .u16 (q3), .int .u16 (q4), .int .u16 (q5)]), .bool true]) ∧ Below w.heap.size w w' := by
  go_enter Try.func38, Try.ntmps38
  go_wp2_with fail
  refine (D0 _).mono ?_
  rintro _ r1 ⟨rfl, hbr1⟩
  obtain ⟨hcr1, hfr1⟩ := bcell hbr1
  have hzr1 := hbr1.size
  try simp only [World.size_alloc, World.size_setCell, World.size_drew] at hzr1
  have hlr1w0 : w.heap.size < r1.heap.size := by omega
  have hlr1w1 : w.heap.size + 1 < r1.heap.size := by omega
  have hlr1w2 : w.heap.size + 1 + 1 < r1.heap.size := by omega
  go_wp2_with fail
  refine (D1 _).mono ?_
  rintro _ r2 ⟨rfl, hbr2⟩
  obtain ⟨hcr2, hfr2⟩ := bcell hbr2
  have hzr2 := hbr2.size
  try simp only [World.size_alloc, World.size_setCell, World.size_drew] at hzr2
  have hlr2w0 : w.heap.size < r2.heap.size := by omega
  have hlr2w1 : w.heap.size + 1 < r2.heap.size := by omega
  have hlr2w2 : w.heap.size + 1 + 1 < r2.heap.size := by omega
  have hlr2r10 : r1.heap.size < r2.heap.size := by omega
  go_wp2_with fail
  refine (D2 _).mono ?_
  rintro _ r3 ⟨rfl, hbr3⟩
  obtain ⟨hcr3, hfr3⟩ := bcell hbr3
  have hzr3 := hbr3.size
  try simp only [World.size_alloc, World.size_setCell, World.size_drew] at hzr3
  have hlr3w0 : w.heap.size < r3.heap.size := by omega
  have hlr3w1 : w.heap.size + 1 < r3.heap.size := by omega
  have hlr3w2 : w.heap.size + 1 + 1 < r3.heap.size := by omega
  have hlr3r10 : r1.heap.size < r3.heap.size := by omega
  have hlr3r20 : r2.heap.size < r3.heap.size := by omega
  go_wp2
  refine bodyPost_ret (v := (.tuple #[(.agg #[.int .u16 (q0), .int .u16 (q1), .int .u16 (q2), .int .u16 (q3), .int .u16 (q4), .int .u16 (q5)]), .bool true])) (by simp [results, Try.results38, go_sem, *]) rfl ⟨rfl, ?_⟩; exact (by repeat' (first | (with_reducible exact Below.refl _ _) | (with_reducible refine bl_set ?_ _ ?_) | (with_reducible refine bl_alloc ?_ _) | (with_reducible refine bl_drew ?_) | (with_reducible refine bl_via (by with_reducible assumption) ?_) | (with_reducible assumption) | omega | (simp only []; omega) | (simp; omega)))
set_option maxRecDepth 100000 in
set_option maxHeartbeats 4000000 in
theorem rdiv3_ff (a0 a1 a2 a3 a4 a5 t0 t1 q0 q1 q2 q3 q4 q5 : Int) (o2 : Bool)
    (D0 : (∀ w, Calls Try.prog 60 #[(.agg #[.int .u16 (a0), .int .u16 (a1)]), (.agg #[.int .u16 (t0), .int .u16 (t1)])] w fun e w' => e = .returned (.tuple #[(.agg #[.int .u16 (q0), .int .u16 (q1)]), .bool false]) ∧ Below w.heap.size w w'))
    (D1 : (∀ w, Calls Try.prog 60 #[(.agg #[.int .u16 (a2), .int .u16 (a3)]), (.agg #[.int .u16 (t0), .int .u16 (t1)])] w fun e w' => e = .returned (.tuple #[(.agg #[.int .u16 (q2), .int .u16 (q3)]), .bool false]) ∧ Below w.heap.size w w'))
    (D2 : (∀ w, Calls Try.prog 60 #[(.agg #[.int .u16 (a4), .int .u16 (a5)]), (.agg #[.int .u16 (t0), .int .u16 (t1)])] w fun e w' => e = .returned (.tuple #[(.agg #[.int .u16 (q4), .int .u16 (q5)]), .bool o2]) ∧ Below w.heap.size w w')) (w : World) :
    Calls Try.prog 38 #[(.agg #[.int .u16 (a0), .int .u16 (a1), .int .u16 (a2), .int .u16 (a3), .int .u16 (a4), .int .u16 (a5)]), (.agg #[.int .u16 (t0), .int .u16 (t1)])] w fun e w' => e = .returned (.tuple #[(.agg #[.int .u16 (q0), .int .u16 (q1), .int .u16 (q2), .int .u16 (q3), .int .u16 (q4), .int .u16 (q5)]), .bool o2]) ∧ Below w.heap.size w w' := by
  go_enter Try.func38, Try.ntmps38
  go_wp2_with fail
  refine (D0 _).mono ?_
  rintro _ r1 ⟨rfl, hbr1⟩
  obtain ⟨hcr1, hfr1⟩ := bcell hbr1
  have hzr1 := hbr1.size
  try simp only [World.size_alloc, World.size_setCell, World.size_drew] at hzr1
  have hlr1w0 : w.heap.size < r1.heap.size := by omega
  have hlr1w1 : w.heap.size + 1 < r1.heap.size := by omega
  have hlr1w2 : w.heap.size + 1 + 1 < r1.heap.size := by omega
  go_wp2_with fail
  refine (D1 _).mono ?_
  rintro _ r2 ⟨rfl, hbr2⟩
  obtain ⟨hcr2, hfr2⟩ := bcell hbr2
  have hzr2 := hbr2.size
  try simp only [World.size_alloc, World.size_setCell, World.size_drew] at hzr2
  have hlr2w0 : w.heap.size < r2.heap.size := by omega
  have hlr2w1 : w.heap.size + 1 < r2.heap.size := by omega
  have hlr2w2 : w.heap.size + 1 + 1 < r2.heap.size := by omega
  have hlr2r10 : r1.heap.size < r2.heap.size := by omega
  go_wp2_with fail
  refine (D2 _).mono ?_
  rintro _ r3 ⟨rfl, hbr3⟩
  obtain ⟨hcr3, hfr3⟩ := bcell hbr3
  have hzr3 := hbr3.size
  try simp only [World.size_alloc, World.size_setCell, World.size_drew] at hzr3
  have hlr3w0 : w.heap.size < r3.heap.size := by omega
  have hlr3w1 : w.heap.size + 1 < r3.heap.size := by omega
  have hlr3w2 : w.heap.size + 1 + 1 < r3.heap.size := by omega
  have hlr3r10 : r1.heap.size < r3.heap.size := by omega
  have hlr3r20 : r2.heap.size < r3.heap.size := by omega
  go_wp2
  refine bodyPost_ret (v := (.tuple #[(.agg #[.int .u16 (q0), .int .u16 (q1), .int .u16 (q2), .int .u16 (q3), .int .u16 (q4), .int .u16 (q5)]), .bool o2])) (by simp [results, Try.results38, go_sem, *]) rfl ⟨rfl, ?_⟩; exact (by repeat' (first | (with_reducible exact Below.refl _ _) | (with_reducible refine bl_set ?_ _ ?_) | (with_reducible refine bl_alloc ?_ _) | (with_reducible refine bl_drew ?_) | (with_reducible refine bl_via (by with_reducible assumption) ?_) | (with_reducible assumption) | omega | (simp only []; omega) | (simp; omega)))
theorem rdiv3_of (a0 a1 a2 a3 a4 a5 t0 t1 q0 q1 q2 q3 q4 q5 : Int) (o0 o1 o2 : Bool)
    (D0 : (∀ w, Calls Try.prog 60 #[(.agg #[.int .u16 (a0), .int .u16 (a1)]), (.agg #[.int .u16 (t0), .int .u16 (t1)])] w fun e w' => e = .returned (.tuple #[(.agg #[.int .u16 (q0), .int .u16 (q1)]), .bool o0]) ∧ Below w.heap.size w w'))
    (D1 : (∀ w, Calls Try.prog 60 #[(.agg #[.int .u16 (a2), .int .u16 (a3)]), (.agg #[.int .u16 (t0), .int .u16 (t1)])] w fun e w' => e = .returned (.tuple #[(.agg #[.int .u16 (q2), .int .u16 (q3)]), .bool o1]) ∧ Below w.heap.size w w'))
    (D2 : (∀ w, Calls Try.prog 60 #[(.agg #[.int .u16 (a4), .int .u16 (a5)]), (.agg #[.int .u16 (t0), .int .u16 (t1)])] w fun e w' => e = .returned (.tuple #[(.agg #[.int .u16 (q4), .int .u16 (q5)]), .bool o2]) ∧ Below w.heap.size w w')) (w : World) :
    Calls Try.prog 38 #[(.agg #[.int .u16 (a0), .int .u16 (a1), .int .u16 (a2), .int .u16 (a3), .int .u16 (a4), .int .u16 (a5)]), (.agg #[.int .u16 (t0), .int .u16 (t1)])] w fun e w' => e = .returned (.tuple #[(.agg #[.int .u16 (q0), .int .u16 (q1), .int .u16 (q2), .int .u16 (q3), .int .u16 (q4), .int .u16 (q5)]), .bool (o0 || o1 || o2)]) ∧ Below w.heap.size w w' := by
  cases o0
  · cases o1
    · exact rdiv3_ff _ _ _ _ _ _ _ _ _ _ _ _ _ _ o2 D0 D1 D2 w
    · exact rdiv3_ft _ _ _ _ _ _ _ _ _ _ _ _ _ _ o2 D0 D1 D2 w
  · exact rdiv3_t _ _ _ _ _ _ _ _ _ _ _ _ _ _ o1 o2 D0 D1 D2 w

set_option maxRecDepth 100000 in
set_option maxHeartbeats 8000000 in
theorem rcmd_0 (s0 s1 s2 s3 s4 s5 s6 s7 s8 s9 s10 s11 t0 t1 t2 t3 t4 t5 t6 t7 t8 t9 t10 t11 t12 t13 f0 f1 f2 f3 f4 f5 g0 g1 g2 g3 g4 g5 h0 h1 h2 h3 h4 h5 p0 p1 p2 p3 p4 p5 n0 n1 n2 n3 n4 n5 m0 m1 m2 m3 m4 m5 v0 v1 v2 v3 v4 v5 u0 u1 u2 u3 u4 u5 c0 c1 c2 c3 c4 c5 : Int) (z1 z2 x1 x2 b x3 d : Bool)
    (C1 : (∀ w, Calls Try.prog 37 #[(.agg #[.int .u16 (t0), .int .u16 (t1), .int .u16 (t2), .int .u16 (t3), .int .u16 (t4), .int .u16 (t5)]), (.agg #[.int .u16 (s0), .int .u16 (s1), .int .u16 (s2), .int .u16 (s3), .int .u16 (s4), .int .u16 (s5)]), .int .i64 (-1)] w fun e w' => e = .returned (.tuple #[(.agg #[.int .u16 (f0), .int .u16 (f1), .int .u16 (f2), .int .u16 (f3), .int .u16 (f4), .int .u16 (f5)]), .bool true]) ∧ Below w.heap.size w w'))
    (C2 : (∀ w, Calls Try.prog 14 #[.int .i64 100663296] w fun e w' => e = .returned (.agg #[.int .u16 (6144), .int .u16 (0)]) ∧ Below w.heap.size w w'))
    (C3 : (∀ w, Calls Try.prog 39 #[(.agg #[.int .u16 (f0), .int .u16 (f1), .int .u16 (f2), .int .u16 (f3), .int .u16 (f4), .int .u16 (f5)]), (.agg #[.int .u16 (6144), .int .u16 (0)])] w fun e w' => e = .returned (.agg #[.int .u16 (g0), .int .u16 (g1), .int .u16 (g2), .int .u16 (g3), .int .u16 (g4), .int .u16 (g5)]) ∧ Below w.heap.size w w'))
    (K1 : (∀ w, Calls Try.prog 38 #[(.agg #[.int .u16 (g0), .int .u16 (g1), .int .u16 (g2), .int .u16 (g3), .int .u16 (g4), .int .u16 (g5)]), (.agg #[.int .u16 (t12), .int .u16 (t13)])] w fun e w' => e = .returned (.tuple #[(.agg #[.int .u16 (h0), .int .u16 (h1), .int .u16 (h2), .int .u16 (h3), .int .u16 (h4), .int .u16 (h5)]), .bool x1]) ∧ Below w.heap.size w w'))
    (K2 : (∀ w, Calls Try.prog 38 #[(.agg #[.int .u16 (h0), .int .u16 (h1), .int .u16 (h2), .int .u16 (h3), .int .u16 (h4), .int .u16 (h5)]), (.agg #[.int .u16 (t12), .int .u16 (t13)])] w fun e w' => e = .returned (.tuple #[(.agg #[.int .u16 (p0), .int .u16 (p1), .int .u16 (p2), .int .u16 (p3), .int .u16 (p4), .int .u16 (p5)]), .bool x2]) ∧ Below w.heap.size w w'))
    (C4 : (∀ w, Calls Try.prog 40 #[(.agg #[.int .u16 (s6), .int .u16 (s7), .int .u16 (s8), .int .u16 (s9), .int .u16 (s10), .int .u16 (s11)]), .int .i64 (-2)] w fun e w' => e = .returned (.tuple #[(.agg #[.int .u16 (n0), .int .u16 (n1), .int .u16 (n2), .int .u16 (n3), .int .u16 (n4), .int .u16 (n5)]), .bool z1]) ∧ Below w.heap.size w w'))
    (C5 : (∀ w, Calls Try.prog 40 #[(.agg #[.int .u16 (t6), .int .u16 (t7), .int .u16 (t8), .int .u16 (t9), .int .u16 (t10), .int .u16 (t11)]), .int .i64 (-3)] w fun e w' => e = .returned (.tuple #[(.agg #[.int .u16 (m0), .int .u16 (m1), .int .u16 (m2), .int .u16 (m3), .int .u16 (m4), .int .u16 (m5)]), .bool z2]) ∧ Below w.heap.size w w'))
    (C6 : (∀ w, Calls Try.prog 37 #[(.agg #[.int .u16 (n0), .int .u16 (n1), .int .u16 (n2), .int .u16 (n3), .int .u16 (n4), .int .u16 (n5)]), (.agg #[.int .u16 (m0), .int .u16 (m1), .int .u16 (m2), .int .u16 (m3), .int .u16 (m4), .int .u16 (m5)]), .int .i64 1] w fun e w' => e = .returned (.tuple #[(.agg #[.int .u16 (v0), .int .u16 (v1), .int .u16 (v2), .int .u16 (v3), .int .u16 (v4), .int .u16 (v5)]), .bool b]) ∧ Below w.heap.size w w'))
    (K3 : (∀ w, Calls Try.prog 38 #[(.agg #[.int .u16 (v0), .int .u16 (v1), .int .u16 (v2), .int .u16 (v3), .int .u16 (v4), .int .u16 (v5)]), (.agg #[.int .u16 (t12), .int .u16 (t13)])] w fun e w' => e = .returned (.tuple #[(.agg #[.int .u16 (u0), .int .u16 (u1), .int .u16 (u2), .int .u16 (u3), .int .u16 (u4), .int .u16 (u5)]), .bool x3]) ∧ Below w.heap.size w w'))
    (C7 : (∀ w, Calls Try.prog 37 #[(.agg #[.int .u16 (p0), .int .u16 (p1), .int .u16 (p2), .int .u16 (p3), .int .u16 (p4), .int .u16 (p5)]), (.agg #[.int .u16 (u0), .int .u16 (u1), .int .u16 (u2), .int .u16 (u3), .int .u16 (u4), .int .u16 (u5)]), .int .i64 (-1)] w fun e w' => e = .returned (.tuple #[(.agg #[.int .u16 (c0), .int .u16 (c1), .int .u16 (c2), .int .u16 (c3), .int .u16 (c4), .int .u16 (c5)]), .bool d]) ∧ Below w.heap.size w w')) (w : World) :
    Calls Try.prog 13 #[(.agg #[.int .u16 (s0), .int .u16 (s1), .int .u16 (s2), .int .u16 (s3), .int .u16 (s4), .int .u16 (s5), .int .u16 (s6), .int .u16 (s7), .int .u16 (s8), .int .u16 (s9), .int .u16 (s10), .int .u16 (s11)]), (.agg #[.int .u16 (t0), .int .u16 (t1), .int .u16 (t2), .int .u16 (t3), .int .u16 (t4), .int .u16 (t5), .int .u16 (t6), .int .u16 (t7), .int .u16 (t8), .int .u16 (t9), .int .u16 (t10), .int .u16 (t11), .int .u16 (t12), .int .u16 (t13)])] w fun e w' => e = .returned (.tuple #[(.agg #[.int .u16 (c0), .int .u16 (c1), .int .u16 (c2), .int .u16 (c3), .int .u16 (c4), .int .u16 (c5)]), .bool true]) ∧ Below w.heap.size w w' := by
  go_enter Try.func13, Try.ntmps13
  go_wp2_with fail
  refine (C1 _).mono ?_
  rintro _ r1 ⟨rfl, hbr1⟩
  obtain ⟨hcr1, hfr1⟩ := bcell hbr1
  have hzr1 := hbr1.size
  try simp only [World.size_alloc, World.size_setCell, World.size_drew] at hzr1
  have hlr1w0 : w.heap.size < r1.heap.size := by omega
  have hlr1w1 : w.heap.size + 1 < r1.heap.size := by omega
  have hlr1w2 : w.heap.size + 1 + 1 < r1.heap.size := by omega
  go_wp2_with fail
  have hecr2 := @Ext.cell2
  refine wp_region_floatl 9 8 _ _ _ _ _ (.cells #[.int .u16 0, .int .u16 0, .int .u16 0, .int .u16 0, .int .u16 0, .int .u16 0] 27) (by kernel_rfl) rfl rfl (by kernel_rfl) (by kernel_rfl) rfl rfl rfl rfl (fun _ _ => by simp [go_sem]) (fun _ _ d _ _ h => by cases d <;> exact h) (by kernel_rfl) (by kernel_rfl) rfl ?_
  apply Exists.intro
  refine ⟨fun W' => ?_, ?_⟩
  · simp only [List.take_succ_cons, List.take_zero]
    repeat (first | go_big_quiet_skip | (go_big_quiet_want; go_big_quiet_op; first | go_big_quiet_on | (go_big_quiet_call ((first | fail | (go_at_call 14; with_reducible exact ext_call (C2 _)) | (go_at_call 39; with_reducible exact ext_call (C3 _)) | (go_at_call 38; with_reducible exact ext_call (K1 _)))))))
    exact wpQuiet_nil rfl
  clear hecr2
  simp only [List.drop_succ_cons, List.drop_zero, Act.put, List.setIfInBounds_toArray, List.set_cons_zero, List.set_cons_succ]
  intro B2 r2 hbr2 hBr2 hDr2 hEr2
  have hGr2_0 := block_cell hEr2 0
  have hGr2_1 := block_cell hEr2 1
  have hGr2_2 := block_cell hEr2 2
  have hGr2_3 := block_cell hEr2 3
  have hGr2_4 := block_cell hEr2 4
  have hGr2_5 := block_cell hEr2 5
  have hFr2 := block_free hEr2
  simp only [List.getElem?_toArray, List.getElem?_cons_zero, List.getElem?_cons_succ] at hGr2_0 hGr2_1 hGr2_2 hGr2_3 hGr2_4 hGr2_5
  clear hEr2
  try simp only [World.size_alloc, World.size_setCell, World.size_drew] at hBr2
  obtain ⟨hcr2, hfr2⟩ := bcell hbr2
  have hzr2 := hbr2.size
  try simp only [World.size_alloc, World.size_setCell, World.size_drew] at hzr2
  have hlr2w0 : w.heap.size < r2.heap.size := by omega
  have hlr2w1 : w.heap.size + 1 < r2.heap.size := by omega
  have hlr2w2 : w.heap.size + 1 + 1 < r2.heap.size := by omega
  have hlr2r10 : r1.heap.size < r2.heap.size := by omega
  go_wp2_with fail
  refine (K2 _).mono ?_
  rintro _ r3 ⟨rfl, hbr3⟩
  obtain ⟨hcr3, hfr3⟩ := bcell hbr3
  have hzr3 := hbr3.size
  try simp only [World.size_alloc, World.size_setCell, World.size_drew] at hzr3
  have hlr3w0 : w.heap.size < r3.heap.size := by omega
  have hlr3w1 : w.heap.size + 1 < r3.heap.size := by omega
  have hlr3w2 : w.heap.size + 1 + 1 < r3.heap.size := by omega
  have hlr3B2 : B2 < r3.heap.size := by omega
  go_wp2_with fail
  refine (C4 _).mono ?_
  rintro _ r4 ⟨rfl, hbr4⟩
  obtain ⟨hcr4, hfr4⟩ := bcell hbr4
  have hzr4 := hbr4.size
  try simp only [World.size_alloc, World.size_setCell, World.size_drew] at hzr4
  have hlr4w0 : w.heap.size < r4.heap.size := by omega
  have hlr4w1 : w.heap.size + 1 < r4.heap.size := by omega
  have hlr4w2 : w.heap.size + 1 + 1 < r4.heap.size := by omega
  have hlr4r30 : r3.heap.size < r4.heap.size := by omega
  go_wp2_with fail
  refine (C5 _).mono ?_
  rintro _ r5 ⟨rfl, hbr5⟩
  obtain ⟨hcr5, hfr5⟩ := bcell hbr5
  have hzr5 := hbr5.size
  try simp only [World.size_alloc, World.size_setCell, World.size_drew] at hzr5
  have hlr5w0 : w.heap.size < r5.heap.size := by omega
  have hlr5w1 : w.heap.size + 1 < r5.heap.size := by omega
  have hlr5w2 : w.heap.size + 1 + 1 < r5.heap.size := by omega
  have hlr5r30 : r3.heap.size < r5.heap.size := by omega
  have hlr5r40 : r4.heap.size < r5.heap.size := by omega
  go_wp2_with fail
  refine (C6 _).mono ?_
  rintro _ r6 ⟨rfl, hbr6⟩
  obtain ⟨hcr6, hfr6⟩ := bcell hbr6
  have hzr6 := hbr6.size
  try simp only [World.size_alloc, World.size_setCell, World.size_drew] at hzr6
  have hlr6w0 : w.heap.size < r6.heap.size := by omega
  have hlr6w1 : w.heap.size + 1 < r6.heap.size := by omega
  have hlr6w2 : w.heap.size + 1 + 1 < r6.heap.size := by omega
  have hlr6r30 : r3.heap.size < r6.heap.size := by omega
  have hlr6r40 : r4.heap.size < r6.heap.size := by omega
  have hlr6r50 : r5.heap.size < r6.heap.size := by omega
  go_wp2_with fail
  refine (K3 _).mono ?_
  rintro _ r7 ⟨rfl, hbr7⟩
  obtain ⟨hcr7, hfr7⟩ := bcell hbr7
  have hzr7 := hbr7.size
  try simp only [World.size_alloc, World.size_setCell, World.size_drew] at hzr7
  have hlr7w0 : w.heap.size < r7.heap.size := by omega
  have hlr7w1 : w.heap.size + 1 < r7.heap.size := by omega
  have hlr7w2 : w.heap.size + 1 + 1 < r7.heap.size := by omega
  have hlr7r30 : r3.heap.size < r7.heap.size := by omega
  have hlr7r60 : r6.heap.size < r7.heap.size := by omega
  go_wp2_with fail
  refine (C7 _).mono ?_
  rintro _ r8 ⟨rfl, hbr8⟩
  obtain ⟨hcr8, hfr8⟩ := bcell hbr8
  have hzr8 := hbr8.size
  try simp only [World.size_alloc, World.size_setCell, World.size_drew] at hzr8
  have hlr8w0 : w.heap.size < r8.heap.size := by omega
  have hlr8w1 : w.heap.size + 1 < r8.heap.size := by omega
  have hlr8w2 : w.heap.size + 1 + 1 < r8.heap.size := by omega
  have hlr8r30 : r3.heap.size < r8.heap.size := by omega
  have hlr8r70 : r7.heap.size < r8.heap.size := by omega
  go_wp2
  refine bodyPost_ret (v := (.tuple #[(.agg #[.int .u16 (c0), .int .u16 (c1), .int .u16 (c2), .int .u16 (c3), .int .u16 (c4), .int .u16 (c5)]), .bool true])) (by simp [results, Try.results13, go_sem, *]) rfl ⟨rfl, ?_⟩; exact (by repeat' (first | (with_reducible exact Below.refl _ _) | (with_reducible refine bl_set ?_ _ ?_) | (with_reducible refine bl_alloc ?_ _) | (with_reducible refine bl_drew ?_) | (with_reducible refine bl_via (by with_reducible assumption) ?_) | (with_reducible assumption) | omega | (simp only []; omega) | (simp; omega)))

set_option maxRecDepth 100000 in
set_option maxHeartbeats 8000000 in
theorem rcmd_1 (s0 s1 s2 s3 s4 s5 s6 s7 s8 s9 s10 s11 t0 t1 t2 t3 t4 t5 t6 t7 t8 t9 t10 t11 t12 t13 f0 f1 f2 f3 f4 f5 g0 g1 g2 g3 g4 g5 h0 h1 h2 h3 h4 h5 p0 p1 p2 p3 p4 p5 n0 n1 n2 n3 n4 n5 m0 m1 m2 m3 m4 m5 v0 v1 v2 v3 v4 v5 u0 u1 u2 u3 u4 u5 c0 c1 c2 c3 c4 c5 : Int) (z1 z2 x2 b x3 d : Bool)
    (C1 : (∀ w, Calls Try.prog 37 #[(.agg #[.int .u16 (t0), .int .u16 (t1), .int .u16 (t2), .int .u16 (t3), .int .u16 (t4), .int .u16 (t5)]), (.agg #[.int .u16 (s0), .int .u16 (s1), .int .u16 (s2), .int .u16 (s3), .int .u16 (s4), .int .u16 (s5)]), .int .i64 (-1)] w fun e w' => e = .returned (.tuple #[(.agg #[.int .u16 (f0), .int .u16 (f1), .int .u16 (f2), .int .u16 (f3), .int .u16 (f4), .int .u16 (f5)]), .bool false]) ∧ Below w.heap.size w w'))
    (C2 : (∀ w, Calls Try.prog 14 #[.int .i64 100663296] w fun e w' => e = .returned (.agg #[.int .u16 (6144), .int .u16 (0)]) ∧ Below w.heap.size w w'))
    (C3 : (∀ w, Calls Try.prog 39 #[(.agg #[.int .u16 (f0), .int .u16 (f1), .int .u16 (f2), .int .u16 (f3), .int .u16 (f4), .int .u16 (f5)]), (.agg #[.int .u16 (6144), .int .u16 (0)])] w fun e w' => e = .returned (.agg #[.int .u16 (g0), .int .u16 (g1), .int .u16 (g2), .int .u16 (g3), .int .u16 (g4), .int .u16 (g5)]) ∧ Below w.heap.size w w'))
    (K1 : (∀ w, Calls Try.prog 38 #[(.agg #[.int .u16 (g0), .int .u16 (g1), .int .u16 (g2), .int .u16 (g3), .int .u16 (g4), .int .u16 (g5)]), (.agg #[.int .u16 (t12), .int .u16 (t13)])] w fun e w' => e = .returned (.tuple #[(.agg #[.int .u16 (h0), .int .u16 (h1), .int .u16 (h2), .int .u16 (h3), .int .u16 (h4), .int .u16 (h5)]), .bool true]) ∧ Below w.heap.size w w'))
    (K2 : (∀ w, Calls Try.prog 38 #[(.agg #[.int .u16 (h0), .int .u16 (h1), .int .u16 (h2), .int .u16 (h3), .int .u16 (h4), .int .u16 (h5)]), (.agg #[.int .u16 (t12), .int .u16 (t13)])] w fun e w' => e = .returned (.tuple #[(.agg #[.int .u16 (p0), .int .u16 (p1), .int .u16 (p2), .int .u16 (p3), .int .u16 (p4), .int .u16 (p5)]), .bool x2]) ∧ Below w.heap.size w w'))
    (C4 : (∀ w, Calls Try.prog 40 #[(.agg #[.int .u16 (s6), .int .u16 (s7), .int .u16 (s8), .int .u16 (s9), .int .u16 (s10), .int .u16 (s11)]), .int .i64 (-2)] w fun e w' => e = .returned (.tuple #[(.agg #[.int .u16 (n0), .int .u16 (n1), .int .u16 (n2), .int .u16 (n3), .int .u16 (n4), .int .u16 (n5)]), .bool z1]) ∧ Below w.heap.size w w'))
    (C5 : (∀ w, Calls Try.prog 40 #[(.agg #[.int .u16 (t6), .int .u16 (t7), .int .u16 (t8), .int .u16 (t9), .int .u16 (t10), .int .u16 (t11)]), .int .i64 (-3)] w fun e w' => e = .returned (.tuple #[(.agg #[.int .u16 (m0), .int .u16 (m1), .int .u16 (m2), .int .u16 (m3), .int .u16 (m4), .int .u16 (m5)]), .bool z2]) ∧ Below w.heap.size w w'))
    (C6 : (∀ w, Calls Try.prog 37 #[(.agg #[.int .u16 (n0), .int .u16 (n1), .int .u16 (n2), .int .u16 (n3), .int .u16 (n4), .int .u16 (n5)]), (.agg #[.int .u16 (m0), .int .u16 (m1), .int .u16 (m2), .int .u16 (m3), .int .u16 (m4), .int .u16 (m5)]), .int .i64 1] w fun e w' => e = .returned (.tuple #[(.agg #[.int .u16 (v0), .int .u16 (v1), .int .u16 (v2), .int .u16 (v3), .int .u16 (v4), .int .u16 (v5)]), .bool b]) ∧ Below w.heap.size w w'))
    (K3 : (∀ w, Calls Try.prog 38 #[(.agg #[.int .u16 (v0), .int .u16 (v1), .int .u16 (v2), .int .u16 (v3), .int .u16 (v4), .int .u16 (v5)]), (.agg #[.int .u16 (t12), .int .u16 (t13)])] w fun e w' => e = .returned (.tuple #[(.agg #[.int .u16 (u0), .int .u16 (u1), .int .u16 (u2), .int .u16 (u3), .int .u16 (u4), .int .u16 (u5)]), .bool x3]) ∧ Below w.heap.size w w'))
    (C7 : (∀ w, Calls Try.prog 37 #[(.agg #[.int .u16 (p0), .int .u16 (p1), .int .u16 (p2), .int .u16 (p3), .int .u16 (p4), .int .u16 (p5)]), (.agg #[.int .u16 (u0), .int .u16 (u1), .int .u16 (u2), .int .u16 (u3), .int .u16 (u4), .int .u16 (u5)]), .int .i64 (-1)] w fun e w' => e = .returned (.tuple #[(.agg #[.int .u16 (c0), .int .u16 (c1), .int .u16 (c2), .int .u16 (c3), .int .u16 (c4), .int .u16 (c5)]), .bool d]) ∧ Below w.heap.size w w')) (w : World) :
    Calls Try.prog 13 #[(.agg #[.int .u16 (s0), .int .u16 (s1), .int .u16 (s2), .int .u16 (s3), .int .u16 (s4), .int .u16 (s5), .int .u16 (s6), .int .u16 (s7), .int .u16 (s8), .int .u16 (s9), .int .u16 (s10), .int .u16 (s11)]), (.agg #[.int .u16 (t0), .int .u16 (t1), .int .u16 (t2), .int .u16 (t3), .int .u16 (t4), .int .u16 (t5), .int .u16 (t6), .int .u16 (t7), .int .u16 (t8), .int .u16 (t9), .int .u16 (t10), .int .u16 (t11), .int .u16 (t12), .int .u16 (t13)])] w fun e w' => e = .returned (.tuple #[(.agg #[.int .u16 (c0), .int .u16 (c1), .int .u16 (c2), .int .u16 (c3), .int .u16 (c4), .int .u16 (c5)]), .bool true]) ∧ Below w.heap.size w w' := by
  go_enter Try.func13, Try.ntmps13
  go_wp2_with fail
  refine (C1 _).mono ?_
  rintro _ r1 ⟨rfl, hbr1⟩
  obtain ⟨hcr1, hfr1⟩ := bcell hbr1
  have hzr1 := hbr1.size
  try simp only [World.size_alloc, World.size_setCell, World.size_drew] at hzr1
  have hlr1w0 : w.heap.size < r1.heap.size := by omega
  have hlr1w1 : w.heap.size + 1 < r1.heap.size := by omega
  have hlr1w2 : w.heap.size + 1 + 1 < r1.heap.size := by omega
  go_wp2_with fail
  have hecr2 := @Ext.cell2
  refine wp_region_floatl 9 8 _ _ _ _ _ (.cells #[.int .u16 0, .int .u16 0, .int .u16 0, .int .u16 0, .int .u16 0, .int .u16 0] 27) (by kernel_rfl) rfl rfl (by kernel_rfl) (by kernel_rfl) rfl rfl rfl rfl (fun _ _ => by simp [go_sem]) (fun _ _ d _ _ h => by cases d <;> exact h) (by kernel_rfl) (by kernel_rfl) rfl ?_
  apply Exists.intro
  refine ⟨fun W' => ?_, ?_⟩
  · simp only [List.take_succ_cons, List.take_zero]
    repeat (first | go_big_quiet_skip | (go_big_quiet_want; go_big_quiet_op; first | go_big_quiet_on | (go_big_quiet_call ((first | fail | (go_at_call 14; with_reducible exact ext_call (C2 _)) | (go_at_call 39; with_reducible exact ext_call (C3 _)) | (go_at_call 38; with_reducible exact ext_call (K1 _)))))))
    exact wpQuiet_nil rfl
  clear hecr2
  simp only [List.drop_succ_cons, List.drop_zero, Act.put, List.setIfInBounds_toArray, List.set_cons_zero, List.set_cons_succ]
  intro B2 r2 hbr2 hBr2 hDr2 hEr2
  have hGr2_0 := block_cell hEr2 0
  have hGr2_1 := block_cell hEr2 1
  have hGr2_2 := block_cell hEr2 2
  have hGr2_3 := block_cell hEr2 3
  have hGr2_4 := block_cell hEr2 4
  have hGr2_5 := block_cell hEr2 5
  have hFr2 := block_free hEr2
  simp only [List.getElem?_toArray, List.getElem?_cons_zero, List.getElem?_cons_succ] at hGr2_0 hGr2_1 hGr2_2 hGr2_3 hGr2_4 hGr2_5
  clear hEr2
  try simp only [World.size_alloc, World.size_setCell, World.size_drew] at hBr2
  obtain ⟨hcr2, hfr2⟩ := bcell hbr2
  have hzr2 := hbr2.size
  try simp only [World.size_alloc, World.size_setCell, World.size_drew] at hzr2
  have hlr2w0 : w.heap.size < r2.heap.size := by omega
  have hlr2w1 : w.heap.size + 1 < r2.heap.size := by omega
  have hlr2w2 : w.heap.size + 1 + 1 < r2.heap.size := by omega
  have hlr2r10 : r1.heap.size < r2.heap.size := by omega
  go_wp2_with fail
  refine (K2 _).mono ?_
  rintro _ r3 ⟨rfl, hbr3⟩
  obtain ⟨hcr3, hfr3⟩ := bcell hbr3
  have hzr3 := hbr3.size
  try simp only [World.size_alloc, World.size_setCell, World.size_drew] at hzr3
  have hlr3w0 : w.heap.size < r3.heap.size := by omega
  have hlr3w1 : w.heap.size + 1 < r3.heap.size := by omega
  have hlr3w2 : w.heap.size + 1 + 1 < r3.heap.size := by omega
  have hlr3B2 : B2 < r3.heap.size := by omega
  go_wp2_with fail
  refine (C4 _).mono ?_
  rintro _ r4 ⟨rfl, hbr4⟩
  obtain ⟨hcr4, hfr4⟩ := bcell hbr4
  have hzr4 := hbr4.size
  try simp only [World.size_alloc, World.size_setCell, World.size_drew] at hzr4
  have hlr4w0 : w.heap.size < r4.heap.size := by omega
  have hlr4w1 : w.heap.size + 1 < r4.heap.size := by omega
  have hlr4w2 : w.heap.size + 1 + 1 < r4.heap.size := by omega
  have hlr4r30 : r3.heap.size < r4.heap.size := by omega
  go_wp2_with fail
  refine (C5 _).mono ?_
  rintro _ r5 ⟨rfl, hbr5⟩
  obtain ⟨hcr5, hfr5⟩ := bcell hbr5
  have hzr5 := hbr5.size
  try simp only [World.size_alloc, World.size_setCell, World.size_drew] at hzr5
  have hlr5w0 : w.heap.size < r5.heap.size := by omega
  have hlr5w1 : w.heap.size + 1 < r5.heap.size := by omega
  have hlr5w2 : w.heap.size + 1 + 1 < r5.heap.size := by omega
  have hlr5r30 : r3.heap.size < r5.heap.size := by omega
  have hlr5r40 : r4.heap.size < r5.heap.size := by omega
  go_wp2_with fail
  refine (C6 _).mono ?_
  rintro _ r6 ⟨rfl, hbr6⟩
  obtain ⟨hcr6, hfr6⟩ := bcell hbr6
  have hzr6 := hbr6.size
  try simp only [World.size_alloc, World.size_setCell, World.size_drew] at hzr6
  have hlr6w0 : w.heap.size < r6.heap.size := by omega
  have hlr6w1 : w.heap.size + 1 < r6.heap.size := by omega
  have hlr6w2 : w.heap.size + 1 + 1 < r6.heap.size := by omega
  have hlr6r30 : r3.heap.size < r6.heap.size := by omega
  have hlr6r40 : r4.heap.size < r6.heap.size := by omega
  have hlr6r50 : r5.heap.size < r6.heap.size := by omega
  go_wp2_with fail
  refine (K3 _).mono ?_
  rintro _ r7 ⟨rfl, hbr7⟩
  obtain ⟨hcr7, hfr7⟩ := bcell hbr7
  have hzr7 := hbr7.size
  try simp only [World.size_alloc, World.size_setCell, World.size_drew] at hzr7
  have hlr7w0 : w.heap.size < r7.heap.size := by omega
  have hlr7w1 : w.heap.size + 1 < r7.heap.size := by omega
  have hlr7w2 : w.heap.size + 1 + 1 < r7.heap.size := by omega
  have hlr7r30 : r3.heap.size < r7.heap.size := by omega
  have hlr7r60 : r6.heap.size < r7.heap.size := by omega
  go_wp2_with fail
  refine (C7 _).mono ?_
  rintro _ r8 ⟨rfl, hbr8⟩
  obtain ⟨hcr8, hfr8⟩ := bcell hbr8
  have hzr8 := hbr8.size
  try simp only [World.size_alloc, World.size_setCell, World.size_drew] at hzr8
  have hlr8w0 : w.heap.size < r8.heap.size := by omega
  have hlr8w1 : w.heap.size + 1 < r8.heap.size := by omega
  have hlr8w2 : w.heap.size + 1 + 1 < r8.heap.size := by omega
  have hlr8r30 : r3.heap.size < r8.heap.size := by omega
  have hlr8r70 : r7.heap.size < r8.heap.size := by omega
  go_wp2
  refine bodyPost_ret (v := (.tuple #[(.agg #[.int .u16 (c0), .int .u16 (c1), .int .u16 (c2), .int .u16 (c3), .int .u16 (c4), .int .u16 (c5)]), .bool true])) (by simp [results, Try.results13, go_sem, *]) rfl ⟨rfl, ?_⟩; exact (by repeat' (first | (with_reducible exact Below.refl _ _) | (with_reducible refine bl_set ?_ _ ?_) | (with_reducible refine bl_alloc ?_ _) | (with_reducible refine bl_drew ?_) | (with_reducible refine bl_via (by with_reducible assumption) ?_) | (with_reducible assumption) | omega | (simp only []; omega) | (simp; omega)))

set_option maxRecDepth 100000 in
set_option maxHeartbeats 8000000 in
theorem rcmd_2 (s0 s1 s2 s3 s4 s5 s6 s7 s8 s9 s10 s11 t0 t1 t2 t3 t4 t5 t6 t7 t8 t9 t10 t11 t12 t13 f0 f1 f2 f3 f4 f5 g0 g1 g2 g3 g4 g5 h0 h1 h2 h3 h4 h5 p0 p1 p2 p3 p4 p5 n0 n1 n2 n3 n4 n5 m0 m1 m2 m3 m4 m5 v0 v1 v2 v3 v4 v5 u0 u1 u2 u3 u4 u5 c0 c1 c2 c3 c4 c5 : Int) (z1 z2 b x3 d : Bool)
    (C1 : (∀ w, Calls Try.prog 37 #[(.agg #[.int .u16 (t0), .int .u16 (t1), .int .u16 (t2), .int .u16 (t3), .int .u16 (t4), .int .u16 (t5)]), (.agg #[.int .u16 (s0), .int .u16 (s1), .int .u16 (s2), .int .u16 (s3), .int .u16 (s4), .int .u16 (s5)]), .int .i64 (-1)] w fun e w' => e = .returned (.tuple #[(.agg #[.int .u16 (f0), .int .u16 (f1), .int .u16 (f2), .int .u16 (f3), .int .u16 (f4), .int .u16 (f5)]), .bool false]) ∧ Below w.heap.size w w'))
    (C2 : (∀ w, Calls Try.prog 14 #[.int .i64 100663296] w fun e w' => e = .returned (.agg #[.int .u16 (6144), .int .u16 (0)]) ∧ Below w.heap.size w w'))
    (C3 : (∀ w, Calls Try.prog 39 #[(.agg #[.int .u16 (f0), .int .u16 (f1), .int .u16 (f2), .int .u16 (f3), .int .u16 (f4), .int .u16 (f5)]), (.agg #[.int .u16 (6144), .int .u16 (0)])] w fun e w' => e = .returned (.agg #[.int .u16 (g0), .int .u16 (g1), .int .u16 (g2), .int .u16 (g3), .int .u16 (g4), .int .u16 (g5)]) ∧ Below w.heap.size w w'))
    (K1 : (∀ w, Calls Try.prog 38 #[(.agg #[.int .u16 (g0), .int .u16 (g1), .int .u16 (g2), .int .u16 (g3), .int .u16 (g4), .int .u16 (g5)]), (.agg #[.int .u16 (t12), .int .u16 (t13)])] w fun e w' => e = .returned (.tuple #[(.agg #[.int .u16 (h0), .int .u16 (h1), .int .u16 (h2), .int .u16 (h3), .int .u16 (h4), .int .u16 (h5)]), .bool false]) ∧ Below w.heap.size w w'))
    (K2 : (∀ w, Calls Try.prog 38 #[(.agg #[.int .u16 (h0), .int .u16 (h1), .int .u16 (h2), .int .u16 (h3), .int .u16 (h4), .int .u16 (h5)]), (.agg #[.int .u16 (t12), .int .u16 (t13)])] w fun e w' => e = .returned (.tuple #[(.agg #[.int .u16 (p0), .int .u16 (p1), .int .u16 (p2), .int .u16 (p3), .int .u16 (p4), .int .u16 (p5)]), .bool true]) ∧ Below w.heap.size w w'))
    (C4 : (∀ w, Calls Try.prog 40 #[(.agg #[.int .u16 (s6), .int .u16 (s7), .int .u16 (s8), .int .u16 (s9), .int .u16 (s10), .int .u16 (s11)]), .int .i64 (-2)] w fun e w' => e = .returned (.tuple #[(.agg #[.int .u16 (n0), .int .u16 (n1), .int .u16 (n2), .int .u16 (n3), .int .u16 (n4), .int .u16 (n5)]), .bool z1]) ∧ Below w.heap.size w w'))
    (C5 : (∀ w, Calls Try.prog 40 #[(.agg #[.int .u16 (t6), .int .u16 (t7), .int .u16 (t8), .int .u16 (t9), .int .u16 (t10), .int .u16 (t11)]), .int .i64 (-3)] w fun e w' => e = .returned (.tuple #[(.agg #[.int .u16 (m0), .int .u16 (m1), .int .u16 (m2), .int .u16 (m3), .int .u16 (m4), .int .u16 (m5)]), .bool z2]) ∧ Below w.heap.size w w'))
    (C6 : (∀ w, Calls Try.prog 37 #[(.agg #[.int .u16 (n0), .int .u16 (n1), .int .u16 (n2), .int .u16 (n3), .int .u16 (n4), .int .u16 (n5)]), (.agg #[.int .u16 (m0), .int .u16 (m1), .int .u16 (m2), .int .u16 (m3), .int .u16 (m4), .int .u16 (m5)]), .int .i64 1] w fun e w' => e = .returned (.tuple #[(.agg #[.int .u16 (v0), .int .u16 (v1), .int .u16 (v2), .int .u16 (v3), .int .u16 (v4), .int .u16 (v5)]), .bool b]) ∧ Below w.heap.size w w'))
    (K3 : (∀ w, Calls Try.prog 38 #[(.agg #[.int .u16 (v0), .int .u16 (v1), .int .u16 (v2), .int .u16 (v3), .int .u16 (v4), .int .u16 (v5)]), (.agg #[.int .u16 (t12), .int .u16 (t13)])] w fun e w' => e = .returned (.tuple #[(.agg #[.int .u16 (u0), .int .u16 (u1), .int .u16 (u2), .int .u16 (u3), .int .u16 (u4), .int .u16 (u5)]), .bool x3]) ∧ Below w.heap.size w w'))
    (C7 : (∀ w, Calls Try.prog 37 #[(.agg #[.int .u16 (p0), .int .u16 (p1), .int .u16 (p2), .int .u16 (p3), .int .u16 (p4), .int .u16 (p5)]), (.agg #[.int .u16 (u0), .int .u16 (u1), .int .u16 (u2), .int .u16 (u3), .int .u16 (u4), .int .u16 (u5)]), .int .i64 (-1)] w fun e w' => e = .returned (.tuple #[(.agg #[.int .u16 (c0), .int .u16 (c1), .int .u16 (c2), .int .u16 (c3), .int .u16 (c4), .int .u16 (c5)]), .bool d]) ∧ Below w.heap.size w w')) (w : World) :
    Calls Try.prog 13 #[(.agg #[.int .u16 (s0), .int .u16 (s1), .int .u16 (s2), .int .u16 (s3), .int .u16 (s4), .int .u16 (s5), .int .u16 (s6), .int .u16 (s7), .int .u16 (s8), .int .u16 (s9), .int .u16 (s10), .int .u16 (s11)]), (.agg #[.int .u16 (t0), .int .u16 (t1), .int .u16 (t2), .int .u16 (t3), .int .u16 (t4), .int .u16 (t5), .int .u16 (t6), .int .u16 (t7), .int .u16 (t8), .int .u16 (t9), .int .u16 (t10), .int .u16 (t11), .int .u16 (t12), .int .u16 (t13)])] w fun e w' => e = .returned (.tuple #[(.agg #[.int .u16 (c0), .int .u16 (c1), .int .u16 (c2), .int .u16 (c3), .int .u16 (c4), .int .u16 (c5)]), .bool true]) ∧ Below w.heap.size w w' := by
  go_enter Try.func13, Try.ntmps13
  go_wp2_with fail
  refine (C1 _).mono ?_
  rintro _ r1 ⟨rfl, hbr1⟩
  obtain ⟨hcr1, hfr1⟩ := bcell hbr1
  have hzr1 := hbr1.size
  try simp only [World.size_alloc, World.size_setCell, World.size_drew] at hzr1
  have hlr1w0 : w.heap.size < r1.heap.size := by omega
  have hlr1w1 : w.heap.size + 1 < r1.heap.size := by omega
  have hlr1w2 : w.heap.size + 1 + 1 < r1.heap.size := by omega
  go_wp2_with fail
  have hecr2 := @Ext.cell2
  refine wp_region_floatl 9 8 _ _ _ _ _ (.cells #[.int .u16 0, .int .u16 0, .int .u16 0, .int .u16 0, .int .u16 0, .int .u16 0] 27) (by kernel_rfl) rfl rfl (by kernel_rfl) (by kernel_rfl) rfl rfl rfl rfl (fun _ _ => by simp [go_sem]) (fun _ _ d _ _ h => by cases d <;> exact h) (by kernel_rfl) (by kernel_rfl) rfl ?_
  apply Exists.intro
  refine ⟨fun W' => ?_, ?_⟩
  · simp only [List.take_succ_cons, List.take_zero]
    repeat (first | go_big_quiet_skip | (go_big_quiet_want; go_big_quiet_op; first | go_big_quiet_on | (go_big_quiet_call ((first | fail | (go_at_call 14; with_reducible exact ext_call (C2 _)) | (go_at_call 39; with_reducible exact ext_call (C3 _)) | (go_at_call 38; with_reducible exact ext_call (K1 _)))))))
    exact wpQuiet_nil rfl
  clear hecr2
  simp only [List.drop_succ_cons, List.drop_zero, Act.put, List.setIfInBounds_toArray, List.set_cons_zero, List.set_cons_succ]
  intro B2 r2 hbr2 hBr2 hDr2 hEr2
  have hGr2_0 := block_cell hEr2 0
  have hGr2_1 := block_cell hEr2 1
  have hGr2_2 := block_cell hEr2 2
  have hGr2_3 := block_cell hEr2 3
  have hGr2_4 := block_cell hEr2 4
  have hGr2_5 := block_cell hEr2 5
  have hFr2 := block_free hEr2
  simp only [List.getElem?_toArray, List.getElem?_cons_zero, List.getElem?_cons_succ] at hGr2_0 hGr2_1 hGr2_2 hGr2_3 hGr2_4 hGr2_5
  clear hEr2
  try simp only [World.size_alloc, World.size_setCell, World.size_drew] at hBr2
  obtain ⟨hcr2, hfr2⟩ := bcell hbr2
  have hzr2 := hbr2.size
  try simp only [World.size_alloc, World.size_setCell, World.size_drew] at hzr2
  have hlr2w0 : w.heap.size < r2.heap.size := by omega
  have hlr2w1 : w.heap.size + 1 < r2.heap.size := by omega
  have hlr2w2 : w.heap.size + 1 + 1 < r2.heap.size := by omega
  have hlr2r10 : r1.heap.size < r2.heap.size := by omega
  go_wp2_with fail
  refine (K2 _).mono ?_
  rintro _ r3 ⟨rfl, hbr3⟩
  obtain ⟨hcr3, hfr3⟩ := bcell hbr3
  have hzr3 := hbr3.size
  try simp only [World.size_alloc, World.size_setCell, World.size_drew] at hzr3
  have hlr3w0 : w.heap.size < r3.heap.size := by omega
  have hlr3w1 : w.heap.size + 1 < r3.heap.size := by omega
  have hlr3w2 : w.heap.size + 1 + 1 < r3.heap.size := by omega
  have hlr3B2 : B2 < r3.heap.size := by omega
  go_wp2_with fail
  refine (C4 _).mono ?_
  rintro _ r4 ⟨rfl, hbr4⟩
  obtain ⟨hcr4, hfr4⟩ := bcell hbr4
  have hzr4 := hbr4.size
  try simp only [World.size_alloc, World.size_setCell, World.size_drew] at hzr4
  have hlr4w0 : w.heap.size < r4.heap.size := by omega
  have hlr4w1 : w.heap.size + 1 < r4.heap.size := by omega
  have hlr4w2 : w.heap.size + 1 + 1 < r4.heap.size := by omega
  have hlr4r30 : r3.heap.size < r4.heap.size := by omega
  go_wp2_with fail
  refine (C5 _).mono ?_
  rintro _ r5 ⟨rfl, hbr5⟩
  obtain ⟨hcr5, hfr5⟩ := bcell hbr5
  have hzr5 := hbr5.size
  try simp only [World.size_alloc, World.size_setCell, World.size_drew] at hzr5
  have hlr5w0 : w.heap.size < r5.heap.size := by omega
  have hlr5w1 : w.heap.size + 1 < r5.heap.size := by omega
  have hlr5w2 : w.heap.size + 1 + 1 < r5.heap.size := by omega
  have hlr5r30 : r3.heap.size < r5.heap.size := by omega
  have hlr5r40 : r4.heap.size < r5.heap.size := by omega
  go_wp2_with fail
  refine (C6 _).mono ?_
  rintro _ r6 ⟨rfl, hbr6⟩
  obtain ⟨hcr6, hfr6⟩ := bcell hbr6
  have hzr6 := hbr6.size
  try simp only [World.size_alloc, World.size_setCell, World.size_drew] at hzr6
  have hlr6w0 : w.heap.size < r6.heap.size := by omega
  have hlr6w1 : w.heap.size + 1 < r6.heap.size := by omega
  have hlr6w2 : w.heap.size + 1 + 1 < r6.heap.size := by omega
  have hlr6r30 : r3.heap.size < r6.heap.size := by omega
  have hlr6r40 : r4.heap.size < r6.heap.size := by omega
  have hlr6r50 : r5.heap.size < r6.heap.size := by omega
  go_wp2_with fail
  refine (K3 _).mono ?_
  rintro _ r7 ⟨rfl, hbr7⟩
  obtain ⟨hcr7, hfr7⟩ := bcell hbr7
  have hzr7 := hbr7.size
  try simp only [World.size_alloc, World.size_setCell, World.size_drew] at hzr7
  have hlr7w0 : w.heap.size < r7.heap.size := by omega
  have hlr7w1 : w.heap.size + 1 < r7.heap.size := by omega
  have hlr7w2 : w.heap.size + 1 + 1 < r7.heap.size := by omega
  have hlr7r30 : r3.heap.size < r7.heap.size := by omega
  have hlr7r60 : r6.heap.size < r7.heap.size := by omega
  go_wp2_with fail
  refine (C7 _).mono ?_
  rintro _ r8 ⟨rfl, hbr8⟩
  obtain ⟨hcr8, hfr8⟩ := bcell hbr8
  have hzr8 := hbr8.size
  try simp only [World.size_alloc, World.size_setCell, World.size_drew] at hzr8
  have hlr8w0 : w.heap.size < r8.heap.size := by omega
  have hlr8w1 : w.heap.size + 1 < r8.heap.size := by omega
  have hlr8w2 : w.heap.size + 1 + 1 < r8.heap.size := by omega
  have hlr8r30 : r3.heap.size < r8.heap.size := by omega
  have hlr8r70 : r7.heap.size < r8.heap.size := by omega
  go_wp2
  refine bodyPost_ret (v := (.tuple #[(.agg #[.int .u16 (c0), .int .u16 (c1), .int .u16 (c2), .int .u16 (c3), .int .u16 (c4), .int .u16 (c5)]), .bool true])) (by simp [results, Try.results13, go_sem, *]) rfl ⟨rfl, ?_⟩; exact (by repeat' (first | (with_reducible exact Below.refl _ _) | (with_reducible refine bl_set ?_ _ ?_) | (with_reducible refine bl_alloc ?_ _) | (with_reducible refine bl_drew ?_) | (with_reducible refine bl_via (by with_reducible assumption) ?_) | (with_reducible assumption) | omega | (simp only []; omega) | (simp; omega)))

set_option maxRecDepth 100000 in
set_option maxHeartbeats 8000000 in
theorem rcmd_3 (s0 s1 s2 s3 s4 s5 s6 s7 s8 s9 s10 s11 t0 t1 t2 t3 t4 t5 t6 t7 t8 t9 t10 t11 t12 t13 f0 f1 f2 f3 f4 f5 g0 g1 g2 g3 g4 g5 h0 h1 h2 h3 h4 h5 p0 p1 p2 p3 p4 p5 n0 n1 n2 n3 n4 n5 m0 m1 m2 m3 m4 m5 v0 v1 v2 v3 v4 v5 u0 u1 u2 u3 u4 u5 c0 c1 c2 c3 c4 c5 : Int) (z1 z2 x3 d : Bool)
    (C1 : (∀ w, Calls Try.prog 37 #[(.agg #[.int .u16 (t0), .int .u16 (t1), .int .u16 (t2), .int .u16 (t3), .int .u16 (t4), .int .u16 (t5)]), (.agg #[.int .u16 (s0), .int .u16 (s1), .int .u16 (s2), .int .u16 (s3), .int .u16 (s4), .int .u16 (s5)]), .int .i64 (-1)] w fun e w' => e = .returned (.tuple #[(.agg #[.int .u16 (f0), .int .u16 (f1), .int .u16 (f2), .int .u16 (f3), .int .u16 (f4), .int .u16 (f5)]), .bool false]) ∧ Below w.heap.size w w'))
    (C2 : (∀ w, Calls Try.prog 14 #[.int .i64 100663296] w fun e w' => e = .returned (.agg #[.int .u16 (6144), .int .u16 (0)]) ∧ Below w.heap.size w w'))
    (C3 : (∀ w, Calls Try.prog 39 #[(.agg #[.int .u16 (f0), .int .u16 (f1), .int .u16 (f2), .int .u16 (f3), .int .u16 (f4), .int .u16 (f5)]), (.agg #[.int .u16 (6144), .int .u16 (0)])] w fun e w' => e = .returned (.agg #[.int .u16 (g0), .int .u16 (g1), .int .u16 (g2), .int .u16 (g3), .int .u16 (g4), .int .u16 (g5)]) ∧ Below w.heap.size w w'))
    (K1 : (∀ w, Calls Try.prog 38 #[(.agg #[.int .u16 (g0), .int .u16 (g1), .int .u16 (g2), .int .u16 (g3), .int .u16 (g4), .int .u16 (g5)]), (.agg #[.int .u16 (t12), .int .u16 (t13)])] w fun e w' => e = .returned (.tuple #[(.agg #[.int .u16 (h0), .int .u16 (h1), .int .u16 (h2), .int .u16 (h3), .int .u16 (h4), .int .u16 (h5)]), .bool false]) ∧ Below w.heap.size w w'))
    (K2 : (∀ w, Calls Try.prog 38 #[(.agg #[.int .u16 (h0), .int .u16 (h1), .int .u16 (h2), .int .u16 (h3), .int .u16 (h4), .int .u16 (h5)]), (.agg #[.int .u16 (t12), .int .u16 (t13)])] w fun e w' => e = .returned (.tuple #[(.agg #[.int .u16 (p0), .int .u16 (p1), .int .u16 (p2), .int .u16 (p3), .int .u16 (p4), .int .u16 (p5)]), .bool false]) ∧ Below w.heap.size w w'))
    (C4 : (∀ w, Calls Try.prog 40 #[(.agg #[.int .u16 (s6), .int .u16 (s7), .int .u16 (s8), .int .u16 (s9), .int .u16 (s10), .int .u16 (s11)]), .int .i64 (-2)] w fun e w' => e = .returned (.tuple #[(.agg #[.int .u16 (n0), .int .u16 (n1), .int .u16 (n2), .int .u16 (n3), .int .u16 (n4), .int .u16 (n5)]), .bool z1]) ∧ Below w.heap.size w w'))
    (C5 : (∀ w, Calls Try.prog 40 #[(.agg #[.int .u16 (t6), .int .u16 (t7), .int .u16 (t8), .int .u16 (t9), .int .u16 (t10), .int .u16 (t11)]), .int .i64 (-3)] w fun e w' => e = .returned (.tuple #[(.agg #[.int .u16 (m0), .int .u16 (m1), .int .u16 (m2), .int .u16 (m3), .int .u16 (m4), .int .u16 (m5)]), .bool z2]) ∧ Below w.heap.size w w'))
    (C6 : (∀ w, Calls Try.prog 37 #[(.agg #[.int .u16 (n0), .int .u16 (n1), .int .u16 (n2), .int .u16 (n3), .int .u16 (n4), .int .u16 (n5)]), (.agg #[.int .u16 (m0), .int .u16 (m1), .int .u16 (m2), .int .u16 (m3), .int .u16 (m4), .int .u16 (m5)]), .int .i64 1] w fun e w' => e = .returned (.tuple #[(.agg #[.int .u16 (v0), .int .u16 (v1), .int .u16 (v2), .int .u16 (v3), .int .u16 (v4), .int .u16 (v5)]), .bool true]) ∧ Below w.heap.size w w'))
    (K3 : (∀ w, Calls Try.prog 38 #[(.agg #[.int .u16 (v0), .int .u16 (v1), .int .u16 (v2), .int .u16 (v3), .int .u16 (v4), .int .u16 (v5)]), (.agg #[.int .u16 (t12), .int .u16 (t13)])] w fun e w' => e = .returned (.tuple #[(.agg #[.int .u16 (u0), .int .u16 (u1), .int .u16 (u2), .int .u16 (u3), .int .u16 (u4), .int .u16 (u5)]), .bool x3]) ∧ Below w.heap.size w w'))
    (C7 : (∀ w, Calls Try.prog 37 #[(.agg #[.int .u16 (p0), .int .u16 (p1), .int .u16 (p2), .int .u16 (p3), .int .u16 (p4), .int .u16 (p5)]), (.agg #[.int .u16 (u0), .int .u16 (u1), .int .u16 (u2), .int .u16 (u3), .int .u16 (u4), .int .u16 (u5)]), .int .i64 (-1)] w fun e w' => e = .returned (.tuple #[(.agg #[.int .u16 (c0), .int .u16 (c1), .int .u16 (c2), .int .u16 (c3), .int .u16 (c4), .int .u16 (c5)]), .bool d]) ∧ Below w.heap.size w w')) (w : World) :
    Calls Try.prog 13 #[(.agg #[.int .u16 (s0), .int .u16 (s1), .int .u16 (s2), .int .u16 (s3), .int .u16 (s4), .int .u16 (s5), .int .u16 (s6), .int .u16 (s7), .int .u16 (s8), .int .u16 (s9), .int .u16 (s10), .int .u16 (s11)]), (.agg #[.int .u16 (t0), .int .u16 (t1), .int .u16 (t2), .int .u16 (t3), .int .u16 (t4), .int .u16 (t5), .int .u16 (t6), .int .u16 (t7), .int .u16 (t8), .int .u16 (t9), .int .u16 (t10), .int .u16 (t11), .int .u16 (t12), .int .u16 (t13)])] w fun e w' => e = .returned (.tuple #[(.agg #[.int .u16 (c0), .int .u16 (c1), .int .u16 (c2), .int .u16 (c3), .int .u16 (c4), .int .u16 (c5)]), .bool true]) ∧ Below w.heap.size w w' := by
  go_enter Try.func13, Try.ntmps13
  go_wp2_with fail
  refine (C1 _).mono ?_
  rintro _ r1 ⟨rfl, hbr1⟩
  obtain ⟨hcr1, hfr1⟩ := bcell hbr1
  have hzr1 := hbr1.size
  try simp only [World.size_alloc, World.size_setCell, World.size_drew] at hzr1
  have hlr1w0 : w.heap.size < r1.heap.size := by omega
  have hlr1w1 : w.heap.size + 1 < r1.heap.size := by omega
  have hlr1w2 : w.heap.size + 1 + 1 < r1.heap.size := by omega
  go_wp2_with fail
  have hecr2 := @Ext.cell2
  refine wp_region_floatl 9 8 _ _ _ _ _ (.cells #[.int .u16 0, .int .u16 0, .int .u16 0, .int .u16 0, .int .u16 0, .int .u16 0] 27) (by kernel_rfl) rfl rfl (by kernel_rfl) (by kernel_rfl) rfl rfl rfl rfl (fun _ _ => by simp [go_sem]) (fun _ _ d _ _ h => by cases d <;> exact h) (by kernel_rfl) (by kernel_rfl) rfl ?_
  apply Exists.intro
  refine ⟨fun W' => ?_, ?_⟩
  · simp only [List.take_succ_cons, List.take_zero]
    repeat (first | go_big_quiet_skip | (go_big_quiet_want; go_big_quiet_op; first | go_big_quiet_on | (go_big_quiet_call ((first | fail | (go_at_call 14; with_reducible exact ext_call (C2 _)) | (go_at_call 39; with_reducible exact ext_call (C3 _)) | (go_at_call 38; with_reducible exact ext_call (K1 _)))))))
    exact wpQuiet_nil rfl
  clear hecr2
  simp only [List.drop_succ_cons, List.drop_zero, Act.put, List.setIfInBounds_toArray, List.set_cons_zero, List.set_cons_succ]
  intro B2 r2 hbr2 hBr2 hDr2 hEr2
  have hGr2_0 := block_cell hEr2 0
  have hGr2_1 := block_cell hEr2 1
  have hGr2_2 := block_cell hEr2 2
  have hGr2_3 := block_cell hEr2 3
  have hGr2_4 := block_cell hEr2 4
  have hGr2_5 := block_cell hEr2 5
  have hFr2 := block_free hEr2
  simp only [List.getElem?_toArray, List.getElem?_cons_zero, List.getElem?_cons_succ] at hGr2_0 hGr2_1 hGr2_2 hGr2_3 hGr2_4 hGr2_5
  clear hEr2
  try simp only [World.size_alloc, World.size_setCell, World.size_drew] at hBr2
  obtain ⟨hcr2, hfr2⟩ := bcell hbr2
  have hzr2 := hbr2.size
  try simp only [World.size_alloc, World.size_setCell, World.size_drew] at hzr2
  have hlr2w0 : w.heap.size < r2.heap.size := by omega
  have hlr2w1 : w.heap.size + 1 < r2.heap.size := by omega
  have hlr2w2 : w.heap.size + 1 + 1 < r2.heap.size := by omega
  have hlr2r10 : r1.heap.size < r2.heap.size := by omega
  go_wp2_with fail
  refine (K2 _).mono ?_
  rintro _ r3 ⟨rfl, hbr3⟩
  obtain ⟨hcr3, hfr3⟩ := bcell hbr3
  have hzr3 := hbr3.size
  try simp only [World.size_alloc, World.size_setCell, World.size_drew] at hzr3
  have hlr3w0 : w.heap.size < r3.heap.size := by omega
  have hlr3w1 : w.heap.size + 1 < r3.heap.size := by omega
  have hlr3w2 : w.heap.size + 1 + 1 < r3.heap.size := by omega
  have hlr3B2 : B2 < r3.heap.size := by omega
  go_wp2_with fail
  refine (C4 _).mono ?_
  rintro _ r4 ⟨rfl, hbr4⟩
  obtain ⟨hcr4, hfr4⟩ := bcell hbr4
  have hzr4 := hbr4.size
  try simp only [World.size_alloc, World.size_setCell, World.size_drew] at hzr4
  have hlr4w0 : w.heap.size < r4.heap.size := by omega
  have hlr4w1 : w.heap.size + 1 < r4.heap.size := by omega
  have hlr4w2 : w.heap.size + 1 + 1 < r4.heap.size := by omega
  have hlr4r30 : r3.heap.size < r4.heap.size := by omega
  go_wp2_with fail
  refine (C5 _).mono ?_
  rintro _ r5 ⟨rfl, hbr5⟩
  obtain ⟨hcr5, hfr5⟩ := bcell hbr5
  have hzr5 := hbr5.size
  try simp only [World.size_alloc, World.size_setCell, World.size_drew] at hzr5
  have hlr5w0 : w.heap.size < r5.heap.size := by omega
  have hlr5w1 : w.heap.size + 1 < r5.heap.size := by omega
  have hlr5w2 : w.heap.size + 1 + 1 < r5.heap.size := by omega
  have hlr5r30 : r3.heap.size < r5.heap.size := by omega
  have hlr5r40 : r4.heap.size < r5.heap.size := by omega
  go_wp2_with fail
  refine (C6 _).mono ?_
  rintro _ r6 ⟨rfl, hbr6⟩
  obtain ⟨hcr6, hfr6⟩ := bcell hbr6
  have hzr6 := hbr6.size
  try simp only [World.size_alloc, World.size_setCell, World.size_drew] at hzr6
  have hlr6w0 : w.heap.size < r6.heap.size := by omega
  have hlr6w1 : w.heap.size + 1 < r6.heap.size := by omega
  have hlr6w2 : w.heap.size + 1 + 1 < r6.heap.size := by omega
  have hlr6r30 : r3.heap.size < r6.heap.size := by omega
  have hlr6r40 : r4.heap.size < r6.heap.size := by omega
  have hlr6r50 : r5.heap.size < r6.heap.size := by omega
  go_wp2_with fail
  refine (K3 _).mono ?_
  rintro _ r7 ⟨rfl, hbr7⟩
  obtain ⟨hcr7, hfr7⟩ := bcell hbr7
  have hzr7 := hbr7.size
  try simp only [World.size_alloc, World.size_setCell, World.size_drew] at hzr7
  have hlr7w0 : w.heap.size < r7.heap.size := by omega
  have hlr7w1 : w.heap.size + 1 < r7.heap.size := by omega
  have hlr7w2 : w.heap.size + 1 + 1 < r7.heap.size := by omega
  have hlr7r30 : r3.heap.size < r7.heap.size := by omega
  have hlr7r60 : r6.heap.size < r7.heap.size := by omega
  go_wp2_with fail
  refine (C7 _).mono ?_
  rintro _ r8 ⟨rfl, hbr8⟩
  obtain ⟨hcr8, hfr8⟩ := bcell hbr8
  have hzr8 := hbr8.size
  try simp only [World.size_alloc, World.size_setCell, World.size_drew] at hzr8
  have hlr8w0 : w.heap.size < r8.heap.size := by omega
  have hlr8w1 : w.heap.size + 1 < r8.heap.size := by omega
  have hlr8w2 : w.heap.size + 1 + 1 < r8.heap.size := by omega
  have hlr8r30 : r3.heap.size < r8.heap.size := by omega
  have hlr8r70 : r7.heap.size < r8.heap.size := by omega
  go_wp2
  refine bodyPost_ret (v := (.tuple #[(.agg #[.int .u16 (c0), .int .u16 (c1), .int .u16 (c2), .int .u16 (c3), .int .u16 (c4), .int .u16 (c5)]), .bool true])) (by simp [results, Try.results13, go_sem, *]) rfl ⟨rfl, ?_⟩; exact (by repeat' (first | (with_reducible exact Below.refl _ _) | (with_reducible refine bl_set ?_ _ ?_) | (with_reducible refine bl_alloc ?_ _) | (with_reducible refine bl_drew ?_) | (with_reducible refine bl_via (by with_reducible assumption) ?_) | (with_reducible assumption) | omega | (simp only []; omega) | (simp; omega)))

set_option maxRecDepth 100000 in
set_option maxHeartbeats 8000000 in
theorem rcmd_4 (s0 s1 s2 s3 s4 s5 s6 s7 s8 s9 s10 s11 t0 t1 t2 t3 t4 t5 t6 t7 t8 t9 t10 t11 t12 t13 f0 f1 f2 f3 f4 f5 g0 g1 g2 g3 g4 g5 h0 h1 h2 h3 h4 h5 p0 p1 p2 p3 p4 p5 n0 n1 n2 n3 n4 n5 m0 m1 m2 m3 m4 m5 v0 v1 v2 v3 v4 v5 u0 u1 u2 u3 u4 u5 c0 c1 c2 c3 c4 c5 : Int) (z1 z2 d : Bool)
    (C1 : (∀ w, Calls Try.prog 37 #[(.agg #[.int .u16 (t0), .int .u16 (t1), .int .u16 (t2), .int .u16 (t3), .int .u16 (t4), .int .u16 (t5)]), (.agg #[.int .u16 (s0), .int .u16 (s1), .int .u16 (s2), .int .u16 (s3), .int .u16 (s4), .int .u16 (s5)]), .int .i64 (-1)] w fun e w' => e = .returned (.tuple #[(.agg #[.int .u16 (f0), .int .u16 (f1), .int .u16 (f2), .int .u16 (f3), .int .u16 (f4), .int .u16 (f5)]), .bool false]) ∧ Below w.heap.size w w'))
    (C2 : (∀ w, Calls Try.prog 14 #[.int .i64 100663296] w fun e w' => e = .returned (.agg #[.int .u16 (6144), .int .u16 (0)]) ∧ Below w.heap.size w w'))
    (C3 : (∀ w, Calls Try.prog 39 #[(.agg #[.int .u16 (f0), .int .u16 (f1), .int .u16 (f2), .int .u16 (f3), .int .u16 (f4), .int .u16 (f5)]), (.agg #[.int .u16 (6144), .int .u16 (0)])] w fun e w' => e = .returned (.agg #[.int .u16 (g0), .int .u16 (g1), .int .u16 (g2), .int .u16 (g3), .int .u16 (g4), .int .u16 (g5)]) ∧ Below w.heap.size w w'))
    (K1 : (∀ w, Calls Try.prog 38 #[(.agg #[.int .u16 (g0), .int .u16 (g1), .int .u16 (g2), .int .u16 (g3), .int .u16 (g4), .int .u16 (g5)]), (.agg #[.int .u16 (t12), .int .u16 (t13)])] w fun e w' => e = .returned (.tuple #[(.agg #[.int .u16 (h0), .int .u16 (h1), .int .u16 (h2), .int .u16 (h3), .int .u16 (h4), .int .u16 (h5)]), .bool false]) ∧ Below w.heap.size w w'))
    (K2 : (∀ w, Calls Try.prog 38 #[(.agg #[.int .u16 (h0), .int .u16 (h1), .int .u16 (h2), .int .u16 (h3), .int .u16 (h4), .int .u16 (h5)]), (.agg #[.int .u16 (t12), .int .u16 (t13)])] w fun e w' => e = .returned (.tuple #[(.agg #[.int .u16 (p0), .int .u16 (p1), .int .u16 (p2), .int .u16 (p3), .int .u16 (p4), .int .u16 (p5)]), .bool false]) ∧ Below w.heap.size w w'))
    (C4 : (∀ w, Calls Try.prog 40 #[(.agg #[.int .u16 (s6), .int .u16 (s7), .int .u16 (s8), .int .u16 (s9), .int .u16 (s10), .int .u16 (s11)]), .int .i64 (-2)] w fun e w' => e = .returned (.tuple #[(.agg #[.int .u16 (n0), .int .u16 (n1), .int .u16 (n2), .int .u16 (n3), .int .u16 (n4), .int .u16 (n5)]), .bool z1]) ∧ Below w.heap.size w w'))
    (C5 : (∀ w, Calls Try.prog 40 #[(.agg #[.int .u16 (t6), .int .u16 (t7), .int .u16 (t8), .int .u16 (t9), .int .u16 (t10), .int .u16 (t11)]), .int .i64 (-3)] w fun e w' => e = .returned (.tuple #[(.agg #[.int .u16 (m0), .int .u16 (m1), .int .u16 (m2), .int .u16 (m3), .int .u16 (m4), .int .u16 (m5)]), .bool z2]) ∧ Below w.heap.size w w'))
    (C6 : (∀ w, Calls Try.prog 37 #[(.agg #[.int .u16 (n0), .int .u16 (n1), .int .u16 (n2), .int .u16 (n3), .int .u16 (n4), .int .u16 (n5)]), (.agg #[.int .u16 (m0), .int .u16 (m1), .int .u16 (m2), .int .u16 (m3), .int .u16 (m4), .int .u16 (m5)]), .int .i64 1] w fun e w' => e = .returned (.tuple #[(.agg #[.int .u16 (v0), .int .u16 (v1), .int .u16 (v2), .int .u16 (v3), .int .u16 (v4), .int .u16 (v5)]), .bool false]) ∧ Below w.heap.size w w'))
    (K3 : (∀ w, Calls Try.prog 38 #[(.agg #[.int .u16 (v0), .int .u16 (v1), .int .u16 (v2), .int .u16 (v3), .int .u16 (v4), .int .u16 (v5)]), (.agg #[.int .u16 (t12), .int .u16 (t13)])] w fun e w' => e = .returned (.tuple #[(.agg #[.int .u16 (u0), .int .u16 (u1), .int .u16 (u2), .int .u16 (u3), .int .u16 (u4), .int .u16 (u5)]), .bool true]) ∧ Below w.heap.size w w'))
    (C7 : (∀ w, Calls Try.prog 37 #[(.agg #[.int .u16 (p0), .int .u16 (p1), .int .u16 (p2), .int .u16 (p3), .int .u16 (p4), .int .u16 (p5)]), (.agg #[.int .u16 (u0), .int .u16 (u1), .int .u16 (u2), .int .u16 (u3), .int .u16 (u4), .int .u16 (u5)]), .int .i64 (-1)] w fun e w' => e = .returned (.tuple #[(.agg #[.int .u16 (c0), .int .u16 (c1), .int .u16 (c2), .int .u16 (c3), .int .u16 (c4), .int .u16 (c5)]), .bool d]) ∧ Below w.heap.size w w')) (w : World) :
    Calls Try.prog 13 #[(.agg #[.int .u16 (s0), .int .u16 (s1), .int .u16 (s2), .int .u16 (s3), .int .u16 (s4), .int .u16 (s5), .int .u16 (s6), .int .u16 (s7), .int .u16 (s8), .int .u16 (s9), .int .u16 (s10), .int .u16 (s11)]), (.agg #[.int .u16 (t0), .int .u16 (t1), .int .u16 (t2), .int .u16 (t3), .int .u16 (t4), .int .u16 (t5), .int .u16 (t6), .int .u16 (t7), .int .u16 (t8), .int .u16 (t9), .int .u16 (t10), .int .u16 (t11), .int .u16 (t12), .int .u16 (t13)])] w fun e w' => e = .returned (.tuple #[(.agg #[.int .u16 (c0), .int .u16 (c1), .int .u16 (c2), .int .u16 (c3), .int .u16 (c4), .int .u16 (c5)]), .bool true]) ∧ Below w.heap.size w w' := by
  go_enter Try.func13, Try.ntmps13
  go_wp2_with fail
  refine (C1 _).mono ?_
  rintro _ r1 ⟨rfl, hbr1⟩
  obtain ⟨hcr1, hfr1⟩ := bcell hbr1
  have hzr1 := hbr1.size
  try simp only [World.size_alloc, World.size_setCell, World.size_drew] at hzr1
  have hlr1w0 : w.heap.size < r1.heap.size := by omega
  have hlr1w1 : w.heap.size + 1 < r1.heap.size := by omega
  have hlr1w2 : w.heap.size + 1 + 1 < r1.heap.size := by omega
  go_wp2_with fail
  have hecr2 := @Ext.cell2
  refine wp_region_floatl 9 8 _ _ _ _ _ (.cells #[.int .u16 0, .int .u16 0, .int .u16 0, .int .u16 0, .int .u16 0, .int .u16 0] 27) (by kernel_rfl) rfl rfl (by kernel_rfl) (by kernel_rfl) rfl rfl rfl rfl (fun _ _ => by simp [go_sem]) (fun _ _ d _ _ h => by cases d <;> exact h) (by kernel_rfl) (by kernel_rfl) rfl ?_
  apply Exists.intro
  refine ⟨fun W' => ?_, ?_⟩
  · simp only [List.take_succ_cons, List.take_zero]
    repeat (first | go_big_quiet_skip | (go_big_quiet_want; go_big_quiet_op; first | go_big_quiet_on | (go_big_quiet_call ((first | fail | (go_at_call 14; with_reducible exact ext_call (C2 _)) | (go_at_call 39; with_reducible exact ext_call (C3 _)) | (go_at_call 38; with_reducible exact ext_call (K1 _)))))))
    exact wpQuiet_nil rfl
  clear hecr2
  simp only [List.drop_succ_cons, List.drop_zero, Act.put, List.setIfInBounds_toArray, List.set_cons_zero, List.set_cons_succ]
  intro B2 r2 hbr2 hBr2 hDr2 hEr2
  have hGr2_0 := block_cell hEr2 0
  have hGr2_1 := block_cell hEr2 1
  have hGr2_2 := block_cell hEr2 2
  have hGr2_3 := block_cell hEr2 3
  have hGr2_4 := block_cell hEr2 4
  have hGr2_5 := block_cell hEr2 5
  have hFr2 := block_free hEr2
  simp only [List.getElem?_toArray, List.getElem?_cons_zero, List.getElem?_cons_succ] at hGr2_0 hGr2_1 hGr2_2 hGr2_3 hGr2_4 hGr2_5
  clear hEr2
  try simp only [World.size_alloc, World.size_setCell, World.size_drew] at hBr2
  obtain ⟨hcr2, hfr2⟩ := bcell hbr2
  have hzr2 := hbr2.size
  try simp only [World.size_alloc, World.size_setCell, World.size_drew] at hzr2
  have hlr2w0 : w.heap.size < r2.heap.size := by omega
  have hlr2w1 : w.heap.size + 1 < r2.heap.size := by omega
  have hlr2w2 : w.heap.size + 1 + 1 < r2.heap.size := by omega
  have hlr2r10 : r1.heap.size < r2.heap.size := by omega
  go_wp2_with fail
  refine (K2 _).mono ?_
  rintro _ r3 ⟨rfl, hbr3⟩
  obtain ⟨hcr3, hfr3⟩ := bcell hbr3
  have hzr3 := hbr3.size
  try simp only [World.size_alloc, World.size_setCell, World.size_drew] at hzr3
  have hlr3w0 : w.heap.size < r3.heap.size := by omega
  have hlr3w1 : w.heap.size + 1 < r3.heap.size := by omega
  have hlr3w2 : w.heap.size + 1 + 1 < r3.heap.size := by omega
  have hlr3B2 : B2 < r3.heap.size := by omega
  go_wp2_with fail
  refine (C4 _).mono ?_
  rintro _ r4 ⟨rfl, hbr4⟩
  obtain ⟨hcr4, hfr4⟩ := bcell hbr4
  have hzr4 := hbr4.size
  try simp only [World.size_alloc, World.size_setCell, World.size_drew] at hzr4
  have hlr4w0 : w.heap.size < r4.heap.size := by omega
  have hlr4w1 : w.heap.size + 1 < r4.heap.size := by omega
  have hlr4w2 : w.heap.size + 1 + 1 < r4.heap.size := by omega
  have hlr4r30 : r3.heap.size < r4.heap.size := by omega
  go_wp2_with fail
  refine (C5 _).mono ?_
  rintro _ r5 ⟨rfl, hbr5⟩
  obtain ⟨hcr5, hfr5⟩ := bcell hbr5
  have hzr5 := hbr5.size
  try simp only [World.size_alloc, World.size_setCell, World.size_drew] at hzr5
  have hlr5w0 : w.heap.size < r5.heap.size := by omega
  have hlr5w1 : w.heap.size + 1 < r5.heap.size := by omega
  have hlr5w2 : w.heap.size + 1 + 1 < r5.heap.size := by omega
  have hlr5r30 : r3.heap.size < r5.heap.size := by omega
  have hlr5r40 : r4.heap.size < r5.heap.size := by omega
  go_wp2_with fail
  refine (C6 _).mono ?_
  rintro _ r6 ⟨rfl, hbr6⟩
  obtain ⟨hcr6, hfr6⟩ := bcell hbr6
  have hzr6 := hbr6.size
  try simp only [World.size_alloc, World.size_setCell, World.size_drew] at hzr6
  have hlr6w0 : w.heap.size < r6.heap.size := by omega
  have hlr6w1 : w.heap.size + 1 < r6.heap.size := by omega
  have hlr6w2 : w.heap.size + 1 + 1 < r6.heap.size := by omega
  have hlr6r30 : r3.heap.size < r6.heap.size := by omega
  have hlr6r40 : r4.heap.size < r6.heap.size := by omega
  have hlr6r50 : r5.heap.size < r6.heap.size := by omega
  go_wp2_with fail
  refine (K3 _).mono ?_
  rintro _ r7 ⟨rfl, hbr7⟩
  obtain ⟨hcr7, hfr7⟩ := bcell hbr7
  have hzr7 := hbr7.size
  try simp only [World.size_alloc, World.size_setCell, World.size_drew] at hzr7
  have hlr7w0 : w.heap.size < r7.heap.size := by omega
  have hlr7w1 : w.heap.size + 1 < r7.heap.size := by omega
  have hlr7w2 : w.heap.size + 1 + 1 < r7.heap.size := by omega
  have hlr7r30 : r3.heap.size < r7.heap.size := by omega
  have hlr7r60 : r6.heap.size < r7.heap.size := by omega
  go_wp2_with fail
  refine (C7 _).mono ?_
  rintro _ r8 ⟨rfl, hbr8⟩
  obtain ⟨hcr8, hfr8⟩ := bcell hbr8
  have hzr8 := hbr8.size
  try simp only [World.size_alloc, World.size_setCell, World.size_drew] at hzr8
  have hlr8w0 : w.heap.size < r8.heap.size := by omega
  have hlr8w1 : w.heap.size + 1 < r8.heap.size := by omega
  have hlr8w2 : w.heap.size + 1 + 1 < r8.heap.size := by omega
  have hlr8r30 : r3.heap.size < r8.heap.size := by omega
  have hlr8r70 : r7.heap.size < r8.heap.size := by omega
  go_wp2
  refine bodyPost_ret (v := (.tuple #[(.agg #[.int .u16 (c0), .int .u16 (c1), .int .u16 (c2), .int .u16 (c3), .int .u16 (c4), .int .u16 (c5)]), .bool true])) (by simp [results, Try.results13, go_sem, *]) rfl ⟨rfl, ?_⟩; exact (by repeat' (first | (with_reducible exact Below.refl _ _) | (with_reducible refine bl_set ?_ _ ?_) | (with_reducible refine bl_alloc ?_ _) | (with_reducible refine bl_drew ?_) | (with_reducible refine bl_via (by with_reducible assumption) ?_) | (with_reducible assumption) | omega | (simp only []; omega) | (simp; omega)))

set_option maxRecDepth 100000 in
set_option maxHeartbeats 8000000 in
theorem rcmd_5 (s0 s1 s2 s3 s4 s5 s6 s7 s8 s9 s10 s11 t0 t1 t2 t3 t4 t5 t6 t7 t8 t9 t10 t11 t12 t13 f0 f1 f2 f3 f4 f5 g0 g1 g2 g3 g4 g5 h0 h1 h2 h3 h4 h5 p0 p1 p2 p3 p4 p5 n0 n1 n2 n3 n4 n5 m0 m1 m2 m3 m4 m5 v0 v1 v2 v3 v4 v5 u0 u1 u2 u3 u4 u5 c0 c1 c2 c3 c4 c5 : Int) (z1 z2 d : Bool)
    (C1 : (∀ w, Calls Try.prog 37 #[(.agg #[.int .u16 (t0), .int .u16 (t1), .int .u16 (t2), .int .u16 (t3), .int .u16 (t4), .int .u16 (t5)]), (.agg #[.int .u16 (s0), .int .u16 (s1), .int .u16 (s2), .int .u16 (s3), .int .u16 (s4), .int .u16 (s5)]), .int .i64 (-1)] w fun e w' => e = .returned (.tuple #[(.agg #[.int .u16 (f0), .int .u16 (f1), .int .u16 (f2), .int .u16 (f3), .int .u16 (f4), .int .u16 (f5)]), .bool false]) ∧ Below w.heap.size w w'))
    (C2 : (∀ w, Calls Try.prog 14 #[.int .i64 100663296] w fun e w' => e = .returned (.agg #[.int .u16 (6144), .int .u16 (0)]) ∧ Below w.heap.size w w'))
    (C3 : (∀ w, Calls Try.prog 39 #[(.agg #[.int .u16 (f0), .int .u16 (f1), .int .u16 (f2), .int .u16 (f3), .int .u16 (f4), .int .u16 (f5)]), (.agg #[.int .u16 (6144), .int .u16 (0)])] w fun e w' => e = .returned (.agg #[.int .u16 (g0), .int .u16 (g1), .int .u16 (g2), .int .u16 (g3), .int .u16 (g4), .int .u16 (g5)]) ∧ Below w.heap.size w w'))
    (K1 : (∀ w, Calls Try.prog 38 #[(.agg #[.int .u16 (g0), .int .u16 (g1), .int .u16 (g2), .int .u16 (g3), .int .u16 (g4), .int .u16 (g5)]), (.agg #[.int .u16 (t12), .int .u16 (t13)])] w fun e w' => e = .returned (.tuple #[(.agg #[.int .u16 (h0), .int .u16 (h1), .int .u16 (h2), .int .u16 (h3), .int .u16 (h4), .int .u16 (h5)]), .bool false]) ∧ Below w.heap.size w w'))
    (K2 : (∀ w, Calls Try.prog 38 #[(.agg #[.int .u16 (h0), .int .u16 (h1), .int .u16 (h2), .int .u16 (h3), .int .u16 (h4), .int .u16 (h5)]), (.agg #[.int .u16 (t12), .int .u16 (t13)])] w fun e w' => e = .returned (.tuple #[(.agg #[.int .u16 (p0), .int .u16 (p1), .int .u16 (p2), .int .u16 (p3), .int .u16 (p4), .int .u16 (p5)]), .bool false]) ∧ Below w.heap.size w w'))
    (C4 : (∀ w, Calls Try.prog 40 #[(.agg #[.int .u16 (s6), .int .u16 (s7), .int .u16 (s8), .int .u16 (s9), .int .u16 (s10), .int .u16 (s11)]), .int .i64 (-2)] w fun e w' => e = .returned (.tuple #[(.agg #[.int .u16 (n0), .int .u16 (n1), .int .u16 (n2), .int .u16 (n3), .int .u16 (n4), .int .u16 (n5)]), .bool z1]) ∧ Below w.heap.size w w'))
    (C5 : (∀ w, Calls Try.prog 40 #[(.agg #[.int .u16 (t6), .int .u16 (t7), .int .u16 (t8), .int .u16 (t9), .int .u16 (t10), .int .u16 (t11)]), .int .i64 (-3)] w fun e w' => e = .returned (.tuple #[(.agg #[.int .u16 (m0), .int .u16 (m1), .int .u16 (m2), .int .u16 (m3), .int .u16 (m4), .int .u16 (m5)]), .bool z2]) ∧ Below w.heap.size w w'))
    (C6 : (∀ w, Calls Try.prog 37 #[(.agg #[.int .u16 (n0), .int .u16 (n1), .int .u16 (n2), .int .u16 (n3), .int .u16 (n4), .int .u16 (n5)]), (.agg #[.int .u16 (m0), .int .u16 (m1), .int .u16 (m2), .int .u16 (m3), .int .u16 (m4), .int .u16 (m5)]), .int .i64 1] w fun e w' => e = .returned (.tuple #[(.agg #[.int .u16 (v0), .int .u16 (v1), .int .u16 (v2), .int .u16 (v3), .int .u16 (v4), .int .u16 (v5)]), .bool false]) ∧ Below w.heap.size w w'))
    (K3 : (∀ w, Calls Try.prog 38 #[(.agg #[.int .u16 (v0), .int .u16 (v1), .int .u16 (v2), .int .u16 (v3), .int .u16 (v4), .int .u16 (v5)]), (.agg #[.int .u16 (t12), .int .u16 (t13)])] w fun e w' => e = .returned (.tuple #[(.agg #[.int .u16 (u0), .int .u16 (u1), .int .u16 (u2), .int .u16 (u3), .int .u16 (u4), .int .u16 (u5)]), .bool false]) ∧ Below w.heap.size w w'))
    (C7 : (∀ w, Calls Try.prog 37 #[(.agg #[.int .u16 (p0), .int .u16 (p1), .int .u16 (p2), .int .u16 (p3), .int .u16 (p4), .int .u16 (p5)]), (.agg #[.int .u16 (u0), .int .u16 (u1), .int .u16 (u2), .int .u16 (u3), .int .u16 (u4), .int .u16 (u5)]), .int .i64 (-1)] w fun e w' => e = .returned (.tuple #[(.agg #[.int .u16 (c0), .int .u16 (c1), .int .u16 (c2), .int .u16 (c3), .int .u16 (c4), .int .u16 (c5)]), .bool d]) ∧ Below w.heap.size w w')) (w : World) :
    Calls Try.prog 13 #[(.agg #[.int .u16 (s0), .int .u16 (s1), .int .u16 (s2), .int .u16 (s3), .int .u16 (s4), .int .u16 (s5), .int .u16 (s6), .int .u16 (s7), .int .u16 (s8), .int .u16 (s9), .int .u16 (s10), .int .u16 (s11)]), (.agg #[.int .u16 (t0), .int .u16 (t1), .int .u16 (t2), .int .u16 (t3), .int .u16 (t4), .int .u16 (t5), .int .u16 (t6), .int .u16 (t7), .int .u16 (t8), .int .u16 (t9), .int .u16 (t10), .int .u16 (t11), .int .u16 (t12), .int .u16 (t13)])] w fun e w' => e = .returned (.tuple #[(.agg #[.int .u16 (c0), .int .u16 (c1), .int .u16 (c2), .int .u16 (c3), .int .u16 (c4), .int .u16 (c5)]), .bool d]) ∧ Below w.heap.size w w' := by
  go_enter Try.func13, Try.ntmps13
  go_wp2_with fail
  refine (C1 _).mono ?_
  rintro _ r1 ⟨rfl, hbr1⟩
  obtain ⟨hcr1, hfr1⟩ := bcell hbr1
  have hzr1 := hbr1.size
  try simp only [World.size_alloc, World.size_setCell, World.size_drew] at hzr1
  have hlr1w0 : w.heap.size < r1.heap.size := by omega
  have hlr1w1 : w.heap.size + 1 < r1.heap.size := by omega
  have hlr1w2 : w.heap.size + 1 + 1 < r1.heap.size := by omega
  go_wp2_with fail
  have hecr2 := @Ext.cell2
  refine wp_region_floatl 9 8 _ _ _ _ _ (.cells #[.int .u16 0, .int .u16 0, .int .u16 0, .int .u16 0, .int .u16 0, .int .u16 0] 27) (by kernel_rfl) rfl rfl (by kernel_rfl) (by kernel_rfl) rfl rfl rfl rfl (fun _ _ => by simp [go_sem]) (fun _ _ d _ _ h => by cases d <;> exact h) (by kernel_rfl) (by kernel_rfl) rfl ?_
  apply Exists.intro
  refine ⟨fun W' => ?_, ?_⟩
  · simp only [List.take_succ_cons, List.take_zero]
    repeat (first | go_big_quiet_skip | (go_big_quiet_want; go_big_quiet_op; first | go_big_quiet_on | (go_big_quiet_call ((first | fail | (go_at_call 14; with_reducible exact ext_call (C2 _)) | (go_at_call 39; with_reducible exact ext_call (C3 _)) | (go_at_call 38; with_reducible exact ext_call (K1 _)))))))
    exact wpQuiet_nil rfl
  clear hecr2
  simp only [List.drop_succ_cons, List.drop_zero, Act.put, List.setIfInBounds_toArray, List.set_cons_zero, List.set_cons_succ]
  intro B2 r2 hbr2 hBr2 hDr2 hEr2
  have hGr2_0 := block_cell hEr2 0
  have hGr2_1 := block_cell hEr2 1
  have hGr2_2 := block_cell hEr2 2
  have hGr2_3 := block_cell hEr2 3
  have hGr2_4 := block_cell hEr2 4
  have hGr2_5 := block_cell hEr2 5
  have hFr2 := block_free hEr2
  simp only [List.getElem?_toArray, List.getElem?_cons_zero, List.getElem?_cons_succ] at hGr2_0 hGr2_1 hGr2_2 hGr2_3 hGr2_4 hGr2_5
  clear hEr2
  try simp only [World.size_alloc, World.size_setCell, World.size_drew] at hBr2
  obtain ⟨hcr2, hfr2⟩ := bcell hbr2
  have hzr2 := hbr2.size
  try simp only [World.size_alloc, World.size_setCell, World.size_drew] at hzr2
  have hlr2w0 : w.heap.size < r2.heap.size := by omega
  have hlr2w1 : w.heap.size + 1 < r2.heap.size := by omega
  have hlr2w2 : w.heap.size + 1 + 1 < r2.heap.size := by omega
  have hlr2r10 : r1.heap.size < r2.heap.size := by omega
  go_wp2_with fail
  refine (K2 _).mono ?_
  rintro _ r3 ⟨rfl, hbr3⟩
  obtain ⟨hcr3, hfr3⟩ := bcell hbr3
  have hzr3 := hbr3.size
  try simp only [World.size_alloc, World.size_setCell, World.size_drew] at hzr3
  have hlr3w0 : w.heap.size < r3.heap.size := by omega
  have hlr3w1 : w.heap.size + 1 < r3.heap.size := by omega
  have hlr3w2 : w.heap.size + 1 + 1 < r3.heap.size := by omega
  have hlr3B2 : B2 < r3.heap.size := by omega
  go_wp2_with fail
  refine (C4 _).mono ?_
  rintro _ r4 ⟨rfl, hbr4⟩
  obtain ⟨hcr4, hfr4⟩ := bcell hbr4
  have hzr4 := hbr4.size
  try simp only [World.size_alloc, World.size_setCell, World.size_drew] at hzr4
  have hlr4w0 : w.heap.size < r4.heap.size := by omega
  have hlr4w1 : w.heap.size + 1 < r4.heap.size := by omega
  have hlr4w2 : w.heap.size + 1 + 1 < r4.heap.size := by omega
  have hlr4r30 : r3.heap.size < r4.heap.size := by omega
  go_wp2_with fail
  refine (C5 _).mono ?_
  rintro _ r5 ⟨rfl, hbr5⟩
  obtain ⟨hcr5, hfr5⟩ := bcell hbr5
  have hzr5 := hbr5.size
  try simp only [World.size_alloc, World.size_setCell, World.size_drew] at hzr5
  have hlr5w0 : w.heap.size < r5.heap.size := by omega
  have hlr5w1 : w.heap.size + 1 < r5.heap.size := by omega
  have hlr5w2 : w.heap.size + 1 + 1 < r5.heap.size := by omega
  have hlr5r30 : r3.heap.size < r5.heap.size := by omega
  have hlr5r40 : r4.heap.size < r5.heap.size := by omega
  go_wp2_with fail
  refine (C6 _).mono ?_
  rintro _ r6 ⟨rfl, hbr6⟩
  obtain ⟨hcr6, hfr6⟩ := bcell hbr6
  have hzr6 := hbr6.size
  try simp only [World.size_alloc, World.size_setCell, World.size_drew] at hzr6
  have hlr6w0 : w.heap.size < r6.heap.size := by omega
  have hlr6w1 : w.heap.size + 1 < r6.heap.size := by omega
  have hlr6w2 : w.heap.size + 1 + 1 < r6.heap.size := by omega
  have hlr6r30 : r3.heap.size < r6.heap.size := by omega
  have hlr6r40 : r4.heap.size < r6.heap.size := by omega
  have hlr6r50 : r5.heap.size < r6.heap.size := by omega
  go_wp2_with fail
  refine (K3 _).mono ?_
  rintro _ r7 ⟨rfl, hbr7⟩
  obtain ⟨hcr7, hfr7⟩ := bcell hbr7
  have hzr7 := hbr7.size
  try simp only [World.size_alloc, World.size_setCell, World.size_drew] at hzr7
  have hlr7w0 : w.heap.size < r7.heap.size := by omega
  have hlr7w1 : w.heap.size + 1 < r7.heap.size := by omega
  have hlr7w2 : w.heap.size + 1 + 1 < r7.heap.size := by omega
  have hlr7r30 : r3.heap.size < r7.heap.size := by omega
  have hlr7r60 : r6.heap.size < r7.heap.size := by omega
  go_wp2_with fail
  refine (C7 _).mono ?_
  rintro _ r8 ⟨rfl, hbr8⟩
  obtain ⟨hcr8, hfr8⟩ := bcell hbr8
  have hzr8 := hbr8.size
  try simp only [World.size_alloc, World.size_setCell, World.size_drew] at hzr8
  have hlr8w0 : w.heap.size < r8.heap.size := by omega
  have hlr8w1 : w.heap.size + 1 < r8.heap.size := by omega
  have hlr8w2 : w.heap.size + 1 + 1 < r8.heap.size := by omega
  have hlr8r30 : r3.heap.size < r8.heap.size := by omega
  have hlr8r70 : r7.heap.size < r8.heap.size := by omega
  go_wp2
  refine bodyPost_ret (v := (.tuple #[(.agg #[.int .u16 (c0), .int .u16 (c1), .int .u16 (c2), .int .u16 (c3), .int .u16 (c4), .int .u16 (c5)]), .bool d])) (by simp [results, Try.results13, go_sem, *]) rfl ⟨rfl, ?_⟩; exact (by repeat' (first | (with_reducible exact Below.refl _ _) | (with_reducible refine bl_set ?_ _ ?_) | (with_reducible refine bl_alloc ?_ _) | (with_reducible refine bl_drew ?_) | (with_reducible refine bl_via (by with_reducible assumption) ?_) | (with_reducible assumption) | omega | (simp only []; omega) | (simp; omega)))
theorem rcmd_of (s0 s1 s2 s3 s4 s5 s6 s7 s8 s9 s10 s11 t0 t1 t2 t3 t4 t5 t6 t7 t8 t9 t10 t11 t12 t13 f0 f1 f2 f3 f4 f5 g0 g1 g2 g3 g4 g5 h0 h1 h2 h3 h4 h5 p0 p1 p2 p3 p4 p5 n0 n1 n2 n3 n4 n5 m0 m1 m2 m3 m4 m5 v0 v1 v2 v3 v4 v5 u0 u1 u2 u3 u4 u5 c0 c1 c2 c3 c4 c5 : Int) (z1 z2 a x1 x2 b x3 d : Bool)
    (C1 : (∀ w, Calls Try.prog 37 #[(.agg #[.int .u16 (t0), .int .u16 (t1), .int .u16 (t2), .int .u16 (t3), .int .u16 (t4), .int .u16 (t5)]), (.agg #[.int .u16 (s0), .int .u16 (s1), .int .u16 (s2), .int .u16 (s3), .int .u16 (s4), .int .u16 (s5)]), .int .i64 (-1)] w fun e w' => e = .returned (.tuple #[(.agg #[.int .u16 (f0), .int .u16 (f1), .int .u16 (f2), .int .u16 (f3), .int .u16 (f4), .int .u16 (f5)]), .bool a]) ∧ Below w.heap.size w w'))
    (C2 : (∀ w, Calls Try.prog 14 #[.int .i64 100663296] w fun e w' => e = .returned (.agg #[.int .u16 (6144), .int .u16 (0)]) ∧ Below w.heap.size w w'))
    (C3 : (∀ w, Calls Try.prog 39 #[(.agg #[.int .u16 (f0), .int .u16 (f1), .int .u16 (f2), .int .u16 (f3), .int .u16 (f4), .int .u16 (f5)]), (.agg #[.int .u16 (6144), .int .u16 (0)])] w fun e w' => e = .returned (.agg #[.int .u16 (g0), .int .u16 (g1), .int .u16 (g2), .int .u16 (g3), .int .u16 (g4), .int .u16 (g5)]) ∧ Below w.heap.size w w'))
    (K1 : (∀ w, Calls Try.prog 38 #[(.agg #[.int .u16 (g0), .int .u16 (g1), .int .u16 (g2), .int .u16 (g3), .int .u16 (g4), .int .u16 (g5)]), (.agg #[.int .u16 (t12), .int .u16 (t13)])] w fun e w' => e = .returned (.tuple #[(.agg #[.int .u16 (h0), .int .u16 (h1), .int .u16 (h2), .int .u16 (h3), .int .u16 (h4), .int .u16 (h5)]), .bool x1]) ∧ Below w.heap.size w w'))
    (K2 : (∀ w, Calls Try.prog 38 #[(.agg #[.int .u16 (h0), .int .u16 (h1), .int .u16 (h2), .int .u16 (h3), .int .u16 (h4), .int .u16 (h5)]), (.agg #[.int .u16 (t12), .int .u16 (t13)])] w fun e w' => e = .returned (.tuple #[(.agg #[.int .u16 (p0), .int .u16 (p1), .int .u16 (p2), .int .u16 (p3), .int .u16 (p4), .int .u16 (p5)]), .bool x2]) ∧ Below w.heap.size w w'))
    (C4 : (∀ w, Calls Try.prog 40 #[(.agg #[.int .u16 (s6), .int .u16 (s7), .int .u16 (s8), .int .u16 (s9), .int .u16 (s10), .int .u16 (s11)]), .int .i64 (-2)] w fun e w' => e = .returned (.tuple #[(.agg #[.int .u16 (n0), .int .u16 (n1), .int .u16 (n2), .int .u16 (n3), .int .u16 (n4), .int .u16 (n5)]), .bool z1]) ∧ Below w.heap.size w w'))
    (C5 : (∀ w, Calls Try.prog 40 #[(.agg #[.int .u16 (t6), .int .u16 (t7), .int .u16 (t8), .int .u16 (t9), .int .u16 (t10), .int .u16 (t11)]), .int .i64 (-3)] w fun e w' => e = .returned (.tuple #[(.agg #[.int .u16 (m0), .int .u16 (m1), .int .u16 (m2), .int .u16 (m3), .int .u16 (m4), .int .u16 (m5)]), .bool z2]) ∧ Below w.heap.size w w'))
    (C6 : (∀ w, Calls Try.prog 37 #[(.agg #[.int .u16 (n0), .int .u16 (n1), .int .u16 (n2), .int .u16 (n3), .int .u16 (n4), .int .u16 (n5)]), (.agg #[.int .u16 (m0), .int .u16 (m1), .int .u16 (m2), .int .u16 (m3), .int .u16 (m4), .int .u16 (m5)]), .int .i64 1] w fun e w' => e = .returned (.tuple #[(.agg #[.int .u16 (v0), .int .u16 (v1), .int .u16 (v2), .int .u16 (v3), .int .u16 (v4), .int .u16 (v5)]), .bool b]) ∧ Below w.heap.size w w'))
    (K3 : (∀ w, Calls Try.prog 38 #[(.agg #[.int .u16 (v0), .int .u16 (v1), .int .u16 (v2), .int .u16 (v3), .int .u16 (v4), .int .u16 (v5)]), (.agg #[.int .u16 (t12), .int .u16 (t13)])] w fun e w' => e = .returned (.tuple #[(.agg #[.int .u16 (u0), .int .u16 (u1), .int .u16 (u2), .int .u16 (u3), .int .u16 (u4), .int .u16 (u5)]), .bool x3]) ∧ Below w.heap.size w w'))
    (C7 : (∀ w, Calls Try.prog 37 #[(.agg #[.int .u16 (p0), .int .u16 (p1), .int .u16 (p2), .int .u16 (p3), .int .u16 (p4), .int .u16 (p5)]), (.agg #[.int .u16 (u0), .int .u16 (u1), .int .u16 (u2), .int .u16 (u3), .int .u16 (u4), .int .u16 (u5)]), .int .i64 (-1)] w fun e w' => e = .returned (.tuple #[(.agg #[.int .u16 (c0), .int .u16 (c1), .int .u16 (c2), .int .u16 (c3), .int .u16 (c4), .int .u16 (c5)]), .bool d]) ∧ Below w.heap.size w w')) (w : World) :
    Calls Try.prog 13 #[(.agg #[.int .u16 (s0), .int .u16 (s1), .int .u16 (s2), .int .u16 (s3), .int .u16 (s4), .int .u16 (s5), .int .u16 (s6), .int .u16 (s7), .int .u16 (s8), .int .u16 (s9), .int .u16 (s10), .int .u16 (s11)]), (.agg #[.int .u16 (t0), .int .u16 (t1), .int .u16 (t2), .int .u16 (t3), .int .u16 (t4), .int .u16 (t5), .int .u16 (t6), .int .u16 (t7), .int .u16 (t8), .int .u16 (t9), .int .u16 (t10), .int .u16 (t11), .int .u16 (t12), .int .u16 (t13)])] w fun e w' => e = .returned (.tuple #[(.agg #[.int .u16 (c0), .int .u16 (c1), .int .u16 (c2), .int .u16 (c3), .int .u16 (c4), .int .u16 (c5)]), .bool (a || x1 || x2 || b || x3 || d)]) ∧ Below w.heap.size w w' := by
  cases a
  case true => simpa using rcmd_0 _ _ _ _ _ _ _ _ _ _ _ _ _ _ _ _ _ _ _ _ _ _ _ _ _ _ _ _ _ _ _ _ _ _ _ _ _ _ _ _ _ _ _ _ _ _ _ _ _ _ _ _ _ _ _ _ _ _ _ _ _ _ _ _ _ _ _ _ _ _ _ _ _ _ _ _ _ _ _ _ z1 z2 x1 x2 b x3 d C1 C2 C3 K1 K2 C4 C5 C6 K3 C7 w
  cases x1
  case true => simpa using rcmd_1 _ _ _ _ _ _ _ _ _ _ _ _ _ _ _ _ _ _ _ _ _ _ _ _ _ _ _ _ _ _ _ _ _ _ _ _ _ _ _ _ _ _ _ _ _ _ _ _ _ _ _ _ _ _ _ _ _ _ _ _ _ _ _ _ _ _ _ _ _ _ _ _ _ _ _ _ _ _ _ _ z1 z2 x2 b x3 d C1 C2 C3 K1 K2 C4 C5 C6 K3 C7 w
  cases x2
  case true => simpa using rcmd_2 _ _ _ _ _ _ _ _ _ _ _ _ _ _ _ _ _ _ _ _ _ _ _ _ _ _ _ _ _ _ _ _ _ _ _ _ _ _ _ _ _ _ _ _ _ _ _ _ _ _ _ _ _ _ _ _ _ _ _ _ _ _ _ _ _ _ _ _ _ _ _ _ _ _ _ _ _ _ _ _ z1 z2 b x3 d C1 C2 C3 K1 K2 C4 C5 C6 K3 C7 w
  cases b
  case true => simpa using rcmd_3 _ _ _ _ _ _ _ _ _ _ _ _ _ _ _ _ _ _ _ _ _ _ _ _ _ _ _ _ _ _ _ _ _ _ _ _ _ _ _ _ _ _ _ _ _ _ _ _ _ _ _ _ _ _ _ _ _ _ _ _ _ _ _ _ _ _ _ _ _ _ _ _ _ _ _ _ _ _ _ _ z1 z2 x3 d C1 C2 C3 K1 K2 C4 C5 C6 K3 C7 w
  cases x3
  case true => simpa using rcmd_4 _ _ _ _ _ _ _ _ _ _ _ _ _ _ _ _ _ _ _ _ _ _ _ _ _ _ _ _ _ _ _ _ _ _ _ _ _ _ _ _ _ _ _ _ _ _ _ _ _ _ _ _ _ _ _ _ _ _ _ _ _ _ _ _ _ _ _ _ _ _ _ _ _ _ _ _ _ _ _ _ z1 z2 d C1 C2 C3 K1 K2 C4 C5 C6 K3 C7 w
  simpa using rcmd_5 _ _ _ _ _ _ _ _ _ _ _ _ _ _ _ _ _ _ _ _ _ _ _ _ _ _ _ _ _ _ _ _ _ _ _ _ _ _ _ _ _ _ _ _ _ _ _ _ _ _ _ _ _ _ _ _ _ _ _ _ _ _ _ _ _ _ _ _ _ _ _ _ _ _ _ _ _ _ _ _ z1 z2 d C1 C2 C3 K1 K2 C4 C5 C6 K3 C7 w
end Go.Proofs.Ytpmocegfiniafaa
