/- Contract of Command of package descent over this translation: what it returns, given what the functions of vectors return, and its closure. -/
import Derived.Test.YtpmocegfiniafaaQf
import Derived.Test.YtpmocegfiniafaaKg
namespace Go.Proofs.Ytpmocegfiniafaa
set_option linter.unusedSimpArgs false
set_option linter.unusedVariables false
open Go.RowKit


set_option maxRecDepth 100000 in
set_option maxHeartbeats 8000000 in
theorem cmd_t (s0 s1 s2 s3 s4 s5 s6 s7 s8 s9 s10 s11 t0 t1 t2 t3 t4 t5 t6 t7 t8 t9 t10 t11 t12 t13 tt f0 f1 f2 f3 f4 f5 g0 g1 g2 g3 g4 g5 h0 h1 h2 h3 h4 h5 p0 p1 p2 p3 p4 p5 n0 n1 n2 n3 n4 n5 m0 m1 m2 m3 m4 m5 v0 v1 v2 v3 v4 v5 u0 u1 u2 u3 u4 u5 c0 c1 c2 c3 c4 c5 : Int) (z1 z2 a b d : Bool)
    (C1 : (∀ w, Calls Try.prog 29 #[(.agg #[.int .u16 (t12), .int .u16 (t13)])] w fun e w' => e = .returned (.int .i64 tt) ∧ Below w.heap.size w w'))
    (hT : decide (tt ≤ 0) = false)
    (C2 : (∀ w, Calls Try.prog 32 #[(.agg #[.int .u16 (t0), .int .u16 (t1), .int .u16 (t2), .int .u16 (t3), .int .u16 (t4), .int .u16 (t5)]), (.agg #[.int .u16 (s0), .int .u16 (s1), .int .u16 (s2), .int .u16 (s3), .int .u16 (s4), .int .u16 (s5)])] w fun e w' => e = .returned (.tuple #[(.agg #[.int .u16 (f0), .int .u16 (f1), .int .u16 (f2), .int .u16 (f3), .int .u16 (f4), .int .u16 (f5)]), .bool a]) ∧ Below w.heap.size w w'))
    (C3 : (∀ w, Calls Try.prog 33 #[(.agg #[.int .u16 (f0), .int .u16 (f1), .int .u16 (f2), .int .u16 (f3), .int .u16 (f4), .int .u16 (f5)]), (.agg #[.int .u16 (6144), .int .u16 (0)])] w fun e w' => e = .returned (.agg #[.int .u16 (g0), .int .u16 (g1), .int .u16 (g2), .int .u16 (g3), .int .u16 (g4), .int .u16 (g5)]) ∧ Below w.heap.size w w'))
    (K1 : (∀ (bt bo : Nat) (w : World), bt < w.heap.size → bo < w.heap.size → bt ≠ bo → w.cell? ⟨bt, 12, none⟩ = some (.int .u16 t12) → w.cell? ⟨bt, 13, none⟩ = some (.int .u16 t13) → w.cell? ⟨bo, 0, none⟩ = some (.bool false) → w.frozen? ⟨bo, 0, none⟩ = false → Calls Try.prog 30 #[(.agg #[.int .u16 (g0), .int .u16 (g1), .int .u16 (g2), .int .u16 (g3), .int .u16 (g4), .int .u16 (g5)]), .pointer (some ⟨bt, 0, none⟩), .pointer (some ⟨bo, 0, none⟩)] w fun e w' => e = .returned (.agg #[.int .u16 (h0), .int .u16 (h1), .int .u16 (h2), .int .u16 (h3), .int .u16 (h4), .int .u16 (h5)]) ∧ Below (w.setCell ⟨bo, 0, none⟩ (.bool true)).heap.size (w.setCell ⟨bo, 0, none⟩ (.bool true)) w'))
    (K2 : (∀ (bt bo : Nat) (w : World), bt < w.heap.size → bo < w.heap.size → bt ≠ bo → w.cell? ⟨bt, 12, none⟩ = some (.int .u16 t12) → w.cell? ⟨bt, 13, none⟩ = some (.int .u16 t13) → w.cell? ⟨bo, 0, none⟩ = some (.bool true) → w.frozen? ⟨bo, 0, none⟩ = false → Calls Try.prog 30 #[(.agg #[.int .u16 (h0), .int .u16 (h1), .int .u16 (h2), .int .u16 (h3), .int .u16 (h4), .int .u16 (h5)]), .pointer (some ⟨bt, 0, none⟩), .pointer (some ⟨bo, 0, none⟩)] w fun e w' => e = .returned (.agg #[.int .u16 (p0), .int .u16 (p1), .int .u16 (p2), .int .u16 (p3), .int .u16 (p4), .int .u16 (p5)]) ∧ Below (w.setCell ⟨bo, 0, none⟩ (.bool true)).heap.size (w.setCell ⟨bo, 0, none⟩ (.bool true)) w'))
    (C4 : (∀ w, Calls Try.prog 34 #[(.agg #[.int .u16 (s6), .int .u16 (s7), .int .u16 (s8), .int .u16 (s9), .int .u16 (s10), .int .u16 (s11)]), .int .i64 (-2)] w fun e w' => e = .returned (.tuple #[(.agg #[.int .u16 (n0), .int .u16 (n1), .int .u16 (n2), .int .u16 (n3), .int .u16 (n4), .int .u16 (n5)]), .bool z1]) ∧ Below w.heap.size w w'))
    (C5 : (∀ w, Calls Try.prog 34 #[(.agg #[.int .u16 (t6), .int .u16 (t7), .int .u16 (t8), .int .u16 (t9), .int .u16 (t10), .int .u16 (t11)]), .int .i64 (-3)] w fun e w' => e = .returned (.tuple #[(.agg #[.int .u16 (m0), .int .u16 (m1), .int .u16 (m2), .int .u16 (m3), .int .u16 (m4), .int .u16 (m5)]), .bool z2]) ∧ Below w.heap.size w w'))
    (C6 : (∀ w, Calls Try.prog 35 #[(.agg #[.int .u16 (n0), .int .u16 (n1), .int .u16 (n2), .int .u16 (n3), .int .u16 (n4), .int .u16 (n5)]), (.agg #[.int .u16 (m0), .int .u16 (m1), .int .u16 (m2), .int .u16 (m3), .int .u16 (m4), .int .u16 (m5)])] w fun e w' => e = .returned (.tuple #[(.agg #[.int .u16 (v0), .int .u16 (v1), .int .u16 (v2), .int .u16 (v3), .int .u16 (v4), .int .u16 (v5)]), .bool b]) ∧ Below w.heap.size w w'))
    (K3 : (∀ (bt bo : Nat) (w : World), bt < w.heap.size → bo < w.heap.size → bt ≠ bo → w.cell? ⟨bt, 12, none⟩ = some (.int .u16 t12) → w.cell? ⟨bt, 13, none⟩ = some (.int .u16 t13) → w.cell? ⟨bo, 0, none⟩ = some (.bool true) → w.frozen? ⟨bo, 0, none⟩ = false → Calls Try.prog 30 #[(.agg #[.int .u16 (v0), .int .u16 (v1), .int .u16 (v2), .int .u16 (v3), .int .u16 (v4), .int .u16 (v5)]), .pointer (some ⟨bt, 0, none⟩), .pointer (some ⟨bo, 0, none⟩)] w fun e w' => e = .returned (.agg #[.int .u16 (u0), .int .u16 (u1), .int .u16 (u2), .int .u16 (u3), .int .u16 (u4), .int .u16 (u5)]) ∧ Below w.heap.size w w'))
    (C7 : (∀ w, Calls Try.prog 32 #[(.agg #[.int .u16 (p0), .int .u16 (p1), .int .u16 (p2), .int .u16 (p3), .int .u16 (p4), .int .u16 (p5)]), (.agg #[.int .u16 (u0), .int .u16 (u1), .int .u16 (u2), .int .u16 (u3), .int .u16 (u4), .int .u16 (u5)])] w fun e w' => e = .returned (.tuple #[(.agg #[.int .u16 (c0), .int .u16 (c1), .int .u16 (c2), .int .u16 (c3), .int .u16 (c4), .int .u16 (c5)]), .bool d]) ∧ Below w.heap.size w w')) (w : World) :
    Calls Try.prog 11 #[(.agg #[.int .u16 (s0), .int .u16 (s1), .int .u16 (s2), .int .u16 (s3), .int .u16 (s4), .int .u16 (s5), .int .u16 (s6), .int .u16 (s7), .int .u16 (s8), .int .u16 (s9), .int .u16 (s10), .int .u16 (s11)]), (.agg #[.int .u16 (t0), .int .u16 (t1), .int .u16 (t2), .int .u16 (t3), .int .u16 (t4), .int .u16 (t5), .int .u16 (t6), .int .u16 (t7), .int .u16 (t8), .int .u16 (t9), .int .u16 (t10), .int .u16 (t11), .int .u16 (t12), .int .u16 (t13)])] w fun e w' => e = .returned (.tuple #[(.agg #[.int .u16 (c0), .int .u16 (c1), .int .u16 (c2), .int .u16 (c3), .int .u16 (c4), .int .u16 (c5)]), .bool true, .int .i64 0]) ∧ Below w.heap.size w w' := by
  go_enter Try.func11, Try.ntmps11
  go_wp2_with fail
  refine (C1 _).mono ?_
  rintro _ r1 ⟨rfl, hbr1⟩
  obtain ⟨hcr1, hfr1⟩ := bcell hbr1
  have hzr1 := hbr1.size
  try simp only [World.size_alloc, World.size_setCell, World.size_drew] at hzr1
  have hlr1w0 : w.heap.size < r1.heap.size := by omega
  have hlr1w1 : w.heap.size + 1 < r1.heap.size := by omega
  have hlr1w2 : w.heap.size + 1 + 1 < r1.heap.size := by omega
  go_wp2_with fail
  refine (C2 _).mono ?_
  rintro _ r2 ⟨rfl, hbr2⟩
  obtain ⟨hcr2, hfr2⟩ := bcell hbr2
  have hzr2 := hbr2.size
  try simp only [World.size_alloc, World.size_setCell, World.size_drew] at hzr2
  have hlr2w0 : w.heap.size < r2.heap.size := by omega
  have hlr2w1 : w.heap.size + 1 < r2.heap.size := by omega
  have hlr2w2 : w.heap.size + 1 + 1 < r2.heap.size := by omega
  have hlr2r10 : r1.heap.size < r2.heap.size := by omega
  go_wp2_with fail
  refine (C3 _).mono ?_
  rintro _ r3 ⟨rfl, hbr3⟩
  obtain ⟨hcr3, hfr3⟩ := bcell hbr3
  have hzr3 := hbr3.size
  try simp only [World.size_alloc, World.size_setCell, World.size_drew] at hzr3
  have hlr3w0 : w.heap.size < r3.heap.size := by omega
  have hlr3w1 : w.heap.size + 1 < r3.heap.size := by omega
  have hlr3w2 : w.heap.size + 1 + 1 < r3.heap.size := by omega
  have hlr3r10 : r1.heap.size < r3.heap.size := by omega
  have hlr3r20 : r2.heap.size < r3.heap.size := by omega
  have o3 : r3.cell? ⟨r1.heap.size, 0, none⟩ = some (.bool false) := by go_simp
  have f3 : r3.frozen? ⟨r1.heap.size, 0, none⟩ = false := by go_simp
  have k3_0 : r3.cell? ⟨w.heap.size + 1, 12, none⟩ = some (.int .u16 t12) := by go_simp
  have k3_1 : r3.cell? ⟨w.heap.size + 1, 13, none⟩ = some (.int .u16 t13) := by go_simp
  go_wp2_with fail
  refine (K1 (w.heap.size + 1) r1.heap.size r3 (by omega) (by omega) (by omega) k3_0 k3_1 o3 f3).mono ?_
  rintro _ r4 ⟨rfl, hbr4⟩
  obtain ⟨hcr4, hfr4⟩ := bcell hbr4
  have hzr4 := hbr4.size
  try simp only [World.size_alloc, World.size_setCell, World.size_drew] at hzr4
  have hlr4w0 : w.heap.size < r4.heap.size := by omega
  have hlr4w1 : w.heap.size + 1 < r4.heap.size := by omega
  have hlr4w2 : w.heap.size + 1 + 1 < r4.heap.size := by omega
  have hlr4r10 : r1.heap.size < r4.heap.size := by omega
  have o4 : r4.cell? ⟨r1.heap.size, 0, none⟩ = some (.bool true) := (hcr4 _ _ (by (try simp only [World.size_alloc, World.size_setCell]); omega)).trans (World.cell?_setCell_same _ _ _ o3)
  have f4 : r4.frozen? ⟨r1.heap.size, 0, none⟩ = false := (hfr4 _ _ (by (try simp only [World.size_alloc, World.size_setCell]); omega)).trans (by simp [f3])
  have k4_0 : r4.cell? ⟨w.heap.size + 1, 12, none⟩ = some (.int .u16 t12) := (hcr4 _ _ (by (try simp only [World.size_alloc, World.size_setCell]); omega)).trans ((World.cell?_setCell_other _ _ _ _ (by simp)).trans k3_0)
  have k4_1 : r4.cell? ⟨w.heap.size + 1, 13, none⟩ = some (.int .u16 t13) := (hcr4 _ _ (by (try simp only [World.size_alloc, World.size_setCell]); omega)).trans ((World.cell?_setCell_other _ _ _ _ (by simp)).trans k3_1)
  go_wp2_with fail
  refine (K2 (w.heap.size + 1) r1.heap.size r4 (by omega) (by omega) (by omega) k4_0 k4_1 o4 f4).mono ?_
  rintro _ r5 ⟨rfl, hbr5⟩
  obtain ⟨hcr5, hfr5⟩ := bcell hbr5
  have hzr5 := hbr5.size
  try simp only [World.size_alloc, World.size_setCell, World.size_drew] at hzr5
  have hlr5w0 : w.heap.size < r5.heap.size := by omega
  have hlr5w1 : w.heap.size + 1 < r5.heap.size := by omega
  have hlr5w2 : w.heap.size + 1 + 1 < r5.heap.size := by omega
  have hlr5r10 : r1.heap.size < r5.heap.size := by omega
  have o5 : r5.cell? ⟨r1.heap.size, 0, none⟩ = some (.bool true) := (hcr5 _ _ (by (try simp only [World.size_alloc, World.size_setCell]); omega)).trans (World.cell?_setCell_same _ _ _ o4)
  have f5 : r5.frozen? ⟨r1.heap.size, 0, none⟩ = false := (hfr5 _ _ (by (try simp only [World.size_alloc, World.size_setCell]); omega)).trans (by simp [f4])
  have k5_0 : r5.cell? ⟨w.heap.size + 1, 12, none⟩ = some (.int .u16 t12) := (hcr5 _ _ (by (try simp only [World.size_alloc, World.size_setCell]); omega)).trans ((World.cell?_setCell_other _ _ _ _ (by simp)).trans k4_0)
  have k5_1 : r5.cell? ⟨w.heap.size + 1, 13, none⟩ = some (.int .u16 t13) := (hcr5 _ _ (by (try simp only [World.size_alloc, World.size_setCell]); omega)).trans ((World.cell?_setCell_other _ _ _ _ (by simp)).trans k4_1)
  go_wp2_with fail
  refine (C4 _).mono ?_
  rintro _ r6 ⟨rfl, hbr6⟩
  obtain ⟨hcr6, hfr6⟩ := bcell hbr6
  have hzr6 := hbr6.size
  try simp only [World.size_alloc, World.size_setCell, World.size_drew] at hzr6
  have hlr6w0 : w.heap.size < r6.heap.size := by omega
  have hlr6w1 : w.heap.size + 1 < r6.heap.size := by omega
  have hlr6w2 : w.heap.size + 1 + 1 < r6.heap.size := by omega
  have hlr6r10 : r1.heap.size < r6.heap.size := by omega
  have hlr6r50 : r5.heap.size < r6.heap.size := by omega
  go_wp2_with fail
  refine (C5 _).mono ?_
  rintro _ r7 ⟨rfl, hbr7⟩
  obtain ⟨hcr7, hfr7⟩ := bcell hbr7
  have hzr7 := hbr7.size
  try simp only [World.size_alloc, World.size_setCell, World.size_drew] at hzr7
  have hlr7w0 : w.heap.size < r7.heap.size := by omega
  have hlr7w1 : w.heap.size + 1 < r7.heap.size := by omega
  have hlr7w2 : w.heap.size + 1 + 1 < r7.heap.size := by omega
  have hlr7r10 : r1.heap.size < r7.heap.size := by omega
  have hlr7r50 : r5.heap.size < r7.heap.size := by omega
  have hlr7r60 : r6.heap.size < r7.heap.size := by omega
  go_wp2_with fail
  refine (C6 _).mono ?_
  rintro _ r8 ⟨rfl, hbr8⟩
  obtain ⟨hcr8, hfr8⟩ := bcell hbr8
  have hzr8 := hbr8.size
  try simp only [World.size_alloc, World.size_setCell, World.size_drew] at hzr8
  have hlr8w0 : w.heap.size < r8.heap.size := by omega
  have hlr8w1 : w.heap.size + 1 < r8.heap.size := by omega
  have hlr8w2 : w.heap.size + 1 + 1 < r8.heap.size := by omega
  have hlr8r10 : r1.heap.size < r8.heap.size := by omega
  have hlr8r50 : r5.heap.size < r8.heap.size := by omega
  have hlr8r60 : r6.heap.size < r8.heap.size := by omega
  have hlr8r70 : r7.heap.size < r8.heap.size := by omega
  go_wp2_with fail
  refine wp_gen (fun W => Below w.heap.size w W ∧ (w.heap.size + 3 ≤ r1.heap.size ∧ r1.heap.size < r5.heap.size ∧ r5.heap.size < r8.heap.size ∧ r8.heap.size < W.heap.size) ∧ (W.cell? ⟨r5.heap.size, 0, none⟩ = some (.int .u16 p0) ∧ W.cell? ⟨r5.heap.size, 1, none⟩ = some (.int .u16 p1) ∧ W.cell? ⟨r5.heap.size, 2, none⟩ = some (.int .u16 p2) ∧ W.cell? ⟨r5.heap.size, 3, none⟩ = some (.int .u16 p3) ∧ W.cell? ⟨r5.heap.size, 4, none⟩ = some (.int .u16 p4) ∧ W.cell? ⟨r5.heap.size, 5, none⟩ = some (.int .u16 p5)) ∧ (W.cell? ⟨r8.heap.size, 0, none⟩ = some (.int .u16 v0) ∧ W.cell? ⟨r8.heap.size, 1, none⟩ = some (.int .u16 v1) ∧ W.cell? ⟨r8.heap.size, 2, none⟩ = some (.int .u16 v2) ∧ W.cell? ⟨r8.heap.size, 3, none⟩ = some (.int .u16 v3) ∧ W.cell? ⟨r8.heap.size, 4, none⟩ = some (.int .u16 v4) ∧ W.cell? ⟨r8.heap.size, 5, none⟩ = some (.int .u16 v5)) ∧ (W.cell? ⟨w.heap.size + 1, 12, none⟩ = some (.int .u16 t12) ∧ W.cell? ⟨w.heap.size + 1, 13, none⟩ = some (.int .u16 t13)) ∧ (W.cell? ⟨r1.heap.size, 0, none⟩ = some (.bool true) ∧ W.frozen? ⟨r1.heap.size, 0, none⟩ = false) ∧ (W.cell? ⟨w.heap.size + 1 + 1, 0, none⟩ = some (.int .u16 0) ∧ W.cell? ⟨w.heap.size + 1 + 1, 1, none⟩ = some (.int .u16 0) ∧ W.cell? ⟨w.heap.size + 1 + 1, 2, none⟩ = some (.int .u16 0) ∧ W.cell? ⟨w.heap.size + 1 + 1, 3, none⟩ = some (.int .u16 0) ∧ W.cell? ⟨w.heap.size + 1 + 1, 4, none⟩ = some (.int .u16 0) ∧ W.cell? ⟨w.heap.size + 1 + 1, 5, none⟩ = some (.int .u16 0)) ∧ (W.frozen? ⟨w.heap.size + 1 + 1, 0, none⟩ = false ∧ W.frozen? ⟨w.heap.size + 1 + 1, 1, none⟩ = false ∧ W.frozen? ⟨w.heap.size + 1 + 1, 2, none⟩ = false ∧ W.frozen? ⟨w.heap.size + 1 + 1, 3, none⟩ = false ∧ W.frozen? ⟨w.heap.size + 1 + 1, 4, none⟩ = false ∧ W.frozen? ⟨w.heap.size + 1 + 1, 5, none⟩ = false)) ⟨(by repeat' (first | (with_reducible exact Below.refl _ _) | (with_reducible refine bl_set ?_ _ ?_) | (with_reducible refine bl_alloc ?_ _) | (with_reducible refine bl_drew ?_) | (with_reducible refine bl_via (by with_reducible assumption) ?_) | (with_reducible assumption) | omega | (simp only []; omega) | (simp; omega))), ⟨by omega, by omega, by omega, by (try simp only [World.size_alloc, World.size_setCell]); omega⟩, ⟨by go_simp, by go_simp, by go_simp, by go_simp, by go_simp, by go_simp⟩, ⟨by go_simp, by go_simp, by go_simp, by go_simp, by go_simp, by go_simp⟩, ⟨by go_simp, by go_simp⟩, ⟨by go_simp, by go_simp⟩, ⟨by go_simp, by go_simp, by go_simp, by go_simp, by go_simp, by go_simp⟩, ⟨by go_simp, by go_simp, by go_simp, by go_simp, by go_simp, by go_simp⟩⟩ ?_
  rintro W9 ⟨hW9, ⟨s0, s1, s2, s3⟩, ⟨hp0, hp1, hp2, hp3, hp4, hp5⟩, ⟨hv0, hv1, hv2, hv3, hv4, hv5⟩, ⟨hT0, hT1⟩, ⟨hO, hOf⟩, ⟨hr0, hr1, hr2, hr3, hr4, hr5⟩, ⟨hrf0, hrf1, hrf2, hrf3, hrf4, hrf5⟩⟩
  clear hbr1 hcr1 hfr1 hbr2 hcr2 hfr2 hbr3 hcr3 hfr3 hbr4 hcr4 hfr4 hbr5 hcr5 hfr5 hbr6 hcr6 hfr6 hbr7 hcr7 hfr7 hbr8 hcr8 hfr8 o3 f3 k3_0 k3_1 o4 f4 k4_0 k4_1 o5 f5 k5_0 k5_1 C1 C2 C3 C4 C5 C6 K1 K2
  have L0 : w.heap.size < W9.heap.size := by omega
  have L1 : w.heap.size + 1 < W9.heap.size := by omega
  have L2 : w.heap.size + 1 + 1 < W9.heap.size := by omega
  have L3 : r1.heap.size < W9.heap.size := by omega
  have L4 : r5.heap.size < W9.heap.size := by omega
  have L5 : r8.heap.size < W9.heap.size := by omega
  have hecr9 := @Ext.cell2
  refine wp_region_floatl 8 7 _ _ _ _ _ (.cells #[.int .u16 0, .int .u16 0, .int .u16 0, .int .u16 0, .int .u16 0, .int .u16 0] 27) (by kernel_rfl) rfl rfl (by kernel_rfl) (by kernel_rfl) rfl rfl rfl rfl (fun _ _ => by simp [go_sem]) (fun _ _ d _ _ h => by cases d <;> exact h) (by kernel_rfl) (by kernel_rfl) rfl ?_
  apply Exists.intro
  refine ⟨fun W' => ?_, ?_⟩
  · simp only [List.take_succ_cons, List.take_zero]
    repeat (first | go_big_quiet_skip | (go_big_quiet_want; go_big_quiet_op; first | go_big_quiet_on | (go_big_quiet_call ((first | fail | (go_at_call 30; exact ext_call (K3 (w.heap.size + 1) r1.heap.size _ (Nat.lt_of_lt_of_le (Nat.lt_of_lt_of_le L1 W'.h.size) (Ext.h _).size) (Nat.lt_of_lt_of_le (Nat.lt_of_lt_of_le L3 W'.h.size) (Ext.h _).size) (by omega) ((Ext.cell2 W' _ _ _ L1).trans hT0) ((Ext.cell2 W' _ _ _ L1).trans hT1) ((Ext.cell2 W' _ _ _ L3).trans hO) (((Ext.frozen _ _ _ (Nat.lt_of_lt_of_le L3 W'.h.size)).trans (Ext.frozen W' _ _ L3)).trans hOf))) | (go_at_call 32; with_reducible exact ext_call (C7 _)))))))
    exact wpQuiet_nil rfl
  clear hecr9
  simp only [List.drop_succ_cons, List.drop_zero, Act.put, List.setIfInBounds_toArray, List.set_cons_zero, List.set_cons_succ]
  intro B9 r9 hbr9 hBr9 hDr9 hEr9
  have hGr9_0 := block_cell hEr9 0
  have hGr9_1 := block_cell hEr9 1
  have hGr9_2 := block_cell hEr9 2
  have hGr9_3 := block_cell hEr9 3
  have hGr9_4 := block_cell hEr9 4
  have hGr9_5 := block_cell hEr9 5
  have hFr9 := block_free hEr9
  simp only [List.getElem?_toArray, List.getElem?_cons_zero, List.getElem?_cons_succ] at hGr9_0 hGr9_1 hGr9_2 hGr9_3 hGr9_4 hGr9_5
  clear hEr9
  try simp only [World.size_alloc, World.size_setCell, World.size_drew] at hBr9
  obtain ⟨hcr9, hfr9⟩ := bcell hbr9
  have hzr9 := hbr9.size
  try simp only [World.size_alloc, World.size_setCell, World.size_drew] at hzr9
  have hlr9w0 : w.heap.size < r9.heap.size := by omega
  have hlr9w1 : w.heap.size + 1 < r9.heap.size := by omega
  have hlr9w2 : w.heap.size + 1 + 1 < r9.heap.size := by omega
  have hlr9r10 : r1.heap.size < r9.heap.size := by omega
  have hlr9r50 : r5.heap.size < r9.heap.size := by omega
  have hlr9r80 : r8.heap.size < r9.heap.size := by omega
  go_wp2
  refine bodyPost_ret (v := (.tuple #[(.agg #[.int .u16 (c0), .int .u16 (c1), .int .u16 (c2), .int .u16 (c3), .int .u16 (c4), .int .u16 (c5)]), .bool true, .int .i64 0])) (by simp [results, Try.results11, go_sem, *]) rfl ⟨rfl, ?_⟩; exact (by repeat' (first | (with_reducible exact Below.refl _ _) | (with_reducible refine bl_set ?_ _ ?_) | (with_reducible refine bl_alloc ?_ _) | (with_reducible refine bl_drew ?_) | (with_reducible refine bl_via (by with_reducible assumption) ?_) | (with_reducible assumption) | omega | (simp only []; omega) | (simp; omega)))

set_option maxRecDepth 100000 in
set_option maxHeartbeats 8000000 in
theorem cmd_u (s0 s1 s2 s3 s4 s5 s6 s7 s8 s9 s10 s11 t0 t1 t2 t3 t4 t5 t6 t7 t8 t9 t10 t11 t12 t13 tt f0 f1 f2 f3 f4 f5 g0 g1 g2 g3 g4 g5 h0 h1 h2 h3 h4 h5 p0 p1 p2 p3 p4 p5 n0 n1 n2 n3 n4 n5 m0 m1 m2 m3 m4 m5 v0 v1 v2 v3 v4 v5 u0 u1 u2 u3 u4 u5 c0 c1 c2 c3 c4 c5 : Int) (z1 z2 a b d : Bool)
    (C1 : (∀ w, Calls Try.prog 29 #[(.agg #[.int .u16 (t12), .int .u16 (t13)])] w fun e w' => e = .returned (.int .i64 tt) ∧ Below w.heap.size w w'))
    (hT : decide (tt ≤ 0) = false)
    (C2 : (∀ w, Calls Try.prog 32 #[(.agg #[.int .u16 (t0), .int .u16 (t1), .int .u16 (t2), .int .u16 (t3), .int .u16 (t4), .int .u16 (t5)]), (.agg #[.int .u16 (s0), .int .u16 (s1), .int .u16 (s2), .int .u16 (s3), .int .u16 (s4), .int .u16 (s5)])] w fun e w' => e = .returned (.tuple #[(.agg #[.int .u16 (f0), .int .u16 (f1), .int .u16 (f2), .int .u16 (f3), .int .u16 (f4), .int .u16 (f5)]), .bool a]) ∧ Below w.heap.size w w'))
    (C3 : (∀ w, Calls Try.prog 33 #[(.agg #[.int .u16 (f0), .int .u16 (f1), .int .u16 (f2), .int .u16 (f3), .int .u16 (f4), .int .u16 (f5)]), (.agg #[.int .u16 (6144), .int .u16 (0)])] w fun e w' => e = .returned (.agg #[.int .u16 (g0), .int .u16 (g1), .int .u16 (g2), .int .u16 (g3), .int .u16 (g4), .int .u16 (g5)]) ∧ Below w.heap.size w w'))
    (K1 : (∀ (bt bo : Nat) (w : World), bt < w.heap.size → bo < w.heap.size → bt ≠ bo → w.cell? ⟨bt, 12, none⟩ = some (.int .u16 t12) → w.cell? ⟨bt, 13, none⟩ = some (.int .u16 t13) → w.cell? ⟨bo, 0, none⟩ = some (.bool false) → w.frozen? ⟨bo, 0, none⟩ = false → Calls Try.prog 30 #[(.agg #[.int .u16 (g0), .int .u16 (g1), .int .u16 (g2), .int .u16 (g3), .int .u16 (g4), .int .u16 (g5)]), .pointer (some ⟨bt, 0, none⟩), .pointer (some ⟨bo, 0, none⟩)] w fun e w' => e = .returned (.agg #[.int .u16 (h0), .int .u16 (h1), .int .u16 (h2), .int .u16 (h3), .int .u16 (h4), .int .u16 (h5)]) ∧ Below (w.setCell ⟨bo, 0, none⟩ (.bool false)).heap.size (w.setCell ⟨bo, 0, none⟩ (.bool false)) w'))
    (K2 : (∀ (bt bo : Nat) (w : World), bt < w.heap.size → bo < w.heap.size → bt ≠ bo → w.cell? ⟨bt, 12, none⟩ = some (.int .u16 t12) → w.cell? ⟨bt, 13, none⟩ = some (.int .u16 t13) → w.cell? ⟨bo, 0, none⟩ = some (.bool false) → w.frozen? ⟨bo, 0, none⟩ = false → Calls Try.prog 30 #[(.agg #[.int .u16 (h0), .int .u16 (h1), .int .u16 (h2), .int .u16 (h3), .int .u16 (h4), .int .u16 (h5)]), .pointer (some ⟨bt, 0, none⟩), .pointer (some ⟨bo, 0, none⟩)] w fun e w' => e = .returned (.agg #[.int .u16 (p0), .int .u16 (p1), .int .u16 (p2), .int .u16 (p3), .int .u16 (p4), .int .u16 (p5)]) ∧ Below (w.setCell ⟨bo, 0, none⟩ (.bool true)).heap.size (w.setCell ⟨bo, 0, none⟩ (.bool true)) w'))
    (C4 : (∀ w, Calls Try.prog 34 #[(.agg #[.int .u16 (s6), .int .u16 (s7), .int .u16 (s8), .int .u16 (s9), .int .u16 (s10), .int .u16 (s11)]), .int .i64 (-2)] w fun e w' => e = .returned (.tuple #[(.agg #[.int .u16 (n0), .int .u16 (n1), .int .u16 (n2), .int .u16 (n3), .int .u16 (n4), .int .u16 (n5)]), .bool z1]) ∧ Below w.heap.size w w'))
    (C5 : (∀ w, Calls Try.prog 34 #[(.agg #[.int .u16 (t6), .int .u16 (t7), .int .u16 (t8), .int .u16 (t9), .int .u16 (t10), .int .u16 (t11)]), .int .i64 (-3)] w fun e w' => e = .returned (.tuple #[(.agg #[.int .u16 (m0), .int .u16 (m1), .int .u16 (m2), .int .u16 (m3), .int .u16 (m4), .int .u16 (m5)]), .bool z2]) ∧ Below w.heap.size w w'))
    (C6 : (∀ w, Calls Try.prog 35 #[(.agg #[.int .u16 (n0), .int .u16 (n1), .int .u16 (n2), .int .u16 (n3), .int .u16 (n4), .int .u16 (n5)]), (.agg #[.int .u16 (m0), .int .u16 (m1), .int .u16 (m2), .int .u16 (m3), .int .u16 (m4), .int .u16 (m5)])] w fun e w' => e = .returned (.tuple #[(.agg #[.int .u16 (v0), .int .u16 (v1), .int .u16 (v2), .int .u16 (v3), .int .u16 (v4), .int .u16 (v5)]), .bool b]) ∧ Below w.heap.size w w'))
    (K3 : (∀ (bt bo : Nat) (w : World), bt < w.heap.size → bo < w.heap.size → bt ≠ bo → w.cell? ⟨bt, 12, none⟩ = some (.int .u16 t12) → w.cell? ⟨bt, 13, none⟩ = some (.int .u16 t13) → w.cell? ⟨bo, 0, none⟩ = some (.bool true) → w.frozen? ⟨bo, 0, none⟩ = false → Calls Try.prog 30 #[(.agg #[.int .u16 (v0), .int .u16 (v1), .int .u16 (v2), .int .u16 (v3), .int .u16 (v4), .int .u16 (v5)]), .pointer (some ⟨bt, 0, none⟩), .pointer (some ⟨bo, 0, none⟩)] w fun e w' => e = .returned (.agg #[.int .u16 (u0), .int .u16 (u1), .int .u16 (u2), .int .u16 (u3), .int .u16 (u4), .int .u16 (u5)]) ∧ Below w.heap.size w w'))
    (C7 : (∀ w, Calls Try.prog 32 #[(.agg #[.int .u16 (p0), .int .u16 (p1), .int .u16 (p2), .int .u16 (p3), .int .u16 (p4), .int .u16 (p5)]), (.agg #[.int .u16 (u0), .int .u16 (u1), .int .u16 (u2), .int .u16 (u3), .int .u16 (u4), .int .u16 (u5)])] w fun e w' => e = .returned (.tuple #[(.agg #[.int .u16 (c0), .int .u16 (c1), .int .u16 (c2), .int .u16 (c3), .int .u16 (c4), .int .u16 (c5)]), .bool d]) ∧ Below w.heap.size w w')) (w : World) :
    Calls Try.prog 11 #[(.agg #[.int .u16 (s0), .int .u16 (s1), .int .u16 (s2), .int .u16 (s3), .int .u16 (s4), .int .u16 (s5), .int .u16 (s6), .int .u16 (s7), .int .u16 (s8), .int .u16 (s9), .int .u16 (s10), .int .u16 (s11)]), (.agg #[.int .u16 (t0), .int .u16 (t1), .int .u16 (t2), .int .u16 (t3), .int .u16 (t4), .int .u16 (t5), .int .u16 (t6), .int .u16 (t7), .int .u16 (t8), .int .u16 (t9), .int .u16 (t10), .int .u16 (t11), .int .u16 (t12), .int .u16 (t13)])] w fun e w' => e = .returned (.tuple #[(.agg #[.int .u16 (c0), .int .u16 (c1), .int .u16 (c2), .int .u16 (c3), .int .u16 (c4), .int .u16 (c5)]), .bool true, .int .i64 0]) ∧ Below w.heap.size w w' := by
  go_enter Try.func11, Try.ntmps11
  go_wp2_with fail
  refine (C1 _).mono ?_
  rintro _ r1 ⟨rfl, hbr1⟩
  obtain ⟨hcr1, hfr1⟩ := bcell hbr1
  have hzr1 := hbr1.size
  try simp only [World.size_alloc, World.size_setCell, World.size_drew] at hzr1
  have hlr1w0 : w.heap.size < r1.heap.size := by omega
  have hlr1w1 : w.heap.size + 1 < r1.heap.size := by omega
  have hlr1w2 : w.heap.size + 1 + 1 < r1.heap.size := by omega
  go_wp2_with fail
  refine (C2 _).mono ?_
  rintro _ r2 ⟨rfl, hbr2⟩
  obtain ⟨hcr2, hfr2⟩ := bcell hbr2
  have hzr2 := hbr2.size
  try simp only [World.size_alloc, World.size_setCell, World.size_drew] at hzr2
  have hlr2w0 : w.heap.size < r2.heap.size := by omega
  have hlr2w1 : w.heap.size + 1 < r2.heap.size := by omega
  have hlr2w2 : w.heap.size + 1 + 1 < r2.heap.size := by omega
  have hlr2r10 : r1.heap.size < r2.heap.size := by omega
  go_wp2_with fail
  refine (C3 _).mono ?_
  rintro _ r3 ⟨rfl, hbr3⟩
  obtain ⟨hcr3, hfr3⟩ := bcell hbr3
  have hzr3 := hbr3.size
  try simp only [World.size_alloc, World.size_setCell, World.size_drew] at hzr3
  have hlr3w0 : w.heap.size < r3.heap.size := by omega
  have hlr3w1 : w.heap.size + 1 < r3.heap.size := by omega
  have hlr3w2 : w.heap.size + 1 + 1 < r3.heap.size := by omega
  have hlr3r10 : r1.heap.size < r3.heap.size := by omega
  have hlr3r20 : r2.heap.size < r3.heap.size := by omega
  have o3 : r3.cell? ⟨r1.heap.size, 0, none⟩ = some (.bool false) := by go_simp
  have f3 : r3.frozen? ⟨r1.heap.size, 0, none⟩ = false := by go_simp
  have k3_0 : r3.cell? ⟨w.heap.size + 1, 12, none⟩ = some (.int .u16 t12) := by go_simp
  have k3_1 : r3.cell? ⟨w.heap.size + 1, 13, none⟩ = some (.int .u16 t13) := by go_simp
  go_wp2_with fail
  refine (K1 (w.heap.size + 1) r1.heap.size r3 (by omega) (by omega) (by omega) k3_0 k3_1 o3 f3).mono ?_
  rintro _ r4 ⟨rfl, hbr4⟩
  obtain ⟨hcr4, hfr4⟩ := bcell hbr4
  have hzr4 := hbr4.size
  try simp only [World.size_alloc, World.size_setCell, World.size_drew] at hzr4
  have hlr4w0 : w.heap.size < r4.heap.size := by omega
  have hlr4w1 : w.heap.size + 1 < r4.heap.size := by omega
  have hlr4w2 : w.heap.size + 1 + 1 < r4.heap.size := by omega
  have hlr4r10 : r1.heap.size < r4.heap.size := by omega
  have o4 : r4.cell? ⟨r1.heap.size, 0, none⟩ = some (.bool false) := (hcr4 _ _ (by (try simp only [World.size_alloc, World.size_setCell]); omega)).trans (World.cell?_setCell_same _ _ _ o3)
  have f4 : r4.frozen? ⟨r1.heap.size, 0, none⟩ = false := (hfr4 _ _ (by (try simp only [World.size_alloc, World.size_setCell]); omega)).trans (by simp [f3])
  have k4_0 : r4.cell? ⟨w.heap.size + 1, 12, none⟩ = some (.int .u16 t12) := (hcr4 _ _ (by (try simp only [World.size_alloc, World.size_setCell]); omega)).trans ((World.cell?_setCell_other _ _ _ _ (by simp)).trans k3_0)
  have k4_1 : r4.cell? ⟨w.heap.size + 1, 13, none⟩ = some (.int .u16 t13) := (hcr4 _ _ (by (try simp only [World.size_alloc, World.size_setCell]); omega)).trans ((World.cell?_setCell_other _ _ _ _ (by simp)).trans k3_1)
  go_wp2_with fail
  refine (K2 (w.heap.size + 1) r1.heap.size r4 (by omega) (by omega) (by omega) k4_0 k4_1 o4 f4).mono ?_
  rintro _ r5 ⟨rfl, hbr5⟩
  obtain ⟨hcr5, hfr5⟩ := bcell hbr5
  have hzr5 := hbr5.size
  try simp only [World.size_alloc, World.size_setCell, World.size_drew] at hzr5
  have hlr5w0 : w.heap.size < r5.heap.size := by omega
  have hlr5w1 : w.heap.size + 1 < r5.heap.size := by omega
  have hlr5w2 : w.heap.size + 1 + 1 < r5.heap.size := by omega
  have hlr5r10 : r1.heap.size < r5.heap.size := by omega
  have o5 : r5.cell? ⟨r1.heap.size, 0, none⟩ = some (.bool true) := (hcr5 _ _ (by (try simp only [World.size_alloc, World.size_setCell]); omega)).trans (World.cell?_setCell_same _ _ _ o4)
  have f5 : r5.frozen? ⟨r1.heap.size, 0, none⟩ = false := (hfr5 _ _ (by (try simp only [World.size_alloc, World.size_setCell]); omega)).trans (by simp [f4])
  have k5_0 : r5.cell? ⟨w.heap.size + 1, 12, none⟩ = some (.int .u16 t12) := (hcr5 _ _ (by (try simp only [World.size_alloc, World.size_setCell]); omega)).trans ((World.cell?_setCell_other _ _ _ _ (by simp)).trans k4_0)
  have k5_1 : r5.cell? ⟨w.heap.size + 1, 13, none⟩ = some (.int .u16 t13) := (hcr5 _ _ (by (try simp only [World.size_alloc, World.size_setCell]); omega)).trans ((World.cell?_setCell_other _ _ _ _ (by simp)).trans k4_1)
  go_wp2_with fail
  refine (C4 _).mono ?_
  rintro _ r6 ⟨rfl, hbr6⟩
  obtain ⟨hcr6, hfr6⟩ := bcell hbr6
  have hzr6 := hbr6.size
  try simp only [World.size_alloc, World.size_setCell, World.size_drew] at hzr6
  have hlr6w0 : w.heap.size < r6.heap.size := by omega
  have hlr6w1 : w.heap.size + 1 < r6.heap.size := by omega
  have hlr6w2 : w.heap.size + 1 + 1 < r6.heap.size := by omega
  have hlr6r10 : r1.heap.size < r6.heap.size := by omega
  have hlr6r50 : r5.heap.size < r6.heap.size := by omega
  go_wp2_with fail
  refine (C5 _).mono ?_
  rintro _ r7 ⟨rfl, hbr7⟩
  obtain ⟨hcr7, hfr7⟩ := bcell hbr7
  have hzr7 := hbr7.size
  try simp only [World.size_alloc, World.size_setCell, World.size_drew] at hzr7
  have hlr7w0 : w.heap.size < r7.heap.size := by omega
  have hlr7w1 : w.heap.size + 1 < r7.heap.size := by omega
  have hlr7w2 : w.heap.size + 1 + 1 < r7.heap.size := by omega
  have hlr7r10 : r1.heap.size < r7.heap.size := by omega
  have hlr7r50 : r5.heap.size < r7.heap.size := by omega
  have hlr7r60 : r6.heap.size < r7.heap.size := by omega
  go_wp2_with fail
  refine (C6 _).mono ?_
  rintro _ r8 ⟨rfl, hbr8⟩
  obtain ⟨hcr8, hfr8⟩ := bcell hbr8
  have hzr8 := hbr8.size
  try simp only [World.size_alloc, World.size_setCell, World.size_drew] at hzr8
  have hlr8w0 : w.heap.size < r8.heap.size := by omega
  have hlr8w1 : w.heap.size + 1 < r8.heap.size := by omega
  have hlr8w2 : w.heap.size + 1 + 1 < r8.heap.size := by omega
  have hlr8r10 : r1.heap.size < r8.heap.size := by omega
  have hlr8r50 : r5.heap.size < r8.heap.size := by omega
  have hlr8r60 : r6.heap.size < r8.heap.size := by omega
  have hlr8r70 : r7.heap.size < r8.heap.size := by omega
  go_wp2_with fail
  refine wp_gen (fun W => Below w.heap.size w W ∧ (w.heap.size + 3 ≤ r1.heap.size ∧ r1.heap.size < r5.heap.size ∧ r5.heap.size < r8.heap.size ∧ r8.heap.size < W.heap.size) ∧ (W.cell? ⟨r5.heap.size, 0, none⟩ = some (.int .u16 p0) ∧ W.cell? ⟨r5.heap.size, 1, none⟩ = some (.int .u16 p1) ∧ W.cell? ⟨r5.heap.size, 2, none⟩ = some (.int .u16 p2) ∧ W.cell? ⟨r5.heap.size, 3, none⟩ = some (.int .u16 p3) ∧ W.cell? ⟨r5.heap.size, 4, none⟩ = some (.int .u16 p4) ∧ W.cell? ⟨r5.heap.size, 5, none⟩ = some (.int .u16 p5)) ∧ (W.cell? ⟨r8.heap.size, 0, none⟩ = some (.int .u16 v0) ∧ W.cell? ⟨r8.heap.size, 1, none⟩ = some (.int .u16 v1) ∧ W.cell? ⟨r8.heap.size, 2, none⟩ = some (.int .u16 v2) ∧ W.cell? ⟨r8.heap.size, 3, none⟩ = some (.int .u16 v3) ∧ W.cell? ⟨r8.heap.size, 4, none⟩ = some (.int .u16 v4) ∧ W.cell? ⟨r8.heap.size, 5, none⟩ = some (.int .u16 v5)) ∧ (W.cell? ⟨w.heap.size + 1, 12, none⟩ = some (.int .u16 t12) ∧ W.cell? ⟨w.heap.size + 1, 13, none⟩ = some (.int .u16 t13)) ∧ (W.cell? ⟨r1.heap.size, 0, none⟩ = some (.bool true) ∧ W.frozen? ⟨r1.heap.size, 0, none⟩ = false) ∧ (W.cell? ⟨w.heap.size + 1 + 1, 0, none⟩ = some (.int .u16 0) ∧ W.cell? ⟨w.heap.size + 1 + 1, 1, none⟩ = some (.int .u16 0) ∧ W.cell? ⟨w.heap.size + 1 + 1, 2, none⟩ = some (.int .u16 0) ∧ W.cell? ⟨w.heap.size + 1 + 1, 3, none⟩ = some (.int .u16 0) ∧ W.cell? ⟨w.heap.size + 1 + 1, 4, none⟩ = some (.int .u16 0) ∧ W.cell? ⟨w.heap.size + 1 + 1, 5, none⟩ = some (.int .u16 0)) ∧ (W.frozen? ⟨w.heap.size + 1 + 1, 0, none⟩ = false ∧ W.frozen? ⟨w.heap.size + 1 + 1, 1, none⟩ = false ∧ W.frozen? ⟨w.heap.size + 1 + 1, 2, none⟩ = false ∧ W.frozen? ⟨w.heap.size + 1 + 1, 3, none⟩ = false ∧ W.frozen? ⟨w.heap.size + 1 + 1, 4, none⟩ = false ∧ W.frozen? ⟨w.heap.size + 1 + 1, 5, none⟩ = false)) ⟨(by repeat' (first | (with_reducible exact Below.refl _ _) | (with_reducible refine bl_set ?_ _ ?_) | (with_reducible refine bl_alloc ?_ _) | (with_reducible refine bl_drew ?_) | (with_reducible refine bl_via (by with_reducible assumption) ?_) | (with_reducible assumption) | omega | (simp only []; omega) | (simp; omega))), ⟨by omega, by omega, by omega, by (try simp only [World.size_alloc, World.size_setCell]); omega⟩, ⟨by go_simp, by go_simp, by go_simp, by go_simp, by go_simp, by go_simp⟩, ⟨by go_simp, by go_simp, by go_simp, by go_simp, by go_simp, by go_simp⟩, ⟨by go_simp, by go_simp⟩, ⟨by go_simp, by go_simp⟩, ⟨by go_simp, by go_simp, by go_simp, by go_simp, by go_simp, by go_simp⟩, ⟨by go_simp, by go_simp, by go_simp, by go_simp, by go_simp, by go_simp⟩⟩ ?_
  rintro W9 ⟨hW9, ⟨s0, s1, s2, s3⟩, ⟨hp0, hp1, hp2, hp3, hp4, hp5⟩, ⟨hv0, hv1, hv2, hv3, hv4, hv5⟩, ⟨hT0, hT1⟩, ⟨hO, hOf⟩, ⟨hr0, hr1, hr2, hr3, hr4, hr5⟩, ⟨hrf0, hrf1, hrf2, hrf3, hrf4, hrf5⟩⟩
  clear hbr1 hcr1 hfr1 hbr2 hcr2 hfr2 hbr3 hcr3 hfr3 hbr4 hcr4 hfr4 hbr5 hcr5 hfr5 hbr6 hcr6 hfr6 hbr7 hcr7 hfr7 hbr8 hcr8 hfr8 o3 f3 k3_0 k3_1 o4 f4 k4_0 k4_1 o5 f5 k5_0 k5_1 C1 C2 C3 C4 C5 C6 K1 K2
  have L0 : w.heap.size < W9.heap.size := by omega
  have L1 : w.heap.size + 1 < W9.heap.size := by omega
  have L2 : w.heap.size + 1 + 1 < W9.heap.size := by omega
  have L3 : r1.heap.size < W9.heap.size := by omega
  have L4 : r5.heap.size < W9.heap.size := by omega
  have L5 : r8.heap.size < W9.heap.size := by omega
  have hecr9 := @Ext.cell2
  refine wp_region_floatl 8 7 _ _ _ _ _ (.cells #[.int .u16 0, .int .u16 0, .int .u16 0, .int .u16 0, .int .u16 0, .int .u16 0] 27) (by kernel_rfl) rfl rfl (by kernel_rfl) (by kernel_rfl) rfl rfl rfl rfl (fun _ _ => by simp [go_sem]) (fun _ _ d _ _ h => by cases d <;> exact h) (by kernel_rfl) (by kernel_rfl) rfl ?_
  apply Exists.intro
  refine ⟨fun W' => ?_, ?_⟩
  · simp only [List.take_succ_cons, List.take_zero]
    repeat (first | go_big_quiet_skip | (go_big_quiet_want; go_big_quiet_op; first | go_big_quiet_on | (go_big_quiet_call ((first | fail | (go_at_call 30; exact ext_call (K3 (w.heap.size + 1) r1.heap.size _ (Nat.lt_of_lt_of_le (Nat.lt_of_lt_of_le L1 W'.h.size) (Ext.h _).size) (Nat.lt_of_lt_of_le (Nat.lt_of_lt_of_le L3 W'.h.size) (Ext.h _).size) (by omega) ((Ext.cell2 W' _ _ _ L1).trans hT0) ((Ext.cell2 W' _ _ _ L1).trans hT1) ((Ext.cell2 W' _ _ _ L3).trans hO) (((Ext.frozen _ _ _ (Nat.lt_of_lt_of_le L3 W'.h.size)).trans (Ext.frozen W' _ _ L3)).trans hOf))) | (go_at_call 32; with_reducible exact ext_call (C7 _)))))))
    exact wpQuiet_nil rfl
  clear hecr9
  simp only [List.drop_succ_cons, List.drop_zero, Act.put, List.setIfInBounds_toArray, List.set_cons_zero, List.set_cons_succ]
  intro B9 r9 hbr9 hBr9 hDr9 hEr9
  have hGr9_0 := block_cell hEr9 0
  have hGr9_1 := block_cell hEr9 1
  have hGr9_2 := block_cell hEr9 2
  have hGr9_3 := block_cell hEr9 3
  have hGr9_4 := block_cell hEr9 4
  have hGr9_5 := block_cell hEr9 5
  have hFr9 := block_free hEr9
  simp only [List.getElem?_toArray, List.getElem?_cons_zero, List.getElem?_cons_succ] at hGr9_0 hGr9_1 hGr9_2 hGr9_3 hGr9_4 hGr9_5
  clear hEr9
  try simp only [World.size_alloc, World.size_setCell, World.size_drew] at hBr9
  obtain ⟨hcr9, hfr9⟩ := bcell hbr9
  have hzr9 := hbr9.size
  try simp only [World.size_alloc, World.size_setCell, World.size_drew] at hzr9
  have hlr9w0 : w.heap.size < r9.heap.size := by omega
  have hlr9w1 : w.heap.size + 1 < r9.heap.size := by omega
  have hlr9w2 : w.heap.size + 1 + 1 < r9.heap.size := by omega
  have hlr9r10 : r1.heap.size < r9.heap.size := by omega
  have hlr9r50 : r5.heap.size < r9.heap.size := by omega
  have hlr9r80 : r8.heap.size < r9.heap.size := by omega
  go_wp2
  refine bodyPost_ret (v := (.tuple #[(.agg #[.int .u16 (c0), .int .u16 (c1), .int .u16 (c2), .int .u16 (c3), .int .u16 (c4), .int .u16 (c5)]), .bool true, .int .i64 0])) (by simp [results, Try.results11, go_sem, *]) rfl ⟨rfl, ?_⟩; exact (by repeat' (first | (with_reducible exact Below.refl _ _) | (with_reducible refine bl_set ?_ _ ?_) | (with_reducible refine bl_alloc ?_ _) | (with_reducible refine bl_drew ?_) | (with_reducible refine bl_via (by with_reducible assumption) ?_) | (with_reducible assumption) | omega | (simp only []; omega) | (simp; omega)))

set_option maxRecDepth 100000 in
set_option maxHeartbeats 8000000 in
theorem cmd_a (s0 s1 s2 s3 s4 s5 s6 s7 s8 s9 s10 s11 t0 t1 t2 t3 t4 t5 t6 t7 t8 t9 t10 t11 t12 t13 tt f0 f1 f2 f3 f4 f5 g0 g1 g2 g3 g4 g5 h0 h1 h2 h3 h4 h5 p0 p1 p2 p3 p4 p5 n0 n1 n2 n3 n4 n5 m0 m1 m2 m3 m4 m5 v0 v1 v2 v3 v4 v5 u0 u1 u2 u3 u4 u5 c0 c1 c2 c3 c4 c5 : Int) (z1 z2 b d : Bool)
    (C1 : (∀ w, Calls Try.prog 29 #[(.agg #[.int .u16 (t12), .int .u16 (t13)])] w fun e w' => e = .returned (.int .i64 tt) ∧ Below w.heap.size w w'))
    (hT : decide (tt ≤ 0) = false)
    (C2 : (∀ w, Calls Try.prog 32 #[(.agg #[.int .u16 (t0), .int .u16 (t1), .int .u16 (t2), .int .u16 (t3), .int .u16 (t4), .int .u16 (t5)]), (.agg #[.int .u16 (s0), .int .u16 (s1), .int .u16 (s2), .int .u16 (s3), .int .u16 (s4), .int .u16 (s5)])] w fun e w' => e = .returned (.tuple #[(.agg #[.int .u16 (f0), .int .u16 (f1), .int .u16 (f2), .int .u16 (f3), .int .u16 (f4), .int .u16 (f5)]), .bool true]) ∧ Below w.heap.size w w'))
    (C3 : (∀ w, Calls Try.prog 33 #[(.agg #[.int .u16 (f0), .int .u16 (f1), .int .u16 (f2), .int .u16 (f3), .int .u16 (f4), .int .u16 (f5)]), (.agg #[.int .u16 (6144), .int .u16 (0)])] w fun e w' => e = .returned (.agg #[.int .u16 (g0), .int .u16 (g1), .int .u16 (g2), .int .u16 (g3), .int .u16 (g4), .int .u16 (g5)]) ∧ Below w.heap.size w w'))
    (K1 : (∀ (bt bo : Nat) (w : World), bt < w.heap.size → bo < w.heap.size → bt ≠ bo → w.cell? ⟨bt, 12, none⟩ = some (.int .u16 t12) → w.cell? ⟨bt, 13, none⟩ = some (.int .u16 t13) → w.cell? ⟨bo, 0, none⟩ = some (.bool false) → w.frozen? ⟨bo, 0, none⟩ = false → Calls Try.prog 30 #[(.agg #[.int .u16 (g0), .int .u16 (g1), .int .u16 (g2), .int .u16 (g3), .int .u16 (g4), .int .u16 (g5)]), .pointer (some ⟨bt, 0, none⟩), .pointer (some ⟨bo, 0, none⟩)] w fun e w' => e = .returned (.agg #[.int .u16 (h0), .int .u16 (h1), .int .u16 (h2), .int .u16 (h3), .int .u16 (h4), .int .u16 (h5)]) ∧ Below (w.setCell ⟨bo, 0, none⟩ (.bool false)).heap.size (w.setCell ⟨bo, 0, none⟩ (.bool false)) w'))
    (K2 : (∀ (bt bo : Nat) (w : World), bt < w.heap.size → bo < w.heap.size → bt ≠ bo → w.cell? ⟨bt, 12, none⟩ = some (.int .u16 t12) → w.cell? ⟨bt, 13, none⟩ = some (.int .u16 t13) → w.cell? ⟨bo, 0, none⟩ = some (.bool false) → w.frozen? ⟨bo, 0, none⟩ = false → Calls Try.prog 30 #[(.agg #[.int .u16 (h0), .int .u16 (h1), .int .u16 (h2), .int .u16 (h3), .int .u16 (h4), .int .u16 (h5)]), .pointer (some ⟨bt, 0, none⟩), .pointer (some ⟨bo, 0, none⟩)] w fun e w' => e = .returned (.agg #[.int .u16 (p0), .int .u16 (p1), .int .u16 (p2), .int .u16 (p3), .int .u16 (p4), .int .u16 (p5)]) ∧ Below (w.setCell ⟨bo, 0, none⟩ (.bool false)).heap.size (w.setCell ⟨bo, 0, none⟩ (.bool false)) w'))
    (C4 : (∀ w, Calls Try.prog 34 #[(.agg #[.int .u16 (s6), .int .u16 (s7), .int .u16 (s8), .int .u16 (s9), .int .u16 (s10), .int .u16 (s11)]), .int .i64 (-2)] w fun e w' => e = .returned (.tuple #[(.agg #[.int .u16 (n0), .int .u16 (n1), .int .u16 (n2), .int .u16 (n3), .int .u16 (n4), .int .u16 (n5)]), .bool z1]) ∧ Below w.heap.size w w'))
    (C5 : (∀ w, Calls Try.prog 34 #[(.agg #[.int .u16 (t6), .int .u16 (t7), .int .u16 (t8), .int .u16 (t9), .int .u16 (t10), .int .u16 (t11)]), .int .i64 (-3)] w fun e w' => e = .returned (.tuple #[(.agg #[.int .u16 (m0), .int .u16 (m1), .int .u16 (m2), .int .u16 (m3), .int .u16 (m4), .int .u16 (m5)]), .bool z2]) ∧ Below w.heap.size w w'))
    (C6 : (∀ w, Calls Try.prog 35 #[(.agg #[.int .u16 (n0), .int .u16 (n1), .int .u16 (n2), .int .u16 (n3), .int .u16 (n4), .int .u16 (n5)]), (.agg #[.int .u16 (m0), .int .u16 (m1), .int .u16 (m2), .int .u16 (m3), .int .u16 (m4), .int .u16 (m5)])] w fun e w' => e = .returned (.tuple #[(.agg #[.int .u16 (v0), .int .u16 (v1), .int .u16 (v2), .int .u16 (v3), .int .u16 (v4), .int .u16 (v5)]), .bool b]) ∧ Below w.heap.size w w'))
    (K3 : (∀ (bt bo : Nat) (w : World), bt < w.heap.size → bo < w.heap.size → bt ≠ bo → w.cell? ⟨bt, 12, none⟩ = some (.int .u16 t12) → w.cell? ⟨bt, 13, none⟩ = some (.int .u16 t13) → w.cell? ⟨bo, 0, none⟩ = some (.bool false) → w.frozen? ⟨bo, 0, none⟩ = false → Calls Try.prog 30 #[(.agg #[.int .u16 (v0), .int .u16 (v1), .int .u16 (v2), .int .u16 (v3), .int .u16 (v4), .int .u16 (v5)]), .pointer (some ⟨bt, 0, none⟩), .pointer (some ⟨bo, 0, none⟩)] w fun e w' => e = .returned (.agg #[.int .u16 (u0), .int .u16 (u1), .int .u16 (u2), .int .u16 (u3), .int .u16 (u4), .int .u16 (u5)]) ∧ Below w.heap.size w w'))
    (C7 : (∀ w, Calls Try.prog 32 #[(.agg #[.int .u16 (p0), .int .u16 (p1), .int .u16 (p2), .int .u16 (p3), .int .u16 (p4), .int .u16 (p5)]), (.agg #[.int .u16 (u0), .int .u16 (u1), .int .u16 (u2), .int .u16 (u3), .int .u16 (u4), .int .u16 (u5)])] w fun e w' => e = .returned (.tuple #[(.agg #[.int .u16 (c0), .int .u16 (c1), .int .u16 (c2), .int .u16 (c3), .int .u16 (c4), .int .u16 (c5)]), .bool d]) ∧ Below w.heap.size w w')) (w : World) :
    Calls Try.prog 11 #[(.agg #[.int .u16 (s0), .int .u16 (s1), .int .u16 (s2), .int .u16 (s3), .int .u16 (s4), .int .u16 (s5), .int .u16 (s6), .int .u16 (s7), .int .u16 (s8), .int .u16 (s9), .int .u16 (s10), .int .u16 (s11)]), (.agg #[.int .u16 (t0), .int .u16 (t1), .int .u16 (t2), .int .u16 (t3), .int .u16 (t4), .int .u16 (t5), .int .u16 (t6), .int .u16 (t7), .int .u16 (t8), .int .u16 (t9), .int .u16 (t10), .int .u16 (t11), .int .u16 (t12), .int .u16 (t13)])] w fun e w' => e = .returned (.tuple #[(.agg #[.int .u16 (c0), .int .u16 (c1), .int .u16 (c2), .int .u16 (c3), .int .u16 (c4), .int .u16 (c5)]), .bool true, .int .i64 0]) ∧ Below w.heap.size w w' := by
  go_enter Try.func11, Try.ntmps11
  go_wp2_with fail
  refine (C1 _).mono ?_
  rintro _ r1 ⟨rfl, hbr1⟩
  obtain ⟨hcr1, hfr1⟩ := bcell hbr1
  have hzr1 := hbr1.size
  try simp only [World.size_alloc, World.size_setCell, World.size_drew] at hzr1
  have hlr1w0 : w.heap.size < r1.heap.size := by omega
  have hlr1w1 : w.heap.size + 1 < r1.heap.size := by omega
  have hlr1w2 : w.heap.size + 1 + 1 < r1.heap.size := by omega
  go_wp2_with fail
  refine (C2 _).mono ?_
  rintro _ r2 ⟨rfl, hbr2⟩
  obtain ⟨hcr2, hfr2⟩ := bcell hbr2
  have hzr2 := hbr2.size
  try simp only [World.size_alloc, World.size_setCell, World.size_drew] at hzr2
  have hlr2w0 : w.heap.size < r2.heap.size := by omega
  have hlr2w1 : w.heap.size + 1 < r2.heap.size := by omega
  have hlr2w2 : w.heap.size + 1 + 1 < r2.heap.size := by omega
  have hlr2r10 : r1.heap.size < r2.heap.size := by omega
  go_wp2_with fail
  refine (C3 _).mono ?_
  rintro _ r3 ⟨rfl, hbr3⟩
  obtain ⟨hcr3, hfr3⟩ := bcell hbr3
  have hzr3 := hbr3.size
  try simp only [World.size_alloc, World.size_setCell, World.size_drew] at hzr3
  have hlr3w0 : w.heap.size < r3.heap.size := by omega
  have hlr3w1 : w.heap.size + 1 < r3.heap.size := by omega
  have hlr3w2 : w.heap.size + 1 + 1 < r3.heap.size := by omega
  have hlr3r10 : r1.heap.size < r3.heap.size := by omega
  have hlr3r20 : r2.heap.size < r3.heap.size := by omega
  have o3 : r3.cell? ⟨r1.heap.size, 0, none⟩ = some (.bool false) := by go_simp
  have f3 : r3.frozen? ⟨r1.heap.size, 0, none⟩ = false := by go_simp
  have k3_0 : r3.cell? ⟨w.heap.size + 1, 12, none⟩ = some (.int .u16 t12) := by go_simp
  have k3_1 : r3.cell? ⟨w.heap.size + 1, 13, none⟩ = some (.int .u16 t13) := by go_simp
  go_wp2_with fail
  refine (K1 (w.heap.size + 1) r1.heap.size r3 (by omega) (by omega) (by omega) k3_0 k3_1 o3 f3).mono ?_
  rintro _ r4 ⟨rfl, hbr4⟩
  obtain ⟨hcr4, hfr4⟩ := bcell hbr4
  have hzr4 := hbr4.size
  try simp only [World.size_alloc, World.size_setCell, World.size_drew] at hzr4
  have hlr4w0 : w.heap.size < r4.heap.size := by omega
  have hlr4w1 : w.heap.size + 1 < r4.heap.size := by omega
  have hlr4w2 : w.heap.size + 1 + 1 < r4.heap.size := by omega
  have hlr4r10 : r1.heap.size < r4.heap.size := by omega
  have o4 : r4.cell? ⟨r1.heap.size, 0, none⟩ = some (.bool false) := (hcr4 _ _ (by (try simp only [World.size_alloc, World.size_setCell]); omega)).trans (World.cell?_setCell_same _ _ _ o3)
  have f4 : r4.frozen? ⟨r1.heap.size, 0, none⟩ = false := (hfr4 _ _ (by (try simp only [World.size_alloc, World.size_setCell]); omega)).trans (by simp [f3])
  have k4_0 : r4.cell? ⟨w.heap.size + 1, 12, none⟩ = some (.int .u16 t12) := (hcr4 _ _ (by (try simp only [World.size_alloc, World.size_setCell]); omega)).trans ((World.cell?_setCell_other _ _ _ _ (by simp)).trans k3_0)
  have k4_1 : r4.cell? ⟨w.heap.size + 1, 13, none⟩ = some (.int .u16 t13) := (hcr4 _ _ (by (try simp only [World.size_alloc, World.size_setCell]); omega)).trans ((World.cell?_setCell_other _ _ _ _ (by simp)).trans k3_1)
  go_wp2_with fail
  refine (K2 (w.heap.size + 1) r1.heap.size r4 (by omega) (by omega) (by omega) k4_0 k4_1 o4 f4).mono ?_
  rintro _ r5 ⟨rfl, hbr5⟩
  obtain ⟨hcr5, hfr5⟩ := bcell hbr5
  have hzr5 := hbr5.size
  try simp only [World.size_alloc, World.size_setCell, World.size_drew] at hzr5
  have hlr5w0 : w.heap.size < r5.heap.size := by omega
  have hlr5w1 : w.heap.size + 1 < r5.heap.size := by omega
  have hlr5w2 : w.heap.size + 1 + 1 < r5.heap.size := by omega
  have hlr5r10 : r1.heap.size < r5.heap.size := by omega
  have o5 : r5.cell? ⟨r1.heap.size, 0, none⟩ = some (.bool false) := (hcr5 _ _ (by (try simp only [World.size_alloc, World.size_setCell]); omega)).trans (World.cell?_setCell_same _ _ _ o4)
  have f5 : r5.frozen? ⟨r1.heap.size, 0, none⟩ = false := (hfr5 _ _ (by (try simp only [World.size_alloc, World.size_setCell]); omega)).trans (by simp [f4])
  have k5_0 : r5.cell? ⟨w.heap.size + 1, 12, none⟩ = some (.int .u16 t12) := (hcr5 _ _ (by (try simp only [World.size_alloc, World.size_setCell]); omega)).trans ((World.cell?_setCell_other _ _ _ _ (by simp)).trans k4_0)
  have k5_1 : r5.cell? ⟨w.heap.size + 1, 13, none⟩ = some (.int .u16 t13) := (hcr5 _ _ (by (try simp only [World.size_alloc, World.size_setCell]); omega)).trans ((World.cell?_setCell_other _ _ _ _ (by simp)).trans k4_1)
  go_wp2_with fail
  refine (C4 _).mono ?_
  rintro _ r6 ⟨rfl, hbr6⟩
  obtain ⟨hcr6, hfr6⟩ := bcell hbr6
  have hzr6 := hbr6.size
  try simp only [World.size_alloc, World.size_setCell, World.size_drew] at hzr6
  have hlr6w0 : w.heap.size < r6.heap.size := by omega
  have hlr6w1 : w.heap.size + 1 < r6.heap.size := by omega
  have hlr6w2 : w.heap.size + 1 + 1 < r6.heap.size := by omega
  have hlr6r10 : r1.heap.size < r6.heap.size := by omega
  have hlr6r50 : r5.heap.size < r6.heap.size := by omega
  go_wp2_with fail
  refine (C5 _).mono ?_
  rintro _ r7 ⟨rfl, hbr7⟩
  obtain ⟨hcr7, hfr7⟩ := bcell hbr7
  have hzr7 := hbr7.size
  try simp only [World.size_alloc, World.size_setCell, World.size_drew] at hzr7
  have hlr7w0 : w.heap.size < r7.heap.size := by omega
  have hlr7w1 : w.heap.size + 1 < r7.heap.size := by omega
  have hlr7w2 : w.heap.size + 1 + 1 < r7.heap.size := by omega
  have hlr7r10 : r1.heap.size < r7.heap.size := by omega
  have hlr7r50 : r5.heap.size < r7.heap.size := by omega
  have hlr7r60 : r6.heap.size < r7.heap.size := by omega
  go_wp2_with fail
  refine (C6 _).mono ?_
  rintro _ r8 ⟨rfl, hbr8⟩
  obtain ⟨hcr8, hfr8⟩ := bcell hbr8
  have hzr8 := hbr8.size
  try simp only [World.size_alloc, World.size_setCell, World.size_drew] at hzr8
  have hlr8w0 : w.heap.size < r8.heap.size := by omega
  have hlr8w1 : w.heap.size + 1 < r8.heap.size := by omega
  have hlr8w2 : w.heap.size + 1 + 1 < r8.heap.size := by omega
  have hlr8r10 : r1.heap.size < r8.heap.size := by omega
  have hlr8r50 : r5.heap.size < r8.heap.size := by omega
  have hlr8r60 : r6.heap.size < r8.heap.size := by omega
  have hlr8r70 : r7.heap.size < r8.heap.size := by omega
  go_wp2_with fail
  refine wp_gen (fun W => Below w.heap.size w W ∧ (w.heap.size + 3 ≤ r1.heap.size ∧ r1.heap.size < r5.heap.size ∧ r5.heap.size < r8.heap.size ∧ r8.heap.size < W.heap.size) ∧ (W.cell? ⟨r5.heap.size, 0, none⟩ = some (.int .u16 p0) ∧ W.cell? ⟨r5.heap.size, 1, none⟩ = some (.int .u16 p1) ∧ W.cell? ⟨r5.heap.size, 2, none⟩ = some (.int .u16 p2) ∧ W.cell? ⟨r5.heap.size, 3, none⟩ = some (.int .u16 p3) ∧ W.cell? ⟨r5.heap.size, 4, none⟩ = some (.int .u16 p4) ∧ W.cell? ⟨r5.heap.size, 5, none⟩ = some (.int .u16 p5)) ∧ (W.cell? ⟨r8.heap.size, 0, none⟩ = some (.int .u16 v0) ∧ W.cell? ⟨r8.heap.size, 1, none⟩ = some (.int .u16 v1) ∧ W.cell? ⟨r8.heap.size, 2, none⟩ = some (.int .u16 v2) ∧ W.cell? ⟨r8.heap.size, 3, none⟩ = some (.int .u16 v3) ∧ W.cell? ⟨r8.heap.size, 4, none⟩ = some (.int .u16 v4) ∧ W.cell? ⟨r8.heap.size, 5, none⟩ = some (.int .u16 v5)) ∧ (W.cell? ⟨w.heap.size + 1, 12, none⟩ = some (.int .u16 t12) ∧ W.cell? ⟨w.heap.size + 1, 13, none⟩ = some (.int .u16 t13)) ∧ (W.cell? ⟨r1.heap.size, 0, none⟩ = some (.bool false) ∧ W.frozen? ⟨r1.heap.size, 0, none⟩ = false) ∧ (W.cell? ⟨w.heap.size + 1 + 1, 0, none⟩ = some (.int .u16 0) ∧ W.cell? ⟨w.heap.size + 1 + 1, 1, none⟩ = some (.int .u16 0) ∧ W.cell? ⟨w.heap.size + 1 + 1, 2, none⟩ = some (.int .u16 0) ∧ W.cell? ⟨w.heap.size + 1 + 1, 3, none⟩ = some (.int .u16 0) ∧ W.cell? ⟨w.heap.size + 1 + 1, 4, none⟩ = some (.int .u16 0) ∧ W.cell? ⟨w.heap.size + 1 + 1, 5, none⟩ = some (.int .u16 0)) ∧ (W.frozen? ⟨w.heap.size + 1 + 1, 0, none⟩ = false ∧ W.frozen? ⟨w.heap.size + 1 + 1, 1, none⟩ = false ∧ W.frozen? ⟨w.heap.size + 1 + 1, 2, none⟩ = false ∧ W.frozen? ⟨w.heap.size + 1 + 1, 3, none⟩ = false ∧ W.frozen? ⟨w.heap.size + 1 + 1, 4, none⟩ = false ∧ W.frozen? ⟨w.heap.size + 1 + 1, 5, none⟩ = false)) ⟨(by repeat' (first | (with_reducible exact Below.refl _ _) | (with_reducible refine bl_set ?_ _ ?_) | (with_reducible refine bl_alloc ?_ _) | (with_reducible refine bl_drew ?_) | (with_reducible refine bl_via (by with_reducible assumption) ?_) | (with_reducible assumption) | omega | (simp only []; omega) | (simp; omega))), ⟨by omega, by omega, by omega, by (try simp only [World.size_alloc, World.size_setCell]); omega⟩, ⟨by go_simp, by go_simp, by go_simp, by go_simp, by go_simp, by go_simp⟩, ⟨by go_simp, by go_simp, by go_simp, by go_simp, by go_simp, by go_simp⟩, ⟨by go_simp, by go_simp⟩, ⟨by go_simp, by go_simp⟩, ⟨by go_simp, by go_simp, by go_simp, by go_simp, by go_simp, by go_simp⟩, ⟨by go_simp, by go_simp, by go_simp, by go_simp, by go_simp, by go_simp⟩⟩ ?_
  rintro W9 ⟨hW9, ⟨s0, s1, s2, s3⟩, ⟨hp0, hp1, hp2, hp3, hp4, hp5⟩, ⟨hv0, hv1, hv2, hv3, hv4, hv5⟩, ⟨hT0, hT1⟩, ⟨hO, hOf⟩, ⟨hr0, hr1, hr2, hr3, hr4, hr5⟩, ⟨hrf0, hrf1, hrf2, hrf3, hrf4, hrf5⟩⟩
  clear hbr1 hcr1 hfr1 hbr2 hcr2 hfr2 hbr3 hcr3 hfr3 hbr4 hcr4 hfr4 hbr5 hcr5 hfr5 hbr6 hcr6 hfr6 hbr7 hcr7 hfr7 hbr8 hcr8 hfr8 o3 f3 k3_0 k3_1 o4 f4 k4_0 k4_1 o5 f5 k5_0 k5_1 C1 C2 C3 C4 C5 C6 K1 K2
  have L0 : w.heap.size < W9.heap.size := by omega
  have L1 : w.heap.size + 1 < W9.heap.size := by omega
  have L2 : w.heap.size + 1 + 1 < W9.heap.size := by omega
  have L3 : r1.heap.size < W9.heap.size := by omega
  have L4 : r5.heap.size < W9.heap.size := by omega
  have L5 : r8.heap.size < W9.heap.size := by omega
  have hecr9 := @Ext.cell2
  refine wp_region_floatl 8 7 _ _ _ _ _ (.cells #[.int .u16 0, .int .u16 0, .int .u16 0, .int .u16 0, .int .u16 0, .int .u16 0] 27) (by kernel_rfl) rfl rfl (by kernel_rfl) (by kernel_rfl) rfl rfl rfl rfl (fun _ _ => by simp [go_sem]) (fun _ _ d _ _ h => by cases d <;> exact h) (by kernel_rfl) (by kernel_rfl) rfl ?_
  apply Exists.intro
  refine ⟨fun W' => ?_, ?_⟩
  · simp only [List.take_succ_cons, List.take_zero]
    repeat (first | go_big_quiet_skip | (go_big_quiet_want; go_big_quiet_op; first | go_big_quiet_on | (go_big_quiet_call ((first | fail | (go_at_call 30; exact ext_call (K3 (w.heap.size + 1) r1.heap.size _ (Nat.lt_of_lt_of_le (Nat.lt_of_lt_of_le L1 W'.h.size) (Ext.h _).size) (Nat.lt_of_lt_of_le (Nat.lt_of_lt_of_le L3 W'.h.size) (Ext.h _).size) (by omega) ((Ext.cell2 W' _ _ _ L1).trans hT0) ((Ext.cell2 W' _ _ _ L1).trans hT1) ((Ext.cell2 W' _ _ _ L3).trans hO) (((Ext.frozen _ _ _ (Nat.lt_of_lt_of_le L3 W'.h.size)).trans (Ext.frozen W' _ _ L3)).trans hOf))) | (go_at_call 32; with_reducible exact ext_call (C7 _)))))))
    exact wpQuiet_nil rfl
  clear hecr9
  simp only [List.drop_succ_cons, List.drop_zero, Act.put, List.setIfInBounds_toArray, List.set_cons_zero, List.set_cons_succ]
  intro B9 r9 hbr9 hBr9 hDr9 hEr9
  have hGr9_0 := block_cell hEr9 0
  have hGr9_1 := block_cell hEr9 1
  have hGr9_2 := block_cell hEr9 2
  have hGr9_3 := block_cell hEr9 3
  have hGr9_4 := block_cell hEr9 4
  have hGr9_5 := block_cell hEr9 5
  have hFr9 := block_free hEr9
  simp only [List.getElem?_toArray, List.getElem?_cons_zero, List.getElem?_cons_succ] at hGr9_0 hGr9_1 hGr9_2 hGr9_3 hGr9_4 hGr9_5
  clear hEr9
  try simp only [World.size_alloc, World.size_setCell, World.size_drew] at hBr9
  obtain ⟨hcr9, hfr9⟩ := bcell hbr9
  have hzr9 := hbr9.size
  try simp only [World.size_alloc, World.size_setCell, World.size_drew] at hzr9
  have hlr9w0 : w.heap.size < r9.heap.size := by omega
  have hlr9w1 : w.heap.size + 1 < r9.heap.size := by omega
  have hlr9w2 : w.heap.size + 1 + 1 < r9.heap.size := by omega
  have hlr9r10 : r1.heap.size < r9.heap.size := by omega
  have hlr9r50 : r5.heap.size < r9.heap.size := by omega
  have hlr9r80 : r8.heap.size < r9.heap.size := by omega
  go_wp2
  refine bodyPost_ret (v := (.tuple #[(.agg #[.int .u16 (c0), .int .u16 (c1), .int .u16 (c2), .int .u16 (c3), .int .u16 (c4), .int .u16 (c5)]), .bool true, .int .i64 0])) (by simp [results, Try.results11, go_sem, *]) rfl ⟨rfl, ?_⟩; exact (by repeat' (first | (with_reducible exact Below.refl _ _) | (with_reducible refine bl_set ?_ _ ?_) | (with_reducible refine bl_alloc ?_ _) | (with_reducible refine bl_drew ?_) | (with_reducible refine bl_via (by with_reducible assumption) ?_) | (with_reducible assumption) | omega | (simp only []; omega) | (simp; omega)))

set_option maxRecDepth 100000 in
set_option maxHeartbeats 8000000 in
theorem cmd_b (s0 s1 s2 s3 s4 s5 s6 s7 s8 s9 s10 s11 t0 t1 t2 t3 t4 t5 t6 t7 t8 t9 t10 t11 t12 t13 tt f0 f1 f2 f3 f4 f5 g0 g1 g2 g3 g4 g5 h0 h1 h2 h3 h4 h5 p0 p1 p2 p3 p4 p5 n0 n1 n2 n3 n4 n5 m0 m1 m2 m3 m4 m5 v0 v1 v2 v3 v4 v5 u0 u1 u2 u3 u4 u5 c0 c1 c2 c3 c4 c5 : Int) (z1 z2 d : Bool)
    (C1 : (∀ w, Calls Try.prog 29 #[(.agg #[.int .u16 (t12), .int .u16 (t13)])] w fun e w' => e = .returned (.int .i64 tt) ∧ Below w.heap.size w w'))
    (hT : decide (tt ≤ 0) = false)
    (C2 : (∀ w, Calls Try.prog 32 #[(.agg #[.int .u16 (t0), .int .u16 (t1), .int .u16 (t2), .int .u16 (t3), .int .u16 (t4), .int .u16 (t5)]), (.agg #[.int .u16 (s0), .int .u16 (s1), .int .u16 (s2), .int .u16 (s3), .int .u16 (s4), .int .u16 (s5)])] w fun e w' => e = .returned (.tuple #[(.agg #[.int .u16 (f0), .int .u16 (f1), .int .u16 (f2), .int .u16 (f3), .int .u16 (f4), .int .u16 (f5)]), .bool false]) ∧ Below w.heap.size w w'))
    (C3 : (∀ w, Calls Try.prog 33 #[(.agg #[.int .u16 (f0), .int .u16 (f1), .int .u16 (f2), .int .u16 (f3), .int .u16 (f4), .int .u16 (f5)]), (.agg #[.int .u16 (6144), .int .u16 (0)])] w fun e w' => e = .returned (.agg #[.int .u16 (g0), .int .u16 (g1), .int .u16 (g2), .int .u16 (g3), .int .u16 (g4), .int .u16 (g5)]) ∧ Below w.heap.size w w'))
    (K1 : (∀ (bt bo : Nat) (w : World), bt < w.heap.size → bo < w.heap.size → bt ≠ bo → w.cell? ⟨bt, 12, none⟩ = some (.int .u16 t12) → w.cell? ⟨bt, 13, none⟩ = some (.int .u16 t13) → w.cell? ⟨bo, 0, none⟩ = some (.bool false) → w.frozen? ⟨bo, 0, none⟩ = false → Calls Try.prog 30 #[(.agg #[.int .u16 (g0), .int .u16 (g1), .int .u16 (g2), .int .u16 (g3), .int .u16 (g4), .int .u16 (g5)]), .pointer (some ⟨bt, 0, none⟩), .pointer (some ⟨bo, 0, none⟩)] w fun e w' => e = .returned (.agg #[.int .u16 (h0), .int .u16 (h1), .int .u16 (h2), .int .u16 (h3), .int .u16 (h4), .int .u16 (h5)]) ∧ Below (w.setCell ⟨bo, 0, none⟩ (.bool false)).heap.size (w.setCell ⟨bo, 0, none⟩ (.bool false)) w'))
    (K2 : (∀ (bt bo : Nat) (w : World), bt < w.heap.size → bo < w.heap.size → bt ≠ bo → w.cell? ⟨bt, 12, none⟩ = some (.int .u16 t12) → w.cell? ⟨bt, 13, none⟩ = some (.int .u16 t13) → w.cell? ⟨bo, 0, none⟩ = some (.bool false) → w.frozen? ⟨bo, 0, none⟩ = false → Calls Try.prog 30 #[(.agg #[.int .u16 (h0), .int .u16 (h1), .int .u16 (h2), .int .u16 (h3), .int .u16 (h4), .int .u16 (h5)]), .pointer (some ⟨bt, 0, none⟩), .pointer (some ⟨bo, 0, none⟩)] w fun e w' => e = .returned (.agg #[.int .u16 (p0), .int .u16 (p1), .int .u16 (p2), .int .u16 (p3), .int .u16 (p4), .int .u16 (p5)]) ∧ Below (w.setCell ⟨bo, 0, none⟩ (.bool false)).heap.size (w.setCell ⟨bo, 0, none⟩ (.bool false)) w'))
    (C4 : (∀ w, Calls Try.prog 34 #[(.agg #[.int .u16 (s6), .int .u16 (s7), .int .u16 (s8), .int .u16 (s9), .int .u16 (s10), .int .u16 (s11)]), .int .i64 (-2)] w fun e w' => e = .returned (.tuple #[(.agg #[.int .u16 (n0), .int .u16 (n1), .int .u16 (n2), .int .u16 (n3), .int .u16 (n4), .int .u16 (n5)]), .bool z1]) ∧ Below w.heap.size w w'))
    (C5 : (∀ w, Calls Try.prog 34 #[(.agg #[.int .u16 (t6), .int .u16 (t7), .int .u16 (t8), .int .u16 (t9), .int .u16 (t10), .int .u16 (t11)]), .int .i64 (-3)] w fun e w' => e = .returned (.tuple #[(.agg #[.int .u16 (m0), .int .u16 (m1), .int .u16 (m2), .int .u16 (m3), .int .u16 (m4), .int .u16 (m5)]), .bool z2]) ∧ Below w.heap.size w w'))
    (C6 : (∀ w, Calls Try.prog 35 #[(.agg #[.int .u16 (n0), .int .u16 (n1), .int .u16 (n2), .int .u16 (n3), .int .u16 (n4), .int .u16 (n5)]), (.agg #[.int .u16 (m0), .int .u16 (m1), .int .u16 (m2), .int .u16 (m3), .int .u16 (m4), .int .u16 (m5)])] w fun e w' => e = .returned (.tuple #[(.agg #[.int .u16 (v0), .int .u16 (v1), .int .u16 (v2), .int .u16 (v3), .int .u16 (v4), .int .u16 (v5)]), .bool true]) ∧ Below w.heap.size w w'))
    (K3 : (∀ (bt bo : Nat) (w : World), bt < w.heap.size → bo < w.heap.size → bt ≠ bo → w.cell? ⟨bt, 12, none⟩ = some (.int .u16 t12) → w.cell? ⟨bt, 13, none⟩ = some (.int .u16 t13) → w.cell? ⟨bo, 0, none⟩ = some (.bool false) → w.frozen? ⟨bo, 0, none⟩ = false → Calls Try.prog 30 #[(.agg #[.int .u16 (v0), .int .u16 (v1), .int .u16 (v2), .int .u16 (v3), .int .u16 (v4), .int .u16 (v5)]), .pointer (some ⟨bt, 0, none⟩), .pointer (some ⟨bo, 0, none⟩)] w fun e w' => e = .returned (.agg #[.int .u16 (u0), .int .u16 (u1), .int .u16 (u2), .int .u16 (u3), .int .u16 (u4), .int .u16 (u5)]) ∧ Below w.heap.size w w'))
    (C7 : (∀ w, Calls Try.prog 32 #[(.agg #[.int .u16 (p0), .int .u16 (p1), .int .u16 (p2), .int .u16 (p3), .int .u16 (p4), .int .u16 (p5)]), (.agg #[.int .u16 (u0), .int .u16 (u1), .int .u16 (u2), .int .u16 (u3), .int .u16 (u4), .int .u16 (u5)])] w fun e w' => e = .returned (.tuple #[(.agg #[.int .u16 (c0), .int .u16 (c1), .int .u16 (c2), .int .u16 (c3), .int .u16 (c4), .int .u16 (c5)]), .bool d]) ∧ Below w.heap.size w w')) (w : World) :
    Calls Try.prog 11 #[(.agg #[.int .u16 (s0), .int .u16 (s1), .int .u16 (s2), .int .u16 (s3), .int .u16 (s4), .int .u16 (s5), .int .u16 (s6), .int .u16 (s7), .int .u16 (s8), .int .u16 (s9), .int .u16 (s10), .int .u16 (s11)]), (.agg #[.int .u16 (t0), .int .u16 (t1), .int .u16 (t2), .int .u16 (t3), .int .u16 (t4), .int .u16 (t5), .int .u16 (t6), .int .u16 (t7), .int .u16 (t8), .int .u16 (t9), .int .u16 (t10), .int .u16 (t11), .int .u16 (t12), .int .u16 (t13)])] w fun e w' => e = .returned (.tuple #[(.agg #[.int .u16 (c0), .int .u16 (c1), .int .u16 (c2), .int .u16 (c3), .int .u16 (c4), .int .u16 (c5)]), .bool true, .int .i64 0]) ∧ Below w.heap.size w w' := by
  go_enter Try.func11, Try.ntmps11
  go_wp2_with fail
  refine (C1 _).mono ?_
  rintro _ r1 ⟨rfl, hbr1⟩
  obtain ⟨hcr1, hfr1⟩ := bcell hbr1
  have hzr1 := hbr1.size
  try simp only [World.size_alloc, World.size_setCell, World.size_drew] at hzr1
  have hlr1w0 : w.heap.size < r1.heap.size := by omega
  have hlr1w1 : w.heap.size + 1 < r1.heap.size := by omega
  have hlr1w2 : w.heap.size + 1 + 1 < r1.heap.size := by omega
  go_wp2_with fail
  refine (C2 _).mono ?_
  rintro _ r2 ⟨rfl, hbr2⟩
  obtain ⟨hcr2, hfr2⟩ := bcell hbr2
  have hzr2 := hbr2.size
  try simp only [World.size_alloc, World.size_setCell, World.size_drew] at hzr2
  have hlr2w0 : w.heap.size < r2.heap.size := by omega
  have hlr2w1 : w.heap.size + 1 < r2.heap.size := by omega
  have hlr2w2 : w.heap.size + 1 + 1 < r2.heap.size := by omega
  have hlr2r10 : r1.heap.size < r2.heap.size := by omega
  go_wp2_with fail
  refine (C3 _).mono ?_
  rintro _ r3 ⟨rfl, hbr3⟩
  obtain ⟨hcr3, hfr3⟩ := bcell hbr3
  have hzr3 := hbr3.size
  try simp only [World.size_alloc, World.size_setCell, World.size_drew] at hzr3
  have hlr3w0 : w.heap.size < r3.heap.size := by omega
  have hlr3w1 : w.heap.size + 1 < r3.heap.size := by omega
  have hlr3w2 : w.heap.size + 1 + 1 < r3.heap.size := by omega
  have hlr3r10 : r1.heap.size < r3.heap.size := by omega
  have hlr3r20 : r2.heap.size < r3.heap.size := by omega
  have o3 : r3.cell? ⟨r1.heap.size, 0, none⟩ = some (.bool false) := by go_simp
  have f3 : r3.frozen? ⟨r1.heap.size, 0, none⟩ = false := by go_simp
  have k3_0 : r3.cell? ⟨w.heap.size + 1, 12, none⟩ = some (.int .u16 t12) := by go_simp
  have k3_1 : r3.cell? ⟨w.heap.size + 1, 13, none⟩ = some (.int .u16 t13) := by go_simp
  go_wp2_with fail
  refine (K1 (w.heap.size + 1) r1.heap.size r3 (by omega) (by omega) (by omega) k3_0 k3_1 o3 f3).mono ?_
  rintro _ r4 ⟨rfl, hbr4⟩
  obtain ⟨hcr4, hfr4⟩ := bcell hbr4
  have hzr4 := hbr4.size
  try simp only [World.size_alloc, World.size_setCell, World.size_drew] at hzr4
  have hlr4w0 : w.heap.size < r4.heap.size := by omega
  have hlr4w1 : w.heap.size + 1 < r4.heap.size := by omega
  have hlr4w2 : w.heap.size + 1 + 1 < r4.heap.size := by omega
  have hlr4r10 : r1.heap.size < r4.heap.size := by omega
  have o4 : r4.cell? ⟨r1.heap.size, 0, none⟩ = some (.bool false) := (hcr4 _ _ (by (try simp only [World.size_alloc, World.size_setCell]); omega)).trans (World.cell?_setCell_same _ _ _ o3)
  have f4 : r4.frozen? ⟨r1.heap.size, 0, none⟩ = false := (hfr4 _ _ (by (try simp only [World.size_alloc, World.size_setCell]); omega)).trans (by simp [f3])
  have k4_0 : r4.cell? ⟨w.heap.size + 1, 12, none⟩ = some (.int .u16 t12) := (hcr4 _ _ (by (try simp only [World.size_alloc, World.size_setCell]); omega)).trans ((World.cell?_setCell_other _ _ _ _ (by simp)).trans k3_0)
  have k4_1 : r4.cell? ⟨w.heap.size + 1, 13, none⟩ = some (.int .u16 t13) := (hcr4 _ _ (by (try simp only [World.size_alloc, World.size_setCell]); omega)).trans ((World.cell?_setCell_other _ _ _ _ (by simp)).trans k3_1)
  go_wp2_with fail
  refine (K2 (w.heap.size + 1) r1.heap.size r4 (by omega) (by omega) (by omega) k4_0 k4_1 o4 f4).mono ?_
  rintro _ r5 ⟨rfl, hbr5⟩
  obtain ⟨hcr5, hfr5⟩ := bcell hbr5
  have hzr5 := hbr5.size
  try simp only [World.size_alloc, World.size_setCell, World.size_drew] at hzr5
  have hlr5w0 : w.heap.size < r5.heap.size := by omega
  have hlr5w1 : w.heap.size + 1 < r5.heap.size := by omega
  have hlr5w2 : w.heap.size + 1 + 1 < r5.heap.size := by omega
  have hlr5r10 : r1.heap.size < r5.heap.size := by omega
  have o5 : r5.cell? ⟨r1.heap.size, 0, none⟩ = some (.bool false) := (hcr5 _ _ (by (try simp only [World.size_alloc, World.size_setCell]); omega)).trans (World.cell?_setCell_same _ _ _ o4)
  have f5 : r5.frozen? ⟨r1.heap.size, 0, none⟩ = false := (hfr5 _ _ (by (try simp only [World.size_alloc, World.size_setCell]); omega)).trans (by simp [f4])
  have k5_0 : r5.cell? ⟨w.heap.size + 1, 12, none⟩ = some (.int .u16 t12) := (hcr5 _ _ (by (try simp only [World.size_alloc, World.size_setCell]); omega)).trans ((World.cell?_setCell_other _ _ _ _ (by simp)).trans k4_0)
  have k5_1 : r5.cell? ⟨w.heap.size + 1, 13, none⟩ = some (.int .u16 t13) := (hcr5 _ _ (by (try simp only [World.size_alloc, World.size_setCell]); omega)).trans ((World.cell?_setCell_other _ _ _ _ (by simp)).trans k4_1)
  go_wp2_with fail
  refine (C4 _).mono ?_
  rintro _ r6 ⟨rfl, hbr6⟩
  obtain ⟨hcr6, hfr6⟩ := bcell hbr6
  have hzr6 := hbr6.size
  try simp only [World.size_alloc, World.size_setCell, World.size_drew] at hzr6
  have hlr6w0 : w.heap.size < r6.heap.size := by omega
  have hlr6w1 : w.heap.size + 1 < r6.heap.size := by omega
  have hlr6w2 : w.heap.size + 1 + 1 < r6.heap.size := by omega
  have hlr6r10 : r1.heap.size < r6.heap.size := by omega
  have hlr6r50 : r5.heap.size < r6.heap.size := by omega
  go_wp2_with fail
  refine (C5 _).mono ?_
  rintro _ r7 ⟨rfl, hbr7⟩
  obtain ⟨hcr7, hfr7⟩ := bcell hbr7
  have hzr7 := hbr7.size
  try simp only [World.size_alloc, World.size_setCell, World.size_drew] at hzr7
  have hlr7w0 : w.heap.size < r7.heap.size := by omega
  have hlr7w1 : w.heap.size + 1 < r7.heap.size := by omega
  have hlr7w2 : w.heap.size + 1 + 1 < r7.heap.size := by omega
  have hlr7r10 : r1.heap.size < r7.heap.size := by omega
  have hlr7r50 : r5.heap.size < r7.heap.size := by omega
  have hlr7r60 : r6.heap.size < r7.heap.size := by omega
  go_wp2_with fail
  refine (C6 _).mono ?_
  rintro _ r8 ⟨rfl, hbr8⟩
  obtain ⟨hcr8, hfr8⟩ := bcell hbr8
  have hzr8 := hbr8.size
  try simp only [World.size_alloc, World.size_setCell, World.size_drew] at hzr8
  have hlr8w0 : w.heap.size < r8.heap.size := by omega
  have hlr8w1 : w.heap.size + 1 < r8.heap.size := by omega
  have hlr8w2 : w.heap.size + 1 + 1 < r8.heap.size := by omega
  have hlr8r10 : r1.heap.size < r8.heap.size := by omega
  have hlr8r50 : r5.heap.size < r8.heap.size := by omega
  have hlr8r60 : r6.heap.size < r8.heap.size := by omega
  have hlr8r70 : r7.heap.size < r8.heap.size := by omega
  go_wp2_with fail
  refine wp_gen (fun W => Below w.heap.size w W ∧ (w.heap.size + 3 ≤ r1.heap.size ∧ r1.heap.size < r5.heap.size ∧ r5.heap.size < r8.heap.size ∧ r8.heap.size < W.heap.size) ∧ (W.cell? ⟨r5.heap.size, 0, none⟩ = some (.int .u16 p0) ∧ W.cell? ⟨r5.heap.size, 1, none⟩ = some (.int .u16 p1) ∧ W.cell? ⟨r5.heap.size, 2, none⟩ = some (.int .u16 p2) ∧ W.cell? ⟨r5.heap.size, 3, none⟩ = some (.int .u16 p3) ∧ W.cell? ⟨r5.heap.size, 4, none⟩ = some (.int .u16 p4) ∧ W.cell? ⟨r5.heap.size, 5, none⟩ = some (.int .u16 p5)) ∧ (W.cell? ⟨r8.heap.size, 0, none⟩ = some (.int .u16 v0) ∧ W.cell? ⟨r8.heap.size, 1, none⟩ = some (.int .u16 v1) ∧ W.cell? ⟨r8.heap.size, 2, none⟩ = some (.int .u16 v2) ∧ W.cell? ⟨r8.heap.size, 3, none⟩ = some (.int .u16 v3) ∧ W.cell? ⟨r8.heap.size, 4, none⟩ = some (.int .u16 v4) ∧ W.cell? ⟨r8.heap.size, 5, none⟩ = some (.int .u16 v5)) ∧ (W.cell? ⟨w.heap.size + 1, 12, none⟩ = some (.int .u16 t12) ∧ W.cell? ⟨w.heap.size + 1, 13, none⟩ = some (.int .u16 t13)) ∧ (W.cell? ⟨r1.heap.size, 0, none⟩ = some (.bool false) ∧ W.frozen? ⟨r1.heap.size, 0, none⟩ = false) ∧ (W.cell? ⟨w.heap.size + 1 + 1, 0, none⟩ = some (.int .u16 0) ∧ W.cell? ⟨w.heap.size + 1 + 1, 1, none⟩ = some (.int .u16 0) ∧ W.cell? ⟨w.heap.size + 1 + 1, 2, none⟩ = some (.int .u16 0) ∧ W.cell? ⟨w.heap.size + 1 + 1, 3, none⟩ = some (.int .u16 0) ∧ W.cell? ⟨w.heap.size + 1 + 1, 4, none⟩ = some (.int .u16 0) ∧ W.cell? ⟨w.heap.size + 1 + 1, 5, none⟩ = some (.int .u16 0)) ∧ (W.frozen? ⟨w.heap.size + 1 + 1, 0, none⟩ = false ∧ W.frozen? ⟨w.heap.size + 1 + 1, 1, none⟩ = false ∧ W.frozen? ⟨w.heap.size + 1 + 1, 2, none⟩ = false ∧ W.frozen? ⟨w.heap.size + 1 + 1, 3, none⟩ = false ∧ W.frozen? ⟨w.heap.size + 1 + 1, 4, none⟩ = false ∧ W.frozen? ⟨w.heap.size + 1 + 1, 5, none⟩ = false)) ⟨(by repeat' (first | (with_reducible exact Below.refl _ _) | (with_reducible refine bl_set ?_ _ ?_) | (with_reducible refine bl_alloc ?_ _) | (with_reducible refine bl_drew ?_) | (with_reducible refine bl_via (by with_reducible assumption) ?_) | (with_reducible assumption) | omega | (simp only []; omega) | (simp; omega))), ⟨by omega, by omega, by omega, by (try simp only [World.size_alloc, World.size_setCell]); omega⟩, ⟨by go_simp, by go_simp, by go_simp, by go_simp, by go_simp, by go_simp⟩, ⟨by go_simp, by go_simp, by go_simp, by go_simp, by go_simp, by go_simp⟩, ⟨by go_simp, by go_simp⟩, ⟨by go_simp, by go_simp⟩, ⟨by go_simp, by go_simp, by go_simp, by go_simp, by go_simp, by go_simp⟩, ⟨by go_simp, by go_simp, by go_simp, by go_simp, by go_simp, by go_simp⟩⟩ ?_
  rintro W9 ⟨hW9, ⟨s0, s1, s2, s3⟩, ⟨hp0, hp1, hp2, hp3, hp4, hp5⟩, ⟨hv0, hv1, hv2, hv3, hv4, hv5⟩, ⟨hT0, hT1⟩, ⟨hO, hOf⟩, ⟨hr0, hr1, hr2, hr3, hr4, hr5⟩, ⟨hrf0, hrf1, hrf2, hrf3, hrf4, hrf5⟩⟩
  clear hbr1 hcr1 hfr1 hbr2 hcr2 hfr2 hbr3 hcr3 hfr3 hbr4 hcr4 hfr4 hbr5 hcr5 hfr5 hbr6 hcr6 hfr6 hbr7 hcr7 hfr7 hbr8 hcr8 hfr8 o3 f3 k3_0 k3_1 o4 f4 k4_0 k4_1 o5 f5 k5_0 k5_1 C1 C2 C3 C4 C5 C6 K1 K2
  have L0 : w.heap.size < W9.heap.size := by omega
  have L1 : w.heap.size + 1 < W9.heap.size := by omega
  have L2 : w.heap.size + 1 + 1 < W9.heap.size := by omega
  have L3 : r1.heap.size < W9.heap.size := by omega
  have L4 : r5.heap.size < W9.heap.size := by omega
  have L5 : r8.heap.size < W9.heap.size := by omega
  have hecr9 := @Ext.cell2
  refine wp_region_floatl 8 7 _ _ _ _ _ (.cells #[.int .u16 0, .int .u16 0, .int .u16 0, .int .u16 0, .int .u16 0, .int .u16 0] 27) (by kernel_rfl) rfl rfl (by kernel_rfl) (by kernel_rfl) rfl rfl rfl rfl (fun _ _ => by simp [go_sem]) (fun _ _ d _ _ h => by cases d <;> exact h) (by kernel_rfl) (by kernel_rfl) rfl ?_
  apply Exists.intro
  refine ⟨fun W' => ?_, ?_⟩
  · simp only [List.take_succ_cons, List.take_zero]
    repeat (first | go_big_quiet_skip | (go_big_quiet_want; go_big_quiet_op; first | go_big_quiet_on | (go_big_quiet_call ((first | fail | (go_at_call 30; exact ext_call (K3 (w.heap.size + 1) r1.heap.size _ (Nat.lt_of_lt_of_le (Nat.lt_of_lt_of_le L1 W'.h.size) (Ext.h _).size) (Nat.lt_of_lt_of_le (Nat.lt_of_lt_of_le L3 W'.h.size) (Ext.h _).size) (by omega) ((Ext.cell2 W' _ _ _ L1).trans hT0) ((Ext.cell2 W' _ _ _ L1).trans hT1) ((Ext.cell2 W' _ _ _ L3).trans hO) (((Ext.frozen _ _ _ (Nat.lt_of_lt_of_le L3 W'.h.size)).trans (Ext.frozen W' _ _ L3)).trans hOf))) | (go_at_call 32; with_reducible exact ext_call (C7 _)))))))
    exact wpQuiet_nil rfl
  clear hecr9
  simp only [List.drop_succ_cons, List.drop_zero, Act.put, List.setIfInBounds_toArray, List.set_cons_zero, List.set_cons_succ]
  intro B9 r9 hbr9 hBr9 hDr9 hEr9
  have hGr9_0 := block_cell hEr9 0
  have hGr9_1 := block_cell hEr9 1
  have hGr9_2 := block_cell hEr9 2
  have hGr9_3 := block_cell hEr9 3
  have hGr9_4 := block_cell hEr9 4
  have hGr9_5 := block_cell hEr9 5
  have hFr9 := block_free hEr9
  simp only [List.getElem?_toArray, List.getElem?_cons_zero, List.getElem?_cons_succ] at hGr9_0 hGr9_1 hGr9_2 hGr9_3 hGr9_4 hGr9_5
  clear hEr9
  try simp only [World.size_alloc, World.size_setCell, World.size_drew] at hBr9
  obtain ⟨hcr9, hfr9⟩ := bcell hbr9
  have hzr9 := hbr9.size
  try simp only [World.size_alloc, World.size_setCell, World.size_drew] at hzr9
  have hlr9w0 : w.heap.size < r9.heap.size := by omega
  have hlr9w1 : w.heap.size + 1 < r9.heap.size := by omega
  have hlr9w2 : w.heap.size + 1 + 1 < r9.heap.size := by omega
  have hlr9r10 : r1.heap.size < r9.heap.size := by omega
  have hlr9r50 : r5.heap.size < r9.heap.size := by omega
  have hlr9r80 : r8.heap.size < r9.heap.size := by omega
  go_wp2
  refine bodyPost_ret (v := (.tuple #[(.agg #[.int .u16 (c0), .int .u16 (c1), .int .u16 (c2), .int .u16 (c3), .int .u16 (c4), .int .u16 (c5)]), .bool true, .int .i64 0])) (by simp [results, Try.results11, go_sem, *]) rfl ⟨rfl, ?_⟩; exact (by repeat' (first | (with_reducible exact Below.refl _ _) | (with_reducible refine bl_set ?_ _ ?_) | (with_reducible refine bl_alloc ?_ _) | (with_reducible refine bl_drew ?_) | (with_reducible refine bl_via (by with_reducible assumption) ?_) | (with_reducible assumption) | omega | (simp only []; omega) | (simp; omega)))

set_option maxRecDepth 100000 in
set_option maxHeartbeats 8000000 in
theorem cmd_d (s0 s1 s2 s3 s4 s5 s6 s7 s8 s9 s10 s11 t0 t1 t2 t3 t4 t5 t6 t7 t8 t9 t10 t11 t12 t13 tt f0 f1 f2 f3 f4 f5 g0 g1 g2 g3 g4 g5 h0 h1 h2 h3 h4 h5 p0 p1 p2 p3 p4 p5 n0 n1 n2 n3 n4 n5 m0 m1 m2 m3 m4 m5 v0 v1 v2 v3 v4 v5 u0 u1 u2 u3 u4 u5 c0 c1 c2 c3 c4 c5 : Int) (z1 z2 d : Bool)
    (C1 : (∀ w, Calls Try.prog 29 #[(.agg #[.int .u16 (t12), .int .u16 (t13)])] w fun e w' => e = .returned (.int .i64 tt) ∧ Below w.heap.size w w'))
    (hT : decide (tt ≤ 0) = false)
    (C2 : (∀ w, Calls Try.prog 32 #[(.agg #[.int .u16 (t0), .int .u16 (t1), .int .u16 (t2), .int .u16 (t3), .int .u16 (t4), .int .u16 (t5)]), (.agg #[.int .u16 (s0), .int .u16 (s1), .int .u16 (s2), .int .u16 (s3), .int .u16 (s4), .int .u16 (s5)])] w fun e w' => e = .returned (.tuple #[(.agg #[.int .u16 (f0), .int .u16 (f1), .int .u16 (f2), .int .u16 (f3), .int .u16 (f4), .int .u16 (f5)]), .bool false]) ∧ Below w.heap.size w w'))
    (C3 : (∀ w, Calls Try.prog 33 #[(.agg #[.int .u16 (f0), .int .u16 (f1), .int .u16 (f2), .int .u16 (f3), .int .u16 (f4), .int .u16 (f5)]), (.agg #[.int .u16 (6144), .int .u16 (0)])] w fun e w' => e = .returned (.agg #[.int .u16 (g0), .int .u16 (g1), .int .u16 (g2), .int .u16 (g3), .int .u16 (g4), .int .u16 (g5)]) ∧ Below w.heap.size w w'))
    (K1 : (∀ (bt bo : Nat) (w : World), bt < w.heap.size → bo < w.heap.size → bt ≠ bo → w.cell? ⟨bt, 12, none⟩ = some (.int .u16 t12) → w.cell? ⟨bt, 13, none⟩ = some (.int .u16 t13) → w.cell? ⟨bo, 0, none⟩ = some (.bool false) → w.frozen? ⟨bo, 0, none⟩ = false → Calls Try.prog 30 #[(.agg #[.int .u16 (g0), .int .u16 (g1), .int .u16 (g2), .int .u16 (g3), .int .u16 (g4), .int .u16 (g5)]), .pointer (some ⟨bt, 0, none⟩), .pointer (some ⟨bo, 0, none⟩)] w fun e w' => e = .returned (.agg #[.int .u16 (h0), .int .u16 (h1), .int .u16 (h2), .int .u16 (h3), .int .u16 (h4), .int .u16 (h5)]) ∧ Below (w.setCell ⟨bo, 0, none⟩ (.bool false)).heap.size (w.setCell ⟨bo, 0, none⟩ (.bool false)) w'))
    (K2 : (∀ (bt bo : Nat) (w : World), bt < w.heap.size → bo < w.heap.size → bt ≠ bo → w.cell? ⟨bt, 12, none⟩ = some (.int .u16 t12) → w.cell? ⟨bt, 13, none⟩ = some (.int .u16 t13) → w.cell? ⟨bo, 0, none⟩ = some (.bool false) → w.frozen? ⟨bo, 0, none⟩ = false → Calls Try.prog 30 #[(.agg #[.int .u16 (h0), .int .u16 (h1), .int .u16 (h2), .int .u16 (h3), .int .u16 (h4), .int .u16 (h5)]), .pointer (some ⟨bt, 0, none⟩), .pointer (some ⟨bo, 0, none⟩)] w fun e w' => e = .returned (.agg #[.int .u16 (p0), .int .u16 (p1), .int .u16 (p2), .int .u16 (p3), .int .u16 (p4), .int .u16 (p5)]) ∧ Below (w.setCell ⟨bo, 0, none⟩ (.bool false)).heap.size (w.setCell ⟨bo, 0, none⟩ (.bool false)) w'))
    (C4 : (∀ w, Calls Try.prog 34 #[(.agg #[.int .u16 (s6), .int .u16 (s7), .int .u16 (s8), .int .u16 (s9), .int .u16 (s10), .int .u16 (s11)]), .int .i64 (-2)] w fun e w' => e = .returned (.tuple #[(.agg #[.int .u16 (n0), .int .u16 (n1), .int .u16 (n2), .int .u16 (n3), .int .u16 (n4), .int .u16 (n5)]), .bool z1]) ∧ Below w.heap.size w w'))
    (C5 : (∀ w, Calls Try.prog 34 #[(.agg #[.int .u16 (t6), .int .u16 (t7), .int .u16 (t8), .int .u16 (t9), .int .u16 (t10), .int .u16 (t11)]), .int .i64 (-3)] w fun e w' => e = .returned (.tuple #[(.agg #[.int .u16 (m0), .int .u16 (m1), .int .u16 (m2), .int .u16 (m3), .int .u16 (m4), .int .u16 (m5)]), .bool z2]) ∧ Below w.heap.size w w'))
    (C6 : (∀ w, Calls Try.prog 35 #[(.agg #[.int .u16 (n0), .int .u16 (n1), .int .u16 (n2), .int .u16 (n3), .int .u16 (n4), .int .u16 (n5)]), (.agg #[.int .u16 (m0), .int .u16 (m1), .int .u16 (m2), .int .u16 (m3), .int .u16 (m4), .int .u16 (m5)])] w fun e w' => e = .returned (.tuple #[(.agg #[.int .u16 (v0), .int .u16 (v1), .int .u16 (v2), .int .u16 (v3), .int .u16 (v4), .int .u16 (v5)]), .bool false]) ∧ Below w.heap.size w w'))
    (K3 : (∀ (bt bo : Nat) (w : World), bt < w.heap.size → bo < w.heap.size → bt ≠ bo → w.cell? ⟨bt, 12, none⟩ = some (.int .u16 t12) → w.cell? ⟨bt, 13, none⟩ = some (.int .u16 t13) → w.cell? ⟨bo, 0, none⟩ = some (.bool false) → w.frozen? ⟨bo, 0, none⟩ = false → Calls Try.prog 30 #[(.agg #[.int .u16 (v0), .int .u16 (v1), .int .u16 (v2), .int .u16 (v3), .int .u16 (v4), .int .u16 (v5)]), .pointer (some ⟨bt, 0, none⟩), .pointer (some ⟨bo, 0, none⟩)] w fun e w' => e = .returned (.agg #[.int .u16 (u0), .int .u16 (u1), .int .u16 (u2), .int .u16 (u3), .int .u16 (u4), .int .u16 (u5)]) ∧ Below w.heap.size w w'))
    (C7 : (∀ w, Calls Try.prog 32 #[(.agg #[.int .u16 (p0), .int .u16 (p1), .int .u16 (p2), .int .u16 (p3), .int .u16 (p4), .int .u16 (p5)]), (.agg #[.int .u16 (u0), .int .u16 (u1), .int .u16 (u2), .int .u16 (u3), .int .u16 (u4), .int .u16 (u5)])] w fun e w' => e = .returned (.tuple #[(.agg #[.int .u16 (c0), .int .u16 (c1), .int .u16 (c2), .int .u16 (c3), .int .u16 (c4), .int .u16 (c5)]), .bool d]) ∧ Below w.heap.size w w')) (w : World) :
    Calls Try.prog 11 #[(.agg #[.int .u16 (s0), .int .u16 (s1), .int .u16 (s2), .int .u16 (s3), .int .u16 (s4), .int .u16 (s5), .int .u16 (s6), .int .u16 (s7), .int .u16 (s8), .int .u16 (s9), .int .u16 (s10), .int .u16 (s11)]), (.agg #[.int .u16 (t0), .int .u16 (t1), .int .u16 (t2), .int .u16 (t3), .int .u16 (t4), .int .u16 (t5), .int .u16 (t6), .int .u16 (t7), .int .u16 (t8), .int .u16 (t9), .int .u16 (t10), .int .u16 (t11), .int .u16 (t12), .int .u16 (t13)])] w fun e w' => e = .returned (.tuple #[(.agg #[.int .u16 (c0), .int .u16 (c1), .int .u16 (c2), .int .u16 (c3), .int .u16 (c4), .int .u16 (c5)]), .bool d, .int .i64 0]) ∧ Below w.heap.size w w' := by
  go_enter Try.func11, Try.ntmps11
  go_wp2_with fail
  refine (C1 _).mono ?_
  rintro _ r1 ⟨rfl, hbr1⟩
  obtain ⟨hcr1, hfr1⟩ := bcell hbr1
  have hzr1 := hbr1.size
  try simp only [World.size_alloc, World.size_setCell, World.size_drew] at hzr1
  have hlr1w0 : w.heap.size < r1.heap.size := by omega
  have hlr1w1 : w.heap.size + 1 < r1.heap.size := by omega
  have hlr1w2 : w.heap.size + 1 + 1 < r1.heap.size := by omega
  go_wp2_with fail
  refine (C2 _).mono ?_
  rintro _ r2 ⟨rfl, hbr2⟩
  obtain ⟨hcr2, hfr2⟩ := bcell hbr2
  have hzr2 := hbr2.size
  try simp only [World.size_alloc, World.size_setCell, World.size_drew] at hzr2
  have hlr2w0 : w.heap.size < r2.heap.size := by omega
  have hlr2w1 : w.heap.size + 1 < r2.heap.size := by omega
  have hlr2w2 : w.heap.size + 1 + 1 < r2.heap.size := by omega
  have hlr2r10 : r1.heap.size < r2.heap.size := by omega
  go_wp2_with fail
  refine (C3 _).mono ?_
  rintro _ r3 ⟨rfl, hbr3⟩
  obtain ⟨hcr3, hfr3⟩ := bcell hbr3
  have hzr3 := hbr3.size
  try simp only [World.size_alloc, World.size_setCell, World.size_drew] at hzr3
  have hlr3w0 : w.heap.size < r3.heap.size := by omega
  have hlr3w1 : w.heap.size + 1 < r3.heap.size := by omega
  have hlr3w2 : w.heap.size + 1 + 1 < r3.heap.size := by omega
  have hlr3r10 : r1.heap.size < r3.heap.size := by omega
  have hlr3r20 : r2.heap.size < r3.heap.size := by omega
  have o3 : r3.cell? ⟨r1.heap.size, 0, none⟩ = some (.bool false) := by go_simp
  have f3 : r3.frozen? ⟨r1.heap.size, 0, none⟩ = false := by go_simp
  have k3_0 : r3.cell? ⟨w.heap.size + 1, 12, none⟩ = some (.int .u16 t12) := by go_simp
  have k3_1 : r3.cell? ⟨w.heap.size + 1, 13, none⟩ = some (.int .u16 t13) := by go_simp
  go_wp2_with fail
  refine (K1 (w.heap.size + 1) r1.heap.size r3 (by omega) (by omega) (by omega) k3_0 k3_1 o3 f3).mono ?_
  rintro _ r4 ⟨rfl, hbr4⟩
  obtain ⟨hcr4, hfr4⟩ := bcell hbr4
  have hzr4 := hbr4.size
  try simp only [World.size_alloc, World.size_setCell, World.size_drew] at hzr4
  have hlr4w0 : w.heap.size < r4.heap.size := by omega
  have hlr4w1 : w.heap.size + 1 < r4.heap.size := by omega
  have hlr4w2 : w.heap.size + 1 + 1 < r4.heap.size := by omega
  have hlr4r10 : r1.heap.size < r4.heap.size := by omega
  have o4 : r4.cell? ⟨r1.heap.size, 0, none⟩ = some (.bool false) := (hcr4 _ _ (by (try simp only [World.size_alloc, World.size_setCell]); omega)).trans (World.cell?_setCell_same _ _ _ o3)
  have f4 : r4.frozen? ⟨r1.heap.size, 0, none⟩ = false := (hfr4 _ _ (by (try simp only [World.size_alloc, World.size_setCell]); omega)).trans (by simp [f3])
  have k4_0 : r4.cell? ⟨w.heap.size + 1, 12, none⟩ = some (.int .u16 t12) := (hcr4 _ _ (by (try simp only [World.size_alloc, World.size_setCell]); omega)).trans ((World.cell?_setCell_other _ _ _ _ (by simp)).trans k3_0)
  have k4_1 : r4.cell? ⟨w.heap.size + 1, 13, none⟩ = some (.int .u16 t13) := (hcr4 _ _ (by (try simp only [World.size_alloc, World.size_setCell]); omega)).trans ((World.cell?_setCell_other _ _ _ _ (by simp)).trans k3_1)
  go_wp2_with fail
  refine (K2 (w.heap.size + 1) r1.heap.size r4 (by omega) (by omega) (by omega) k4_0 k4_1 o4 f4).mono ?_
  rintro _ r5 ⟨rfl, hbr5⟩
  obtain ⟨hcr5, hfr5⟩ := bcell hbr5
  have hzr5 := hbr5.size
  try simp only [World.size_alloc, World.size_setCell, World.size_drew] at hzr5
  have hlr5w0 : w.heap.size < r5.heap.size := by omega
  have hlr5w1 : w.heap.size + 1 < r5.heap.size := by omega
  have hlr5w2 : w.heap.size + 1 + 1 < r5.heap.size := by omega
  have hlr5r10 : r1.heap.size < r5.heap.size := by omega
  have o5 : r5.cell? ⟨r1.heap.size, 0, none⟩ = some (.bool false) := (hcr5 _ _ (by (try simp only [World.size_alloc, World.size_setCell]); omega)).trans (World.cell?_setCell_same _ _ _ o4)
  have f5 : r5.frozen? ⟨r1.heap.size, 0, none⟩ = false := (hfr5 _ _ (by (try simp only [World.size_alloc, World.size_setCell]); omega)).trans (by simp [f4])
  have k5_0 : r5.cell? ⟨w.heap.size + 1, 12, none⟩ = some (.int .u16 t12) := (hcr5 _ _ (by (try simp only [World.size_alloc, World.size_setCell]); omega)).trans ((World.cell?_setCell_other _ _ _ _ (by simp)).trans k4_0)
  have k5_1 : r5.cell? ⟨w.heap.size + 1, 13, none⟩ = some (.int .u16 t13) := (hcr5 _ _ (by (try simp only [World.size_alloc, World.size_setCell]); omega)).trans ((World.cell?_setCell_other _ _ _ _ (by simp)).trans k4_1)
  go_wp2_with fail
  refine (C4 _).mono ?_
  rintro _ r6 ⟨rfl, hbr6⟩
  obtain ⟨hcr6, hfr6⟩ := bcell hbr6
  have hzr6 := hbr6.size
  try simp only [World.size_alloc, World.size_setCell, World.size_drew] at hzr6
  have hlr6w0 : w.heap.size < r6.heap.size := by omega
  have hlr6w1 : w.heap.size + 1 < r6.heap.size := by omega
  have hlr6w2 : w.heap.size + 1 + 1 < r6.heap.size := by omega
  have hlr6r10 : r1.heap.size < r6.heap.size := by omega
  have hlr6r50 : r5.heap.size < r6.heap.size := by omega
  go_wp2_with fail
  refine (C5 _).mono ?_
  rintro _ r7 ⟨rfl, hbr7⟩
  obtain ⟨hcr7, hfr7⟩ := bcell hbr7
  have hzr7 := hbr7.size
  try simp only [World.size_alloc, World.size_setCell, World.size_drew] at hzr7
  have hlr7w0 : w.heap.size < r7.heap.size := by omega
  have hlr7w1 : w.heap.size + 1 < r7.heap.size := by omega
  have hlr7w2 : w.heap.size + 1 + 1 < r7.heap.size := by omega
  have hlr7r10 : r1.heap.size < r7.heap.size := by omega
  have hlr7r50 : r5.heap.size < r7.heap.size := by omega
  have hlr7r60 : r6.heap.size < r7.heap.size := by omega
  go_wp2_with fail
  refine (C6 _).mono ?_
  rintro _ r8 ⟨rfl, hbr8⟩
  obtain ⟨hcr8, hfr8⟩ := bcell hbr8
  have hzr8 := hbr8.size
  try simp only [World.size_alloc, World.size_setCell, World.size_drew] at hzr8
  have hlr8w0 : w.heap.size < r8.heap.size := by omega
  have hlr8w1 : w.heap.size + 1 < r8.heap.size := by omega
  have hlr8w2 : w.heap.size + 1 + 1 < r8.heap.size := by omega
  have hlr8r10 : r1.heap.size < r8.heap.size := by omega
  have hlr8r50 : r5.heap.size < r8.heap.size := by omega
  have hlr8r60 : r6.heap.size < r8.heap.size := by omega
  have hlr8r70 : r7.heap.size < r8.heap.size := by omega
  go_wp2_with fail
  refine wp_gen (fun W => Below w.heap.size w W ∧ (w.heap.size + 3 ≤ r1.heap.size ∧ r1.heap.size < r5.heap.size ∧ r5.heap.size < r8.heap.size ∧ r8.heap.size < W.heap.size) ∧ (W.cell? ⟨r5.heap.size, 0, none⟩ = some (.int .u16 p0) ∧ W.cell? ⟨r5.heap.size, 1, none⟩ = some (.int .u16 p1) ∧ W.cell? ⟨r5.heap.size, 2, none⟩ = some (.int .u16 p2) ∧ W.cell? ⟨r5.heap.size, 3, none⟩ = some (.int .u16 p3) ∧ W.cell? ⟨r5.heap.size, 4, none⟩ = some (.int .u16 p4) ∧ W.cell? ⟨r5.heap.size, 5, none⟩ = some (.int .u16 p5)) ∧ (W.cell? ⟨r8.heap.size, 0, none⟩ = some (.int .u16 v0) ∧ W.cell? ⟨r8.heap.size, 1, none⟩ = some (.int .u16 v1) ∧ W.cell? ⟨r8.heap.size, 2, none⟩ = some (.int .u16 v2) ∧ W.cell? ⟨r8.heap.size, 3, none⟩ = some (.int .u16 v3) ∧ W.cell? ⟨r8.heap.size, 4, none⟩ = some (.int .u16 v4) ∧ W.cell? ⟨r8.heap.size, 5, none⟩ = some (.int .u16 v5)) ∧ (W.cell? ⟨w.heap.size + 1, 12, none⟩ = some (.int .u16 t12) ∧ W.cell? ⟨w.heap.size + 1, 13, none⟩ = some (.int .u16 t13)) ∧ (W.cell? ⟨r1.heap.size, 0, none⟩ = some (.bool false) ∧ W.frozen? ⟨r1.heap.size, 0, none⟩ = false) ∧ (W.cell? ⟨w.heap.size + 1 + 1, 0, none⟩ = some (.int .u16 0) ∧ W.cell? ⟨w.heap.size + 1 + 1, 1, none⟩ = some (.int .u16 0) ∧ W.cell? ⟨w.heap.size + 1 + 1, 2, none⟩ = some (.int .u16 0) ∧ W.cell? ⟨w.heap.size + 1 + 1, 3, none⟩ = some (.int .u16 0) ∧ W.cell? ⟨w.heap.size + 1 + 1, 4, none⟩ = some (.int .u16 0) ∧ W.cell? ⟨w.heap.size + 1 + 1, 5, none⟩ = some (.int .u16 0)) ∧ (W.frozen? ⟨w.heap.size + 1 + 1, 0, none⟩ = false ∧ W.frozen? ⟨w.heap.size + 1 + 1, 1, none⟩ = false ∧ W.frozen? ⟨w.heap.size + 1 + 1, 2, none⟩ = false ∧ W.frozen? ⟨w.heap.size + 1 + 1, 3, none⟩ = false ∧ W.frozen? ⟨w.heap.size + 1 + 1, 4, none⟩ = false ∧ W.frozen? ⟨w.heap.size + 1 + 1, 5, none⟩ = false)) ⟨(by repeat' (first | (with_reducible exact Below.refl _ _) | (with_reducible refine bl_set ?_ _ ?_) | (with_reducible refine bl_alloc ?_ _) | (with_reducible refine bl_drew ?_) | (with_reducible refine bl_via (by with_reducible assumption) ?_) | (with_reducible assumption) | omega | (simp only []; omega) | (simp; omega))), ⟨by omega, by omega, by omega, by (try simp only [World.size_alloc, World.size_setCell]); omega⟩, ⟨by go_simp, by go_simp, by go_simp, by go_simp, by go_simp, by go_simp⟩, ⟨by go_simp, by go_simp, by go_simp, by go_simp, by go_simp, by go_simp⟩, ⟨by go_simp, by go_simp⟩, ⟨by go_simp, by go_simp⟩, ⟨by go_simp, by go_simp, by go_simp, by go_simp, by go_simp, by go_simp⟩, ⟨by go_simp, by go_simp, by go_simp, by go_simp, by go_simp, by go_simp⟩⟩ ?_
  rintro W9 ⟨hW9, ⟨s0, s1, s2, s3⟩, ⟨hp0, hp1, hp2, hp3, hp4, hp5⟩, ⟨hv0, hv1, hv2, hv3, hv4, hv5⟩, ⟨hT0, hT1⟩, ⟨hO, hOf⟩, ⟨hr0, hr1, hr2, hr3, hr4, hr5⟩, ⟨hrf0, hrf1, hrf2, hrf3, hrf4, hrf5⟩⟩
  clear hbr1 hcr1 hfr1 hbr2 hcr2 hfr2 hbr3 hcr3 hfr3 hbr4 hcr4 hfr4 hbr5 hcr5 hfr5 hbr6 hcr6 hfr6 hbr7 hcr7 hfr7 hbr8 hcr8 hfr8 o3 f3 k3_0 k3_1 o4 f4 k4_0 k4_1 o5 f5 k5_0 k5_1 C1 C2 C3 C4 C5 C6 K1 K2
  have L0 : w.heap.size < W9.heap.size := by omega
  have L1 : w.heap.size + 1 < W9.heap.size := by omega
  have L2 : w.heap.size + 1 + 1 < W9.heap.size := by omega
  have L3 : r1.heap.size < W9.heap.size := by omega
  have L4 : r5.heap.size < W9.heap.size := by omega
  have L5 : r8.heap.size < W9.heap.size := by omega
  have hecr9 := @Ext.cell2
  refine wp_region_floatl 8 7 _ _ _ _ _ (.cells #[.int .u16 0, .int .u16 0, .int .u16 0, .int .u16 0, .int .u16 0, .int .u16 0] 27) (by kernel_rfl) rfl rfl (by kernel_rfl) (by kernel_rfl) rfl rfl rfl rfl (fun _ _ => by simp [go_sem]) (fun _ _ d _ _ h => by cases d <;> exact h) (by kernel_rfl) (by kernel_rfl) rfl ?_
  apply Exists.intro
  refine ⟨fun W' => ?_, ?_⟩
  · simp only [List.take_succ_cons, List.take_zero]
    repeat (first | go_big_quiet_skip | (go_big_quiet_want; go_big_quiet_op; first | go_big_quiet_on | (go_big_quiet_call ((first | fail | (go_at_call 30; exact ext_call (K3 (w.heap.size + 1) r1.heap.size _ (Nat.lt_of_lt_of_le (Nat.lt_of_lt_of_le L1 W'.h.size) (Ext.h _).size) (Nat.lt_of_lt_of_le (Nat.lt_of_lt_of_le L3 W'.h.size) (Ext.h _).size) (by omega) ((Ext.cell2 W' _ _ _ L1).trans hT0) ((Ext.cell2 W' _ _ _ L1).trans hT1) ((Ext.cell2 W' _ _ _ L3).trans hO) (((Ext.frozen _ _ _ (Nat.lt_of_lt_of_le L3 W'.h.size)).trans (Ext.frozen W' _ _ L3)).trans hOf))) | (go_at_call 32; with_reducible exact ext_call (C7 _)))))))
    exact wpQuiet_nil rfl
  clear hecr9
  simp only [List.drop_succ_cons, List.drop_zero, Act.put, List.setIfInBounds_toArray, List.set_cons_zero, List.set_cons_succ]
  intro B9 r9 hbr9 hBr9 hDr9 hEr9
  have hGr9_0 := block_cell hEr9 0
  have hGr9_1 := block_cell hEr9 1
  have hGr9_2 := block_cell hEr9 2
  have hGr9_3 := block_cell hEr9 3
  have hGr9_4 := block_cell hEr9 4
  have hGr9_5 := block_cell hEr9 5
  have hFr9 := block_free hEr9
  simp only [List.getElem?_toArray, List.getElem?_cons_zero, List.getElem?_cons_succ] at hGr9_0 hGr9_1 hGr9_2 hGr9_3 hGr9_4 hGr9_5
  clear hEr9
  try simp only [World.size_alloc, World.size_setCell, World.size_drew] at hBr9
  obtain ⟨hcr9, hfr9⟩ := bcell hbr9
  have hzr9 := hbr9.size
  try simp only [World.size_alloc, World.size_setCell, World.size_drew] at hzr9
  have hlr9w0 : w.heap.size < r9.heap.size := by omega
  have hlr9w1 : w.heap.size + 1 < r9.heap.size := by omega
  have hlr9w2 : w.heap.size + 1 + 1 < r9.heap.size := by omega
  have hlr9r10 : r1.heap.size < r9.heap.size := by omega
  have hlr9r50 : r5.heap.size < r9.heap.size := by omega
  have hlr9r80 : r8.heap.size < r9.heap.size := by omega
  go_wp2
  refine bodyPost_ret (v := (.tuple #[(.agg #[.int .u16 (c0), .int .u16 (c1), .int .u16 (c2), .int .u16 (c3), .int .u16 (c4), .int .u16 (c5)]), .bool d, .int .i64 0])) (by simp [results, Try.results11, go_sem, *]) rfl ⟨rfl, ?_⟩; exact (by repeat' (first | (with_reducible exact Below.refl _ _) | (with_reducible refine bl_set ?_ _ ?_) | (with_reducible refine bl_alloc ?_ _) | (with_reducible refine bl_drew ?_) | (with_reducible refine bl_via (by with_reducible assumption) ?_) | (with_reducible assumption) | omega | (simp only []; omega) | (simp; omega)))
end Go.Proofs.Ytpmocegfiniafaa
