/- Contract of Throttle of package descent over this translation. -/
import Derived.Test.YtpmocegfiniafaaQb
namespace Go.Proofs.Ytpmocegfiniafaa
set_option linter.unusedSimpArgs false
set_option linter.unusedVariables false
open Go.RowKit

/-- The setting that is nearest to v. -/
def thrv (v a b c d : Int) : Int := if max (v - nearv v a b) (nearv v a b - v) ≤ max (v - nearv v c d) (nearv v c d - v) then nearv v a b else nearv v c d

set_option maxRecDepth 100000 in
set_option maxHeartbeats 4000000 in
theorem thr_4 (v0 v1 e0 e1 e2 e3 e4 e5 e6 e7 s2 s3 s4 s5 s6 s7 s8 s9 k0 k1 k2 k3 v A B a0 a1 b0 b1 : Int) (bm : Bool)
    (K0 : (∀ w, Calls Try.prog 45 #[(.agg #[.int .u16 (e0), .int .u16 (e1)])] w fun e w' => e = .returned (.agg #[.int .u16 (s2), .int .u16 (s3)]) ∧ Below w.heap.size w w'))
    (K1 : (∀ w, Calls Try.prog 45 #[(.agg #[.int .u16 (e2), .int .u16 (e3)])] w fun e w' => e = .returned (.agg #[.int .u16 (s4), .int .u16 (s5)]) ∧ Below w.heap.size w w'))
    (K2 : (∀ w, Calls Try.prog 45 #[(.agg #[.int .u16 (e4), .int .u16 (e5)])] w fun e w' => e = .returned (.agg #[.int .u16 (s6), .int .u16 (s7)]) ∧ Below w.heap.size w w'))
    (K3 : (∀ w, Calls Try.prog 45 #[(.agg #[.int .u16 (e6), .int .u16 (e7)])] w fun e w' => e = .returned (.agg #[.int .u16 (s8), .int .u16 (s9)]) ∧ Below w.heap.size w w'))
    (M0 : (∀ w, Calls Try.prog 46 #[(.agg #[.int .u16 (0), .int .u16 (0)]), (.agg #[.int .u16 (s2), .int .u16 (s3)])] w fun e w' => e = .returned (.int .i64 k0) ∧ Below w.heap.size w w'))
    (d0 : decide (0 < k0) = false)
    (M1 : (∀ w, Calls Try.prog 46 #[(.agg #[.int .u16 (s2), .int .u16 (s3)]), (.agg #[.int .u16 (s4), .int .u16 (s5)])] w fun e w' => e = .returned (.int .i64 k1) ∧ Below w.heap.size w w'))
    (d1 : decide (0 < k1) = false)
    (M2 : (∀ w, Calls Try.prog 46 #[(.agg #[.int .u16 (s4), .int .u16 (s5)]), (.agg #[.int .u16 (s6), .int .u16 (s7)])] w fun e w' => e = .returned (.int .i64 k2) ∧ Below w.heap.size w w'))
    (d2 : decide (0 < k2) = false)
    (M3 : (∀ w, Calls Try.prog 46 #[(.agg #[.int .u16 (s6), .int .u16 (s7)]), (.agg #[.int .u16 (s8), .int .u16 (s9)])] w fun e w' => e = .returned (.int .i64 k3) ∧ Below w.heap.size w w'))
    (d3 : decide (0 < k3) = false)
    (A0 : -268435455 ≤ A) (A1 : A ≤ 268435455) (B0 : -268435455 ≤ B) (B1' : B ≤ 268435455) (vl : -268435455 ≤ v) (vh : v ≤ 268435455)
    (H1 : ∀ (bw bs : Nat) (w : World), w.cell? ⟨bw, 0, none⟩ = some (.int .u16 v0) → w.cell? ⟨bw, 1, none⟩ = some (.int .u16 v1) → w.cell? ⟨bs, 2, none⟩ = some (.int .u16 s2) → w.cell? ⟨bs, 3, none⟩ = some (.int .u16 s3) → w.cell? ⟨bs, 4, none⟩ = some (.int .u16 s4) → w.cell? ⟨bs, 5, none⟩ = some (.int .u16 s5) → bw < w.heap.size → bs < w.heap.size → Calls Try.prog 47 #[.int .i64 1, .int .i64 2, .pointer (some ⟨bw, 0, none⟩), .pointer (some ⟨bs, 0, none⟩)] w fun e w' => e = .returned (.agg #[.int .u16 (a0), .int .u16 (a1)]) ∧ Below w.heap.size w w')
    (H2 : ∀ (bw bs : Nat) (w : World), w.cell? ⟨bw, 0, none⟩ = some (.int .u16 v0) → w.cell? ⟨bw, 1, none⟩ = some (.int .u16 v1) → w.cell? ⟨bs, 6, none⟩ = some (.int .u16 s6) → w.cell? ⟨bs, 7, none⟩ = some (.int .u16 s7) → w.cell? ⟨bs, 8, none⟩ = some (.int .u16 s8) → w.cell? ⟨bs, 9, none⟩ = some (.int .u16 s9) → bw < w.heap.size → bs < w.heap.size → Calls Try.prog 47 #[.int .i64 3, .int .i64 4, .pointer (some ⟨bw, 0, none⟩), .pointer (some ⟨bs, 0, none⟩)] w fun e w' => e = .returned (.agg #[.int .u16 (b0), .int .u16 (b1)]) ∧ Below w.heap.size w w')
    (N1 : (∀ w, Calls Try.prog 29 #[(.agg #[.int .u16 (v0), .int .u16 (v1)])] w fun e w' => e = .returned (.int .i64 v) ∧ Below w.heap.size w w'))
    (N2 : (∀ w, Calls Try.prog 29 #[(.agg #[.int .u16 (a0), .int .u16 (a1)])] w fun e w' => e = .returned (.int .i64 A) ∧ Below w.heap.size w w'))
    (N3 : (∀ w, Calls Try.prog 29 #[(.agg #[.int .u16 (b0), .int .u16 (b1)])] w fun e w' => e = .returned (.int .i64 B) ∧ Below w.heap.size w w'))
    (dm : decide (max (v - A) (A - v) ≤ max (v - B) (B - v)) = bm) (w : World) :
    Calls Try.prog 18 #[(.agg #[.int .u16 (e0), .int .u16 (e1), .int .u16 (e2), .int .u16 (e3), .int .u16 (e4), .int .u16 (e5), .int .u16 (e6), .int .u16 (e7)]), (.agg #[.int .u16 (v0), .int .u16 (v1)])] w fun e w' => e = .returned (.tuple #[.agg #[.int .u16 (if bm then a0 else b0), .int .u16 (if bm then a1 else b1)], .int .i64 0]) ∧ Below w.heap.size w w' := by
  go_enter Try.func18, Try.ntmps18
  go_wp2_with fail
  have hecr1 := @Ext.cell2
  refine wp_region_floats 14 _ _ _ (.cells #[.int .u16 0, .int .u16 0, .int .u16 0, .int .u16 0, .int .u16 0, .int .u16 0, .int .u16 0, .int .u16 0, .int .u16 0, .int .u16 0] 77) (by kernel_rfl) (by kernel_rfl) rfl rfl rfl rfl (fun _ _ => by simp [go_sem]) (by kernel_rfl) (by kernel_rfl) rfl ?_
  apply Exists.intro
  refine ⟨fun W' => ?_, ?_⟩
  · simp only [List.take_succ_cons, List.take_zero]
    repeat (first | go_big_quiet_skip | (go_big_quiet_want; go_big_quiet_op; first | go_big_quiet_on | (go_big_quiet_call ((first | fail | (go_at_call 45; with_reducible exact ext_call (K0 _)) | (go_at_call 45; with_reducible exact ext_call (K1 _)) | (go_at_call 45; with_reducible exact ext_call (K2 _)) | (go_at_call 45; with_reducible exact ext_call (K3 _)))))))
    exact wpQuiet_nil rfl
  clear hecr1
  simp only [List.drop_succ_cons, List.drop_zero, Act.put, List.setIfInBounds_toArray, List.set_cons_zero, List.set_cons_succ]
  intro B1 r1 hbr1 hBr1 hDr1 hEr1
  have hGr1_0 := block_cell hEr1 0
  have hGr1_1 := block_cell hEr1 1
  have hGr1_2 := block_cell hEr1 2
  have hGr1_3 := block_cell hEr1 3
  have hGr1_4 := block_cell hEr1 4
  have hGr1_5 := block_cell hEr1 5
  have hGr1_6 := block_cell hEr1 6
  have hGr1_7 := block_cell hEr1 7
  have hGr1_8 := block_cell hEr1 8
  have hGr1_9 := block_cell hEr1 9
  have hFr1 := block_free hEr1
  simp only [List.getElem?_toArray, List.getElem?_cons_zero, List.getElem?_cons_succ] at hGr1_0 hGr1_1 hGr1_2 hGr1_3 hGr1_4 hGr1_5 hGr1_6 hGr1_7 hGr1_8 hGr1_9
  clear hEr1
  try simp only [World.size_alloc, World.size_setCell, World.size_drew] at hBr1
  obtain ⟨hcr1, hfr1⟩ := bcell hbr1
  have hzr1 := hbr1.size
  try simp only [World.size_alloc, World.size_setCell, World.size_drew] at hzr1
  have hlr1w0 : w.heap.size < r1.heap.size := by omega
  have hlr1w1 : w.heap.size + 1 < r1.heap.size := by omega
  have hlr1w2 : w.heap.size + 1 + 1 < r1.heap.size := by omega
  go_wp2_with fail
  refine wp_gen (fun W => Below w.heap.size w W ∧ w.heap.size + 3 ≤ B1 ∧ B1 < W.heap.size ∧ (W.cell? ⟨w.heap.size + 1, 0, none⟩ = some (.int .u16 v0) ∧ W.cell? ⟨w.heap.size + 1, 1, none⟩ = some (.int .u16 v1)) ∧ (W.cell? ⟨w.heap.size + 1 + 1, 0, none⟩ = some (.int .u16 0) ∧ W.cell? ⟨w.heap.size + 1 + 1, 1, none⟩ = some (.int .u16 0)) ∧ Loose W (w.heap.size + 1 + 1) ∧ (W.cell? ⟨B1, 0, none⟩ = some (.int .u16 0) ∧ W.cell? ⟨B1, 1, none⟩ = some (.int .u16 0) ∧ W.cell? ⟨B1, 2, none⟩ = some (.int .u16 s2) ∧ W.cell? ⟨B1, 3, none⟩ = some (.int .u16 s3) ∧ W.cell? ⟨B1, 4, none⟩ = some (.int .u16 s4) ∧ W.cell? ⟨B1, 5, none⟩ = some (.int .u16 s5) ∧ W.cell? ⟨B1, 6, none⟩ = some (.int .u16 s6) ∧ W.cell? ⟨B1, 7, none⟩ = some (.int .u16 s7) ∧ W.cell? ⟨B1, 8, none⟩ = some (.int .u16 s8) ∧ W.cell? ⟨B1, 9, none⟩ = some (.int .u16 s9))) ⟨(by repeat' (first | (with_reducible exact Below.refl _ _) | (with_reducible refine bl_set ?_ _ ?_) | (with_reducible refine bl_alloc ?_ _) | (with_reducible refine bl_drew ?_) | (with_reducible refine bl_via (by with_reducible assumption) ?_) | (with_reducible assumption) | omega | (simp only []; omega) | (simp; omega))), by omega, by (try simp only [World.size_alloc, World.size_setCell]); omega, ⟨by go_simp, by go_simp⟩, ⟨by go_simp, by go_simp⟩, fun o => by go_simp, by go_simp, by go_simp, by go_simp, by go_simp, by go_simp, by go_simp, by go_simp, by go_simp, by go_simp, by go_simp⟩ ?_
  rintro W0 ⟨hb0, hB0, hB1, ⟨hv0, hv1⟩, ⟨ht0, ht1⟩, htf, hc0, hc1, hc2, hc3, hc4, hc5, hc6, hc7, hc8, hc9⟩
  clear hcr1 hfr1 hbr1 hGr1_0 hGr1_1 hGr1_2 hGr1_3 hGr1_4 hGr1_5 hGr1_6 hGr1_7 hGr1_8 hGr1_9 hFr1
  have htf0 := htf 0
  have htf1 := htf 1
  clear htf
  have l0 : w.heap.size + 1 < W0.heap.size := by omega
  have l1 : w.heap.size + 1 + 1 < W0.heap.size := by omega
  refine wp_loop_rounds 5 ?_
  rw [rounds_succ]
  go_wp2_with fail
  have hecr2 := @Ext.cell
  refine wp_region_ext (by kernel_rfl) (by kernel_rfl) ?_
  repeat (first | go_big_quiet_skip | (go_big_quiet_want; go_big_quiet_op; first | go_big_quiet_on | (go_big_quiet_call ((first | fail | (go_at_call 46; with_reducible exact ext_call (M0 _)))))))
  clear hecr2
  refine wpQuiet_nil ?_
  rintro r2 ⟨⟨_, hbr2⟩, rfl⟩
  obtain ⟨hcr2, hfr2⟩ := bcell hbr2
  have hzr2 := hbr2.size
  try simp only [World.size_alloc, World.size_setCell, World.size_drew] at hzr2
  have hlr2B1 : B1 < r2.heap.size := by omega
  have p2 : w.heap.size + 1 < r2.heap.size := by omega
  have q2 : w.heap.size + 1 + 1 < r2.heap.size := by omega
  have x2_0 : r2.cell? ⟨B1, 0, none⟩ = some (.int .u16 0) := (hcr2 _ _ (by (try simp only [World.size_alloc, World.size_setCell]); omega)).trans hc0
  have x2_1 : r2.cell? ⟨B1, 1, none⟩ = some (.int .u16 0) := (hcr2 _ _ (by (try simp only [World.size_alloc, World.size_setCell]); omega)).trans hc1
  have x2_2 : r2.cell? ⟨B1, 2, none⟩ = some (.int .u16 s2) := (hcr2 _ _ (by (try simp only [World.size_alloc, World.size_setCell]); omega)).trans hc2
  have x2_3 : r2.cell? ⟨B1, 3, none⟩ = some (.int .u16 s3) := (hcr2 _ _ (by (try simp only [World.size_alloc, World.size_setCell]); omega)).trans hc3
  have x2_4 : r2.cell? ⟨B1, 4, none⟩ = some (.int .u16 s4) := (hcr2 _ _ (by (try simp only [World.size_alloc, World.size_setCell]); omega)).trans hc4
  have x2_5 : r2.cell? ⟨B1, 5, none⟩ = some (.int .u16 s5) := (hcr2 _ _ (by (try simp only [World.size_alloc, World.size_setCell]); omega)).trans hc5
  have x2_6 : r2.cell? ⟨B1, 6, none⟩ = some (.int .u16 s6) := (hcr2 _ _ (by (try simp only [World.size_alloc, World.size_setCell]); omega)).trans hc6
  have x2_7 : r2.cell? ⟨B1, 7, none⟩ = some (.int .u16 s7) := (hcr2 _ _ (by (try simp only [World.size_alloc, World.size_setCell]); omega)).trans hc7
  have x2_8 : r2.cell? ⟨B1, 8, none⟩ = some (.int .u16 s8) := (hcr2 _ _ (by (try simp only [World.size_alloc, World.size_setCell]); omega)).trans hc8
  have x2_9 : r2.cell? ⟨B1, 9, none⟩ = some (.int .u16 s9) := (hcr2 _ _ (by (try simp only [World.size_alloc, World.size_setCell]); omega)).trans hc9
  have y2_0 : r2.cell? ⟨w.heap.size + 1, 0, none⟩ = some (.int .u16 v0) := (hcr2 _ _ (by (try simp only [World.size_alloc, World.size_setCell]); omega)).trans hv0
  have y2_1 : r2.cell? ⟨w.heap.size + 1, 1, none⟩ = some (.int .u16 v1) := (hcr2 _ _ (by (try simp only [World.size_alloc, World.size_setCell]); omega)).trans hv1
  have y2_2 : r2.cell? ⟨w.heap.size + 1 + 1, 0, none⟩ = some (.int .u16 0) := (hcr2 _ _ (by (try simp only [World.size_alloc, World.size_setCell]); omega)).trans ht0
  have y2_3 : r2.cell? ⟨w.heap.size + 1 + 1, 1, none⟩ = some (.int .u16 0) := (hcr2 _ _ (by (try simp only [World.size_alloc, World.size_setCell]); omega)).trans ht1
  have f2_0 : r2.frozen? ⟨w.heap.size + 1 + 1, 0, none⟩ = false := (hfr2 _ _ (by (try simp only [World.size_alloc, World.size_setCell]); omega)).trans htf0
  have f2_1 : r2.frozen? ⟨w.heap.size + 1 + 1, 1, none⟩ = false := (hfr2 _ _ (by (try simp only [World.size_alloc, World.size_setCell]); omega)).trans htf1
  have hw2 := bl_via hbr2 hb0
  clear hb0 hbr2 hcr2 hfr2 hv0 hv1 ht0 ht1 htf0 htf1 hc0 hc1 hc2 hc3 hc4 hc5 hc6 hc7 hc8 hc9
  go_wp2_with fail
  rw [rounds_succ]
  go_wp2_with fail
  have hecr3 := @Ext.cell
  refine wp_region_ext (by kernel_rfl) (by kernel_rfl) ?_
  repeat (first | go_big_quiet_skip | (go_big_quiet_want; go_big_quiet_op; first | go_big_quiet_on | (go_big_quiet_call ((first | fail | (go_at_call 46; with_reducible exact ext_call (M1 _)))))))
  clear hecr3
  refine wpQuiet_nil ?_
  rintro r3 ⟨⟨_, hbr3⟩, rfl⟩
  obtain ⟨hcr3, hfr3⟩ := bcell hbr3
  have hzr3 := hbr3.size
  try simp only [World.size_alloc, World.size_setCell, World.size_drew] at hzr3
  have hlr3B1 : B1 < r3.heap.size := by omega
  have p3 : w.heap.size + 1 < r3.heap.size := by omega
  have q3 : w.heap.size + 1 + 1 < r3.heap.size := by omega
  have x3_0 : r3.cell? ⟨B1, 0, none⟩ = some (.int .u16 0) := (hcr3 _ _ (by (try simp only [World.size_alloc, World.size_setCell]); omega)).trans x2_0
  have x3_1 : r3.cell? ⟨B1, 1, none⟩ = some (.int .u16 0) := (hcr3 _ _ (by (try simp only [World.size_alloc, World.size_setCell]); omega)).trans x2_1
  have x3_2 : r3.cell? ⟨B1, 2, none⟩ = some (.int .u16 s2) := (hcr3 _ _ (by (try simp only [World.size_alloc, World.size_setCell]); omega)).trans x2_2
  have x3_3 : r3.cell? ⟨B1, 3, none⟩ = some (.int .u16 s3) := (hcr3 _ _ (by (try simp only [World.size_alloc, World.size_setCell]); omega)).trans x2_3
  have x3_4 : r3.cell? ⟨B1, 4, none⟩ = some (.int .u16 s4) := (hcr3 _ _ (by (try simp only [World.size_alloc, World.size_setCell]); omega)).trans x2_4
  have x3_5 : r3.cell? ⟨B1, 5, none⟩ = some (.int .u16 s5) := (hcr3 _ _ (by (try simp only [World.size_alloc, World.size_setCell]); omega)).trans x2_5
  have x3_6 : r3.cell? ⟨B1, 6, none⟩ = some (.int .u16 s6) := (hcr3 _ _ (by (try simp only [World.size_alloc, World.size_setCell]); omega)).trans x2_6
  have x3_7 : r3.cell? ⟨B1, 7, none⟩ = some (.int .u16 s7) := (hcr3 _ _ (by (try simp only [World.size_alloc, World.size_setCell]); omega)).trans x2_7
  have x3_8 : r3.cell? ⟨B1, 8, none⟩ = some (.int .u16 s8) := (hcr3 _ _ (by (try simp only [World.size_alloc, World.size_setCell]); omega)).trans x2_8
  have x3_9 : r3.cell? ⟨B1, 9, none⟩ = some (.int .u16 s9) := (hcr3 _ _ (by (try simp only [World.size_alloc, World.size_setCell]); omega)).trans x2_9
  have y3_0 : r3.cell? ⟨w.heap.size + 1, 0, none⟩ = some (.int .u16 v0) := (hcr3 _ _ (by (try simp only [World.size_alloc, World.size_setCell]); omega)).trans y2_0
  have y3_1 : r3.cell? ⟨w.heap.size + 1, 1, none⟩ = some (.int .u16 v1) := (hcr3 _ _ (by (try simp only [World.size_alloc, World.size_setCell]); omega)).trans y2_1
  have y3_2 : r3.cell? ⟨w.heap.size + 1 + 1, 0, none⟩ = some (.int .u16 0) := (hcr3 _ _ (by (try simp only [World.size_alloc, World.size_setCell]); omega)).trans y2_2
  have y3_3 : r3.cell? ⟨w.heap.size + 1 + 1, 1, none⟩ = some (.int .u16 0) := (hcr3 _ _ (by (try simp only [World.size_alloc, World.size_setCell]); omega)).trans y2_3
  have f3_0 : r3.frozen? ⟨w.heap.size + 1 + 1, 0, none⟩ = false := (hfr3 _ _ (by (try simp only [World.size_alloc, World.size_setCell]); omega)).trans f2_0
  have f3_1 : r3.frozen? ⟨w.heap.size + 1 + 1, 1, none⟩ = false := (hfr3 _ _ (by (try simp only [World.size_alloc, World.size_setCell]); omega)).trans f2_1
  have hw3 := bl_via hbr3 hw2
  clear hw2 hbr3 hcr3 hfr3 x2_0 x2_1 x2_2 x2_3 x2_4 x2_5 x2_6 x2_7 x2_8 x2_9 y2_0 y2_1 y2_2 y2_3 f2_0 f2_1
  go_wp2_with fail
  rw [rounds_succ]
  go_wp2_with fail
  have hecr4 := @Ext.cell
  refine wp_region_ext (by kernel_rfl) (by kernel_rfl) ?_
  repeat (first | go_big_quiet_skip | (go_big_quiet_want; go_big_quiet_op; first | go_big_quiet_on | (go_big_quiet_call ((first | fail | (go_at_call 46; with_reducible exact ext_call (M2 _)))))))
  clear hecr4
  refine wpQuiet_nil ?_
  rintro r4 ⟨⟨_, hbr4⟩, rfl⟩
  obtain ⟨hcr4, hfr4⟩ := bcell hbr4
  have hzr4 := hbr4.size
  try simp only [World.size_alloc, World.size_setCell, World.size_drew] at hzr4
  have hlr4B1 : B1 < r4.heap.size := by omega
  have p4 : w.heap.size + 1 < r4.heap.size := by omega
  have q4 : w.heap.size + 1 + 1 < r4.heap.size := by omega
  have x4_0 : r4.cell? ⟨B1, 0, none⟩ = some (.int .u16 0) := (hcr4 _ _ (by (try simp only [World.size_alloc, World.size_setCell]); omega)).trans x3_0
  have x4_1 : r4.cell? ⟨B1, 1, none⟩ = some (.int .u16 0) := (hcr4 _ _ (by (try simp only [World.size_alloc, World.size_setCell]); omega)).trans x3_1
  have x4_2 : r4.cell? ⟨B1, 2, none⟩ = some (.int .u16 s2) := (hcr4 _ _ (by (try simp only [World.size_alloc, World.size_setCell]); omega)).trans x3_2
  have x4_3 : r4.cell? ⟨B1, 3, none⟩ = some (.int .u16 s3) := (hcr4 _ _ (by (try simp only [World.size_alloc, World.size_setCell]); omega)).trans x3_3
  have x4_4 : r4.cell? ⟨B1, 4, none⟩ = some (.int .u16 s4) := (hcr4 _ _ (by (try simp only [World.size_alloc, World.size_setCell]); omega)).trans x3_4
  have x4_5 : r4.cell? ⟨B1, 5, none⟩ = some (.int .u16 s5) := (hcr4 _ _ (by (try simp only [World.size_alloc, World.size_setCell]); omega)).trans x3_5
  have x4_6 : r4.cell? ⟨B1, 6, none⟩ = some (.int .u16 s6) := (hcr4 _ _ (by (try simp only [World.size_alloc, World.size_setCell]); omega)).trans x3_6
  have x4_7 : r4.cell? ⟨B1, 7, none⟩ = some (.int .u16 s7) := (hcr4 _ _ (by (try simp only [World.size_alloc, World.size_setCell]); omega)).trans x3_7
  have x4_8 : r4.cell? ⟨B1, 8, none⟩ = some (.int .u16 s8) := (hcr4 _ _ (by (try simp only [World.size_alloc, World.size_setCell]); omega)).trans x3_8
  have x4_9 : r4.cell? ⟨B1, 9, none⟩ = some (.int .u16 s9) := (hcr4 _ _ (by (try simp only [World.size_alloc, World.size_setCell]); omega)).trans x3_9
  have y4_0 : r4.cell? ⟨w.heap.size + 1, 0, none⟩ = some (.int .u16 v0) := (hcr4 _ _ (by (try simp only [World.size_alloc, World.size_setCell]); omega)).trans y3_0
  have y4_1 : r4.cell? ⟨w.heap.size + 1, 1, none⟩ = some (.int .u16 v1) := (hcr4 _ _ (by (try simp only [World.size_alloc, World.size_setCell]); omega)).trans y3_1
  have y4_2 : r4.cell? ⟨w.heap.size + 1 + 1, 0, none⟩ = some (.int .u16 0) := (hcr4 _ _ (by (try simp only [World.size_alloc, World.size_setCell]); omega)).trans y3_2
  have y4_3 : r4.cell? ⟨w.heap.size + 1 + 1, 1, none⟩ = some (.int .u16 0) := (hcr4 _ _ (by (try simp only [World.size_alloc, World.size_setCell]); omega)).trans y3_3
  have f4_0 : r4.frozen? ⟨w.heap.size + 1 + 1, 0, none⟩ = false := (hfr4 _ _ (by (try simp only [World.size_alloc, World.size_setCell]); omega)).trans f3_0
  have f4_1 : r4.frozen? ⟨w.heap.size + 1 + 1, 1, none⟩ = false := (hfr4 _ _ (by (try simp only [World.size_alloc, World.size_setCell]); omega)).trans f3_1
  have hw4 := bl_via hbr4 hw3
  clear hw3 hbr4 hcr4 hfr4 x3_0 x3_1 x3_2 x3_3 x3_4 x3_5 x3_6 x3_7 x3_8 x3_9 y3_0 y3_1 y3_2 y3_3 f3_0 f3_1
  go_wp2_with fail
  rw [rounds_succ]
  go_wp2_with fail
  have hecr5 := @Ext.cell
  refine wp_region_ext (by kernel_rfl) (by kernel_rfl) ?_
  repeat (first | go_big_quiet_skip | (go_big_quiet_want; go_big_quiet_op; first | go_big_quiet_on | (go_big_quiet_call ((first | fail | (go_at_call 46; with_reducible exact ext_call (M3 _)))))))
  clear hecr5
  refine wpQuiet_nil ?_
  rintro r5 ⟨⟨_, hbr5⟩, rfl⟩
  obtain ⟨hcr5, hfr5⟩ := bcell hbr5
  have hzr5 := hbr5.size
  try simp only [World.size_alloc, World.size_setCell, World.size_drew] at hzr5
  have hlr5B1 : B1 < r5.heap.size := by omega
  have p5 : w.heap.size + 1 < r5.heap.size := by omega
  have q5 : w.heap.size + 1 + 1 < r5.heap.size := by omega
  have x5_0 : r5.cell? ⟨B1, 0, none⟩ = some (.int .u16 0) := (hcr5 _ _ (by (try simp only [World.size_alloc, World.size_setCell]); omega)).trans x4_0
  have x5_1 : r5.cell? ⟨B1, 1, none⟩ = some (.int .u16 0) := (hcr5 _ _ (by (try simp only [World.size_alloc, World.size_setCell]); omega)).trans x4_1
  have x5_2 : r5.cell? ⟨B1, 2, none⟩ = some (.int .u16 s2) := (hcr5 _ _ (by (try simp only [World.size_alloc, World.size_setCell]); omega)).trans x4_2
  have x5_3 : r5.cell? ⟨B1, 3, none⟩ = some (.int .u16 s3) := (hcr5 _ _ (by (try simp only [World.size_alloc, World.size_setCell]); omega)).trans x4_3
  have x5_4 : r5.cell? ⟨B1, 4, none⟩ = some (.int .u16 s4) := (hcr5 _ _ (by (try simp only [World.size_alloc, World.size_setCell]); omega)).trans x4_4
  have x5_5 : r5.cell? ⟨B1, 5, none⟩ = some (.int .u16 s5) := (hcr5 _ _ (by (try simp only [World.size_alloc, World.size_setCell]); omega)).trans x4_5
  have x5_6 : r5.cell? ⟨B1, 6, none⟩ = some (.int .u16 s6) := (hcr5 _ _ (by (try simp only [World.size_alloc, World.size_setCell]); omega)).trans x4_6
  have x5_7 : r5.cell? ⟨B1, 7, none⟩ = some (.int .u16 s7) := (hcr5 _ _ (by (try simp only [World.size_alloc, World.size_setCell]); omega)).trans x4_7
  have x5_8 : r5.cell? ⟨B1, 8, none⟩ = some (.int .u16 s8) := (hcr5 _ _ (by (try simp only [World.size_alloc, World.size_setCell]); omega)).trans x4_8
  have x5_9 : r5.cell? ⟨B1, 9, none⟩ = some (.int .u16 s9) := (hcr5 _ _ (by (try simp only [World.size_alloc, World.size_setCell]); omega)).trans x4_9
  have y5_0 : r5.cell? ⟨w.heap.size + 1, 0, none⟩ = some (.int .u16 v0) := (hcr5 _ _ (by (try simp only [World.size_alloc, World.size_setCell]); omega)).trans y4_0
  have y5_1 : r5.cell? ⟨w.heap.size + 1, 1, none⟩ = some (.int .u16 v1) := (hcr5 _ _ (by (try simp only [World.size_alloc, World.size_setCell]); omega)).trans y4_1
  have y5_2 : r5.cell? ⟨w.heap.size + 1 + 1, 0, none⟩ = some (.int .u16 0) := (hcr5 _ _ (by (try simp only [World.size_alloc, World.size_setCell]); omega)).trans y4_2
  have y5_3 : r5.cell? ⟨w.heap.size + 1 + 1, 1, none⟩ = some (.int .u16 0) := (hcr5 _ _ (by (try simp only [World.size_alloc, World.size_setCell]); omega)).trans y4_3
  have f5_0 : r5.frozen? ⟨w.heap.size + 1 + 1, 0, none⟩ = false := (hfr5 _ _ (by (try simp only [World.size_alloc, World.size_setCell]); omega)).trans f4_0
  have f5_1 : r5.frozen? ⟨w.heap.size + 1 + 1, 1, none⟩ = false := (hfr5 _ _ (by (try simp only [World.size_alloc, World.size_setCell]); omega)).trans f4_1
  have hw5 := bl_via hbr5 hw4
  clear hw4 hbr5 hcr5 hfr5 x4_0 x4_1 x4_2 x4_3 x4_4 x4_5 x4_6 x4_7 x4_8 x4_9 y4_0 y4_1 y4_2 y4_3 f4_0 f4_1
  go_wp2_with fail
  rw [rounds_succ]
  go_wp2_with fail
  refine (H1 (w.heap.size + 1) B1 r5 y5_0 y5_1 x5_2 x5_3 x5_4 x5_5 p5 (by omega)).mono ?_
  rintro _ r6 ⟨rfl, hbr6⟩
  obtain ⟨hcr6, hfr6⟩ := bcell hbr6
  have hzr6 := hbr6.size
  try simp only [World.size_alloc, World.size_setCell, World.size_drew] at hzr6
  have hlr6B1 : B1 < r6.heap.size := by omega
  have p6 : w.heap.size + 1 < r6.heap.size := by omega
  have q6 : w.heap.size + 1 + 1 < r6.heap.size := by omega
  have x6_0 : r6.cell? ⟨B1, 0, none⟩ = some (.int .u16 0) := (hcr6 _ _ (by (try simp only [World.size_alloc, World.size_setCell]); omega)).trans x5_0
  have x6_1 : r6.cell? ⟨B1, 1, none⟩ = some (.int .u16 0) := (hcr6 _ _ (by (try simp only [World.size_alloc, World.size_setCell]); omega)).trans x5_1
  have x6_2 : r6.cell? ⟨B1, 2, none⟩ = some (.int .u16 s2) := (hcr6 _ _ (by (try simp only [World.size_alloc, World.size_setCell]); omega)).trans x5_2
  have x6_3 : r6.cell? ⟨B1, 3, none⟩ = some (.int .u16 s3) := (hcr6 _ _ (by (try simp only [World.size_alloc, World.size_setCell]); omega)).trans x5_3
  have x6_4 : r6.cell? ⟨B1, 4, none⟩ = some (.int .u16 s4) := (hcr6 _ _ (by (try simp only [World.size_alloc, World.size_setCell]); omega)).trans x5_4
  have x6_5 : r6.cell? ⟨B1, 5, none⟩ = some (.int .u16 s5) := (hcr6 _ _ (by (try simp only [World.size_alloc, World.size_setCell]); omega)).trans x5_5
  have x6_6 : r6.cell? ⟨B1, 6, none⟩ = some (.int .u16 s6) := (hcr6 _ _ (by (try simp only [World.size_alloc, World.size_setCell]); omega)).trans x5_6
  have x6_7 : r6.cell? ⟨B1, 7, none⟩ = some (.int .u16 s7) := (hcr6 _ _ (by (try simp only [World.size_alloc, World.size_setCell]); omega)).trans x5_7
  have x6_8 : r6.cell? ⟨B1, 8, none⟩ = some (.int .u16 s8) := (hcr6 _ _ (by (try simp only [World.size_alloc, World.size_setCell]); omega)).trans x5_8
  have x6_9 : r6.cell? ⟨B1, 9, none⟩ = some (.int .u16 s9) := (hcr6 _ _ (by (try simp only [World.size_alloc, World.size_setCell]); omega)).trans x5_9
  have y6_0 : r6.cell? ⟨w.heap.size + 1, 0, none⟩ = some (.int .u16 v0) := (hcr6 _ _ (by (try simp only [World.size_alloc, World.size_setCell]); omega)).trans y5_0
  have y6_1 : r6.cell? ⟨w.heap.size + 1, 1, none⟩ = some (.int .u16 v1) := (hcr6 _ _ (by (try simp only [World.size_alloc, World.size_setCell]); omega)).trans y5_1
  have y6_2 : r6.cell? ⟨w.heap.size + 1 + 1, 0, none⟩ = some (.int .u16 0) := (hcr6 _ _ (by (try simp only [World.size_alloc, World.size_setCell]); omega)).trans y5_2
  have y6_3 : r6.cell? ⟨w.heap.size + 1 + 1, 1, none⟩ = some (.int .u16 0) := (hcr6 _ _ (by (try simp only [World.size_alloc, World.size_setCell]); omega)).trans y5_3
  have f6_0 : r6.frozen? ⟨w.heap.size + 1 + 1, 0, none⟩ = false := (hfr6 _ _ (by (try simp only [World.size_alloc, World.size_setCell]); omega)).trans f5_0
  have f6_1 : r6.frozen? ⟨w.heap.size + 1 + 1, 1, none⟩ = false := (hfr6 _ _ (by (try simp only [World.size_alloc, World.size_setCell]); omega)).trans f5_1
  have hw6 := bl_via hbr6 hw5
  clear hw5 hbr6 hcr6 hfr6 x5_0 x5_1 x5_2 x5_3 x5_4 x5_5 x5_6 x5_7 x5_8 x5_9 y5_0 y5_1 y5_2 y5_3 f5_0 f5_1
  go_wp2_with fail
  refine (H2 (w.heap.size + 1) B1 r6 y6_0 y6_1 x6_6 x6_7 x6_8 x6_9 p6 (by omega)).mono ?_
  rintro _ r7 ⟨rfl, hbr7⟩
  obtain ⟨hcr7, hfr7⟩ := bcell hbr7
  have hzr7 := hbr7.size
  try simp only [World.size_alloc, World.size_setCell, World.size_drew] at hzr7
  have hlr7B1 : B1 < r7.heap.size := by omega
  have p7 : w.heap.size + 1 < r7.heap.size := by omega
  have q7 : w.heap.size + 1 + 1 < r7.heap.size := by omega
  have x7_0 : r7.cell? ⟨B1, 0, none⟩ = some (.int .u16 0) := (hcr7 _ _ (by (try simp only [World.size_alloc, World.size_setCell]); omega)).trans x6_0
  have x7_1 : r7.cell? ⟨B1, 1, none⟩ = some (.int .u16 0) := (hcr7 _ _ (by (try simp only [World.size_alloc, World.size_setCell]); omega)).trans x6_1
  have x7_2 : r7.cell? ⟨B1, 2, none⟩ = some (.int .u16 s2) := (hcr7 _ _ (by (try simp only [World.size_alloc, World.size_setCell]); omega)).trans x6_2
  have x7_3 : r7.cell? ⟨B1, 3, none⟩ = some (.int .u16 s3) := (hcr7 _ _ (by (try simp only [World.size_alloc, World.size_setCell]); omega)).trans x6_3
  have x7_4 : r7.cell? ⟨B1, 4, none⟩ = some (.int .u16 s4) := (hcr7 _ _ (by (try simp only [World.size_alloc, World.size_setCell]); omega)).trans x6_4
  have x7_5 : r7.cell? ⟨B1, 5, none⟩ = some (.int .u16 s5) := (hcr7 _ _ (by (try simp only [World.size_alloc, World.size_setCell]); omega)).trans x6_5
  have x7_6 : r7.cell? ⟨B1, 6, none⟩ = some (.int .u16 s6) := (hcr7 _ _ (by (try simp only [World.size_alloc, World.size_setCell]); omega)).trans x6_6
  have x7_7 : r7.cell? ⟨B1, 7, none⟩ = some (.int .u16 s7) := (hcr7 _ _ (by (try simp only [World.size_alloc, World.size_setCell]); omega)).trans x6_7
  have x7_8 : r7.cell? ⟨B1, 8, none⟩ = some (.int .u16 s8) := (hcr7 _ _ (by (try simp only [World.size_alloc, World.size_setCell]); omega)).trans x6_8
  have x7_9 : r7.cell? ⟨B1, 9, none⟩ = some (.int .u16 s9) := (hcr7 _ _ (by (try simp only [World.size_alloc, World.size_setCell]); omega)).trans x6_9
  have y7_0 : r7.cell? ⟨w.heap.size + 1, 0, none⟩ = some (.int .u16 v0) := (hcr7 _ _ (by (try simp only [World.size_alloc, World.size_setCell]); omega)).trans y6_0
  have y7_1 : r7.cell? ⟨w.heap.size + 1, 1, none⟩ = some (.int .u16 v1) := (hcr7 _ _ (by (try simp only [World.size_alloc, World.size_setCell]); omega)).trans y6_1
  have y7_2 : r7.cell? ⟨w.heap.size + 1 + 1, 0, none⟩ = some (.int .u16 0) := (hcr7 _ _ (by (try simp only [World.size_alloc, World.size_setCell]); omega)).trans y6_2
  have y7_3 : r7.cell? ⟨w.heap.size + 1 + 1, 1, none⟩ = some (.int .u16 0) := (hcr7 _ _ (by (try simp only [World.size_alloc, World.size_setCell]); omega)).trans y6_3
  have f7_0 : r7.frozen? ⟨w.heap.size + 1 + 1, 0, none⟩ = false := (hfr7 _ _ (by (try simp only [World.size_alloc, World.size_setCell]); omega)).trans f6_0
  have f7_1 : r7.frozen? ⟨w.heap.size + 1 + 1, 1, none⟩ = false := (hfr7 _ _ (by (try simp only [World.size_alloc, World.size_setCell]); omega)).trans f6_1
  have hw7 := bl_via hbr7 hw6
  clear hw6 hbr7 hcr7 hfr7 x6_0 x6_1 x6_2 x6_3 x6_4 x6_5 x6_6 x6_7 x6_8 x6_9 y6_0 y6_1 y6_2 y6_3 f6_0 f6_1
  clear x7_0 x7_1 x7_2 x7_3 x7_4 x7_5 x7_6 x7_7 x7_8 x7_9
  have g0 : ∀ o1 o2 : Obj, ((r7.alloc o1).alloc o2).cell? ⟨w.heap.size + 1, 0, none⟩ = some (.int .u16 v0) := fun o1 o2 => (World.cell?_alloc_lt _ _ _ (by simp only [World.size_alloc]; omega)).trans ((World.cell?_alloc_lt _ _ _ (by omega)).trans y7_0)
  have g1 : ∀ o1 o2 : Obj, ((r7.alloc o1).alloc o2).cell? ⟨w.heap.size + 1, 1, none⟩ = some (.int .u16 v1) := fun o1 o2 => (World.cell?_alloc_lt _ _ _ (by simp only [World.size_alloc]; omega)).trans ((World.cell?_alloc_lt _ _ _ (by omega)).trans y7_1)
  have g2 : ∀ o1 o2 : Obj, ((r7.alloc o1).alloc o2).cell? ⟨w.heap.size + 1 + 1, 0, none⟩ = some (.int .u16 0) := fun o1 o2 => (World.cell?_alloc_lt _ _ _ (by simp only [World.size_alloc]; omega)).trans ((World.cell?_alloc_lt _ _ _ (by omega)).trans y7_2)
  have g3 : ∀ o1 o2 : Obj, ((r7.alloc o1).alloc o2).cell? ⟨w.heap.size + 1 + 1, 1, none⟩ = some (.int .u16 0) := fun o1 o2 => (World.cell?_alloc_lt _ _ _ (by simp only [World.size_alloc]; omega)).trans ((World.cell?_alloc_lt _ _ _ (by omega)).trans y7_3)
  have gf0 : ∀ o1 o2 : Obj, ((r7.alloc o1).alloc o2).frozen? ⟨w.heap.size + 1 + 1, 0, none⟩ = false := fun o1 o2 => ((bl_alloc (bl_alloc (Below.refl _ _) o1) o2).frozen (p := ⟨w.heap.size + 1 + 1, 0, none⟩) (by omega)).trans f7_0
  have gf1 : ∀ o1 o2 : Obj, ((r7.alloc o1).alloc o2).frozen? ⟨w.heap.size + 1 + 1, 1, none⟩ = false := fun o1 o2 => ((bl_alloc (bl_alloc (Below.refl _ _) o1) o2).frozen (p := ⟨w.heap.size + 1 + 1, 1, none⟩) (by omega)).trans f7_1
  go_wp2_with fail
  refine (N1 _).mono ?_
  rintro _ r9 ⟨rfl, hbr9⟩
  obtain ⟨hcr9, hfr9⟩ := bcell hbr9
  have hzr9 := hbr9.size
  try simp only [World.size_alloc, World.size_setCell, World.size_drew] at hzr9
  have u0 : r9.cell? ⟨r7.heap.size, 0, none⟩ = some (.int .u16 a0) := (hcr9 _ _ (by simp only [World.size_alloc]; omega)).trans (by simp)
  have u1 : r9.cell? ⟨r7.heap.size, 1, none⟩ = some (.int .u16 a1) := (hcr9 _ _ (by simp only [World.size_alloc]; omega)).trans (by simp)
  have u2 : r9.cell? ⟨r7.heap.size + 1, 0, none⟩ = some (.int .u16 b0) := (hcr9 _ _ (by simp only [World.size_alloc]; omega)).trans (by simp)
  have u3 : r9.cell? ⟨r7.heap.size + 1, 1, none⟩ = some (.int .u16 b1) := (hcr9 _ _ (by simp only [World.size_alloc]; omega)).trans (by simp)
  have u4 : r9.cell? ⟨w.heap.size + 1 + 1, 0, none⟩ = some (.int .u16 0) := (hcr9 _ _ (by simp only [World.size_alloc]; omega)).trans (g2 _ _)
  have u5 : r9.cell? ⟨w.heap.size + 1 + 1, 1, none⟩ = some (.int .u16 0) := (hcr9 _ _ (by simp only [World.size_alloc]; omega)).trans (g3 _ _)
  have u6 : r9.frozen? ⟨w.heap.size + 1 + 1, 0, none⟩ = false := (hfr9 _ _ (by simp only [World.size_alloc]; omega)).trans (gf0 _ _)
  have u7 : r9.frozen? ⟨w.heap.size + 1 + 1, 1, none⟩ = false := (hfr9 _ _ (by simp only [World.size_alloc]; omega)).trans (gf1 _ _)
  have hw9 := bl_via hbr9 (bl_alloc (bl_alloc hw7 _) _)
  clear g0 g1 g2 g3 gf0 gf1 hcr9 hfr9 hbr9 hw7 y7_0 y7_1 y7_2 y7_3 f7_0 f7_1
  have m0 : r7.heap.size < r9.heap.size := by omega
  have m1 : r7.heap.size + 1 < r9.heap.size := by omega
  have m3 : w.heap.size + 1 + 1 < r9.heap.size := by omega
  go_wp2_with fail
  have hecr10 := @Ext.cell
  refine wp_region_ext (by kernel_rfl) (by kernel_rfl) ?_
  repeat (first | go_big_quiet_skip | (go_big_quiet_want; go_big_quiet_op; first | go_big_quiet_on | (go_big_quiet_call ((first | fail | (go_at_call 29; with_reducible exact ext_call (N2 _)) | (go_at_call 29; with_reducible exact ext_call (N3 _)))))))
  clear hecr10
  refine wpQuiet_nil ?_
  rintro r10 ⟨⟨_, hbr10⟩, rfl⟩
  obtain ⟨hcr10, hfr10⟩ := bcell hbr10
  have hzr10 := hbr10.size
  try simp only [World.size_alloc, World.size_setCell, World.size_drew] at hzr10
  have n0 : r7.heap.size < r10.heap.size := by omega
  have n1 : r7.heap.size + 1 < r10.heap.size := by omega
  have n3 : w.heap.size + 1 + 1 < r10.heap.size := by omega
  cases bm
  · go_wp2
    refine bodyPost_ret (v := (.tuple #[(.agg #[.int .u16 (b0), .int .u16 (b1)]), .int .i64 0])) (by simp [results, Try.results18, go_sem, *]) rfl ⟨rfl, ?_⟩; exact (by repeat' (first | (with_reducible exact Below.refl _ _) | (with_reducible refine bl_set ?_ _ ?_) | (with_reducible refine bl_alloc ?_ _) | (with_reducible refine bl_drew ?_) | (with_reducible refine bl_via (by with_reducible assumption) ?_) | (with_reducible assumption) | omega | (simp only []; omega) | (simp; omega)))
  · go_wp2
    refine bodyPost_ret (v := (.tuple #[(.agg #[.int .u16 (a0), .int .u16 (a1)]), .int .i64 0])) (by simp [results, Try.results18, go_sem, *]) rfl ⟨rfl, ?_⟩; exact (by repeat' (first | (with_reducible exact Below.refl _ _) | (with_reducible refine bl_set ?_ _ ?_) | (with_reducible refine bl_alloc ?_ _) | (with_reducible refine bl_drew ?_) | (with_reducible refine bl_via (by with_reducible assumption) ?_) | (with_reducible assumption) | omega | (simp only []; omega) | (simp; omega)))
end Go.Proofs.Ytpmocegfiniafaa
