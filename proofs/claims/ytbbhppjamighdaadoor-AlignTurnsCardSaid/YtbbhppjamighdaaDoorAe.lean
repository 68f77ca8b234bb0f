/- Contracts of the reference's Turn, of package align, over this translation: what it returns, given what its callees return. -/
import Derived.Test.YtbbhppjamighdaaDoorAa
namespace Go.Proofs.YtbbhppjamighdaaDoor
set_option linter.unusedSimpArgs false
set_option linter.unusedVariables false
open Go.RowKit

set_option maxRecDepth 100000 in
set_option maxHeartbeats 8000000 in
theorem rturn_of_0 (a0 a1 s0 s1 c0 c1 n0 n1 v sv : Int) (v0 : -268435455 ≤ v) (v1 : v ≤ 268435455) (sv0 : -268435455 ≤ sv) (sv1 : sv ≤ 268435455)
    (C1 : (∀ w, Calls Tryd.prog 22 #[(.agg #[.int .u16 (a0), .int .u16 (a1)])] w fun e w' => e = .returned (.int .i64 v) ∧ Below w.heap.size w w')) (C2 : (∀ w, Calls Tryd.prog 60 #[.int .i64 v] w fun e w' => e = .returned (.agg #[.int .u16 (s0), .int .u16 (s1)]) ∧ Below w.heap.size w w')) (C3 : (∀ w, Calls Tryd.prog 60 #[.int .i64 (v + 67108864)] w fun e w' => e = .returned (.agg #[.int .u16 (c0), .int .u16 (c1)]) ∧ Below w.heap.size w w')) (C4 : (∀ w, Calls Tryd.prog 22 #[(.agg #[.int .u16 (s0), .int .u16 (s1)])] w fun e w' => e = .returned (.int .i64 sv) ∧ Below w.heap.size w w')) (C5 : (∀ w, Calls Tryd.prog 29 #[.int .i64 (-sv)] w fun e w' => e = .returned (.agg #[.int .u16 (n0), .int .u16 (n1)]) ∧ Below w.heap.size w w')) (w : World) :
    Calls Tryd.prog 28 #[.int .i64 0, (.agg #[.int .u16 (a0), .int .u16 (a1)])] w fun e w' => e = .returned (.agg #[.int .u16 (8192), .int .u16 (0), .int .u16 (0), .int .u16 (0), .int .u16 (0), .int .u16 (0), .int .u16 (0), .int .u16 (0), .int .u16 (c0), .int .u16 (c1), .int .u16 (n0), .int .u16 (n1), .int .u16 (0), .int .u16 (0), .int .u16 (s0), .int .u16 (s1), .int .u16 (c0), .int .u16 (c1)]) ∧ Below w.heap.size w w' := by
  go_enter Tryd.func28, Tryd.ntmps28
  go_wp2_with fail
  refine (C1 _).mono ?_
  rintro _ r1 ⟨rfl, hbr1⟩
  obtain ⟨hcr1, hfr1⟩ := bcell hbr1
  have hzr1 := hbr1.size
  try simp only [World.size_alloc, World.size_setCell, World.size_drew] at hzr1
  have hlr1w0 : w.heap.size < r1.heap.size := by omega
  have hlr1w1 : w.heap.size + 1 < r1.heap.size := by omega
  have t1 : r1.there (w.heap.size + 1) 0 18 := there_on (there_row (c := #[.int .u16 0, .int .u16 0, .int .u16 0, .int .u16 0, .int .u16 0, .int .u16 0, .int .u16 0, .int .u16 0, .int .u16 0, .int .u16 0, .int .u16 0, .int .u16 0, .int .u16 0, .int .u16 0, .int .u16 0, .int .u16 0, .int .u16 0, .int .u16 0]) (t := 29) (heap_new (by simp only [World.size_alloc])) (by simp)) hbr1 (by (try simp only [World.size_alloc, World.size_setCell]); omega)
  go_wp2_with fail
  refine (C2 _).mono ?_
  rintro _ r2 ⟨rfl, hbr2⟩
  obtain ⟨hcr2, hfr2⟩ := bcell hbr2
  have hzr2 := hbr2.size
  try simp only [World.size_alloc, World.size_setCell, World.size_drew] at hzr2
  have hlr2w0 : w.heap.size < r2.heap.size := by omega
  have hlr2w1 : w.heap.size + 1 < r2.heap.size := by omega
  have t2 : r2.there (w.heap.size + 1) 0 18 := there_on t1 hbr2 (by omega)
  go_wp2_with fail
  refine (C3 _).mono ?_
  rintro _ r3 ⟨rfl, hbr3⟩
  obtain ⟨hcr3, hfr3⟩ := bcell hbr3
  have hzr3 := hbr3.size
  try simp only [World.size_alloc, World.size_setCell, World.size_drew] at hzr3
  have hlr3w0 : w.heap.size < r3.heap.size := by omega
  have hlr3w1 : w.heap.size + 1 < r3.heap.size := by omega
  have hlr3r20 : r2.heap.size < r3.heap.size := by omega
  have t3 : r3.there (w.heap.size + 1) 0 18 := there_on (there_on t2 (bl_alloc (Below.refl _ _) _) (by omega)) hbr3 (by simp only [World.size_alloc]; omega)
  go_wp2_with fail
  have ta := there_on (there_on t3 (bl_alloc (Below.refl _ _) (.cells #[.int .u16 c0, .int .u16 c1] 25)) (by omega)) (bl_alloc (Below.refl _ _) (.cells #[.int .u16 8192, .int .u16 0, .int .u16 0, .int .u16 0, .int .u16 0, .int .u16 0, .int .u16 0, .int .u16 0, .int .u16 0, .int .u16 0, .int .u16 0, .int .u16 0, .int .u16 0, .int .u16 0, .int .u16 0, .int .u16 0, .int .u16 0, .int .u16 0] 29)) (by simp only [World.size_alloc]; omega)
  refine wp_gen (fun W => Below w.heap.size w W ∧ r3.heap.size + 2 ≤ W.heap.size ∧ (W.cell? ⟨r2.heap.size, 0, none⟩ = some (.int .u16 s0) ∧ W.cell? ⟨r2.heap.size, 1, none⟩ = some (.int .u16 s1)) ∧ (W.cell? ⟨r3.heap.size, 0, none⟩ = some (.int .u16 c0) ∧ W.cell? ⟨r3.heap.size, 1, none⟩ = some (.int .u16 c1)) ∧ W.there (w.heap.size + 1) 0 18 ∧ Holds W (r3.heap.size + 1) 18 (pick18 8192 0 0 0 0 0 0 0 0 0 0 0 0 0 0 0 0 0) ∧ Loose W (r3.heap.size + 1)) ⟨(by repeat' (first | (with_reducible exact Below.refl _ _) | (with_reducible refine bl_set ?_ _ ?_) | (with_reducible refine bl_alloc ?_ _) | (with_reducible refine bl_drew ?_) | (with_reducible refine bl_via (by with_reducible assumption) ?_) | (with_reducible assumption) | omega | (simp only []; omega) | (simp; omega))), by simp, ⟨by go_simp, by go_simp⟩, ⟨by go_simp, by go_simp⟩, ta, ?_, ?_⟩ ?_
  · apply all18 <;> (first | (show _ = some (Value.int .u16 0); go_simp) | (show _ = some (Value.int .u16 8192); go_simp))
  · intro o; go_simp
  clear t1 t2 t3 ta hbr1 hcr1 hfr1 hbr2 hcr2 hfr2 hbr3 hcr3 hfr3
  rintro W0 ⟨hb0, hs0, ⟨p00, p01⟩, ⟨q00, q01⟩, t0, m0, l0⟩
  have z0a : r2.heap.size < W0.heap.size := by omega
  have z0b : r3.heap.size < W0.heap.size := by omega
  have hecr4 := @Ext.cell
  refine wp_region_ext_tail 5 (by kernel_rfl) (by kernel_rfl) ?_
  simp only [List.take_succ_cons, List.take_zero, List.drop_succ_cons, List.drop_zero]
  repeat (first | go_big_quiet_skip | (go_big_quiet_want; go_big_quiet_op; first | go_big_quiet_on | (go_big_quiet_call ((first | fail | fail)))))
  clear hecr4
  refine wpQuiet_nil ?_
  rintro r4 ⟨⟨_, hbr4⟩, rfl⟩
  obtain ⟨hcr4, hfr4⟩ := bcell hbr4
  have hzr4 := hbr4.size
  try simp only [World.size_alloc, World.size_setCell, World.size_drew] at hzr4
  have p400 := (hcr4 _ 0 z0a).trans p00
  have p401 := (hcr4 _ 1 z0a).trans p01
  have q400 := (hcr4 _ 0 z0b).trans q00
  have q401 := (hcr4 _ 1 z0b).trans q01
  have t40 := there_on t0 hbr4 (by omega)
  have m40 := m0.on hbr4 (by omega)
  have l40 := l0.on hbr4 (by omega)
  have hb40 := bl_via hbr4 hb0
  have x4a := m40 8 (by omega)
  have x4b := m40 9 (by omega)
  have y4a := l40 8
  have y4b := l40 9
  have zz4 : r3.heap.size + 1 + 1 ≤ r4.heap.size := by omega
  clear hcr4 hfr4 hbr4 p00 p01 q00 q01 t0 m0 l0 hb0 z0a z0b hs0 hzr4
  go_wp2_with fail
  refine wp_gen (fun W => Below w.heap.size w W ∧ r3.heap.size + 2 ≤ W.heap.size ∧ (W.cell? ⟨r2.heap.size, 0, none⟩ = some (.int .u16 s0) ∧ W.cell? ⟨r2.heap.size, 1, none⟩ = some (.int .u16 s1)) ∧ (W.cell? ⟨r3.heap.size, 0, none⟩ = some (.int .u16 c0) ∧ W.cell? ⟨r3.heap.size, 1, none⟩ = some (.int .u16 c1)) ∧ W.there (w.heap.size + 1) 0 18 ∧ Holds W (r3.heap.size + 1) 18 (pick18 8192 0 0 0 0 0 0 0 c0 c1 0 0 0 0 0 0 0 0) ∧ Loose W (r3.heap.size + 1)) ⟨(by repeat' (first | (with_reducible exact Below.refl _ _) | (with_reducible refine bl_set ?_ _ ?_) | (with_reducible refine bl_alloc ?_ _) | (with_reducible refine bl_drew ?_) | (with_reducible refine bl_via (by with_reducible assumption) ?_) | (with_reducible assumption) | omega | (simp only []; omega) | (simp; omega))), by simp only [World.size_setCell]; omega, ⟨by go_simp, by go_simp⟩, ⟨by go_simp, by go_simp⟩, there_cell (there_cell t40 (by omega)) (by omega), Holds.congr ((m40.set _ _ (by omega)).set _ _ (by omega)) (by apply all18 <;> rfl), (l40.set _ _).set _ _⟩ ?_
  clear p400 p401 q400 q401 t40 m40 l40 hb40 x4a x4b y4a y4b zz4
  rintro W1 ⟨hb1, hs1, ⟨p10, p11⟩, ⟨q10, q11⟩, t1, m1, l1⟩
  have z1a : r2.heap.size < W1.heap.size := by omega
  have z1b : r3.heap.size < W1.heap.size := by omega
  have hecr5 := @Ext.cell
  refine wp_region_ext_tail 5 (by kernel_rfl) (by kernel_rfl) ?_
  simp only [List.take_succ_cons, List.take_zero, List.drop_succ_cons, List.drop_zero]
  repeat (first | go_big_quiet_skip | (go_big_quiet_want; go_big_quiet_op; first | go_big_quiet_on | (go_big_quiet_call ((first | fail | fail)))))
  clear hecr5
  refine wpQuiet_nil ?_
  rintro r5 ⟨⟨_, hbr5⟩, rfl⟩
  obtain ⟨hcr5, hfr5⟩ := bcell hbr5
  have hzr5 := hbr5.size
  try simp only [World.size_alloc, World.size_setCell, World.size_drew] at hzr5
  have p500 := (hcr5 _ 0 z1a).trans p10
  have p501 := (hcr5 _ 1 z1a).trans p11
  have q500 := (hcr5 _ 0 z1b).trans q10
  have q501 := (hcr5 _ 1 z1b).trans q11
  have t50 := there_on t1 hbr5 (by omega)
  have m50 := m1.on hbr5 (by omega)
  have l50 := l1.on hbr5 (by omega)
  have hb50 := bl_via hbr5 hb1
  have x5a := m50 16 (by omega)
  have x5b := m50 17 (by omega)
  have y5a := l50 16
  have y5b := l50 17
  have zz5 : r3.heap.size + 1 + 1 ≤ r5.heap.size := by omega
  clear hcr5 hfr5 hbr5 p10 p11 q10 q11 t1 m1 l1 hb1 z1a z1b hs1 hzr5
  go_wp2_with fail
  refine wp_gen (fun W => Below w.heap.size w W ∧ r3.heap.size + 2 ≤ W.heap.size ∧ (W.cell? ⟨r2.heap.size, 0, none⟩ = some (.int .u16 s0) ∧ W.cell? ⟨r2.heap.size, 1, none⟩ = some (.int .u16 s1)) ∧ (W.cell? ⟨r3.heap.size, 0, none⟩ = some (.int .u16 c0) ∧ W.cell? ⟨r3.heap.size, 1, none⟩ = some (.int .u16 c1)) ∧ W.there (w.heap.size + 1) 0 18 ∧ Holds W (r3.heap.size + 1) 18 (pick18 8192 0 0 0 0 0 0 0 c0 c1 0 0 0 0 0 0 c0 c1) ∧ Loose W (r3.heap.size + 1)) ⟨(by repeat' (first | (with_reducible exact Below.refl _ _) | (with_reducible refine bl_set ?_ _ ?_) | (with_reducible refine bl_alloc ?_ _) | (with_reducible refine bl_drew ?_) | (with_reducible refine bl_via (by with_reducible assumption) ?_) | (with_reducible assumption) | omega | (simp only []; omega) | (simp; omega))), by simp only [World.size_setCell]; omega, ⟨by go_simp, by go_simp⟩, ⟨by go_simp, by go_simp⟩, there_cell (there_cell t50 (by omega)) (by omega), Holds.congr ((m50.set _ _ (by omega)).set _ _ (by omega)) (by apply all18 <;> rfl), (l50.set _ _).set _ _⟩ ?_
  clear p500 p501 q500 q501 t50 m50 l50 hb50 x5a x5b y5a y5b zz5
  rintro W2 ⟨hb2, hs2, ⟨p20, p21⟩, ⟨q20, q21⟩, t2, m2, l2⟩
  have z2a : r2.heap.size < W2.heap.size := by omega
  have z2b : r3.heap.size < W2.heap.size := by omega
  have hecr6 := @Ext.cell
  refine wp_region_ext_tail 8 (by kernel_rfl) (by kernel_rfl) ?_
  simp only [List.take_succ_cons, List.take_zero, List.drop_succ_cons, List.drop_zero]
  repeat (first | go_big_quiet_skip | (go_big_quiet_want; go_big_quiet_op; first | go_big_quiet_on | (go_big_quiet_call ((first | fail | (go_at_call 22; with_reducible exact ext_call (C4 _)) | (go_at_call 29; with_reducible exact ext_call (C5 _)))))))
  clear hecr6
  refine wpQuiet_nil ?_
  rintro r6 ⟨⟨_, hbr6⟩, rfl⟩
  obtain ⟨hcr6, hfr6⟩ := bcell hbr6
  have hzr6 := hbr6.size
  try simp only [World.size_alloc, World.size_setCell, World.size_drew] at hzr6
  have p600 := (hcr6 _ 0 z2a).trans p20
  have p601 := (hcr6 _ 1 z2a).trans p21
  have q600 := (hcr6 _ 0 z2b).trans q20
  have q601 := (hcr6 _ 1 z2b).trans q21
  have t60 := there_on t2 hbr6 (by omega)
  have m60 := m2.on hbr6 (by omega)
  have l60 := l2.on hbr6 (by omega)
  have hb60 := bl_via hbr6 hb2
  have x6a := m60 10 (by omega)
  have x6b := m60 11 (by omega)
  have y6a := l60 10
  have y6b := l60 11
  have zz6 : r3.heap.size + 1 + 1 ≤ r6.heap.size := by omega
  clear hcr6 hfr6 hbr6 p20 p21 q20 q21 t2 m2 l2 hb2 z2a z2b hs2 hzr6
  go_wp2_with fail
  refine wp_gen (fun W => Below w.heap.size w W ∧ r3.heap.size + 2 ≤ W.heap.size ∧ (W.cell? ⟨r2.heap.size, 0, none⟩ = some (.int .u16 s0) ∧ W.cell? ⟨r2.heap.size, 1, none⟩ = some (.int .u16 s1)) ∧ (W.cell? ⟨r3.heap.size, 0, none⟩ = some (.int .u16 c0) ∧ W.cell? ⟨r3.heap.size, 1, none⟩ = some (.int .u16 c1)) ∧ W.there (w.heap.size + 1) 0 18 ∧ Holds W (r3.heap.size + 1) 18 (pick18 8192 0 0 0 0 0 0 0 c0 c1 n0 n1 0 0 0 0 c0 c1) ∧ Loose W (r3.heap.size + 1)) ⟨(by repeat' (first | (with_reducible exact Below.refl _ _) | (with_reducible refine bl_set ?_ _ ?_) | (with_reducible refine bl_alloc ?_ _) | (with_reducible refine bl_drew ?_) | (with_reducible refine bl_via (by with_reducible assumption) ?_) | (with_reducible assumption) | omega | (simp only []; omega) | (simp; omega))), by simp only [World.size_setCell]; omega, ⟨by go_simp, by go_simp⟩, ⟨by go_simp, by go_simp⟩, there_cell (there_cell t60 (by omega)) (by omega), Holds.congr ((m60.set _ _ (by omega)).set _ _ (by omega)) (by apply all18 <;> rfl), (l60.set _ _).set _ _⟩ ?_
  clear p600 p601 q600 q601 t60 m60 l60 hb60 x6a x6b y6a y6b zz6
  rintro W3 ⟨hb3, hs3, ⟨p30, p31⟩, ⟨q30, q31⟩, t3, m3, l3⟩
  have z3a : r2.heap.size < W3.heap.size := by omega
  have z3b : r3.heap.size < W3.heap.size := by omega
  have hecr7 := @Ext.cell
  refine wp_region_ext_tail 5 (by kernel_rfl) (by kernel_rfl) ?_
  simp only [List.take_succ_cons, List.take_zero, List.drop_succ_cons, List.drop_zero]
  repeat (first | go_big_quiet_skip | (go_big_quiet_want; go_big_quiet_op; first | go_big_quiet_on | (go_big_quiet_call ((first | fail | fail)))))
  clear hecr7
  refine wpQuiet_nil ?_
  rintro r7 ⟨⟨_, hbr7⟩, rfl⟩
  obtain ⟨hcr7, hfr7⟩ := bcell hbr7
  have hzr7 := hbr7.size
  try simp only [World.size_alloc, World.size_setCell, World.size_drew] at hzr7
  have t7 := there_cell (there_cell (there_on t3 hbr7 (by omega)) (show (r3.heap.size + 1) ≠ w.heap.size + 1 by omega) (o := 14) (v := .int .u16 s0)) (show (r3.heap.size + 1) ≠ w.heap.size + 1 by omega) (o := 15) (v := .int .u16 s1)
  have m7 := m3.on hbr7 (by omega)
  have l7 := l3.on hbr7 (by omega)
  have hb7 := bl_via hbr7 hb3
  have x7a := m7 14 (by omega)
  have x7b := m7 15 (by omega)
  have y7a := l7 14
  have y7b := l7 15
  have hr : (_ : World).rangeAt (r3.heap.size + 1) 0 [.int .u16 8192, .int .u16 0, .int .u16 0, .int .u16 0, .int .u16 0, .int .u16 0, .int .u16 0, .int .u16 0, .int .u16 c0, .int .u16 c1, .int .u16 n0, .int .u16 n1, .int .u16 0, .int .u16 0, .int .u16 s0, .int .u16 s1, .int .u16 c0, .int .u16 c1] := (Holds.congr (g' := pick18 8192 0 0 0 0 0 0 0 c0 c1 n0 n1 0 0 s0 s1 c0 c1) ((m7.set 14 s0 (by omega)).set 15 s1 (by omega)) (by apply all18 <;> rfl)).range18 (by omega)
  clear hcr7 hfr7 hbr7 t3 m3 l3 m7 l7 hb3
  go_wp2_with (first | fail | (refine WL.h ?_; refine wl_load (op := { dst := some 53, op := .load 29 (.tmp 8), type := _, pos := _, after := _, guard := none }) rfl 29 (.tmp 8) rfl (r3.heap.size + 1) 0 rfl [.int .u16 8192, .int .u16 0, .int .u16 0, .int .u16 0, .int .u16 0, .int .u16 0, .int .u16 0, .int .u16 0, .int .u16 c0, .int .u16 c1, .int .u16 n0, .int .u16 n1, .int .u16 0, .int .u16 0, .int .u16 s0, .int .u16 s1, .int .u16 c0, .int .u16 c1] _ hr hu_mat rfl hi_mat ?_; simp only [Act.put, List.setIfInBounds_toArray, List.set_cons_zero, List.set_cons_succ]) | (refine WL.h ?_; refine wl_store (op := { dst := none, op := .store 29 (.tmp 4) (.tmp 53), type := _, pos := _, after := _, guard := none }) rfl 29 (.tmp 4) (.tmp 53) rfl (w.heap.size + 1) 0 _ rfl rfl t7 hi_mat (by simp [Value.oneCell']) ?_; simp only [Act.put, List.setIfInBounds_toArray, List.set_cons_zero, List.set_cons_succ]))
  refine bodyPost_ret (v := (.agg #[.int .u16 (8192), .int .u16 (0), .int .u16 (0), .int .u16 (0), .int .u16 (0), .int .u16 (0), .int .u16 (0), .int .u16 (0), .int .u16 (c0), .int .u16 (c1), .int .u16 (n0), .int .u16 (n1), .int .u16 (0), .int .u16 (0), .int .u16 (s0), .int .u16 (s1), .int .u16 (c0), .int .u16 (c1)])) (results_one Tryd.results28 rfl (run_loadVar_mid _ _ 0 _ _ _ (World.rangeAt_setCells_same _ _ _ _ t7) hu_mat rfl hi_mat)) rfl ⟨rfl, bl_cells _ _ _ _ (by repeat' (first | (with_reducible exact Below.refl _ _) | (with_reducible refine bl_set ?_ _ ?_) | (with_reducible refine bl_alloc ?_ _) | (with_reducible refine bl_drew ?_) | (with_reducible refine bl_via (by with_reducible assumption) ?_) | (with_reducible assumption) | omega | (simp only []; omega) | (simp; omega))) (by omega)⟩
set_option maxRecDepth 100000 in
set_option maxHeartbeats 8000000 in
theorem rturn_of_1 (a0 a1 s0 s1 c0 c1 n0 n1 v sv : Int) (v0 : -268435455 ≤ v) (v1 : v ≤ 268435455) (sv0 : -268435455 ≤ sv) (sv1 : sv ≤ 268435455)
    (C1 : (∀ w, Calls Tryd.prog 22 #[(.agg #[.int .u16 (a0), .int .u16 (a1)])] w fun e w' => e = .returned (.int .i64 v) ∧ Below w.heap.size w w')) (C2 : (∀ w, Calls Tryd.prog 60 #[.int .i64 v] w fun e w' => e = .returned (.agg #[.int .u16 (s0), .int .u16 (s1)]) ∧ Below w.heap.size w w')) (C3 : (∀ w, Calls Tryd.prog 60 #[.int .i64 (v + 67108864)] w fun e w' => e = .returned (.agg #[.int .u16 (c0), .int .u16 (c1)]) ∧ Below w.heap.size w w')) (C4 : (∀ w, Calls Tryd.prog 22 #[(.agg #[.int .u16 (s0), .int .u16 (s1)])] w fun e w' => e = .returned (.int .i64 sv) ∧ Below w.heap.size w w')) (C5 : (∀ w, Calls Tryd.prog 29 #[.int .i64 (-sv)] w fun e w' => e = .returned (.agg #[.int .u16 (n0), .int .u16 (n1)]) ∧ Below w.heap.size w w')) (w : World) :
    Calls Tryd.prog 28 #[.int .i64 1, (.agg #[.int .u16 (a0), .int .u16 (a1)])] w fun e w' => e = .returned (.agg #[.int .u16 (c0), .int .u16 (c1), .int .u16 (0), .int .u16 (0), .int .u16 (s0), .int .u16 (s1), .int .u16 (0), .int .u16 (0), .int .u16 (8192), .int .u16 (0), .int .u16 (0), .int .u16 (0), .int .u16 (n0), .int .u16 (n1), .int .u16 (0), .int .u16 (0), .int .u16 (c0), .int .u16 (c1)]) ∧ Below w.heap.size w w' := by
  go_enter Tryd.func28, Tryd.ntmps28
  go_wp2_with fail
  refine (C1 _).mono ?_
  rintro _ r1 ⟨rfl, hbr1⟩
  obtain ⟨hcr1, hfr1⟩ := bcell hbr1
  have hzr1 := hbr1.size
  try simp only [World.size_alloc, World.size_setCell, World.size_drew] at hzr1
  have hlr1w0 : w.heap.size < r1.heap.size := by omega
  have hlr1w1 : w.heap.size + 1 < r1.heap.size := by omega
  have t1 : r1.there (w.heap.size + 1) 0 18 := there_on (there_row (c := #[.int .u16 0, .int .u16 0, .int .u16 0, .int .u16 0, .int .u16 0, .int .u16 0, .int .u16 0, .int .u16 0, .int .u16 0, .int .u16 0, .int .u16 0, .int .u16 0, .int .u16 0, .int .u16 0, .int .u16 0, .int .u16 0, .int .u16 0, .int .u16 0]) (t := 29) (heap_new (by simp only [World.size_alloc])) (by simp)) hbr1 (by (try simp only [World.size_alloc, World.size_setCell]); omega)
  go_wp2_with fail
  refine (C2 _).mono ?_
  rintro _ r2 ⟨rfl, hbr2⟩
  obtain ⟨hcr2, hfr2⟩ := bcell hbr2
  have hzr2 := hbr2.size
  try simp only [World.size_alloc, World.size_setCell, World.size_drew] at hzr2
  have hlr2w0 : w.heap.size < r2.heap.size := by omega
  have hlr2w1 : w.heap.size + 1 < r2.heap.size := by omega
  have t2 : r2.there (w.heap.size + 1) 0 18 := there_on t1 hbr2 (by omega)
  go_wp2_with fail
  refine (C3 _).mono ?_
  rintro _ r3 ⟨rfl, hbr3⟩
  obtain ⟨hcr3, hfr3⟩ := bcell hbr3
  have hzr3 := hbr3.size
  try simp only [World.size_alloc, World.size_setCell, World.size_drew] at hzr3
  have hlr3w0 : w.heap.size < r3.heap.size := by omega
  have hlr3w1 : w.heap.size + 1 < r3.heap.size := by omega
  have hlr3r20 : r2.heap.size < r3.heap.size := by omega
  have t3 : r3.there (w.heap.size + 1) 0 18 := there_on (there_on t2 (bl_alloc (Below.refl _ _) _) (by omega)) hbr3 (by simp only [World.size_alloc]; omega)
  go_wp2_with fail
  have ta := there_on (there_on t3 (bl_alloc (Below.refl _ _) (.cells #[.int .u16 c0, .int .u16 c1] 25)) (by omega)) (bl_alloc (Below.refl _ _) (.cells #[.int .u16 0, .int .u16 0, .int .u16 0, .int .u16 0, .int .u16 0, .int .u16 0, .int .u16 0, .int .u16 0, .int .u16 8192, .int .u16 0, .int .u16 0, .int .u16 0, .int .u16 0, .int .u16 0, .int .u16 0, .int .u16 0, .int .u16 0, .int .u16 0] 29)) (by simp only [World.size_alloc]; omega)
  refine wp_gen (fun W => Below w.heap.size w W ∧ r3.heap.size + 2 ≤ W.heap.size ∧ (W.cell? ⟨r2.heap.size, 0, none⟩ = some (.int .u16 s0) ∧ W.cell? ⟨r2.heap.size, 1, none⟩ = some (.int .u16 s1)) ∧ (W.cell? ⟨r3.heap.size, 0, none⟩ = some (.int .u16 c0) ∧ W.cell? ⟨r3.heap.size, 1, none⟩ = some (.int .u16 c1)) ∧ W.there (w.heap.size + 1) 0 18 ∧ Holds W (r3.heap.size + 1) 18 (pick18 0 0 0 0 0 0 0 0 8192 0 0 0 0 0 0 0 0 0) ∧ Loose W (r3.heap.size + 1)) ⟨(by repeat' (first | (with_reducible exact Below.refl _ _) | (with_reducible refine bl_set ?_ _ ?_) | (with_reducible refine bl_alloc ?_ _) | (with_reducible refine bl_drew ?_) | (with_reducible refine bl_via (by with_reducible assumption) ?_) | (with_reducible assumption) | omega | (simp only []; omega) | (simp; omega))), by simp, ⟨by go_simp, by go_simp⟩, ⟨by go_simp, by go_simp⟩, ta, ?_, ?_⟩ ?_
  · apply all18 <;> (first | (show _ = some (Value.int .u16 0); go_simp) | (show _ = some (Value.int .u16 8192); go_simp))
  · intro o; go_simp
  clear t1 t2 t3 ta hbr1 hcr1 hfr1 hbr2 hcr2 hfr2 hbr3 hcr3 hfr3
  rintro W0 ⟨hb0, hs0, ⟨p00, p01⟩, ⟨q00, q01⟩, t0, m0, l0⟩
  have z0a : r2.heap.size < W0.heap.size := by omega
  have z0b : r3.heap.size < W0.heap.size := by omega
  have hecr4 := @Ext.cell
  refine wp_region_ext_tail 5 (by kernel_rfl) (by kernel_rfl) ?_
  simp only [List.take_succ_cons, List.take_zero, List.drop_succ_cons, List.drop_zero]
  repeat (first | go_big_quiet_skip | (go_big_quiet_want; go_big_quiet_op; first | go_big_quiet_on | (go_big_quiet_call ((first | fail | fail)))))
  clear hecr4
  refine wpQuiet_nil ?_
  rintro r4 ⟨⟨_, hbr4⟩, rfl⟩
  obtain ⟨hcr4, hfr4⟩ := bcell hbr4
  have hzr4 := hbr4.size
  try simp only [World.size_alloc, World.size_setCell, World.size_drew] at hzr4
  have p400 := (hcr4 _ 0 z0a).trans p00
  have p401 := (hcr4 _ 1 z0a).trans p01
  have q400 := (hcr4 _ 0 z0b).trans q00
  have q401 := (hcr4 _ 1 z0b).trans q01
  have t40 := there_on t0 hbr4 (by omega)
  have m40 := m0.on hbr4 (by omega)
  have l40 := l0.on hbr4 (by omega)
  have hb40 := bl_via hbr4 hb0
  have x4a := m40 16 (by omega)
  have x4b := m40 17 (by omega)
  have y4a := l40 16
  have y4b := l40 17
  have zz4 : r3.heap.size + 1 + 1 ≤ r4.heap.size := by omega
  clear hcr4 hfr4 hbr4 p00 p01 q00 q01 t0 m0 l0 hb0 z0a z0b hs0 hzr4
  go_wp2_with fail
  refine wp_gen (fun W => Below w.heap.size w W ∧ r3.heap.size + 2 ≤ W.heap.size ∧ (W.cell? ⟨r2.heap.size, 0, none⟩ = some (.int .u16 s0) ∧ W.cell? ⟨r2.heap.size, 1, none⟩ = some (.int .u16 s1)) ∧ (W.cell? ⟨r3.heap.size, 0, none⟩ = some (.int .u16 c0) ∧ W.cell? ⟨r3.heap.size, 1, none⟩ = some (.int .u16 c1)) ∧ W.there (w.heap.size + 1) 0 18 ∧ Holds W (r3.heap.size + 1) 18 (pick18 0 0 0 0 0 0 0 0 8192 0 0 0 0 0 0 0 c0 c1) ∧ Loose W (r3.heap.size + 1)) ⟨(by repeat' (first | (with_reducible exact Below.refl _ _) | (with_reducible refine bl_set ?_ _ ?_) | (with_reducible refine bl_alloc ?_ _) | (with_reducible refine bl_drew ?_) | (with_reducible refine bl_via (by with_reducible assumption) ?_) | (with_reducible assumption) | omega | (simp only []; omega) | (simp; omega))), by simp only [World.size_setCell]; omega, ⟨by go_simp, by go_simp⟩, ⟨by go_simp, by go_simp⟩, there_cell (there_cell t40 (by omega)) (by omega), Holds.congr ((m40.set _ _ (by omega)).set _ _ (by omega)) (by apply all18 <;> rfl), (l40.set _ _).set _ _⟩ ?_
  clear p400 p401 q400 q401 t40 m40 l40 hb40 x4a x4b y4a y4b zz4
  rintro W1 ⟨hb1, hs1, ⟨p10, p11⟩, ⟨q10, q11⟩, t1, m1, l1⟩
  have z1a : r2.heap.size < W1.heap.size := by omega
  have z1b : r3.heap.size < W1.heap.size := by omega
  have hecr5 := @Ext.cell
  refine wp_region_ext_tail 5 (by kernel_rfl) (by kernel_rfl) ?_
  simp only [List.take_succ_cons, List.take_zero, List.drop_succ_cons, List.drop_zero]
  repeat (first | go_big_quiet_skip | (go_big_quiet_want; go_big_quiet_op; first | go_big_quiet_on | (go_big_quiet_call ((first | fail | fail)))))
  clear hecr5
  refine wpQuiet_nil ?_
  rintro r5 ⟨⟨_, hbr5⟩, rfl⟩
  obtain ⟨hcr5, hfr5⟩ := bcell hbr5
  have hzr5 := hbr5.size
  try simp only [World.size_alloc, World.size_setCell, World.size_drew] at hzr5
  have p500 := (hcr5 _ 0 z1a).trans p10
  have p501 := (hcr5 _ 1 z1a).trans p11
  have q500 := (hcr5 _ 0 z1b).trans q10
  have q501 := (hcr5 _ 1 z1b).trans q11
  have t50 := there_on t1 hbr5 (by omega)
  have m50 := m1.on hbr5 (by omega)
  have l50 := l1.on hbr5 (by omega)
  have hb50 := bl_via hbr5 hb1
  have x5a := m50 0 (by omega)
  have x5b := m50 1 (by omega)
  have y5a := l50 0
  have y5b := l50 1
  have zz5 : r3.heap.size + 1 + 1 ≤ r5.heap.size := by omega
  clear hcr5 hfr5 hbr5 p10 p11 q10 q11 t1 m1 l1 hb1 z1a z1b hs1 hzr5
  go_wp2_with fail
  refine wp_gen (fun W => Below w.heap.size w W ∧ r3.heap.size + 2 ≤ W.heap.size ∧ (W.cell? ⟨r2.heap.size, 0, none⟩ = some (.int .u16 s0) ∧ W.cell? ⟨r2.heap.size, 1, none⟩ = some (.int .u16 s1)) ∧ (W.cell? ⟨r3.heap.size, 0, none⟩ = some (.int .u16 c0) ∧ W.cell? ⟨r3.heap.size, 1, none⟩ = some (.int .u16 c1)) ∧ W.there (w.heap.size + 1) 0 18 ∧ Holds W (r3.heap.size + 1) 18 (pick18 c0 c1 0 0 0 0 0 0 8192 0 0 0 0 0 0 0 c0 c1) ∧ Loose W (r3.heap.size + 1)) ⟨(by repeat' (first | (with_reducible exact Below.refl _ _) | (with_reducible refine bl_set ?_ _ ?_) | (with_reducible refine bl_alloc ?_ _) | (with_reducible refine bl_drew ?_) | (with_reducible refine bl_via (by with_reducible assumption) ?_) | (with_reducible assumption) | omega | (simp only []; omega) | (simp; omega))), by simp only [World.size_setCell]; omega, ⟨by go_simp, by go_simp⟩, ⟨by go_simp, by go_simp⟩, there_cell (there_cell t50 (by omega)) (by omega), Holds.congr ((m50.set _ _ (by omega)).set _ _ (by omega)) (by apply all18 <;> rfl), (l50.set _ _).set _ _⟩ ?_
  clear p500 p501 q500 q501 t50 m50 l50 hb50 x5a x5b y5a y5b zz5
  rintro W2 ⟨hb2, hs2, ⟨p20, p21⟩, ⟨q20, q21⟩, t2, m2, l2⟩
  have z2a : r2.heap.size < W2.heap.size := by omega
  have z2b : r3.heap.size < W2.heap.size := by omega
  have hecr6 := @Ext.cell
  refine wp_region_ext_tail 8 (by kernel_rfl) (by kernel_rfl) ?_
  simp only [List.take_succ_cons, List.take_zero, List.drop_succ_cons, List.drop_zero]
  repeat (first | go_big_quiet_skip | (go_big_quiet_want; go_big_quiet_op; first | go_big_quiet_on | (go_big_quiet_call ((first | fail | (go_at_call 22; with_reducible exact ext_call (C4 _)) | (go_at_call 29; with_reducible exact ext_call (C5 _)))))))
  clear hecr6
  refine wpQuiet_nil ?_
  rintro r6 ⟨⟨_, hbr6⟩, rfl⟩
  obtain ⟨hcr6, hfr6⟩ := bcell hbr6
  have hzr6 := hbr6.size
  try simp only [World.size_alloc, World.size_setCell, World.size_drew] at hzr6
  have p600 := (hcr6 _ 0 z2a).trans p20
  have p601 := (hcr6 _ 1 z2a).trans p21
  have q600 := (hcr6 _ 0 z2b).trans q20
  have q601 := (hcr6 _ 1 z2b).trans q21
  have t60 := there_on t2 hbr6 (by omega)
  have m60 := m2.on hbr6 (by omega)
  have l60 := l2.on hbr6 (by omega)
  have hb60 := bl_via hbr6 hb2
  have x6a := m60 12 (by omega)
  have x6b := m60 13 (by omega)
  have y6a := l60 12
  have y6b := l60 13
  have zz6 : r3.heap.size + 1 + 1 ≤ r6.heap.size := by omega
  clear hcr6 hfr6 hbr6 p20 p21 q20 q21 t2 m2 l2 hb2 z2a z2b hs2 hzr6
  go_wp2_with fail
  refine wp_gen (fun W => Below w.heap.size w W ∧ r3.heap.size + 2 ≤ W.heap.size ∧ (W.cell? ⟨r2.heap.size, 0, none⟩ = some (.int .u16 s0) ∧ W.cell? ⟨r2.heap.size, 1, none⟩ = some (.int .u16 s1)) ∧ (W.cell? ⟨r3.heap.size, 0, none⟩ = some (.int .u16 c0) ∧ W.cell? ⟨r3.heap.size, 1, none⟩ = some (.int .u16 c1)) ∧ W.there (w.heap.size + 1) 0 18 ∧ Holds W (r3.heap.size + 1) 18 (pick18 c0 c1 0 0 0 0 0 0 8192 0 0 0 n0 n1 0 0 c0 c1) ∧ Loose W (r3.heap.size + 1)) ⟨(by repeat' (first | (with_reducible exact Below.refl _ _) | (with_reducible refine bl_set ?_ _ ?_) | (with_reducible refine bl_alloc ?_ _) | (with_reducible refine bl_drew ?_) | (with_reducible refine bl_via (by with_reducible assumption) ?_) | (with_reducible assumption) | omega | (simp only []; omega) | (simp; omega))), by simp only [World.size_setCell]; omega, ⟨by go_simp, by go_simp⟩, ⟨by go_simp, by go_simp⟩, there_cell (there_cell t60 (by omega)) (by omega), Holds.congr ((m60.set _ _ (by omega)).set _ _ (by omega)) (by apply all18 <;> rfl), (l60.set _ _).set _ _⟩ ?_
  clear p600 p601 q600 q601 t60 m60 l60 hb60 x6a x6b y6a y6b zz6
  rintro W3 ⟨hb3, hs3, ⟨p30, p31⟩, ⟨q30, q31⟩, t3, m3, l3⟩
  have z3a : r2.heap.size < W3.heap.size := by omega
  have z3b : r3.heap.size < W3.heap.size := by omega
  have hecr7 := @Ext.cell
  refine wp_region_ext_tail 5 (by kernel_rfl) (by kernel_rfl) ?_
  simp only [List.take_succ_cons, List.take_zero, List.drop_succ_cons, List.drop_zero]
  repeat (first | go_big_quiet_skip | (go_big_quiet_want; go_big_quiet_op; first | go_big_quiet_on | (go_big_quiet_call ((first | fail | fail)))))
  clear hecr7
  refine wpQuiet_nil ?_
  rintro r7 ⟨⟨_, hbr7⟩, rfl⟩
  obtain ⟨hcr7, hfr7⟩ := bcell hbr7
  have hzr7 := hbr7.size
  try simp only [World.size_alloc, World.size_setCell, World.size_drew] at hzr7
  have t7 := there_cell (there_cell (there_on t3 hbr7 (by omega)) (show (r3.heap.size + 1) ≠ w.heap.size + 1 by omega) (o := 4) (v := .int .u16 s0)) (show (r3.heap.size + 1) ≠ w.heap.size + 1 by omega) (o := 5) (v := .int .u16 s1)
  have m7 := m3.on hbr7 (by omega)
  have l7 := l3.on hbr7 (by omega)
  have hb7 := bl_via hbr7 hb3
  have x7a := m7 4 (by omega)
  have x7b := m7 5 (by omega)
  have y7a := l7 4
  have y7b := l7 5
  have hr : (_ : World).rangeAt (r3.heap.size + 1) 0 [.int .u16 c0, .int .u16 c1, .int .u16 0, .int .u16 0, .int .u16 s0, .int .u16 s1, .int .u16 0, .int .u16 0, .int .u16 8192, .int .u16 0, .int .u16 0, .int .u16 0, .int .u16 n0, .int .u16 n1, .int .u16 0, .int .u16 0, .int .u16 c0, .int .u16 c1] := (Holds.congr (g' := pick18 c0 c1 0 0 s0 s1 0 0 8192 0 0 0 n0 n1 0 0 c0 c1) ((m7.set 4 s0 (by omega)).set 5 s1 (by omega)) (by apply all18 <;> rfl)).range18 (by omega)
  clear hcr7 hfr7 hbr7 t3 m3 l3 m7 l7 hb3
  go_wp2_with (first | fail | (refine WL.h ?_; refine wl_load (op := { dst := some 53, op := .load 29 (.tmp 8), type := _, pos := _, after := _, guard := none }) rfl 29 (.tmp 8) rfl (r3.heap.size + 1) 0 rfl [.int .u16 c0, .int .u16 c1, .int .u16 0, .int .u16 0, .int .u16 s0, .int .u16 s1, .int .u16 0, .int .u16 0, .int .u16 8192, .int .u16 0, .int .u16 0, .int .u16 0, .int .u16 n0, .int .u16 n1, .int .u16 0, .int .u16 0, .int .u16 c0, .int .u16 c1] _ hr hu_mat rfl hi_mat ?_; simp only [Act.put, List.setIfInBounds_toArray, List.set_cons_zero, List.set_cons_succ]) | (refine WL.h ?_; refine wl_store (op := { dst := none, op := .store 29 (.tmp 4) (.tmp 53), type := _, pos := _, after := _, guard := none }) rfl 29 (.tmp 4) (.tmp 53) rfl (w.heap.size + 1) 0 _ rfl rfl t7 hi_mat (by simp [Value.oneCell']) ?_; simp only [Act.put, List.setIfInBounds_toArray, List.set_cons_zero, List.set_cons_succ]))
  refine bodyPost_ret (v := (.agg #[.int .u16 (c0), .int .u16 (c1), .int .u16 (0), .int .u16 (0), .int .u16 (s0), .int .u16 (s1), .int .u16 (0), .int .u16 (0), .int .u16 (8192), .int .u16 (0), .int .u16 (0), .int .u16 (0), .int .u16 (n0), .int .u16 (n1), .int .u16 (0), .int .u16 (0), .int .u16 (c0), .int .u16 (c1)])) (results_one Tryd.results28 rfl (run_loadVar_mid _ _ 0 _ _ _ (World.rangeAt_setCells_same _ _ _ _ t7) hu_mat rfl hi_mat)) rfl ⟨rfl, bl_cells _ _ _ _ (by repeat' (first | (with_reducible exact Below.refl _ _) | (with_reducible refine bl_set ?_ _ ?_) | (with_reducible refine bl_alloc ?_ _) | (with_reducible refine bl_drew ?_) | (with_reducible refine bl_via (by with_reducible assumption) ?_) | (with_reducible assumption) | omega | (simp only []; omega) | (simp; omega))) (by omega)⟩
set_option maxRecDepth 100000 in
set_option maxHeartbeats 8000000 in
theorem rturn_of_2 (a0 a1 s0 s1 c0 c1 n0 n1 v sv : Int) (v0 : -268435455 ≤ v) (v1 : v ≤ 268435455) (sv0 : -268435455 ≤ sv) (sv1 : sv ≤ 268435455)
    (C1 : (∀ w, Calls Tryd.prog 22 #[(.agg #[.int .u16 (a0), .int .u16 (a1)])] w fun e w' => e = .returned (.int .i64 v) ∧ Below w.heap.size w w')) (C2 : (∀ w, Calls Tryd.prog 60 #[.int .i64 v] w fun e w' => e = .returned (.agg #[.int .u16 (s0), .int .u16 (s1)]) ∧ Below w.heap.size w w')) (C3 : (∀ w, Calls Tryd.prog 60 #[.int .i64 (v + 67108864)] w fun e w' => e = .returned (.agg #[.int .u16 (c0), .int .u16 (c1)]) ∧ Below w.heap.size w w')) (C4 : (∀ w, Calls Tryd.prog 22 #[(.agg #[.int .u16 (s0), .int .u16 (s1)])] w fun e w' => e = .returned (.int .i64 sv) ∧ Below w.heap.size w w')) (C5 : (∀ w, Calls Tryd.prog 29 #[.int .i64 (-sv)] w fun e w' => e = .returned (.agg #[.int .u16 (n0), .int .u16 (n1)]) ∧ Below w.heap.size w w')) (w : World) :
    Calls Tryd.prog 28 #[.int .i64 2, (.agg #[.int .u16 (a0), .int .u16 (a1)])] w fun e w' => e = .returned (.agg #[.int .u16 (c0), .int .u16 (c1), .int .u16 (n0), .int .u16 (n1), .int .u16 (0), .int .u16 (0), .int .u16 (s0), .int .u16 (s1), .int .u16 (c0), .int .u16 (c1), .int .u16 (0), .int .u16 (0), .int .u16 (0), .int .u16 (0), .int .u16 (0), .int .u16 (0), .int .u16 (8192), .int .u16 (0)]) ∧ Below w.heap.size w w' := by
  go_enter Tryd.func28, Tryd.ntmps28
  go_wp2_with fail
  refine (C1 _).mono ?_
  rintro _ r1 ⟨rfl, hbr1⟩
  obtain ⟨hcr1, hfr1⟩ := bcell hbr1
  have hzr1 := hbr1.size
  try simp only [World.size_alloc, World.size_setCell, World.size_drew] at hzr1
  have hlr1w0 : w.heap.size < r1.heap.size := by omega
  have hlr1w1 : w.heap.size + 1 < r1.heap.size := by omega
  have t1 : r1.there (w.heap.size + 1) 0 18 := there_on (there_row (c := #[.int .u16 0, .int .u16 0, .int .u16 0, .int .u16 0, .int .u16 0, .int .u16 0, .int .u16 0, .int .u16 0, .int .u16 0, .int .u16 0, .int .u16 0, .int .u16 0, .int .u16 0, .int .u16 0, .int .u16 0, .int .u16 0, .int .u16 0, .int .u16 0]) (t := 29) (heap_new (by simp only [World.size_alloc])) (by simp)) hbr1 (by (try simp only [World.size_alloc, World.size_setCell]); omega)
  go_wp2_with fail
  refine (C2 _).mono ?_
  rintro _ r2 ⟨rfl, hbr2⟩
  obtain ⟨hcr2, hfr2⟩ := bcell hbr2
  have hzr2 := hbr2.size
  try simp only [World.size_alloc, World.size_setCell, World.size_drew] at hzr2
  have hlr2w0 : w.heap.size < r2.heap.size := by omega
  have hlr2w1 : w.heap.size + 1 < r2.heap.size := by omega
  have t2 : r2.there (w.heap.size + 1) 0 18 := there_on t1 hbr2 (by omega)
  go_wp2_with fail
  refine (C3 _).mono ?_
  rintro _ r3 ⟨rfl, hbr3⟩
  obtain ⟨hcr3, hfr3⟩ := bcell hbr3
  have hzr3 := hbr3.size
  try simp only [World.size_alloc, World.size_setCell, World.size_drew] at hzr3
  have hlr3w0 : w.heap.size < r3.heap.size := by omega
  have hlr3w1 : w.heap.size + 1 < r3.heap.size := by omega
  have hlr3r20 : r2.heap.size < r3.heap.size := by omega
  have t3 : r3.there (w.heap.size + 1) 0 18 := there_on (there_on t2 (bl_alloc (Below.refl _ _) _) (by omega)) hbr3 (by simp only [World.size_alloc]; omega)
  go_wp2_with fail
  have ta := there_on (there_on t3 (bl_alloc (Below.refl _ _) (.cells #[.int .u16 c0, .int .u16 c1] 25)) (by omega)) (bl_alloc (Below.refl _ _) (.cells #[.int .u16 0, .int .u16 0, .int .u16 0, .int .u16 0, .int .u16 0, .int .u16 0, .int .u16 0, .int .u16 0, .int .u16 0, .int .u16 0, .int .u16 0, .int .u16 0, .int .u16 0, .int .u16 0, .int .u16 0, .int .u16 0, .int .u16 8192, .int .u16 0] 29)) (by simp only [World.size_alloc]; omega)
  refine wp_gen (fun W => Below w.heap.size w W ∧ r3.heap.size + 2 ≤ W.heap.size ∧ (W.cell? ⟨r2.heap.size, 0, none⟩ = some (.int .u16 s0) ∧ W.cell? ⟨r2.heap.size, 1, none⟩ = some (.int .u16 s1)) ∧ (W.cell? ⟨r3.heap.size, 0, none⟩ = some (.int .u16 c0) ∧ W.cell? ⟨r3.heap.size, 1, none⟩ = some (.int .u16 c1)) ∧ W.there (w.heap.size + 1) 0 18 ∧ Holds W (r3.heap.size + 1) 18 (pick18 0 0 0 0 0 0 0 0 0 0 0 0 0 0 0 0 8192 0) ∧ Loose W (r3.heap.size + 1)) ⟨(by repeat' (first | (with_reducible exact Below.refl _ _) | (with_reducible refine bl_set ?_ _ ?_) | (with_reducible refine bl_alloc ?_ _) | (with_reducible refine bl_drew ?_) | (with_reducible refine bl_via (by with_reducible assumption) ?_) | (with_reducible assumption) | omega | (simp only []; omega) | (simp; omega))), by simp, ⟨by go_simp, by go_simp⟩, ⟨by go_simp, by go_simp⟩, ta, ?_, ?_⟩ ?_
  · apply all18 <;> (first | (show _ = some (Value.int .u16 0); go_simp) | (show _ = some (Value.int .u16 8192); go_simp))
  · intro o; go_simp
  clear t1 t2 t3 ta hbr1 hcr1 hfr1 hbr2 hcr2 hfr2 hbr3 hcr3 hfr3
  rintro W0 ⟨hb0, hs0, ⟨p00, p01⟩, ⟨q00, q01⟩, t0, m0, l0⟩
  have z0a : r2.heap.size < W0.heap.size := by omega
  have z0b : r3.heap.size < W0.heap.size := by omega
  have hecr4 := @Ext.cell
  refine wp_region_ext_tail 5 (by kernel_rfl) (by kernel_rfl) ?_
  simp only [List.take_succ_cons, List.take_zero, List.drop_succ_cons, List.drop_zero]
  repeat (first | go_big_quiet_skip | (go_big_quiet_want; go_big_quiet_op; first | go_big_quiet_on | (go_big_quiet_call ((first | fail | fail)))))
  clear hecr4
  refine wpQuiet_nil ?_
  rintro r4 ⟨⟨_, hbr4⟩, rfl⟩
  obtain ⟨hcr4, hfr4⟩ := bcell hbr4
  have hzr4 := hbr4.size
  try simp only [World.size_alloc, World.size_setCell, World.size_drew] at hzr4
  have p400 := (hcr4 _ 0 z0a).trans p00
  have p401 := (hcr4 _ 1 z0a).trans p01
  have q400 := (hcr4 _ 0 z0b).trans q00
  have q401 := (hcr4 _ 1 z0b).trans q01
  have t40 := there_on t0 hbr4 (by omega)
  have m40 := m0.on hbr4 (by omega)
  have l40 := l0.on hbr4 (by omega)
  have hb40 := bl_via hbr4 hb0
  have x4a := m40 0 (by omega)
  have x4b := m40 1 (by omega)
  have y4a := l40 0
  have y4b := l40 1
  have zz4 : r3.heap.size + 1 + 1 ≤ r4.heap.size := by omega
  clear hcr4 hfr4 hbr4 p00 p01 q00 q01 t0 m0 l0 hb0 z0a z0b hs0 hzr4
  go_wp2_with fail
  refine wp_gen (fun W => Below w.heap.size w W ∧ r3.heap.size + 2 ≤ W.heap.size ∧ (W.cell? ⟨r2.heap.size, 0, none⟩ = some (.int .u16 s0) ∧ W.cell? ⟨r2.heap.size, 1, none⟩ = some (.int .u16 s1)) ∧ (W.cell? ⟨r3.heap.size, 0, none⟩ = some (.int .u16 c0) ∧ W.cell? ⟨r3.heap.size, 1, none⟩ = some (.int .u16 c1)) ∧ W.there (w.heap.size + 1) 0 18 ∧ Holds W (r3.heap.size + 1) 18 (pick18 c0 c1 0 0 0 0 0 0 0 0 0 0 0 0 0 0 8192 0) ∧ Loose W (r3.heap.size + 1)) ⟨(by repeat' (first | (with_reducible exact Below.refl _ _) | (with_reducible refine bl_set ?_ _ ?_) | (with_reducible refine bl_alloc ?_ _) | (with_reducible refine bl_drew ?_) | (with_reducible refine bl_via (by with_reducible assumption) ?_) | (with_reducible assumption) | omega | (simp only []; omega) | (simp; omega))), by simp only [World.size_setCell]; omega, ⟨by go_simp, by go_simp⟩, ⟨by go_simp, by go_simp⟩, there_cell (there_cell t40 (by omega)) (by omega), Holds.congr ((m40.set _ _ (by omega)).set _ _ (by omega)) (by apply all18 <;> rfl), (l40.set _ _).set _ _⟩ ?_
  clear p400 p401 q400 q401 t40 m40 l40 hb40 x4a x4b y4a y4b zz4
  rintro W1 ⟨hb1, hs1, ⟨p10, p11⟩, ⟨q10, q11⟩, t1, m1, l1⟩
  have z1a : r2.heap.size < W1.heap.size := by omega
  have z1b : r3.heap.size < W1.heap.size := by omega
  have hecr5 := @Ext.cell
  refine wp_region_ext_tail 5 (by kernel_rfl) (by kernel_rfl) ?_
  simp only [List.take_succ_cons, List.take_zero, List.drop_succ_cons, List.drop_zero]
  repeat (first | go_big_quiet_skip | (go_big_quiet_want; go_big_quiet_op; first | go_big_quiet_on | (go_big_quiet_call ((first | fail | fail)))))
  clear hecr5
  refine wpQuiet_nil ?_
  rintro r5 ⟨⟨_, hbr5⟩, rfl⟩
  obtain ⟨hcr5, hfr5⟩ := bcell hbr5
  have hzr5 := hbr5.size
  try simp only [World.size_alloc, World.size_setCell, World.size_drew] at hzr5
  have p500 := (hcr5 _ 0 z1a).trans p10
  have p501 := (hcr5 _ 1 z1a).trans p11
  have q500 := (hcr5 _ 0 z1b).trans q10
  have q501 := (hcr5 _ 1 z1b).trans q11
  have t50 := there_on t1 hbr5 (by omega)
  have m50 := m1.on hbr5 (by omega)
  have l50 := l1.on hbr5 (by omega)
  have hb50 := bl_via hbr5 hb1
  have x5a := m50 8 (by omega)
  have x5b := m50 9 (by omega)
  have y5a := l50 8
  have y5b := l50 9
  have zz5 : r3.heap.size + 1 + 1 ≤ r5.heap.size := by omega
  clear hcr5 hfr5 hbr5 p10 p11 q10 q11 t1 m1 l1 hb1 z1a z1b hs1 hzr5
  go_wp2_with fail
  refine wp_gen (fun W => Below w.heap.size w W ∧ r3.heap.size + 2 ≤ W.heap.size ∧ (W.cell? ⟨r2.heap.size, 0, none⟩ = some (.int .u16 s0) ∧ W.cell? ⟨r2.heap.size, 1, none⟩ = some (.int .u16 s1)) ∧ (W.cell? ⟨r3.heap.size, 0, none⟩ = some (.int .u16 c0) ∧ W.cell? ⟨r3.heap.size, 1, none⟩ = some (.int .u16 c1)) ∧ W.there (w.heap.size + 1) 0 18 ∧ Holds W (r3.heap.size + 1) 18 (pick18 c0 c1 0 0 0 0 0 0 c0 c1 0 0 0 0 0 0 8192 0) ∧ Loose W (r3.heap.size + 1)) ⟨(by repeat' (first | (with_reducible exact Below.refl _ _) | (with_reducible refine bl_set ?_ _ ?_) | (with_reducible refine bl_alloc ?_ _) | (with_reducible refine bl_drew ?_) | (with_reducible refine bl_via (by with_reducible assumption) ?_) | (with_reducible assumption) | omega | (simp only []; omega) | (simp; omega))), by simp only [World.size_setCell]; omega, ⟨by go_simp, by go_simp⟩, ⟨by go_simp, by go_simp⟩, there_cell (there_cell t50 (by omega)) (by omega), Holds.congr ((m50.set _ _ (by omega)).set _ _ (by omega)) (by apply all18 <;> rfl), (l50.set _ _).set _ _⟩ ?_
  clear p500 p501 q500 q501 t50 m50 l50 hb50 x5a x5b y5a y5b zz5
  rintro W2 ⟨hb2, hs2, ⟨p20, p21⟩, ⟨q20, q21⟩, t2, m2, l2⟩
  have z2a : r2.heap.size < W2.heap.size := by omega
  have z2b : r3.heap.size < W2.heap.size := by omega
  have hecr6 := @Ext.cell
  refine wp_region_ext_tail 8 (by kernel_rfl) (by kernel_rfl) ?_
  simp only [List.take_succ_cons, List.take_zero, List.drop_succ_cons, List.drop_zero]
  repeat (first | go_big_quiet_skip | (go_big_quiet_want; go_big_quiet_op; first | go_big_quiet_on | (go_big_quiet_call ((first | fail | (go_at_call 22; with_reducible exact ext_call (C4 _)) | (go_at_call 29; with_reducible exact ext_call (C5 _)))))))
  clear hecr6
  refine wpQuiet_nil ?_
  rintro r6 ⟨⟨_, hbr6⟩, rfl⟩
  obtain ⟨hcr6, hfr6⟩ := bcell hbr6
  have hzr6 := hbr6.size
  try simp only [World.size_alloc, World.size_setCell, World.size_drew] at hzr6
  have p600 := (hcr6 _ 0 z2a).trans p20
  have p601 := (hcr6 _ 1 z2a).trans p21
  have q600 := (hcr6 _ 0 z2b).trans q20
  have q601 := (hcr6 _ 1 z2b).trans q21
  have t60 := there_on t2 hbr6 (by omega)
  have m60 := m2.on hbr6 (by omega)
  have l60 := l2.on hbr6 (by omega)
  have hb60 := bl_via hbr6 hb2
  have x6a := m60 2 (by omega)
  have x6b := m60 3 (by omega)
  have y6a := l60 2
  have y6b := l60 3
  have zz6 : r3.heap.size + 1 + 1 ≤ r6.heap.size := by omega
  clear hcr6 hfr6 hbr6 p20 p21 q20 q21 t2 m2 l2 hb2 z2a z2b hs2 hzr6
  go_wp2_with fail
  refine wp_gen (fun W => Below w.heap.size w W ∧ r3.heap.size + 2 ≤ W.heap.size ∧ (W.cell? ⟨r2.heap.size, 0, none⟩ = some (.int .u16 s0) ∧ W.cell? ⟨r2.heap.size, 1, none⟩ = some (.int .u16 s1)) ∧ (W.cell? ⟨r3.heap.size, 0, none⟩ = some (.int .u16 c0) ∧ W.cell? ⟨r3.heap.size, 1, none⟩ = some (.int .u16 c1)) ∧ W.there (w.heap.size + 1) 0 18 ∧ Holds W (r3.heap.size + 1) 18 (pick18 c0 c1 n0 n1 0 0 0 0 c0 c1 0 0 0 0 0 0 8192 0) ∧ Loose W (r3.heap.size + 1)) ⟨(by repeat' (first | (with_reducible exact Below.refl _ _) | (with_reducible refine bl_set ?_ _ ?_) | (with_reducible refine bl_alloc ?_ _) | (with_reducible refine bl_drew ?_) | (with_reducible refine bl_via (by with_reducible assumption) ?_) | (with_reducible assumption) | omega | (simp only []; omega) | (simp; omega))), by simp only [World.size_setCell]; omega, ⟨by go_simp, by go_simp⟩, ⟨by go_simp, by go_simp⟩, there_cell (there_cell t60 (by omega)) (by omega), Holds.congr ((m60.set _ _ (by omega)).set _ _ (by omega)) (by apply all18 <;> rfl), (l60.set _ _).set _ _⟩ ?_
  clear p600 p601 q600 q601 t60 m60 l60 hb60 x6a x6b y6a y6b zz6
  rintro W3 ⟨hb3, hs3, ⟨p30, p31⟩, ⟨q30, q31⟩, t3, m3, l3⟩
  have z3a : r2.heap.size < W3.heap.size := by omega
  have z3b : r3.heap.size < W3.heap.size := by omega
  have hecr7 := @Ext.cell
  refine wp_region_ext_tail 5 (by kernel_rfl) (by kernel_rfl) ?_
  simp only [List.take_succ_cons, List.take_zero, List.drop_succ_cons, List.drop_zero]
  repeat (first | go_big_quiet_skip | (go_big_quiet_want; go_big_quiet_op; first | go_big_quiet_on | (go_big_quiet_call ((first | fail | fail)))))
  clear hecr7
  refine wpQuiet_nil ?_
  rintro r7 ⟨⟨_, hbr7⟩, rfl⟩
  obtain ⟨hcr7, hfr7⟩ := bcell hbr7
  have hzr7 := hbr7.size
  try simp only [World.size_alloc, World.size_setCell, World.size_drew] at hzr7
  have t7 := there_cell (there_cell (there_on t3 hbr7 (by omega)) (show (r3.heap.size + 1) ≠ w.heap.size + 1 by omega) (o := 6) (v := .int .u16 s0)) (show (r3.heap.size + 1) ≠ w.heap.size + 1 by omega) (o := 7) (v := .int .u16 s1)
  have m7 := m3.on hbr7 (by omega)
  have l7 := l3.on hbr7 (by omega)
  have hb7 := bl_via hbr7 hb3
  have x7a := m7 6 (by omega)
  have x7b := m7 7 (by omega)
  have y7a := l7 6
  have y7b := l7 7
  have hr : (_ : World).rangeAt (r3.heap.size + 1) 0 [.int .u16 c0, .int .u16 c1, .int .u16 n0, .int .u16 n1, .int .u16 0, .int .u16 0, .int .u16 s0, .int .u16 s1, .int .u16 c0, .int .u16 c1, .int .u16 0, .int .u16 0, .int .u16 0, .int .u16 0, .int .u16 0, .int .u16 0, .int .u16 8192, .int .u16 0] := (Holds.congr (g' := pick18 c0 c1 n0 n1 0 0 s0 s1 c0 c1 0 0 0 0 0 0 8192 0) ((m7.set 6 s0 (by omega)).set 7 s1 (by omega)) (by apply all18 <;> rfl)).range18 (by omega)
  clear hcr7 hfr7 hbr7 t3 m3 l3 m7 l7 hb3
  go_wp2_with (first | fail | (refine WL.h ?_; refine wl_load (op := { dst := some 53, op := .load 29 (.tmp 8), type := _, pos := _, after := _, guard := none }) rfl 29 (.tmp 8) rfl (r3.heap.size + 1) 0 rfl [.int .u16 c0, .int .u16 c1, .int .u16 n0, .int .u16 n1, .int .u16 0, .int .u16 0, .int .u16 s0, .int .u16 s1, .int .u16 c0, .int .u16 c1, .int .u16 0, .int .u16 0, .int .u16 0, .int .u16 0, .int .u16 0, .int .u16 0, .int .u16 8192, .int .u16 0] _ hr hu_mat rfl hi_mat ?_; simp only [Act.put, List.setIfInBounds_toArray, List.set_cons_zero, List.set_cons_succ]) | (refine WL.h ?_; refine wl_store (op := { dst := none, op := .store 29 (.tmp 4) (.tmp 53), type := _, pos := _, after := _, guard := none }) rfl 29 (.tmp 4) (.tmp 53) rfl (w.heap.size + 1) 0 _ rfl rfl t7 hi_mat (by simp [Value.oneCell']) ?_; simp only [Act.put, List.setIfInBounds_toArray, List.set_cons_zero, List.set_cons_succ]))
  refine bodyPost_ret (v := (.agg #[.int .u16 (c0), .int .u16 (c1), .int .u16 (n0), .int .u16 (n1), .int .u16 (0), .int .u16 (0), .int .u16 (s0), .int .u16 (s1), .int .u16 (c0), .int .u16 (c1), .int .u16 (0), .int .u16 (0), .int .u16 (0), .int .u16 (0), .int .u16 (0), .int .u16 (0), .int .u16 (8192), .int .u16 (0)])) (results_one Tryd.results28 rfl (run_loadVar_mid _ _ 0 _ _ _ (World.rangeAt_setCells_same _ _ _ _ t7) hu_mat rfl hi_mat)) rfl ⟨rfl, bl_cells _ _ _ _ (by repeat' (first | (with_reducible exact Below.refl _ _) | (with_reducible refine bl_set ?_ _ ?_) | (with_reducible refine bl_alloc ?_ _) | (with_reducible refine bl_drew ?_) | (with_reducible refine bl_via (by with_reducible assumption) ?_) | (with_reducible assumption) | omega | (simp only []; omega) | (simp; omega))) (by omega)⟩
end Go.Proofs.YtbbhppjamighdaaDoor
