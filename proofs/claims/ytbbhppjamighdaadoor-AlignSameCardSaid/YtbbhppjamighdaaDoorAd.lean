/- Contracts of Turn, of package align and of its reference, over this translation: what they return, given what their callees return. -/
import Derived.Test.YtbbhppjamighdaaDoorAa
import Derived.Test.YtbbhppjamighdaaDoorSg
import Derived.Deep.RegionWith
namespace Go.Proofs.YtbbhppjamighdaaDoor
set_option linter.unusedSimpArgs false
set_option linter.unusedVariables false
open Go.RowKit

theorem exactly_of (v : Int) (d0 d1 : Int) (o : Bool) (C : ∀ w, Calls Tryd.prog 61 #[.int .i64 v] w fun e w' => e = .returned (.tuple #[(.agg #[.int .u16 (d0), .int .u16 (d1)]), .bool o]) ∧ Below w.heap.size w w') (w : World) :
    Calls Tryd.prog 33 #[.int .i64 v] w fun e w' => e = .returned (.agg #[.int .u16 (d0), .int .u16 (d1)]) ∧ Below w.heap.size w w' := by
  go_enter Tryd.func33, Tryd.ntmps33
  go_wp2_with fail
  refine (C _).mono ?_
  rintro _ r1 ⟨rfl, hbr1⟩
  obtain ⟨hcr1, hfr1⟩ := bcell hbr1
  have hzr1 := hbr1.size
  try simp only [World.size_alloc, World.size_setCell, World.size_drew] at hzr1
  have hlr1w0 : w.heap.size < r1.heap.size := by omega
  go_wp2
  refine bodyPost_ret (v := (.agg #[.int .u16 (d0), .int .u16 (d1)])) (by simp [results, Tryd.results33, go_sem, *]) rfl ⟨rfl, ?_⟩; exact (by repeat' (first | (with_reducible exact Below.refl _ _) | (with_reducible refine bl_set ?_ _ ?_) | (with_reducible refine bl_alloc ?_ _) | (with_reducible refine bl_drew ?_) | (with_reducible refine bl_via (by with_reducible assumption) ?_) | (with_reducible assumption) | omega | (simp only []; omega) | (simp; omega)))

set_option maxRecDepth 100000 in
set_option maxHeartbeats 8000000 in
theorem turn_of_0 (a0 a1 s0 s1 c0 c1 n0 n1 : Int)
    (C1 : ∀ w, Sines w → Calls Tryd.prog 44 #[(.agg #[.int .u16 (a0), .int .u16 (a1)])] w fun e w' => e = .returned (.agg #[.int .u16 (s0), .int .u16 (s1)]) ∧ Below w.heap.size w w') (C2 : ∀ w, Sines w → Calls Tryd.prog 45 #[(.agg #[.int .u16 (a0), .int .u16 (a1)])] w fun e w' => e = .returned (.agg #[.int .u16 (c0), .int .u16 (c1)]) ∧ Below w.heap.size w w') (C3 : (∀ w, Calls Tryd.prog 46 #[(.agg #[.int .u16 (s0), .int .u16 (s1)])] w fun e w' => e = .returned (.agg #[.int .u16 (n0), .int .u16 (n1)]) ∧ Below w.heap.size w w')) (C4 : (∀ w, Calls Tryd.prog 33 #[.int .i64 134217728] w fun e w' => e = .returned (.agg #[.int .u16 (8192), .int .u16 (0)]) ∧ Below w.heap.size w w')) (w : World) (hS : Sines w) :
    Calls Tryd.prog 18 #[.int .i64 0, (.agg #[.int .u16 (a0), .int .u16 (a1)])] w fun e w' => e = .returned (.tuple #[(.agg #[.int .u16 (8192), .int .u16 (0), .int .u16 (0), .int .u16 (0), .int .u16 (0), .int .u16 (0), .int .u16 (0), .int .u16 (0), .int .u16 (c0), .int .u16 (c1), .int .u16 (n0), .int .u16 (n1), .int .u16 (0), .int .u16 (0), .int .u16 (s0), .int .u16 (s1), .int .u16 (c0), .int .u16 (c1)]), .int .i64 0]) ∧ Below w.heap.size w w' := by
  have hS1 := (hS.on (bl_alloc (bl_alloc (Below.refl _ _) (.cells #[.int .u16 a0, .int .u16 a1] 25)) (.cells #[.int .u16 0, .int .u16 0, .int .u16 0, .int .u16 0, .int .u16 0, .int .u16 0, .int .u16 0, .int .u16 0, .int .u16 0, .int .u16 0, .int .u16 0, .int .u16 0, .int .u16 0, .int .u16 0, .int .u16 0, .int .u16 0, .int .u16 0, .int .u16 0] 29)))
  go_enter Tryd.func18, Tryd.ntmps18
  go_wp2_with fail
  have hecr1 := @Ext.cell2
  refine wp_region_float2 4 _ _ _ _ _ (.cells #[.int .u16 0, .int .u16 0] 25) (.cells #[.int .u16 0, .int .u16 0] 25) (by kernel_rfl) (by kernel_rfl) rfl rfl rfl rfl rfl rfl rfl rfl (fun _ _ => by simp [go_sem]) (fun _ _ => by simp [go_sem]) (by kernel_rfl) (by kernel_rfl) (by kernel_rfl) rfl ?_
  apply Exists.intro
  refine ⟨fun W' => ?_, ?_⟩
  · simp only [List.take_succ_cons, List.take_zero]
    repeat (first | go_big_quiet_skip | (go_big_quiet_want; go_big_quiet_op; first | go_big_quiet_on | (go_big_quiet_call ((first | fail | (go_at_call 44; exact ext_call (C1 _ ((hS1.on (Ext.h W')).on (Ext.h _)))) | (go_at_call 45; with_reducible exact ext_call (C2 _ ((hS1.on (Ext.h W')).on (Ext.h _)))))))))
    exact wpQuiet_nil rfl
  clear hecr1
  simp only [List.drop_succ_cons, List.drop_zero, Act.put, List.setIfInBounds_toArray, List.set_cons_zero, List.set_cons_succ]
  rintro B1 C1 r1 hbr1 ⟨hBr1, hDr1, hEr1⟩ ⟨hBcr1, hDcr1, hEcr1⟩ hner1
  have hnfr1 := Ne.symm hner1
  have hGr1_0 := block_cell hEr1 0
  have hGr1_1 := block_cell hEr1 1
  have hFr1 := block_free hEr1
  have hGcr1_0 := block_cell hEcr1 0
  have hGcr1_1 := block_cell hEcr1 1
  have hFcr1 := block_free hEcr1
  simp only [List.getElem?_toArray, List.getElem?_cons_zero, List.getElem?_cons_succ] at hGr1_0 hGr1_1 hGcr1_0 hGcr1_1
  clear hEr1 hEcr1
  try simp only [World.size_alloc, World.size_setCell, World.size_drew] at hBr1
  try simp only [World.size_alloc, World.size_setCell, World.size_drew] at hBcr1
  obtain ⟨hcr1, hfr1⟩ := bcell hbr1
  have hzr1 := hbr1.size
  try simp only [World.size_alloc, World.size_setCell, World.size_drew] at hzr1
  have hlr1w0 : w.heap.size < r1.heap.size := by omega
  have hlr1w1 : w.heap.size + 1 < r1.heap.size := by omega
  go_wp2_with fail
  have hq1 : r1.heap.size ≠ B1 := by omega
  have hq1' := Ne.symm hq1
  have hq2 : r1.heap.size ≠ C1 := by omega
  have hq2' := Ne.symm hq2
  have t1 := there_on (there_row (c := #[.int .u16 0, .int .u16 0, .int .u16 0, .int .u16 0, .int .u16 0, .int .u16 0, .int .u16 0, .int .u16 0, .int .u16 0, .int .u16 0, .int .u16 0, .int .u16 0, .int .u16 0, .int .u16 0, .int .u16 0, .int .u16 0, .int .u16 0, .int .u16 0]) (t := 29) (heap_new (w := w.alloc (.cells #[.int .u16 a0, .int .u16 a1] 25)) rfl) (k := 18) (o := 0) (by simp)) hbr1 (by simp only [World.size_alloc]; omega)
  simp only [World.size_alloc] at t1
  refine wp_gen (fun W => Below w.heap.size w W ∧ W.heap.size = r1.heap.size + 1 ∧ (W.cell? ⟨B1, 0, none⟩ = some (.int .u16 s0) ∧ W.cell? ⟨B1, 1, none⟩ = some (.int .u16 s1)) ∧ (W.cell? ⟨C1, 0, none⟩ = some (.int .u16 c0) ∧ W.cell? ⟨C1, 1, none⟩ = some (.int .u16 c1)) ∧ W.there (w.heap.size + 1) 0 18 ∧ Holds W r1.heap.size 18 (fun _ => 0) ∧ Loose W r1.heap.size) ⟨(by repeat' (first | (with_reducible exact Below.refl _ _) | (with_reducible refine bl_set ?_ _ ?_) | (with_reducible refine bl_alloc ?_ _) | (with_reducible refine bl_drew ?_) | (with_reducible refine bl_via (by with_reducible assumption) ?_) | (with_reducible assumption) | omega | (simp only []; omega) | (simp; omega))), by simp, ⟨by go_simp, by go_simp⟩, ⟨by go_simp, by go_simp⟩, ?_, ?_, ?_⟩ ?_
  · exact there_on (there_cell (there_cell (there_cell (there_cell t1 (by omega)) (by omega)) (by omega)) (by omega)) (bl_alloc (Below.refl _ _) _) (by simp only [World.size_setCell]; omega)
  · apply all18 <;> (show _ = some (Value.int .u16 0); go_simp)
  · intro o; go_simp
  clear t1 hbr1 hcr1 hfr1 hGr1_0 hGr1_1 hGcr1_0 hGcr1_1 hFr1 hFcr1
  rintro W0 ⟨hb0, hs0, ⟨p0, p1⟩, ⟨q0, q1⟩, t0, m0, l0⟩
  generalize hbm : r1.heap.size = bm at *
  have hecr2 := @Ext.cell
  refine wp_region_ext_tail 5 (by kernel_rfl) (by kernel_rfl) ?_
  simp only [List.take_succ_cons, List.take_zero, List.drop_succ_cons, List.drop_zero]
  repeat (first | go_big_quiet_skip | (go_big_quiet_want; go_big_quiet_op; first | go_big_quiet_on | (go_big_quiet_call ((first | fail | ((go_at_call 33; with_reducible exact ext_call (C4 _))))))))
  clear hecr2
  refine wpQuiet_nil ?_
  rintro r2 ⟨⟨_, hbr2⟩, rfl⟩
  obtain ⟨hcr2, hfr2⟩ := bcell hbr2
  have hzr2 := hbr2.size
  try simp only [World.size_alloc, World.size_setCell, World.size_drew] at hzr2
  have hs1 : bm < r2.heap.size := by omega
  have t2 := there_on t0 hbr2 (by omega)
  have m1 := m0.on hbr2 (by omega)
  have l1 := l0.on hbr2 (by omega)
  have m1a := m1 (0) (by omega)
  have m1b := m1 (1) (by omega)
  have l1a := l1 (0)
  have l1b := l1 (1)
  have p0 := (hcr2 _ _ (by omega)).trans p0
  have p1 := (hcr2 _ _ (by omega)).trans p1
  have q0 := (hcr2 _ _ (by omega)).trans q0
  have q1 := (hcr2 _ _ (by omega)).trans q1
  clear hcr2 hfr2
  go_wp2_with fail
  refine wp_gen (fun W => Below w.heap.size w W ∧ W.heap.size = r2.heap.size ∧ (W.cell? ⟨B1, 0, none⟩ = some (.int .u16 s0) ∧ W.cell? ⟨B1, 1, none⟩ = some (.int .u16 s1)) ∧ (W.cell? ⟨C1, 0, none⟩ = some (.int .u16 c0) ∧ W.cell? ⟨C1, 1, none⟩ = some (.int .u16 c1)) ∧ W.there (w.heap.size + 1) 0 18 ∧ Holds W bm 18 (fun o => if o = 1 then 0 else if o = 0 then 8192 else 0) ∧ Loose W bm) ⟨(by repeat' (first | (with_reducible exact Below.refl _ _) | (with_reducible refine bl_set ?_ _ ?_) | (with_reducible refine bl_alloc ?_ _) | (with_reducible refine bl_drew ?_) | (with_reducible refine bl_via (by with_reducible assumption) ?_) | (with_reducible assumption) | omega | (simp only []; omega) | (simp; omega))), by simp, ⟨by go_simp, by go_simp⟩, ⟨by go_simp, by go_simp⟩, there_cell (there_cell t2 (by omega)) (by omega), (m1.set _ _ (by omega)).set _ _ (by omega), (l1.set _ _).set _ _⟩ ?_
  clear m1 l1 m1a m1b l1a l1b t2 m0 l0 t0 p0 p1 q0 q1 hbr2 hb0
  rintro W1 ⟨hb1, hsz1, ⟨p0, p1⟩, ⟨q0, q1⟩, t1, m1, l1⟩
  have x1_8 := m1 8 (by omega)
  have y1_8 := l1 8
  have x1_9 := m1 9 (by omega)
  have y1_9 := l1 9
  have x1_10 := m1 10 (by omega)
  have y1_10 := l1 10
  have x1_11 := m1 11 (by omega)
  have y1_11 := l1 11
  have z1 : bm < W1.heap.size := by omega
  have z2 : B1 < W1.heap.size := by omega
  have z3 : C1 < W1.heap.size := by omega
  have z4 : w.heap.size + 1 < W1.heap.size := by omega
  clear hsz1 hs0
  go_region_with (go_at_call 46; refine (C3 _).mono ?_; rintro _ r3 ⟨rfl, hbr3⟩; obtain ⟨hcr3, hfr3⟩ := bcell hbr3; have hz3 := hbr3.size; try simp only [World.size_drew] at hz3 hcr3 hfr3)
  all_goals
    have t3 := there_on (there_on t1 (bl_drew (Below.refl _ _)) z4) hbr3 (by simp only [World.size_drew]; omega)
    have m3 := (m1.on (bl_drew (Below.refl _ _)) z1).on hbr3 (by simp only [World.size_drew]; omega)
    have l3 := (l1.on (bl_drew (Below.refl _ _)) z1).on hbr3 (by simp only [World.size_drew]; omega)
    have p0 := (hcr3 _ 0 z2).trans ((World.cell?_drew _ _).trans p0)
    have p1 := (hcr3 _ 1 z2).trans ((World.cell?_drew _ _).trans p1)
    have q0 := (hcr3 _ 0 z3).trans ((World.cell?_drew _ _).trans q0)
    have q1 := (hcr3 _ 1 z3).trans ((World.cell?_drew _ _).trans q1)
    have hb3 := bl_via hbr3 (bl_drew hb1)
    have e1 : bm < r3.heap.size := by omega
    have e2 : B1 < r3.heap.size := by omega
    have e3 : C1 < r3.heap.size := by omega
    have e4 : w.heap.size + 1 < r3.heap.size := by omega
    clear hcr3 hfr3 hbr3 t1 m1 l1
    go_wp2_with fail
    refine wp_gen (fun W => Below w.heap.size w W ∧ bm < W.heap.size ∧ B1 < W.heap.size ∧ C1 < W.heap.size ∧ w.heap.size + 1 < W.heap.size ∧ (W.cell? ⟨B1, 0, none⟩ = some (.int .u16 s0) ∧ W.cell? ⟨B1, 1, none⟩ = some (.int .u16 s1)) ∧ (W.cell? ⟨C1, 0, none⟩ = some (.int .u16 c0) ∧ W.cell? ⟨C1, 1, none⟩ = some (.int .u16 c1)) ∧ W.there (w.heap.size + 1) 0 18 ∧ Holds W bm 18 (pick18 8192 0 0 0 0 0 0 0 c0 c1 n0 n1 0 0 0 0 0 0) ∧ Loose W bm) ⟨(by repeat' (first | (with_reducible exact Below.refl _ _) | (with_reducible refine bl_set ?_ _ ?_) | (with_reducible refine bl_alloc ?_ _) | (with_reducible refine bl_drew ?_) | (with_reducible refine bl_via (by with_reducible assumption) ?_) | (with_reducible assumption) | omega | (simp only []; omega) | (simp; omega))), by simp only [World.size_setCell]; omega, by simp only [World.size_setCell]; omega, by simp only [World.size_setCell]; omega, by simp only [World.size_setCell]; omega, ⟨by go_simp, by go_simp⟩, ⟨by go_simp, by go_simp⟩, there_cell (there_cell (there_cell (there_cell t3 (by omega)) (by omega)) (by omega)) (by omega), Holds.congr ((((m3.set _ _ (by omega)).set _ _ (by omega)).set _ _ (by omega)).set _ _ (by omega)) (by apply all18 <;> rfl), (((l3.set _ _).set _ _).set _ _).set _ _⟩ ?_
    clear t3 m3 l3 p0 p1 q0 q1 hb3 e1 e2 e3 e4 z1 z2 z3 z4 hz3
    rintro W2 ⟨hb2, z1, z2, z3, z4, ⟨p0, p1⟩, ⟨q0, q1⟩, t2, m2, l2⟩
    have x2_14 := m2 14 (by omega)
    have y2_14 := l2 14
    have x2_15 := m2 15 (by omega)
    have y2_15 := l2 15
    have x2_16 := m2 16 (by omega)
    have y2_16 := l2 16
    have x2_17 := m2 17 (by omega)
    have y2_17 := l2 17
    go_region
    all_goals
      have t3 := there_cell (there_cell (there_cell (there_cell (there_on t2 (bl_drew (Below.refl _ _)) z4) (show bm ≠ w.heap.size + 1 by omega) (o := 14) (v := .int .u16 s0)) (show bm ≠ w.heap.size + 1 by omega) (o := 15) (v := .int .u16 s1)) (show bm ≠ w.heap.size + 1 by omega) (o := 16) (v := .int .u16 c0)) (show bm ≠ w.heap.size + 1 by omega) (o := 17) (v := .int .u16 c1)
      have m3 := ((((m2.on (bl_drew (Below.refl _ _)) z1).set 14 s0 (by omega)).set 15 s1 (by omega)).set 16 c0 (by omega)).set 17 c1 (by omega)
      have m4 := Holds.congr (g' := pick18 8192 0 0 0 0 0 0 0 c0 c1 n0 n1 0 0 s0 s1 c0 c1) m3 (by apply all18 <;> rfl)
      have hr : (_ : World).rangeAt bm 0 [.int .u16 8192, .int .u16 0, .int .u16 0, .int .u16 0, .int .u16 0, .int .u16 0, .int .u16 0, .int .u16 0, .int .u16 c0, .int .u16 c1, .int .u16 n0, .int .u16 n1, .int .u16 0, .int .u16 0, .int .u16 s0, .int .u16 s1, .int .u16 c0, .int .u16 c1] := m4.range18 (by omega)
      clear m3 m4 m2 l2 t2
      go_wp2_with (first | fail | (refine WL.h ?_; refine wl_load (op := { dst := some 54, op := .load 29 (.tmp 10), type := _, pos := _, after := _, guard := none }) rfl 29 (.tmp 10) rfl bm 0 rfl [.int .u16 8192, .int .u16 0, .int .u16 0, .int .u16 0, .int .u16 0, .int .u16 0, .int .u16 0, .int .u16 0, .int .u16 c0, .int .u16 c1, .int .u16 n0, .int .u16 n1, .int .u16 0, .int .u16 0, .int .u16 s0, .int .u16 s1, .int .u16 c0, .int .u16 c1] _ hr hu_mat rfl hi_mat ?_; simp only [Act.put, List.setIfInBounds_toArray, List.set_cons_zero, List.set_cons_succ]) | (refine WL.h ?_; refine wl_store (op := { dst := none, op := .store 29 (.tmp 4) (.tmp 54), type := _, pos := _, after := _, guard := none }) rfl 29 (.tmp 4) (.tmp 54) rfl (w.heap.size + 1) 0 _ rfl rfl t3 hi_mat (by simp [Value.oneCell']) ?_; simp only [Act.put, List.setIfInBounds_toArray, List.set_cons_zero, List.set_cons_succ]))
      refine bodyPost_ret (v := (.tuple #[(.agg #[.int .u16 (8192), .int .u16 (0), .int .u16 (0), .int .u16 (0), .int .u16 (0), .int .u16 (0), .int .u16 (0), .int .u16 (0), .int .u16 (c0), .int .u16 (c1), .int .u16 (n0), .int .u16 (n1), .int .u16 (0), .int .u16 (0), .int .u16 (s0), .int .u16 (s1), .int .u16 (c0), .int .u16 (c1)]), .int .i64 0])) (results_two Tryd.results18 rfl rfl (run_loadVar_mid _ _ 0 _ _ _ (World.rangeAt_setCells_same _ _ _ _ t3) hu_mat rfl hi_mat)) rfl ⟨rfl, bl_cells _ _ _ _ (by repeat' (first | (with_reducible exact Below.refl _ _) | (with_reducible refine bl_set ?_ _ ?_) | (with_reducible refine bl_alloc ?_ _) | (with_reducible refine bl_drew ?_) | (with_reducible refine bl_via (by with_reducible assumption) ?_) | (with_reducible assumption) | omega | (simp only []; omega) | (simp; omega))) (by omega)⟩
set_option maxRecDepth 100000 in
set_option maxHeartbeats 8000000 in
theorem turn_of_1 (a0 a1 s0 s1 c0 c1 n0 n1 : Int)
    (C1 : ∀ w, Sines w → Calls Tryd.prog 44 #[(.agg #[.int .u16 (a0), .int .u16 (a1)])] w fun e w' => e = .returned (.agg #[.int .u16 (s0), .int .u16 (s1)]) ∧ Below w.heap.size w w') (C2 : ∀ w, Sines w → Calls Tryd.prog 45 #[(.agg #[.int .u16 (a0), .int .u16 (a1)])] w fun e w' => e = .returned (.agg #[.int .u16 (c0), .int .u16 (c1)]) ∧ Below w.heap.size w w') (C3 : (∀ w, Calls Tryd.prog 46 #[(.agg #[.int .u16 (s0), .int .u16 (s1)])] w fun e w' => e = .returned (.agg #[.int .u16 (n0), .int .u16 (n1)]) ∧ Below w.heap.size w w')) (C4 : (∀ w, Calls Tryd.prog 33 #[.int .i64 134217728] w fun e w' => e = .returned (.agg #[.int .u16 (8192), .int .u16 (0)]) ∧ Below w.heap.size w w')) (w : World) (hS : Sines w) :
    Calls Tryd.prog 18 #[.int .i64 1, (.agg #[.int .u16 (a0), .int .u16 (a1)])] w fun e w' => e = .returned (.tuple #[(.agg #[.int .u16 (c0), .int .u16 (c1), .int .u16 (0), .int .u16 (0), .int .u16 (s0), .int .u16 (s1), .int .u16 (0), .int .u16 (0), .int .u16 (8192), .int .u16 (0), .int .u16 (0), .int .u16 (0), .int .u16 (n0), .int .u16 (n1), .int .u16 (0), .int .u16 (0), .int .u16 (c0), .int .u16 (c1)]), .int .i64 0]) ∧ Below w.heap.size w w' := by
  have hS1 := (hS.on (bl_alloc (bl_alloc (Below.refl _ _) (.cells #[.int .u16 a0, .int .u16 a1] 25)) (.cells #[.int .u16 0, .int .u16 0, .int .u16 0, .int .u16 0, .int .u16 0, .int .u16 0, .int .u16 0, .int .u16 0, .int .u16 0, .int .u16 0, .int .u16 0, .int .u16 0, .int .u16 0, .int .u16 0, .int .u16 0, .int .u16 0, .int .u16 0, .int .u16 0] 29)))
  go_enter Tryd.func18, Tryd.ntmps18
  go_wp2_with fail
  have hecr1 := @Ext.cell2
  refine wp_region_float2 4 _ _ _ _ _ (.cells #[.int .u16 0, .int .u16 0] 25) (.cells #[.int .u16 0, .int .u16 0] 25) (by kernel_rfl) (by kernel_rfl) rfl rfl rfl rfl rfl rfl rfl rfl (fun _ _ => by simp [go_sem]) (fun _ _ => by simp [go_sem]) (by kernel_rfl) (by kernel_rfl) (by kernel_rfl) rfl ?_
  apply Exists.intro
  refine ⟨fun W' => ?_, ?_⟩
  · simp only [List.take_succ_cons, List.take_zero]
    repeat (first | go_big_quiet_skip | (go_big_quiet_want; go_big_quiet_op; first | go_big_quiet_on | (go_big_quiet_call ((first | fail | (go_at_call 44; exact ext_call (C1 _ ((hS1.on (Ext.h W')).on (Ext.h _)))) | (go_at_call 45; with_reducible exact ext_call (C2 _ ((hS1.on (Ext.h W')).on (Ext.h _)))))))))
    exact wpQuiet_nil rfl
  clear hecr1
  simp only [List.drop_succ_cons, List.drop_zero, Act.put, List.setIfInBounds_toArray, List.set_cons_zero, List.set_cons_succ]
  rintro B1 C1 r1 hbr1 ⟨hBr1, hDr1, hEr1⟩ ⟨hBcr1, hDcr1, hEcr1⟩ hner1
  have hnfr1 := Ne.symm hner1
  have hGr1_0 := block_cell hEr1 0
  have hGr1_1 := block_cell hEr1 1
  have hFr1 := block_free hEr1
  have hGcr1_0 := block_cell hEcr1 0
  have hGcr1_1 := block_cell hEcr1 1
  have hFcr1 := block_free hEcr1
  simp only [List.getElem?_toArray, List.getElem?_cons_zero, List.getElem?_cons_succ] at hGr1_0 hGr1_1 hGcr1_0 hGcr1_1
  clear hEr1 hEcr1
  try simp only [World.size_alloc, World.size_setCell, World.size_drew] at hBr1
  try simp only [World.size_alloc, World.size_setCell, World.size_drew] at hBcr1
  obtain ⟨hcr1, hfr1⟩ := bcell hbr1
  have hzr1 := hbr1.size
  try simp only [World.size_alloc, World.size_setCell, World.size_drew] at hzr1
  have hlr1w0 : w.heap.size < r1.heap.size := by omega
  have hlr1w1 : w.heap.size + 1 < r1.heap.size := by omega
  go_wp2_with fail
  have hq1 : r1.heap.size ≠ B1 := by omega
  have hq1' := Ne.symm hq1
  have hq2 : r1.heap.size ≠ C1 := by omega
  have hq2' := Ne.symm hq2
  have t1 := there_on (there_row (c := #[.int .u16 0, .int .u16 0, .int .u16 0, .int .u16 0, .int .u16 0, .int .u16 0, .int .u16 0, .int .u16 0, .int .u16 0, .int .u16 0, .int .u16 0, .int .u16 0, .int .u16 0, .int .u16 0, .int .u16 0, .int .u16 0, .int .u16 0, .int .u16 0]) (t := 29) (heap_new (w := w.alloc (.cells #[.int .u16 a0, .int .u16 a1] 25)) rfl) (k := 18) (o := 0) (by simp)) hbr1 (by simp only [World.size_alloc]; omega)
  simp only [World.size_alloc] at t1
  refine wp_gen (fun W => Below w.heap.size w W ∧ W.heap.size = r1.heap.size + 1 ∧ (W.cell? ⟨B1, 0, none⟩ = some (.int .u16 s0) ∧ W.cell? ⟨B1, 1, none⟩ = some (.int .u16 s1)) ∧ (W.cell? ⟨C1, 0, none⟩ = some (.int .u16 c0) ∧ W.cell? ⟨C1, 1, none⟩ = some (.int .u16 c1)) ∧ W.there (w.heap.size + 1) 0 18 ∧ Holds W r1.heap.size 18 (fun _ => 0) ∧ Loose W r1.heap.size) ⟨(by repeat' (first | (with_reducible exact Below.refl _ _) | (with_reducible refine bl_set ?_ _ ?_) | (with_reducible refine bl_alloc ?_ _) | (with_reducible refine bl_drew ?_) | (with_reducible refine bl_via (by with_reducible assumption) ?_) | (with_reducible assumption) | omega | (simp only []; omega) | (simp; omega))), by simp, ⟨by go_simp, by go_simp⟩, ⟨by go_simp, by go_simp⟩, ?_, ?_, ?_⟩ ?_
  · exact there_on (there_cell (there_cell (there_cell (there_cell t1 (by omega)) (by omega)) (by omega)) (by omega)) (bl_alloc (Below.refl _ _) _) (by simp only [World.size_setCell]; omega)
  · apply all18 <;> (show _ = some (Value.int .u16 0); go_simp)
  · intro o; go_simp
  clear t1 hbr1 hcr1 hfr1 hGr1_0 hGr1_1 hGcr1_0 hGcr1_1 hFr1 hFcr1
  rintro W0 ⟨hb0, hs0, ⟨p0, p1⟩, ⟨q0, q1⟩, t0, m0, l0⟩
  generalize hbm : r1.heap.size = bm at *
  have hecr2 := @Ext.cell
  refine wp_region_ext_tail 5 (by kernel_rfl) (by kernel_rfl) ?_
  simp only [List.take_succ_cons, List.take_zero, List.drop_succ_cons, List.drop_zero]
  repeat (first | go_big_quiet_skip | (go_big_quiet_want; go_big_quiet_op; first | go_big_quiet_on | (go_big_quiet_call ((first | fail | ((go_at_call 33; with_reducible exact ext_call (C4 _))))))))
  clear hecr2
  refine wpQuiet_nil ?_
  rintro r2 ⟨⟨_, hbr2⟩, rfl⟩
  obtain ⟨hcr2, hfr2⟩ := bcell hbr2
  have hzr2 := hbr2.size
  try simp only [World.size_alloc, World.size_setCell, World.size_drew] at hzr2
  have hs1 : bm < r2.heap.size := by omega
  have t2 := there_on t0 hbr2 (by omega)
  have m1 := m0.on hbr2 (by omega)
  have l1 := l0.on hbr2 (by omega)
  have m1a := m1 (8) (by omega)
  have m1b := m1 (9) (by omega)
  have l1a := l1 (8)
  have l1b := l1 (9)
  have p0 := (hcr2 _ _ (by omega)).trans p0
  have p1 := (hcr2 _ _ (by omega)).trans p1
  have q0 := (hcr2 _ _ (by omega)).trans q0
  have q1 := (hcr2 _ _ (by omega)).trans q1
  clear hcr2 hfr2
  go_wp2_with fail
  refine wp_gen (fun W => Below w.heap.size w W ∧ W.heap.size = r2.heap.size ∧ (W.cell? ⟨B1, 0, none⟩ = some (.int .u16 s0) ∧ W.cell? ⟨B1, 1, none⟩ = some (.int .u16 s1)) ∧ (W.cell? ⟨C1, 0, none⟩ = some (.int .u16 c0) ∧ W.cell? ⟨C1, 1, none⟩ = some (.int .u16 c1)) ∧ W.there (w.heap.size + 1) 0 18 ∧ Holds W bm 18 (fun o => if o = 9 then 0 else if o = 8 then 8192 else 0) ∧ Loose W bm) ⟨(by repeat' (first | (with_reducible exact Below.refl _ _) | (with_reducible refine bl_set ?_ _ ?_) | (with_reducible refine bl_alloc ?_ _) | (with_reducible refine bl_drew ?_) | (with_reducible refine bl_via (by with_reducible assumption) ?_) | (with_reducible assumption) | omega | (simp only []; omega) | (simp; omega))), by simp, ⟨by go_simp, by go_simp⟩, ⟨by go_simp, by go_simp⟩, there_cell (there_cell t2 (by omega)) (by omega), (m1.set _ _ (by omega)).set _ _ (by omega), (l1.set _ _).set _ _⟩ ?_
  clear m1 l1 m1a m1b l1a l1b t2 m0 l0 t0 p0 p1 q0 q1 hbr2 hb0
  rintro W1 ⟨hb1, hsz1, ⟨p0, p1⟩, ⟨q0, q1⟩, t1, m1, l1⟩
  have x1_16 := m1 16 (by omega)
  have y1_16 := l1 16
  have x1_17 := m1 17 (by omega)
  have y1_17 := l1 17
  have x1_12 := m1 12 (by omega)
  have y1_12 := l1 12
  have x1_13 := m1 13 (by omega)
  have y1_13 := l1 13
  have z1 : bm < W1.heap.size := by omega
  have z2 : B1 < W1.heap.size := by omega
  have z3 : C1 < W1.heap.size := by omega
  have z4 : w.heap.size + 1 < W1.heap.size := by omega
  clear hsz1 hs0
  go_region_with (go_at_call 46; refine (C3 _).mono ?_; rintro _ r3 ⟨rfl, hbr3⟩; obtain ⟨hcr3, hfr3⟩ := bcell hbr3; have hz3 := hbr3.size; try simp only [World.size_drew] at hz3 hcr3 hfr3)
  all_goals
    have t3 := there_on (there_on t1 (bl_drew (Below.refl _ _)) z4) hbr3 (by simp only [World.size_drew]; omega)
    have m3 := (m1.on (bl_drew (Below.refl _ _)) z1).on hbr3 (by simp only [World.size_drew]; omega)
    have l3 := (l1.on (bl_drew (Below.refl _ _)) z1).on hbr3 (by simp only [World.size_drew]; omega)
    have p0 := (hcr3 _ 0 z2).trans ((World.cell?_drew _ _).trans p0)
    have p1 := (hcr3 _ 1 z2).trans ((World.cell?_drew _ _).trans p1)
    have q0 := (hcr3 _ 0 z3).trans ((World.cell?_drew _ _).trans q0)
    have q1 := (hcr3 _ 1 z3).trans ((World.cell?_drew _ _).trans q1)
    have hb3 := bl_via hbr3 (bl_drew hb1)
    have e1 : bm < r3.heap.size := by omega
    have e2 : B1 < r3.heap.size := by omega
    have e3 : C1 < r3.heap.size := by omega
    have e4 : w.heap.size + 1 < r3.heap.size := by omega
    clear hcr3 hfr3 hbr3 t1 m1 l1
    go_wp2_with fail
    refine wp_gen (fun W => Below w.heap.size w W ∧ bm < W.heap.size ∧ B1 < W.heap.size ∧ C1 < W.heap.size ∧ w.heap.size + 1 < W.heap.size ∧ (W.cell? ⟨B1, 0, none⟩ = some (.int .u16 s0) ∧ W.cell? ⟨B1, 1, none⟩ = some (.int .u16 s1)) ∧ (W.cell? ⟨C1, 0, none⟩ = some (.int .u16 c0) ∧ W.cell? ⟨C1, 1, none⟩ = some (.int .u16 c1)) ∧ W.there (w.heap.size + 1) 0 18 ∧ Holds W bm 18 (pick18 0 0 0 0 0 0 0 0 8192 0 0 0 n0 n1 0 0 c0 c1) ∧ Loose W bm) ⟨(by repeat' (first | (with_reducible exact Below.refl _ _) | (with_reducible refine bl_set ?_ _ ?_) | (with_reducible refine bl_alloc ?_ _) | (with_reducible refine bl_drew ?_) | (with_reducible refine bl_via (by with_reducible assumption) ?_) | (with_reducible assumption) | omega | (simp only []; omega) | (simp; omega))), by simp only [World.size_setCell]; omega, by simp only [World.size_setCell]; omega, by simp only [World.size_setCell]; omega, by simp only [World.size_setCell]; omega, ⟨by go_simp, by go_simp⟩, ⟨by go_simp, by go_simp⟩, there_cell (there_cell (there_cell (there_cell t3 (by omega)) (by omega)) (by omega)) (by omega), Holds.congr ((((m3.set _ _ (by omega)).set _ _ (by omega)).set _ _ (by omega)).set _ _ (by omega)) (by apply all18 <;> rfl), (((l3.set _ _).set _ _).set _ _).set _ _⟩ ?_
    clear t3 m3 l3 p0 p1 q0 q1 hb3 e1 e2 e3 e4 z1 z2 z3 z4 hz3
    rintro W2 ⟨hb2, z1, z2, z3, z4, ⟨p0, p1⟩, ⟨q0, q1⟩, t2, m2, l2⟩
    have x2_4 := m2 4 (by omega)
    have y2_4 := l2 4
    have x2_5 := m2 5 (by omega)
    have y2_5 := l2 5
    have x2_0 := m2 0 (by omega)
    have y2_0 := l2 0
    have x2_1 := m2 1 (by omega)
    have y2_1 := l2 1
    go_region
    all_goals
      have t3 := there_cell (there_cell (there_cell (there_cell (there_on t2 (bl_drew (Below.refl _ _)) z4) (show bm ≠ w.heap.size + 1 by omega) (o := 4) (v := .int .u16 s0)) (show bm ≠ w.heap.size + 1 by omega) (o := 5) (v := .int .u16 s1)) (show bm ≠ w.heap.size + 1 by omega) (o := 0) (v := .int .u16 c0)) (show bm ≠ w.heap.size + 1 by omega) (o := 1) (v := .int .u16 c1)
      have m3 := ((((m2.on (bl_drew (Below.refl _ _)) z1).set 4 s0 (by omega)).set 5 s1 (by omega)).set 0 c0 (by omega)).set 1 c1 (by omega)
      have m4 := Holds.congr (g' := pick18 c0 c1 0 0 s0 s1 0 0 8192 0 0 0 n0 n1 0 0 c0 c1) m3 (by apply all18 <;> rfl)
      have hr : (_ : World).rangeAt bm 0 [.int .u16 c0, .int .u16 c1, .int .u16 0, .int .u16 0, .int .u16 s0, .int .u16 s1, .int .u16 0, .int .u16 0, .int .u16 8192, .int .u16 0, .int .u16 0, .int .u16 0, .int .u16 n0, .int .u16 n1, .int .u16 0, .int .u16 0, .int .u16 c0, .int .u16 c1] := m4.range18 (by omega)
      clear m3 m4 m2 l2 t2
      go_wp2_with (first | fail | (refine WL.h ?_; refine wl_load (op := { dst := some 54, op := .load 29 (.tmp 10), type := _, pos := _, after := _, guard := none }) rfl 29 (.tmp 10) rfl bm 0 rfl [.int .u16 c0, .int .u16 c1, .int .u16 0, .int .u16 0, .int .u16 s0, .int .u16 s1, .int .u16 0, .int .u16 0, .int .u16 8192, .int .u16 0, .int .u16 0, .int .u16 0, .int .u16 n0, .int .u16 n1, .int .u16 0, .int .u16 0, .int .u16 c0, .int .u16 c1] _ hr hu_mat rfl hi_mat ?_; simp only [Act.put, List.setIfInBounds_toArray, List.set_cons_zero, List.set_cons_succ]) | (refine WL.h ?_; refine wl_store (op := { dst := none, op := .store 29 (.tmp 4) (.tmp 54), type := _, pos := _, after := _, guard := none }) rfl 29 (.tmp 4) (.tmp 54) rfl (w.heap.size + 1) 0 _ rfl rfl t3 hi_mat (by simp [Value.oneCell']) ?_; simp only [Act.put, List.setIfInBounds_toArray, List.set_cons_zero, List.set_cons_succ]))
      refine bodyPost_ret (v := (.tuple #[(.agg #[.int .u16 (c0), .int .u16 (c1), .int .u16 (0), .int .u16 (0), .int .u16 (s0), .int .u16 (s1), .int .u16 (0), .int .u16 (0), .int .u16 (8192), .int .u16 (0), .int .u16 (0), .int .u16 (0), .int .u16 (n0), .int .u16 (n1), .int .u16 (0), .int .u16 (0), .int .u16 (c0), .int .u16 (c1)]), .int .i64 0])) (results_two Tryd.results18 rfl rfl (run_loadVar_mid _ _ 0 _ _ _ (World.rangeAt_setCells_same _ _ _ _ t3) hu_mat rfl hi_mat)) rfl ⟨rfl, bl_cells _ _ _ _ (by repeat' (first | (with_reducible exact Below.refl _ _) | (with_reducible refine bl_set ?_ _ ?_) | (with_reducible refine bl_alloc ?_ _) | (with_reducible refine bl_drew ?_) | (with_reducible refine bl_via (by with_reducible assumption) ?_) | (with_reducible assumption) | omega | (simp only []; omega) | (simp; omega))) (by omega)⟩
set_option maxRecDepth 100000 in
set_option maxHeartbeats 8000000 in
theorem turn_of_2 (a0 a1 s0 s1 c0 c1 n0 n1 : Int)
    (C1 : ∀ w, Sines w → Calls Tryd.prog 44 #[(.agg #[.int .u16 (a0), .int .u16 (a1)])] w fun e w' => e = .returned (.agg #[.int .u16 (s0), .int .u16 (s1)]) ∧ Below w.heap.size w w') (C2 : ∀ w, Sines w → Calls Tryd.prog 45 #[(.agg #[.int .u16 (a0), .int .u16 (a1)])] w fun e w' => e = .returned (.agg #[.int .u16 (c0), .int .u16 (c1)]) ∧ Below w.heap.size w w') (C3 : (∀ w, Calls Tryd.prog 46 #[(.agg #[.int .u16 (s0), .int .u16 (s1)])] w fun e w' => e = .returned (.agg #[.int .u16 (n0), .int .u16 (n1)]) ∧ Below w.heap.size w w')) (C4 : (∀ w, Calls Tryd.prog 33 #[.int .i64 134217728] w fun e w' => e = .returned (.agg #[.int .u16 (8192), .int .u16 (0)]) ∧ Below w.heap.size w w')) (w : World) (hS : Sines w) :
    Calls Tryd.prog 18 #[.int .i64 2, (.agg #[.int .u16 (a0), .int .u16 (a1)])] w fun e w' => e = .returned (.tuple #[(.agg #[.int .u16 (c0), .int .u16 (c1), .int .u16 (n0), .int .u16 (n1), .int .u16 (0), .int .u16 (0), .int .u16 (s0), .int .u16 (s1), .int .u16 (c0), .int .u16 (c1), .int .u16 (0), .int .u16 (0), .int .u16 (0), .int .u16 (0), .int .u16 (0), .int .u16 (0), .int .u16 (8192), .int .u16 (0)]), .int .i64 0]) ∧ Below w.heap.size w w' := by
  have hS1 := (hS.on (bl_alloc (bl_alloc (Below.refl _ _) (.cells #[.int .u16 a0, .int .u16 a1] 25)) (.cells #[.int .u16 0, .int .u16 0, .int .u16 0, .int .u16 0, .int .u16 0, .int .u16 0, .int .u16 0, .int .u16 0, .int .u16 0, .int .u16 0, .int .u16 0, .int .u16 0, .int .u16 0, .int .u16 0, .int .u16 0, .int .u16 0, .int .u16 0, .int .u16 0] 29)))
  go_enter Tryd.func18, Tryd.ntmps18
  go_wp2_with fail
  have hecr1 := @Ext.cell2
  refine wp_region_float2 4 _ _ _ _ _ (.cells #[.int .u16 0, .int .u16 0] 25) (.cells #[.int .u16 0, .int .u16 0] 25) (by kernel_rfl) (by kernel_rfl) rfl rfl rfl rfl rfl rfl rfl rfl (fun _ _ => by simp [go_sem]) (fun _ _ => by simp [go_sem]) (by kernel_rfl) (by kernel_rfl) (by kernel_rfl) rfl ?_
  apply Exists.intro
  refine ⟨fun W' => ?_, ?_⟩
  · simp only [List.take_succ_cons, List.take_zero]
    repeat (first | go_big_quiet_skip | (go_big_quiet_want; go_big_quiet_op; first | go_big_quiet_on | (go_big_quiet_call ((first | fail | (go_at_call 44; exact ext_call (C1 _ ((hS1.on (Ext.h W')).on (Ext.h _)))) | (go_at_call 45; with_reducible exact ext_call (C2 _ ((hS1.on (Ext.h W')).on (Ext.h _)))))))))
    exact wpQuiet_nil rfl
  clear hecr1
  simp only [List.drop_succ_cons, List.drop_zero, Act.put, List.setIfInBounds_toArray, List.set_cons_zero, List.set_cons_succ]
  rintro B1 C1 r1 hbr1 ⟨hBr1, hDr1, hEr1⟩ ⟨hBcr1, hDcr1, hEcr1⟩ hner1
  have hnfr1 := Ne.symm hner1
  have hGr1_0 := block_cell hEr1 0
  have hGr1_1 := block_cell hEr1 1
  have hFr1 := block_free hEr1
  have hGcr1_0 := block_cell hEcr1 0
  have hGcr1_1 := block_cell hEcr1 1
  have hFcr1 := block_free hEcr1
  simp only [List.getElem?_toArray, List.getElem?_cons_zero, List.getElem?_cons_succ] at hGr1_0 hGr1_1 hGcr1_0 hGcr1_1
  clear hEr1 hEcr1
  try simp only [World.size_alloc, World.size_setCell, World.size_drew] at hBr1
  try simp only [World.size_alloc, World.size_setCell, World.size_drew] at hBcr1
  obtain ⟨hcr1, hfr1⟩ := bcell hbr1
  have hzr1 := hbr1.size
  try simp only [World.size_alloc, World.size_setCell, World.size_drew] at hzr1
  have hlr1w0 : w.heap.size < r1.heap.size := by omega
  have hlr1w1 : w.heap.size + 1 < r1.heap.size := by omega
  go_wp2_with fail
  have hq1 : r1.heap.size ≠ B1 := by omega
  have hq1' := Ne.symm hq1
  have hq2 : r1.heap.size ≠ C1 := by omega
  have hq2' := Ne.symm hq2
  have t1 := there_on (there_row (c := #[.int .u16 0, .int .u16 0, .int .u16 0, .int .u16 0, .int .u16 0, .int .u16 0, .int .u16 0, .int .u16 0, .int .u16 0, .int .u16 0, .int .u16 0, .int .u16 0, .int .u16 0, .int .u16 0, .int .u16 0, .int .u16 0, .int .u16 0, .int .u16 0]) (t := 29) (heap_new (w := w.alloc (.cells #[.int .u16 a0, .int .u16 a1] 25)) rfl) (k := 18) (o := 0) (by simp)) hbr1 (by simp only [World.size_alloc]; omega)
  simp only [World.size_alloc] at t1
  refine wp_gen (fun W => Below w.heap.size w W ∧ W.heap.size = r1.heap.size + 1 ∧ (W.cell? ⟨B1, 0, none⟩ = some (.int .u16 s0) ∧ W.cell? ⟨B1, 1, none⟩ = some (.int .u16 s1)) ∧ (W.cell? ⟨C1, 0, none⟩ = some (.int .u16 c0) ∧ W.cell? ⟨C1, 1, none⟩ = some (.int .u16 c1)) ∧ W.there (w.heap.size + 1) 0 18 ∧ Holds W r1.heap.size 18 (fun _ => 0) ∧ Loose W r1.heap.size) ⟨(by repeat' (first | (with_reducible exact Below.refl _ _) | (with_reducible refine bl_set ?_ _ ?_) | (with_reducible refine bl_alloc ?_ _) | (with_reducible refine bl_drew ?_) | (with_reducible refine bl_via (by with_reducible assumption) ?_) | (with_reducible assumption) | omega | (simp only []; omega) | (simp; omega))), by simp, ⟨by go_simp, by go_simp⟩, ⟨by go_simp, by go_simp⟩, ?_, ?_, ?_⟩ ?_
  · exact there_on (there_cell (there_cell (there_cell (there_cell t1 (by omega)) (by omega)) (by omega)) (by omega)) (bl_alloc (Below.refl _ _) _) (by simp only [World.size_setCell]; omega)
  · apply all18 <;> (show _ = some (Value.int .u16 0); go_simp)
  · intro o; go_simp
  clear t1 hbr1 hcr1 hfr1 hGr1_0 hGr1_1 hGcr1_0 hGcr1_1 hFr1 hFcr1
  rintro W0 ⟨hb0, hs0, ⟨p0, p1⟩, ⟨q0, q1⟩, t0, m0, l0⟩
  generalize hbm : r1.heap.size = bm at *
  have hecr2 := @Ext.cell
  refine wp_region_ext_tail 5 (by kernel_rfl) (by kernel_rfl) ?_
  simp only [List.take_succ_cons, List.take_zero, List.drop_succ_cons, List.drop_zero]
  repeat (first | go_big_quiet_skip | (go_big_quiet_want; go_big_quiet_op; first | go_big_quiet_on | (go_big_quiet_call ((first | fail | ((go_at_call 33; with_reducible exact ext_call (C4 _))))))))
  clear hecr2
  refine wpQuiet_nil ?_
  rintro r2 ⟨⟨_, hbr2⟩, rfl⟩
  obtain ⟨hcr2, hfr2⟩ := bcell hbr2
  have hzr2 := hbr2.size
  try simp only [World.size_alloc, World.size_setCell, World.size_drew] at hzr2
  have hs1 : bm < r2.heap.size := by omega
  have t2 := there_on t0 hbr2 (by omega)
  have m1 := m0.on hbr2 (by omega)
  have l1 := l0.on hbr2 (by omega)
  have m1a := m1 (16) (by omega)
  have m1b := m1 (17) (by omega)
  have l1a := l1 (16)
  have l1b := l1 (17)
  have p0 := (hcr2 _ _ (by omega)).trans p0
  have p1 := (hcr2 _ _ (by omega)).trans p1
  have q0 := (hcr2 _ _ (by omega)).trans q0
  have q1 := (hcr2 _ _ (by omega)).trans q1
  clear hcr2 hfr2
  go_wp2_with fail
  refine wp_gen (fun W => Below w.heap.size w W ∧ W.heap.size = r2.heap.size ∧ (W.cell? ⟨B1, 0, none⟩ = some (.int .u16 s0) ∧ W.cell? ⟨B1, 1, none⟩ = some (.int .u16 s1)) ∧ (W.cell? ⟨C1, 0, none⟩ = some (.int .u16 c0) ∧ W.cell? ⟨C1, 1, none⟩ = some (.int .u16 c1)) ∧ W.there (w.heap.size + 1) 0 18 ∧ Holds W bm 18 (fun o => if o = 17 then 0 else if o = 16 then 8192 else 0) ∧ Loose W bm) ⟨(by repeat' (first | (with_reducible exact Below.refl _ _) | (with_reducible refine bl_set ?_ _ ?_) | (with_reducible refine bl_alloc ?_ _) | (with_reducible refine bl_drew ?_) | (with_reducible refine bl_via (by with_reducible assumption) ?_) | (with_reducible assumption) | omega | (simp only []; omega) | (simp; omega))), by simp, ⟨by go_simp, by go_simp⟩, ⟨by go_simp, by go_simp⟩, there_cell (there_cell t2 (by omega)) (by omega), (m1.set _ _ (by omega)).set _ _ (by omega), (l1.set _ _).set _ _⟩ ?_
  clear m1 l1 m1a m1b l1a l1b t2 m0 l0 t0 p0 p1 q0 q1 hbr2 hb0
  rintro W1 ⟨hb1, hsz1, ⟨p0, p1⟩, ⟨q0, q1⟩, t1, m1, l1⟩
  have x1_0 := m1 0 (by omega)
  have y1_0 := l1 0
  have x1_1 := m1 1 (by omega)
  have y1_1 := l1 1
  have x1_2 := m1 2 (by omega)
  have y1_2 := l1 2
  have x1_3 := m1 3 (by omega)
  have y1_3 := l1 3
  have z1 : bm < W1.heap.size := by omega
  have z2 : B1 < W1.heap.size := by omega
  have z3 : C1 < W1.heap.size := by omega
  have z4 : w.heap.size + 1 < W1.heap.size := by omega
  clear hsz1 hs0
  go_region_with (go_at_call 46; refine (C3 _).mono ?_; rintro _ r3 ⟨rfl, hbr3⟩; obtain ⟨hcr3, hfr3⟩ := bcell hbr3; have hz3 := hbr3.size; try simp only [World.size_drew] at hz3 hcr3 hfr3)
  all_goals
    have t3 := there_on (there_on t1 (bl_drew (Below.refl _ _)) z4) hbr3 (by simp only [World.size_drew]; omega)
    have m3 := (m1.on (bl_drew (Below.refl _ _)) z1).on hbr3 (by simp only [World.size_drew]; omega)
    have l3 := (l1.on (bl_drew (Below.refl _ _)) z1).on hbr3 (by simp only [World.size_drew]; omega)
    have p0 := (hcr3 _ 0 z2).trans ((World.cell?_drew _ _).trans p0)
    have p1 := (hcr3 _ 1 z2).trans ((World.cell?_drew _ _).trans p1)
    have q0 := (hcr3 _ 0 z3).trans ((World.cell?_drew _ _).trans q0)
    have q1 := (hcr3 _ 1 z3).trans ((World.cell?_drew _ _).trans q1)
    have hb3 := bl_via hbr3 (bl_drew hb1)
    have e1 : bm < r3.heap.size := by omega
    have e2 : B1 < r3.heap.size := by omega
    have e3 : C1 < r3.heap.size := by omega
    have e4 : w.heap.size + 1 < r3.heap.size := by omega
    clear hcr3 hfr3 hbr3 t1 m1 l1
    go_wp2_with fail
    refine wp_gen (fun W => Below w.heap.size w W ∧ bm < W.heap.size ∧ B1 < W.heap.size ∧ C1 < W.heap.size ∧ w.heap.size + 1 < W.heap.size ∧ (W.cell? ⟨B1, 0, none⟩ = some (.int .u16 s0) ∧ W.cell? ⟨B1, 1, none⟩ = some (.int .u16 s1)) ∧ (W.cell? ⟨C1, 0, none⟩ = some (.int .u16 c0) ∧ W.cell? ⟨C1, 1, none⟩ = some (.int .u16 c1)) ∧ W.there (w.heap.size + 1) 0 18 ∧ Holds W bm 18 (pick18 c0 c1 n0 n1 0 0 0 0 0 0 0 0 0 0 0 0 8192 0) ∧ Loose W bm) ⟨(by repeat' (first | (with_reducible exact Below.refl _ _) | (with_reducible refine bl_set ?_ _ ?_) | (with_reducible refine bl_alloc ?_ _) | (with_reducible refine bl_drew ?_) | (with_reducible refine bl_via (by with_reducible assumption) ?_) | (with_reducible assumption) | omega | (simp only []; omega) | (simp; omega))), by simp only [World.size_setCell]; omega, by simp only [World.size_setCell]; omega, by simp only [World.size_setCell]; omega, by simp only [World.size_setCell]; omega, ⟨by go_simp, by go_simp⟩, ⟨by go_simp, by go_simp⟩, there_cell (there_cell (there_cell (there_cell t3 (by omega)) (by omega)) (by omega)) (by omega), Holds.congr ((((m3.set _ _ (by omega)).set _ _ (by omega)).set _ _ (by omega)).set _ _ (by omega)) (by apply all18 <;> rfl), (((l3.set _ _).set _ _).set _ _).set _ _⟩ ?_
    clear t3 m3 l3 p0 p1 q0 q1 hb3 e1 e2 e3 e4 z1 z2 z3 z4 hz3
    rintro W2 ⟨hb2, z1, z2, z3, z4, ⟨p0, p1⟩, ⟨q0, q1⟩, t2, m2, l2⟩
    have x2_6 := m2 6 (by omega)
    have y2_6 := l2 6
    have x2_7 := m2 7 (by omega)
    have y2_7 := l2 7
    have x2_8 := m2 8 (by omega)
    have y2_8 := l2 8
    have x2_9 := m2 9 (by omega)
    have y2_9 := l2 9
    go_region
    all_goals
      have t3 := there_cell (there_cell (there_cell (there_cell (there_on t2 (bl_drew (Below.refl _ _)) z4) (show bm ≠ w.heap.size + 1 by omega) (o := 6) (v := .int .u16 s0)) (show bm ≠ w.heap.size + 1 by omega) (o := 7) (v := .int .u16 s1)) (show bm ≠ w.heap.size + 1 by omega) (o := 8) (v := .int .u16 c0)) (show bm ≠ w.heap.size + 1 by omega) (o := 9) (v := .int .u16 c1)
      have m3 := ((((m2.on (bl_drew (Below.refl _ _)) z1).set 6 s0 (by omega)).set 7 s1 (by omega)).set 8 c0 (by omega)).set 9 c1 (by omega)
      have m4 := Holds.congr (g' := pick18 c0 c1 n0 n1 0 0 s0 s1 c0 c1 0 0 0 0 0 0 8192 0) m3 (by apply all18 <;> rfl)
      have hr : (_ : World).rangeAt bm 0 [.int .u16 c0, .int .u16 c1, .int .u16 n0, .int .u16 n1, .int .u16 0, .int .u16 0, .int .u16 s0, .int .u16 s1, .int .u16 c0, .int .u16 c1, .int .u16 0, .int .u16 0, .int .u16 0, .int .u16 0, .int .u16 0, .int .u16 0, .int .u16 8192, .int .u16 0] := m4.range18 (by omega)
      clear m3 m4 m2 l2 t2
      go_wp2_with (first | fail | (refine WL.h ?_; refine wl_load (op := { dst := some 54, op := .load 29 (.tmp 10), type := _, pos := _, after := _, guard := none }) rfl 29 (.tmp 10) rfl bm 0 rfl [.int .u16 c0, .int .u16 c1, .int .u16 n0, .int .u16 n1, .int .u16 0, .int .u16 0, .int .u16 s0, .int .u16 s1, .int .u16 c0, .int .u16 c1, .int .u16 0, .int .u16 0, .int .u16 0, .int .u16 0, .int .u16 0, .int .u16 0, .int .u16 8192, .int .u16 0] _ hr hu_mat rfl hi_mat ?_; simp only [Act.put, List.setIfInBounds_toArray, List.set_cons_zero, List.set_cons_succ]) | (refine WL.h ?_; refine wl_store (op := { dst := none, op := .store 29 (.tmp 4) (.tmp 54), type := _, pos := _, after := _, guard := none }) rfl 29 (.tmp 4) (.tmp 54) rfl (w.heap.size + 1) 0 _ rfl rfl t3 hi_mat (by simp [Value.oneCell']) ?_; simp only [Act.put, List.setIfInBounds_toArray, List.set_cons_zero, List.set_cons_succ]))
      refine bodyPost_ret (v := (.tuple #[(.agg #[.int .u16 (c0), .int .u16 (c1), .int .u16 (n0), .int .u16 (n1), .int .u16 (0), .int .u16 (0), .int .u16 (s0), .int .u16 (s1), .int .u16 (c0), .int .u16 (c1), .int .u16 (0), .int .u16 (0), .int .u16 (0), .int .u16 (0), .int .u16 (0), .int .u16 (0), .int .u16 (8192), .int .u16 (0)]), .int .i64 0])) (results_two Tryd.results18 rfl rfl (run_loadVar_mid _ _ 0 _ _ _ (World.rangeAt_setCells_same _ _ _ _ t3) hu_mat rfl hi_mat)) rfl ⟨rfl, bl_cells _ _ _ _ (by repeat' (first | (with_reducible exact Below.refl _ _) | (with_reducible refine bl_set ?_ _ ?_) | (with_reducible refine bl_alloc ?_ _) | (with_reducible refine bl_drew ?_) | (with_reducible refine bl_via (by with_reducible assumption) ?_) | (with_reducible assumption) | omega | (simp only []; omega) | (simp; omega))) (by omega)⟩
end Go.Proofs.YtbbhppjamighdaaDoor
