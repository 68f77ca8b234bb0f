/- Contracts of Triad, of package align and of its reference, over this translation: what they return, given what the functions of vectors return. -/
import Derived.Test.YtbbhppjamighdaaDoorKd
import Derived.Test.YtbbhppjamighdaaDoorKg
import Derived.Test.YtbbhppjamighdaaDoorDt
namespace Go.Proofs.YtbbhppjamighdaaDoor
set_option linter.unusedSimpArgs false
set_option linter.unusedVariables false
open Go.RowKit

theorem there_cell {W : World} {b k n : Nat} {o : Nat} {v : Value} (h : W.there b 0 n) (hb : k ≠ b) : (W.setCell ⟨k, o, none⟩ v).there b 0 n := fun j hj => by
  obtain ⟨h1, h2⟩ := h j hj
  refine ⟨?_, by simpa using h2⟩
  rw [World.cell?_setCell_other _ _ _ _ (fun e => hb (congrArg Addr.block e))]; exact h1
theorem there_cell6 {W : World} {b k n : Nat} {o0 o1 o2 o3 o4 o5 : Nat} {v0 v1 v2 v3 v4 v5 : Value} (h : W.there b 0 n) (hb : k ≠ b) : ((((((W.setCell ⟨k, o0, none⟩ v0).setCell ⟨k, o1, none⟩ v1).setCell ⟨k, o2, none⟩ v2).setCell ⟨k, o3, none⟩ v3).setCell ⟨k, o4, none⟩ v4).setCell ⟨k, o5, none⟩ v5).there b 0 n :=
  there_cell (there_cell (there_cell (there_cell (there_cell (there_cell h hb) hb) hb) hb) hb) hb

theorem there_cells {b k n : Nat} (vs : List Value) : ∀ (o : Nat) {W : World}, W.there b 0 n → k ≠ b → (W.setCells k o vs).there b 0 n := by
  induction vs with
  | nil => intro o W h _; exact h
  | cons v r ih => intro o W h hb; exact ih (o + 1) (there_cell h hb) hb
theorem range18c {W : World} {b : Nat} {v0 v1 v2 v3 v4 v5 v6 v7 v8 v9 v10 v11 v12 v13 v14 v15 v16 v17 : Value} (h0 : W.cell? ⟨b, 0, none⟩ = some v0) (h1 : W.cell? ⟨b, 1, none⟩ = some v1) (h2 : W.cell? ⟨b, 2, none⟩ = some v2) (h3 : W.cell? ⟨b, 3, none⟩ = some v3) (h4 : W.cell? ⟨b, 4, none⟩ = some v4) (h5 : W.cell? ⟨b, 5, none⟩ = some v5) (h6 : W.cell? ⟨b, 6, none⟩ = some v6) (h7 : W.cell? ⟨b, 7, none⟩ = some v7) (h8 : W.cell? ⟨b, 8, none⟩ = some v8) (h9 : W.cell? ⟨b, 9, none⟩ = some v9) (h10 : W.cell? ⟨b, 10, none⟩ = some v10) (h11 : W.cell? ⟨b, 11, none⟩ = some v11) (h12 : W.cell? ⟨b, 12, none⟩ = some v12) (h13 : W.cell? ⟨b, 13, none⟩ = some v13) (h14 : W.cell? ⟨b, 14, none⟩ = some v14) (h15 : W.cell? ⟨b, 15, none⟩ = some v15) (h16 : W.cell? ⟨b, 16, none⟩ = some v16) (h17 : W.cell? ⟨b, 17, none⟩ = some v17) : W.rangeAt b 0 [v0, v1, v2, v3, v4, v5, v6, v7, v8, v9, v10, v11, v12, v13, v14, v15, v16, v17] := fun j v hj => by
  have hlt : j < 18 := by have := (List.getElem?_eq_some_iff.1 hj).1; simpa using this
  rcases (show j = 0 ∨ j = 1 ∨ j = 2 ∨ j = 3 ∨ j = 4 ∨ j = 5 ∨ j = 6 ∨ j = 7 ∨ j = 8 ∨ j = 9 ∨ j = 10 ∨ j = 11 ∨ j = 12 ∨ j = 13 ∨ j = 14 ∨ j = 15 ∨ j = 16 ∨ j = 17 by omega) with rfl | rfl | rfl | rfl | rfl | rfl | rfl | rfl | rfl | rfl | rfl | rfl | rfl | rfl | rfl | rfl | rfl | rfl
  · simp at hj; subst hj; exact h0
  · simp at hj; subst hj; exact h1
  · simp at hj; subst hj; exact h2
  · simp at hj; subst hj; exact h3
  · simp at hj; subst hj; exact h4
  · simp at hj; subst hj; exact h5
  · simp at hj; subst hj; exact h6
  · simp at hj; subst hj; exact h7
  · simp at hj; subst hj; exact h8
  · simp at hj; subst hj; exact h9
  · simp at hj; subst hj; exact h10
  · simp at hj; subst hj; exact h11
  · simp at hj; subst hj; exact h12
  · simp at hj; subst hj; exact h13
  · simp at hj; subst hj; exact h14
  · simp at hj; subst hj; exact h15
  · simp at hj; subst hj; exact h16
  · simp at hj; subst hj; exact h17
set_option maxRecDepth 100000 in
set_option maxHeartbeats 8000000 in
theorem across_of (p0 p1 p2 p3 p4 p5 q0 q1 q2 q3 q4 q5 d0 d1 d2 d3 d4 d5 e0 e1 e2 e3 e4 e5 : Int) (x o : Bool) (C1 : (∀ w, Calls Tryd.prog 41 #[(.agg #[.int .u16 (p0), .int .u16 (p1), .int .u16 (p2), .int .u16 (p3), .int .u16 (p4), .int .u16 (p5)]), (.agg #[.int .u16 (q0), .int .u16 (q1), .int .u16 (q2), .int .u16 (q3), .int .u16 (q4), .int .u16 (q5)])] w fun e w' => e = .returned (.tuple #[(.agg #[.int .u16 (d0), .int .u16 (d1), .int .u16 (d2), .int .u16 (d3), .int .u16 (d4), .int .u16 (d5)]), .bool x]) ∧ Below w.heap.size w w')) (C2 : (∀ w, Calls Tryd.prog 40 #[(.agg #[.int .u16 (d0), .int .u16 (d1), .int .u16 (d2), .int .u16 (d3), .int .u16 (d4), .int .u16 (d5)])] w fun e w' => e = .returned (.tuple #[(.agg #[.int .u16 (e0), .int .u16 (e1), .int .u16 (e2), .int .u16 (e3), .int .u16 (e4), .int .u16 (e5)]), .bool o]) ∧ Below w.heap.size w w')) (w : World) :
    Calls Tryd.prog 43 #[(.agg #[.int .u16 (p0), .int .u16 (p1), .int .u16 (p2), .int .u16 (p3), .int .u16 (p4), .int .u16 (p5)]), (.agg #[.int .u16 (q0), .int .u16 (q1), .int .u16 (q2), .int .u16 (q3), .int .u16 (q4), .int .u16 (q5)])] w fun e w' => e = .returned (.agg #[.int .u16 (e0), .int .u16 (e1), .int .u16 (e2), .int .u16 (e3), .int .u16 (e4), .int .u16 (e5)]) ∧ Below w.heap.size w w' := by
  go_enter Tryd.func43, Tryd.ntmps43
  go_wp2_with fail
  refine (C1 _).mono ?_
  rintro _ r1 ⟨rfl, hbr1⟩
  obtain ⟨hcr1, hfr1⟩ := bcell hbr1
  have hzr1 := hbr1.size
  try simp only [World.size_alloc, World.size_setCell, World.size_drew] at hzr1
  have hlr1w0 : w.heap.size < r1.heap.size := by omega
  have hlr1w1 : w.heap.size + 1 < r1.heap.size := by omega
  have hlr1w2 : w.heap.size + 1 + 1 < r1.heap.size := by omega
  go_wp2_with fail
  refine (C2 _).mono ?_
  rintro _ r2 ⟨rfl, hbr2⟩
  obtain ⟨hcr2, hfr2⟩ := bcell hbr2
  have hzr2 := hbr2.size
  try simp only [World.size_alloc, World.size_setCell, World.size_drew] at hzr2
  have hlr2w0 : w.heap.size < r2.heap.size := by omega
  have hlr2w1 : w.heap.size + 1 < r2.heap.size := by omega
  have hlr2w2 : w.heap.size + 1 + 1 < r2.heap.size := by omega
  have hlr2r10 : r1.heap.size < r2.heap.size := by omega
  go_wp2
  refine bodyPost_ret (v := (.agg #[.int .u16 (e0), .int .u16 (e1), .int .u16 (e2), .int .u16 (e3), .int .u16 (e4), .int .u16 (e5)])) (by simp [results, Tryd.results43, go_sem, *]) rfl ⟨rfl, ?_⟩; exact (by repeat' (first | (with_reducible exact Below.refl _ _) | (with_reducible refine bl_set ?_ _ ?_) | (with_reducible refine bl_alloc ?_ _) | (with_reducible refine bl_drew ?_) | (with_reducible refine bl_via (by with_reducible assumption) ?_) | (with_reducible assumption) | omega | (simp only []; omega) | (simp; omega)))
set_option maxRecDepth 100000 in
set_option maxHeartbeats 8000000 in
theorem triad_bad_t (a0 a1 a2 a3 a4 a5 b0 b1 b2 b3 b4 b5 u0 u1 u2 u3 u4 u5 v0 v1 v2 v3 v4 v5 : Int) (n2 : Bool) (C1 : (∀ w, Calls Tryd.prog 40 #[(.agg #[.int .u16 (a0), .int .u16 (a1), .int .u16 (a2), .int .u16 (a3), .int .u16 (a4), .int .u16 (a5)])] w fun e w' => e = .returned (.tuple #[(.agg #[.int .u16 (u0), .int .u16 (u1), .int .u16 (u2), .int .u16 (u3), .int .u16 (u4), .int .u16 (u5)]), .bool true]) ∧ Below w.heap.size w w')) (C2 : (∀ w, Calls Tryd.prog 40 #[(.agg #[.int .u16 (b0), .int .u16 (b1), .int .u16 (b2), .int .u16 (b3), .int .u16 (b4), .int .u16 (b5)])] w fun e w' => e = .returned (.tuple #[(.agg #[.int .u16 (v0), .int .u16 (v1), .int .u16 (v2), .int .u16 (v3), .int .u16 (v4), .int .u16 (v5)]), .bool n2]) ∧ Below w.heap.size w w')) (w : World) :
    Calls Tryd.prog 16 #[(.agg #[.int .u16 (a0), .int .u16 (a1), .int .u16 (a2), .int .u16 (a3), .int .u16 (a4), .int .u16 (a5)]), (.agg #[.int .u16 (b0), .int .u16 (b1), .int .u16 (b2), .int .u16 (b3), .int .u16 (b4), .int .u16 (b5)])] w fun e w' => e = .returned (.tuple #[(.agg #[.int .u16 (0), .int .u16 (0), .int .u16 (0), .int .u16 (0), .int .u16 (0), .int .u16 (0), .int .u16 (0), .int .u16 (0), .int .u16 (0), .int .u16 (0), .int .u16 (0), .int .u16 (0), .int .u16 (0), .int .u16 (0), .int .u16 (0), .int .u16 (0), .int .u16 (0), .int .u16 (0)]), .int .i64 2]) ∧ Below w.heap.size w w' := by
  go_enter Tryd.func16, Tryd.ntmps16
  go_wp2_with fail
  refine (C1 _).mono ?_
  rintro _ r1 ⟨rfl, hbr1⟩
  obtain ⟨hcr1, hfr1⟩ := bcell hbr1
  have hzr1 := hbr1.size
  try simp only [World.size_alloc, World.size_setCell, World.size_drew] at hzr1
  have hlr1w0 : w.heap.size < r1.heap.size := by omega
  have hlr1w1 : w.heap.size + 1 < r1.heap.size := by omega
  have hlr1w2 : w.heap.size + 1 + 1 < r1.heap.size := by omega
  have t1 : r1.there (w.heap.size + 1 + 1) 0 18 := there_on (there_row (c := #[.int .u16 0, .int .u16 0, .int .u16 0, .int .u16 0, .int .u16 0, .int .u16 0, .int .u16 0, .int .u16 0, .int .u16 0, .int .u16 0, .int .u16 0, .int .u16 0, .int .u16 0, .int .u16 0, .int .u16 0, .int .u16 0, .int .u16 0, .int .u16 0]) (t := 29) (heap_new (by simp only [World.size_alloc])) (by simp)) hbr1 (by (try simp only [World.size_alloc, World.size_setCell]); omega)
  go_wp2_with fail
  refine (C2 _).mono ?_
  rintro _ r2 ⟨rfl, hbr2⟩
  obtain ⟨hcr2, hfr2⟩ := bcell hbr2
  have hzr2 := hbr2.size
  try simp only [World.size_alloc, World.size_setCell, World.size_drew] at hzr2
  have hlr2w0 : w.heap.size < r2.heap.size := by omega
  have hlr2w1 : w.heap.size + 1 < r2.heap.size := by omega
  have hlr2w2 : w.heap.size + 1 + 1 < r2.heap.size := by omega
  have hlr2r10 : r1.heap.size < r2.heap.size := by omega
  have t2 : r2.there (w.heap.size + 1 + 1) 0 18 := there_on (there_on t1 (bl_alloc (Below.refl _ _) _) (by (try simp only [World.size_alloc, World.size_setCell]); omega)) hbr2 (by (try simp only [World.size_alloc, World.size_setCell]); omega)
  go_wp2_with (first | fail | (refine WL.h ?_; refine wl_store (op := { dst := none, op := .store 29 (.tmp 4) (.tmp 30), type := _, pos := _, after := _, guard := none }) rfl 29 (.tmp 4) (.tmp 30) rfl (w.heap.size + 1 + 1) 0 _ rfl rfl (there_on t2 (bl_alloc (Below.refl _ _) _) (by (try simp only [World.size_alloc, World.size_setCell]); omega)) hi_mat (by simp [Value.oneCell']) ?_; simp only [Act.put, List.setIfInBounds_toArray, List.set_cons_zero, List.set_cons_succ]))
  refine bodyPost_ret (v := (.tuple #[(.agg #[.int .u16 (0), .int .u16 (0), .int .u16 (0), .int .u16 (0), .int .u16 (0), .int .u16 (0), .int .u16 (0), .int .u16 (0), .int .u16 (0), .int .u16 (0), .int .u16 (0), .int .u16 (0), .int .u16 (0), .int .u16 (0), .int .u16 (0), .int .u16 (0), .int .u16 (0), .int .u16 (0)]), .int .i64 2])) (results_two Tryd.results16 rfl rfl (run_loadVar_mid _ _ 0 _ _ _ (World.rangeAt_setCells_same _ _ _ _ (there_on t2 (bl_alloc (Below.refl _ _) _) (by (try simp only [World.size_alloc, World.size_setCell]); omega))) hu_mat rfl hi_mat)) rfl ⟨rfl, bl_cells _ _ _ _ (by repeat' (first | (with_reducible exact Below.refl _ _) | (with_reducible refine bl_set ?_ _ ?_) | (with_reducible refine bl_alloc ?_ _) | (with_reducible refine bl_drew ?_) | (with_reducible refine bl_via (by with_reducible assumption) ?_) | (with_reducible assumption) | omega | (simp only []; omega) | (simp; omega))) (by omega)⟩
set_option maxRecDepth 100000 in
set_option maxHeartbeats 8000000 in
theorem triad_bad_f (a0 a1 a2 a3 a4 a5 b0 b1 b2 b3 b4 b5 u0 u1 u2 u3 u4 u5 v0 v1 v2 v3 v4 v5 : Int) (C1 : (∀ w, Calls Tryd.prog 40 #[(.agg #[.int .u16 (a0), .int .u16 (a1), .int .u16 (a2), .int .u16 (a3), .int .u16 (a4), .int .u16 (a5)])] w fun e w' => e = .returned (.tuple #[(.agg #[.int .u16 (u0), .int .u16 (u1), .int .u16 (u2), .int .u16 (u3), .int .u16 (u4), .int .u16 (u5)]), .bool false]) ∧ Below w.heap.size w w')) (C2 : (∀ w, Calls Tryd.prog 40 #[(.agg #[.int .u16 (b0), .int .u16 (b1), .int .u16 (b2), .int .u16 (b3), .int .u16 (b4), .int .u16 (b5)])] w fun e w' => e = .returned (.tuple #[(.agg #[.int .u16 (v0), .int .u16 (v1), .int .u16 (v2), .int .u16 (v3), .int .u16 (v4), .int .u16 (v5)]), .bool true]) ∧ Below w.heap.size w w')) (w : World) :
    Calls Tryd.prog 16 #[(.agg #[.int .u16 (a0), .int .u16 (a1), .int .u16 (a2), .int .u16 (a3), .int .u16 (a4), .int .u16 (a5)]), (.agg #[.int .u16 (b0), .int .u16 (b1), .int .u16 (b2), .int .u16 (b3), .int .u16 (b4), .int .u16 (b5)])] w fun e w' => e = .returned (.tuple #[(.agg #[.int .u16 (0), .int .u16 (0), .int .u16 (0), .int .u16 (0), .int .u16 (0), .int .u16 (0), .int .u16 (0), .int .u16 (0), .int .u16 (0), .int .u16 (0), .int .u16 (0), .int .u16 (0), .int .u16 (0), .int .u16 (0), .int .u16 (0), .int .u16 (0), .int .u16 (0), .int .u16 (0)]), .int .i64 2]) ∧ Below w.heap.size w w' := by
  go_enter Tryd.func16, Tryd.ntmps16
  go_wp2_with fail
  refine (C1 _).mono ?_
  rintro _ r1 ⟨rfl, hbr1⟩
  obtain ⟨hcr1, hfr1⟩ := bcell hbr1
  have hzr1 := hbr1.size
  try simp only [World.size_alloc, World.size_setCell, World.size_drew] at hzr1
  have hlr1w0 : w.heap.size < r1.heap.size := by omega
  have hlr1w1 : w.heap.size + 1 < r1.heap.size := by omega
  have hlr1w2 : w.heap.size + 1 + 1 < r1.heap.size := by omega
  have t1 : r1.there (w.heap.size + 1 + 1) 0 18 := there_on (there_row (c := #[.int .u16 0, .int .u16 0, .int .u16 0, .int .u16 0, .int .u16 0, .int .u16 0, .int .u16 0, .int .u16 0, .int .u16 0, .int .u16 0, .int .u16 0, .int .u16 0, .int .u16 0, .int .u16 0, .int .u16 0, .int .u16 0, .int .u16 0, .int .u16 0]) (t := 29) (heap_new (by simp only [World.size_alloc])) (by simp)) hbr1 (by (try simp only [World.size_alloc, World.size_setCell]); omega)
  go_wp2_with fail
  refine (C2 _).mono ?_
  rintro _ r2 ⟨rfl, hbr2⟩
  obtain ⟨hcr2, hfr2⟩ := bcell hbr2
  have hzr2 := hbr2.size
  try simp only [World.size_alloc, World.size_setCell, World.size_drew] at hzr2
  have hlr2w0 : w.heap.size < r2.heap.size := by omega
  have hlr2w1 : w.heap.size + 1 < r2.heap.size := by omega
  have hlr2w2 : w.heap.size + 1 + 1 < r2.heap.size := by omega
  have hlr2r10 : r1.heap.size < r2.heap.size := by omega
  have t2 : r2.there (w.heap.size + 1 + 1) 0 18 := there_on (there_on t1 (bl_alloc (Below.refl _ _) _) (by (try simp only [World.size_alloc, World.size_setCell]); omega)) hbr2 (by (try simp only [World.size_alloc, World.size_setCell]); omega)
  go_wp2_with (first | fail | (refine WL.h ?_; refine wl_store (op := { dst := none, op := .store 29 (.tmp 4) (.tmp 30), type := _, pos := _, after := _, guard := none }) rfl 29 (.tmp 4) (.tmp 30) rfl (w.heap.size + 1 + 1) 0 _ rfl rfl (there_on t2 (bl_alloc (Below.refl _ _) _) (by (try simp only [World.size_alloc, World.size_setCell]); omega)) hi_mat (by simp [Value.oneCell']) ?_; simp only [Act.put, List.setIfInBounds_toArray, List.set_cons_zero, List.set_cons_succ]))
  refine bodyPost_ret (v := (.tuple #[(.agg #[.int .u16 (0), .int .u16 (0), .int .u16 (0), .int .u16 (0), .int .u16 (0), .int .u16 (0), .int .u16 (0), .int .u16 (0), .int .u16 (0), .int .u16 (0), .int .u16 (0), .int .u16 (0), .int .u16 (0), .int .u16 (0), .int .u16 (0), .int .u16 (0), .int .u16 (0), .int .u16 (0)]), .int .i64 2])) (results_two Tryd.results16 rfl rfl (run_loadVar_mid _ _ 0 _ _ _ (World.rangeAt_setCells_same _ _ _ _ (there_on t2 (bl_alloc (Below.refl _ _) _) (by (try simp only [World.size_alloc, World.size_setCell]); omega))) hu_mat rfl hi_mat)) rfl ⟨rfl, bl_cells _ _ _ _ (by repeat' (first | (with_reducible exact Below.refl _ _) | (with_reducible refine bl_set ?_ _ ?_) | (with_reducible refine bl_alloc ?_ _) | (with_reducible refine bl_drew ?_) | (with_reducible refine bl_via (by with_reducible assumption) ?_) | (with_reducible assumption) | omega | (simp only []; omega) | (simp; omega))) (by omega)⟩
set_option maxRecDepth 100000 in
set_option maxHeartbeats 8000000 in
theorem triad_short (a0 a1 a2 a3 a4 a5 b0 b1 b2 b3 b4 b5 u0 u1 u2 u3 u4 u5 v0 v1 v2 v3 v4 v5 c0 c1 c2 c3 c4 c5 l0 l1 L : Int) (x y : Bool) (C1 : (∀ w, Calls Tryd.prog 40 #[(.agg #[.int .u16 (a0), .int .u16 (a1), .int .u16 (a2), .int .u16 (a3), .int .u16 (a4), .int .u16 (a5)])] w fun e w' => e = .returned (.tuple #[(.agg #[.int .u16 (u0), .int .u16 (u1), .int .u16 (u2), .int .u16 (u3), .int .u16 (u4), .int .u16 (u5)]), .bool false]) ∧ Below w.heap.size w w')) (C2 : (∀ w, Calls Tryd.prog 40 #[(.agg #[.int .u16 (b0), .int .u16 (b1), .int .u16 (b2), .int .u16 (b3), .int .u16 (b4), .int .u16 (b5)])] w fun e w' => e = .returned (.tuple #[(.agg #[.int .u16 (v0), .int .u16 (v1), .int .u16 (v2), .int .u16 (v3), .int .u16 (v4), .int .u16 (v5)]), .bool false]) ∧ Below w.heap.size w w'))
    (C3 : (∀ w, Calls Tryd.prog 41 #[(.agg #[.int .u16 (u0), .int .u16 (u1), .int .u16 (u2), .int .u16 (u3), .int .u16 (u4), .int .u16 (u5)]), (.agg #[.int .u16 (v0), .int .u16 (v1), .int .u16 (v2), .int .u16 (v3), .int .u16 (v4), .int .u16 (v5)])] w fun e w' => e = .returned (.tuple #[(.agg #[.int .u16 (c0), .int .u16 (c1), .int .u16 (c2), .int .u16 (c3), .int .u16 (c4), .int .u16 (c5)]), .bool x]) ∧ Below w.heap.size w w')) (C4 : (∀ w, Calls Tryd.prog 42 #[(.agg #[.int .u16 (c0), .int .u16 (c1), .int .u16 (c2), .int .u16 (c3), .int .u16 (c4), .int .u16 (c5)])] w fun e w' => e = .returned (.tuple #[(.agg #[.int .u16 (l0), .int .u16 (l1)]), .bool y]) ∧ Below w.heap.size w w')) (C5 : (∀ w, Calls Tryd.prog 37 #[(.agg #[.int .u16 (l0), .int .u16 (l1)])] w fun e w' => e = .returned (.int .i64 L) ∧ Below w.heap.size w w')) (hL : decide (L < 4194304) = true) (w : World) :
    Calls Tryd.prog 16 #[(.agg #[.int .u16 (a0), .int .u16 (a1), .int .u16 (a2), .int .u16 (a3), .int .u16 (a4), .int .u16 (a5)]), (.agg #[.int .u16 (b0), .int .u16 (b1), .int .u16 (b2), .int .u16 (b3), .int .u16 (b4), .int .u16 (b5)])] w fun e w' => e = .returned (.tuple #[(.agg #[.int .u16 (0), .int .u16 (0), .int .u16 (0), .int .u16 (0), .int .u16 (0), .int .u16 (0), .int .u16 (0), .int .u16 (0), .int .u16 (0), .int .u16 (0), .int .u16 (0), .int .u16 (0), .int .u16 (0), .int .u16 (0), .int .u16 (0), .int .u16 (0), .int .u16 (0), .int .u16 (0)]), .int .i64 2]) ∧ Below w.heap.size w w' := by
  go_enter Tryd.func16, Tryd.ntmps16
  go_wp2_with fail
  refine (C1 _).mono ?_
  rintro _ r1 ⟨rfl, hbr1⟩
  obtain ⟨hcr1, hfr1⟩ := bcell hbr1
  have hzr1 := hbr1.size
  try simp only [World.size_alloc, World.size_setCell, World.size_drew] at hzr1
  have hlr1w0 : w.heap.size < r1.heap.size := by omega
  have hlr1w1 : w.heap.size + 1 < r1.heap.size := by omega
  have hlr1w2 : w.heap.size + 1 + 1 < r1.heap.size := by omega
  have t1 : r1.there (w.heap.size + 1 + 1) 0 18 := there_on (there_row (c := #[.int .u16 0, .int .u16 0, .int .u16 0, .int .u16 0, .int .u16 0, .int .u16 0, .int .u16 0, .int .u16 0, .int .u16 0, .int .u16 0, .int .u16 0, .int .u16 0, .int .u16 0, .int .u16 0, .int .u16 0, .int .u16 0, .int .u16 0, .int .u16 0]) (t := 29) (heap_new (by simp only [World.size_alloc])) (by simp)) hbr1 (by (try simp only [World.size_alloc, World.size_setCell]); omega)
  go_wp2_with fail
  refine (C2 _).mono ?_
  rintro _ r2 ⟨rfl, hbr2⟩
  obtain ⟨hcr2, hfr2⟩ := bcell hbr2
  have hzr2 := hbr2.size
  try simp only [World.size_alloc, World.size_setCell, World.size_drew] at hzr2
  have hlr2w0 : w.heap.size < r2.heap.size := by omega
  have hlr2w1 : w.heap.size + 1 < r2.heap.size := by omega
  have hlr2w2 : w.heap.size + 1 + 1 < r2.heap.size := by omega
  have hlr2r10 : r1.heap.size < r2.heap.size := by omega
  have t2 : r2.there (w.heap.size + 1 + 1) 0 18 := there_on (there_on t1 (bl_alloc (Below.refl _ _) _) (by (try simp only [World.size_alloc, World.size_setCell]); omega)) hbr2 (by (try simp only [World.size_alloc, World.size_setCell]); omega)
  go_wp2_with fail
  refine (C3 _).mono ?_
  rintro _ r3 ⟨rfl, hbr3⟩
  obtain ⟨hcr3, hfr3⟩ := bcell hbr3
  have hzr3 := hbr3.size
  try simp only [World.size_alloc, World.size_setCell, World.size_drew] at hzr3
  have hlr3w0 : w.heap.size < r3.heap.size := by omega
  have hlr3w1 : w.heap.size + 1 < r3.heap.size := by omega
  have hlr3w2 : w.heap.size + 1 + 1 < r3.heap.size := by omega
  have hlr3r10 : r1.heap.size < r3.heap.size := by omega
  have hlr3r20 : r2.heap.size < r3.heap.size := by omega
  have t3 : r3.there (w.heap.size + 1 + 1) 0 18 := there_on (there_on t2 (bl_alloc (Below.refl _ _) _) (by (try simp only [World.size_alloc, World.size_setCell]); omega)) hbr3 (by (try simp only [World.size_alloc, World.size_setCell]); omega)
  go_wp2_with fail
  refine (C4 _).mono ?_
  rintro _ r4 ⟨rfl, hbr4⟩
  obtain ⟨hcr4, hfr4⟩ := bcell hbr4
  have hzr4 := hbr4.size
  try simp only [World.size_alloc, World.size_setCell, World.size_drew] at hzr4
  have hlr4w0 : w.heap.size < r4.heap.size := by omega
  have hlr4w1 : w.heap.size + 1 < r4.heap.size := by omega
  have hlr4w2 : w.heap.size + 1 + 1 < r4.heap.size := by omega
  have hlr4r10 : r1.heap.size < r4.heap.size := by omega
  have hlr4r20 : r2.heap.size < r4.heap.size := by omega
  have hlr4r30 : r3.heap.size < r4.heap.size := by omega
  have t4 : r4.there (w.heap.size + 1 + 1) 0 18 := there_on (there_on t3 (bl_alloc (Below.refl _ _) _) (by (try simp only [World.size_alloc, World.size_setCell]); omega)) hbr4 (by (try simp only [World.size_alloc, World.size_setCell]); omega)
  go_wp2_with fail
  refine (C5 _).mono ?_
  rintro _ r5 ⟨rfl, hbr5⟩
  obtain ⟨hcr5, hfr5⟩ := bcell hbr5
  have hzr5 := hbr5.size
  try simp only [World.size_alloc, World.size_setCell, World.size_drew] at hzr5
  have hlr5w0 : w.heap.size < r5.heap.size := by omega
  have hlr5w1 : w.heap.size + 1 < r5.heap.size := by omega
  have hlr5w2 : w.heap.size + 1 + 1 < r5.heap.size := by omega
  have hlr5r10 : r1.heap.size < r5.heap.size := by omega
  have hlr5r20 : r2.heap.size < r5.heap.size := by omega
  have t5 : r5.there (w.heap.size + 1 + 1) 0 18 := there_on (there_on t4 (bl_alloc (Below.refl _ _) _) (by (try simp only [World.size_alloc, World.size_setCell]); omega)) hbr5 (by (try simp only [World.size_alloc, World.size_setCell]); omega)
  go_wp2_with (first | fail | (refine WL.h ?_; refine wl_store (op := { dst := none, op := .store 29 (.tmp 4) (.tmp 45), type := _, pos := _, after := _, guard := none }) rfl 29 (.tmp 4) (.tmp 45) rfl (w.heap.size + 1 + 1) 0 _ rfl rfl t5 hi_mat (by simp [Value.oneCell']) ?_; simp only [Act.put, List.setIfInBounds_toArray, List.set_cons_zero, List.set_cons_succ]))
  refine bodyPost_ret (v := (.tuple #[(.agg #[.int .u16 (0), .int .u16 (0), .int .u16 (0), .int .u16 (0), .int .u16 (0), .int .u16 (0), .int .u16 (0), .int .u16 (0), .int .u16 (0), .int .u16 (0), .int .u16 (0), .int .u16 (0), .int .u16 (0), .int .u16 (0), .int .u16 (0), .int .u16 (0), .int .u16 (0), .int .u16 (0)]), .int .i64 2])) (results_two Tryd.results16 rfl rfl (run_loadVar_mid _ _ 0 _ _ _ (World.rangeAt_setCells_same _ _ _ _ t5) hu_mat rfl hi_mat)) rfl ⟨rfl, bl_cells _ _ _ _ (by repeat' (first | (with_reducible exact Below.refl _ _) | (with_reducible refine bl_set ?_ _ ?_) | (with_reducible refine bl_alloc ?_ _) | (with_reducible refine bl_drew ?_) | (with_reducible refine bl_via (by with_reducible assumption) ?_) | (with_reducible assumption) | omega | (simp only []; omega) | (simp; omega))) (by omega)⟩
set_option maxRecDepth 100000 in
set_option maxHeartbeats 8000000 in
theorem triad_of (a0 a1 a2 a3 a4 a5 b0 b1 b2 b3 b4 b5 u0 u1 u2 u3 u4 u5 v0 v1 v2 v3 v4 v5 c0 c1 c2 c3 c4 c5 y0 y1 y2 y3 y4 y5 z0 z1 z2 z3 z4 z5 l0 l1 L : Int) (x yb : Bool) (C1 : (∀ w, Calls Tryd.prog 40 #[(.agg #[.int .u16 (a0), .int .u16 (a1), .int .u16 (a2), .int .u16 (a3), .int .u16 (a4), .int .u16 (a5)])] w fun e w' => e = .returned (.tuple #[(.agg #[.int .u16 (u0), .int .u16 (u1), .int .u16 (u2), .int .u16 (u3), .int .u16 (u4), .int .u16 (u5)]), .bool false]) ∧ Below w.heap.size w w')) (C2 : (∀ w, Calls Tryd.prog 40 #[(.agg #[.int .u16 (b0), .int .u16 (b1), .int .u16 (b2), .int .u16 (b3), .int .u16 (b4), .int .u16 (b5)])] w fun e w' => e = .returned (.tuple #[(.agg #[.int .u16 (v0), .int .u16 (v1), .int .u16 (v2), .int .u16 (v3), .int .u16 (v4), .int .u16 (v5)]), .bool false]) ∧ Below w.heap.size w w'))
    (C3 : (∀ w, Calls Tryd.prog 41 #[(.agg #[.int .u16 (u0), .int .u16 (u1), .int .u16 (u2), .int .u16 (u3), .int .u16 (u4), .int .u16 (u5)]), (.agg #[.int .u16 (v0), .int .u16 (v1), .int .u16 (v2), .int .u16 (v3), .int .u16 (v4), .int .u16 (v5)])] w fun e w' => e = .returned (.tuple #[(.agg #[.int .u16 (c0), .int .u16 (c1), .int .u16 (c2), .int .u16 (c3), .int .u16 (c4), .int .u16 (c5)]), .bool x]) ∧ Below w.heap.size w w')) (C4 : (∀ w, Calls Tryd.prog 42 #[(.agg #[.int .u16 (c0), .int .u16 (c1), .int .u16 (c2), .int .u16 (c3), .int .u16 (c4), .int .u16 (c5)])] w fun e w' => e = .returned (.tuple #[(.agg #[.int .u16 (l0), .int .u16 (l1)]), .bool yb]) ∧ Below w.heap.size w w')) (C5 : (∀ w, Calls Tryd.prog 37 #[(.agg #[.int .u16 (l0), .int .u16 (l1)])] w fun e w' => e = .returned (.int .i64 L) ∧ Below w.heap.size w w')) (hL : decide (L < 4194304) = false)
    (C6 : (∀ w, Calls Tryd.prog 43 #[(.agg #[.int .u16 (u0), .int .u16 (u1), .int .u16 (u2), .int .u16 (u3), .int .u16 (u4), .int .u16 (u5)]), (.agg #[.int .u16 (v0), .int .u16 (v1), .int .u16 (v2), .int .u16 (v3), .int .u16 (v4), .int .u16 (v5)])] w fun e w' => e = .returned (.agg #[.int .u16 (z0), .int .u16 (z1), .int .u16 (z2), .int .u16 (z3), .int .u16 (z4), .int .u16 (z5)]) ∧ Below w.heap.size w w')) (C7 : (∀ w, Calls Tryd.prog 43 #[(.agg #[.int .u16 (z0), .int .u16 (z1), .int .u16 (z2), .int .u16 (z3), .int .u16 (z4), .int .u16 (z5)]), (.agg #[.int .u16 (u0), .int .u16 (u1), .int .u16 (u2), .int .u16 (u3), .int .u16 (u4), .int .u16 (u5)])] w fun e w' => e = .returned (.agg #[.int .u16 (y0), .int .u16 (y1), .int .u16 (y2), .int .u16 (y3), .int .u16 (y4), .int .u16 (y5)]) ∧ Below w.heap.size w w')) (w : World) :
    Calls Tryd.prog 16 #[(.agg #[.int .u16 (a0), .int .u16 (a1), .int .u16 (a2), .int .u16 (a3), .int .u16 (a4), .int .u16 (a5)]), (.agg #[.int .u16 (b0), .int .u16 (b1), .int .u16 (b2), .int .u16 (b3), .int .u16 (b4), .int .u16 (b5)])] w fun e w' => e = .returned (.tuple #[(.agg #[.int .u16 (u0), .int .u16 (u1), .int .u16 (u2), .int .u16 (u3), .int .u16 (u4), .int .u16 (u5), .int .u16 (y0), .int .u16 (y1), .int .u16 (y2), .int .u16 (y3), .int .u16 (y4), .int .u16 (y5), .int .u16 (z0), .int .u16 (z1), .int .u16 (z2), .int .u16 (z3), .int .u16 (z4), .int .u16 (z5)]), .int .i64 0]) ∧ Below w.heap.size w w' := by
  go_enter Tryd.func16, Tryd.ntmps16
  go_wp2_with fail
  refine (C1 _).mono ?_
  rintro _ r1 ⟨rfl, hbr1⟩
  obtain ⟨hcr1, hfr1⟩ := bcell hbr1
  have hzr1 := hbr1.size
  try simp only [World.size_alloc, World.size_setCell, World.size_drew] at hzr1
  have hlr1w0 : w.heap.size < r1.heap.size := by omega
  have hlr1w1 : w.heap.size + 1 < r1.heap.size := by omega
  have hlr1w2 : w.heap.size + 1 + 1 < r1.heap.size := by omega
  have t1 : r1.there (w.heap.size + 1 + 1) 0 18 := there_on (there_row (c := #[.int .u16 0, .int .u16 0, .int .u16 0, .int .u16 0, .int .u16 0, .int .u16 0, .int .u16 0, .int .u16 0, .int .u16 0, .int .u16 0, .int .u16 0, .int .u16 0, .int .u16 0, .int .u16 0, .int .u16 0, .int .u16 0, .int .u16 0, .int .u16 0]) (t := 29) (heap_new (by simp only [World.size_alloc])) (by simp)) hbr1 (by (try simp only [World.size_alloc, World.size_setCell]); omega)
  go_wp2_with fail
  refine (C2 _).mono ?_
  rintro _ r2 ⟨rfl, hbr2⟩
  obtain ⟨hcr2, hfr2⟩ := bcell hbr2
  have hzr2 := hbr2.size
  try simp only [World.size_alloc, World.size_setCell, World.size_drew] at hzr2
  have hlr2w0 : w.heap.size < r2.heap.size := by omega
  have hlr2w1 : w.heap.size + 1 < r2.heap.size := by omega
  have hlr2w2 : w.heap.size + 1 + 1 < r2.heap.size := by omega
  have hlr2r10 : r1.heap.size < r2.heap.size := by omega
  have t2 : r2.there (w.heap.size + 1 + 1) 0 18 := there_on (there_on t1 (bl_alloc (Below.refl _ _) _) (by (try simp only [World.size_alloc, World.size_setCell]); omega)) hbr2 (by (try simp only [World.size_alloc, World.size_setCell]); omega)
  go_wp2_with fail
  refine (C3 _).mono ?_
  rintro _ r3 ⟨rfl, hbr3⟩
  obtain ⟨hcr3, hfr3⟩ := bcell hbr3
  have hzr3 := hbr3.size
  try simp only [World.size_alloc, World.size_setCell, World.size_drew] at hzr3
  have hlr3w0 : w.heap.size < r3.heap.size := by omega
  have hlr3w1 : w.heap.size + 1 < r3.heap.size := by omega
  have hlr3w2 : w.heap.size + 1 + 1 < r3.heap.size := by omega
  have hlr3r10 : r1.heap.size < r3.heap.size := by omega
  have hlr3r20 : r2.heap.size < r3.heap.size := by omega
  have t3 : r3.there (w.heap.size + 1 + 1) 0 18 := there_on (there_on t2 (bl_alloc (Below.refl _ _) _) (by (try simp only [World.size_alloc, World.size_setCell]); omega)) hbr3 (by (try simp only [World.size_alloc, World.size_setCell]); omega)
  go_wp2_with fail
  refine (C4 _).mono ?_
  rintro _ r4 ⟨rfl, hbr4⟩
  obtain ⟨hcr4, hfr4⟩ := bcell hbr4
  have hzr4 := hbr4.size
  try simp only [World.size_alloc, World.size_setCell, World.size_drew] at hzr4
  have hlr4w0 : w.heap.size < r4.heap.size := by omega
  have hlr4w1 : w.heap.size + 1 < r4.heap.size := by omega
  have hlr4w2 : w.heap.size + 1 + 1 < r4.heap.size := by omega
  have hlr4r10 : r1.heap.size < r4.heap.size := by omega
  have hlr4r20 : r2.heap.size < r4.heap.size := by omega
  have hlr4r30 : r3.heap.size < r4.heap.size := by omega
  have t4 : r4.there (w.heap.size + 1 + 1) 0 18 := there_on (there_on t3 (bl_alloc (Below.refl _ _) _) (by (try simp only [World.size_alloc, World.size_setCell]); omega)) hbr4 (by (try simp only [World.size_alloc, World.size_setCell]); omega)
  go_wp2_with fail
  refine (C5 _).mono ?_
  rintro _ r5 ⟨rfl, hbr5⟩
  obtain ⟨hcr5, hfr5⟩ := bcell hbr5
  have hzr5 := hbr5.size
  try simp only [World.size_alloc, World.size_setCell, World.size_drew] at hzr5
  have hlr5w0 : w.heap.size < r5.heap.size := by omega
  have hlr5w1 : w.heap.size + 1 < r5.heap.size := by omega
  have hlr5w2 : w.heap.size + 1 + 1 < r5.heap.size := by omega
  have hlr5r10 : r1.heap.size < r5.heap.size := by omega
  have hlr5r20 : r2.heap.size < r5.heap.size := by omega
  have t5 : r5.there (w.heap.size + 1 + 1) 0 18 := there_on (there_on t4 (bl_alloc (Below.refl _ _) _) (by (try simp only [World.size_alloc, World.size_setCell]); omega)) hbr5 (by (try simp only [World.size_alloc, World.size_setCell]); omega)
  go_wp2_with fail
  refine (C6 _).mono ?_
  rintro _ r6 ⟨rfl, hbr6⟩
  obtain ⟨hcr6, hfr6⟩ := bcell hbr6
  have hzr6 := hbr6.size
  try simp only [World.size_alloc, World.size_setCell, World.size_drew] at hzr6
  have hlr6w0 : w.heap.size < r6.heap.size := by omega
  have hlr6w1 : w.heap.size + 1 < r6.heap.size := by omega
  have hlr6w2 : w.heap.size + 1 + 1 < r6.heap.size := by omega
  have hlr6r10 : r1.heap.size < r6.heap.size := by omega
  have hlr6r20 : r2.heap.size < r6.heap.size := by omega
  have t6 : r6.there (w.heap.size + 1 + 1) 0 18 := there_on t5 hbr6 (by (try simp only [World.size_alloc, World.size_setCell]); omega)
  go_wp2_with fail
  have hecr7 := @Ext.cell
  refine wp_region_ext_tail 7 (by kernel_rfl) (by kernel_rfl) ?_
  simp only [List.take_succ_cons, List.take_zero, List.drop_succ_cons, List.drop_zero]
  repeat (first | go_big_quiet_skip | (go_big_quiet_want; go_big_quiet_op; first | go_big_quiet_on | (go_big_quiet_call ((first | fail | (go_at_call 43; with_reducible exact ext_call (C7 _)))))))
  clear hecr7
  refine wpQuiet_nil ?_
  rintro r7 ⟨⟨_, hbr7⟩, rfl⟩
  obtain ⟨hcr7, hfr7⟩ := bcell hbr7
  have hzr7 := hbr7.size
  try simp only [World.size_alloc, World.size_setCell, World.size_drew] at hzr7
  have hlr7w0 : w.heap.size < r7.heap.size := by omega
  have hlr7w1 : w.heap.size + 1 < r7.heap.size := by omega
  have hlr7w2 : w.heap.size + 1 + 1 < r7.heap.size := by omega
  have hlr7r10 : r1.heap.size < r7.heap.size := by omega
  have hlr7r60 : r6.heap.size < r7.heap.size := by omega
  have t7 : r7.there (w.heap.size + 1 + 1) 0 18 := there_on (there_on t6 (bl_alloc (Below.refl _ _) _) (by (try simp only [World.size_alloc, World.size_setCell]); omega)) hbr7 (by (try simp only [World.size_alloc, World.size_setCell]); omega)
  go_wp2_with (first | fail | (refine WL.h ?_; refine wl_store (op := { dst := none, op := .store 29 (.tmp 4) (.tmp 56), type := _, pos := _, after := _, guard := none }) rfl 29 (.tmp 4) (.tmp 56) rfl (w.heap.size + 1 + 1) 0 _ rfl rfl t7 hi_mat (by simp [Value.oneCell']) ?_; simp only [Act.put, List.setIfInBounds_toArray, List.set_cons_zero, List.set_cons_succ]))
  refine bodyPost_ret (v := (.tuple #[(.agg #[.int .u16 (u0), .int .u16 (u1), .int .u16 (u2), .int .u16 (u3), .int .u16 (u4), .int .u16 (u5), .int .u16 (y0), .int .u16 (y1), .int .u16 (y2), .int .u16 (y3), .int .u16 (y4), .int .u16 (y5), .int .u16 (z0), .int .u16 (z1), .int .u16 (z2), .int .u16 (z3), .int .u16 (z4), .int .u16 (z5)]), .int .i64 0])) (results_two Tryd.results16 rfl rfl (run_loadVar_mid _ _ 0 _ _ _ (World.rangeAt_setCells_same _ _ _ _ t7) hu_mat rfl hi_mat)) rfl ⟨rfl, bl_cells _ _ _ _ (by repeat' (first | (with_reducible exact Below.refl _ _) | (with_reducible refine bl_set ?_ _ ?_) | (with_reducible refine bl_alloc ?_ _) | (with_reducible refine bl_drew ?_) | (with_reducible refine bl_via (by with_reducible assumption) ?_) | (with_reducible assumption) | omega | (simp only []; omega) | (simp; omega))) (by omega)⟩
set_option maxRecDepth 100000 in
set_option maxHeartbeats 8000000 in
theorem runit34_of (a0 a1 a2 a3 a4 a5 u0 u1 u2 u3 u4 u5 : Int) (o : Bool) (C1 : (∀ w, Calls Tryd.prog 74 #[(.agg #[.int .u16 (a0), .int .u16 (a1), .int .u16 (a2), .int .u16 (a3), .int .u16 (a4), .int .u16 (a5)])] w fun e w' => e = .returned (.tuple #[(.agg #[.int .u16 (u0), .int .u16 (u1), .int .u16 (u2), .int .u16 (u3), .int .u16 (u4), .int .u16 (u5)]), .bool o]) ∧ Below w.heap.size w w')) (w : World) : Calls Tryd.prog 48 #[(.agg #[.int .u16 (a0), .int .u16 (a1), .int .u16 (a2), .int .u16 (a3), .int .u16 (a4), .int .u16 (a5)])] w fun e w' => e = .returned (.agg #[.int .u16 (u0), .int .u16 (u1), .int .u16 (u2), .int .u16 (u3), .int .u16 (u4), .int .u16 (u5)]) ∧ Below w.heap.size w w' := by
  go_enter Tryd.func48, Tryd.ntmps48
  go_wp2_with fail
  refine (C1 _).mono ?_
  rintro _ r1 ⟨rfl, hbr1⟩
  obtain ⟨hcr1, hfr1⟩ := bcell hbr1
  have hzr1 := hbr1.size
  try simp only [World.size_alloc, World.size_setCell, World.size_drew] at hzr1
  have hlr1w0 : w.heap.size < r1.heap.size := by omega
  have hlr1w1 : w.heap.size + 1 < r1.heap.size := by omega
  go_wp2
  refine bodyPost_ret (v := (.agg #[.int .u16 (u0), .int .u16 (u1), .int .u16 (u2), .int .u16 (u3), .int .u16 (u4), .int .u16 (u5)])) (by simp [results, Tryd.results48, go_sem, *]) rfl ⟨rfl, ?_⟩; exact (by repeat' (first | (with_reducible exact Below.refl _ _) | (with_reducible refine bl_set ?_ _ ?_) | (with_reducible refine bl_alloc ?_ _) | (with_reducible refine bl_drew ?_) | (with_reducible refine bl_via (by with_reducible assumption) ?_) | (with_reducible assumption) | omega | (simp only []; omega) | (simp; omega)))
set_option maxRecDepth 100000 in
set_option maxHeartbeats 8000000 in
theorem rcross34_of (a0 a1 a2 a3 a4 a5 b0 b1 b2 b3 b4 b5 c0 c1 c2 c3 c4 c5 : Int) (o : Bool) (C1 : (∀ w, Calls Tryd.prog 76 #[(.agg #[.int .u16 (a0), .int .u16 (a1), .int .u16 (a2), .int .u16 (a3), .int .u16 (a4), .int .u16 (a5)]), (.agg #[.int .u16 (b0), .int .u16 (b1), .int .u16 (b2), .int .u16 (b3), .int .u16 (b4), .int .u16 (b5)])] w fun e w' => e = .returned (.tuple #[(.agg #[.int .u16 (c0), .int .u16 (c1), .int .u16 (c2), .int .u16 (c3), .int .u16 (c4), .int .u16 (c5)]), .bool o]) ∧ Below w.heap.size w w')) (w : World) : Calls Tryd.prog 49 #[(.agg #[.int .u16 (a0), .int .u16 (a1), .int .u16 (a2), .int .u16 (a3), .int .u16 (a4), .int .u16 (a5)]), (.agg #[.int .u16 (b0), .int .u16 (b1), .int .u16 (b2), .int .u16 (b3), .int .u16 (b4), .int .u16 (b5)])] w fun e w' => e = .returned (.agg #[.int .u16 (c0), .int .u16 (c1), .int .u16 (c2), .int .u16 (c3), .int .u16 (c4), .int .u16 (c5)]) ∧ Below w.heap.size w w' := by
  go_enter Tryd.func49, Tryd.ntmps49
  go_wp2_with fail
  refine (C1 _).mono ?_
  rintro _ r1 ⟨rfl, hbr1⟩
  obtain ⟨hcr1, hfr1⟩ := bcell hbr1
  have hzr1 := hbr1.size
  try simp only [World.size_alloc, World.size_setCell, World.size_drew] at hzr1
  have hlr1w0 : w.heap.size < r1.heap.size := by omega
  have hlr1w1 : w.heap.size + 1 < r1.heap.size := by omega
  have hlr1w2 : w.heap.size + 1 + 1 < r1.heap.size := by omega
  go_wp2
  refine bodyPost_ret (v := (.agg #[.int .u16 (c0), .int .u16 (c1), .int .u16 (c2), .int .u16 (c3), .int .u16 (c4), .int .u16 (c5)])) (by simp [results, Tryd.results49, go_sem, *]) rfl ⟨rfl, ?_⟩; exact (by repeat' (first | (with_reducible exact Below.refl _ _) | (with_reducible refine bl_set ?_ _ ?_) | (with_reducible refine bl_alloc ?_ _) | (with_reducible refine bl_drew ?_) | (with_reducible refine bl_via (by with_reducible assumption) ?_) | (with_reducible assumption) | omega | (simp only []; omega) | (simp; omega)))
set_option maxRecDepth 100000 in
set_option maxHeartbeats 8000000 in
theorem usable_1 (a0 a1 a2 a3 a4 a5 b0 b1 b2 b3 b4 b5 u0 u1 u2 u3 u4 u5 v0 v1 v2 v3 v4 v5 c0 c1 c2 c3 c4 c5 l0 l1 : Int) (y n2 : Bool)
    (C1 : (∀ w, Calls Tryd.prog 74 #[(.agg #[.int .u16 (a0), .int .u16 (a1), .int .u16 (a2), .int .u16 (a3), .int .u16 (a4), .int .u16 (a5)])] w fun e w' => e = .returned (.tuple #[(.agg #[.int .u16 (u0), .int .u16 (u1), .int .u16 (u2), .int .u16 (u3), .int .u16 (u4), .int .u16 (u5)]), .bool true]) ∧ Below w.heap.size w w'))
    (C2 : (∀ w, Calls Tryd.prog 74 #[(.agg #[.int .u16 (b0), .int .u16 (b1), .int .u16 (b2), .int .u16 (b3), .int .u16 (b4), .int .u16 (b5)])] w fun e w' => e = .returned (.tuple #[(.agg #[.int .u16 (v0), .int .u16 (v1), .int .u16 (v2), .int .u16 (v3), .int .u16 (v4), .int .u16 (v5)]), .bool n2]) ∧ Below w.heap.size w w'))
    (D1 : (∀ w, Calls Tryd.prog 48 #[(.agg #[.int .u16 (a0), .int .u16 (a1), .int .u16 (a2), .int .u16 (a3), .int .u16 (a4), .int .u16 (a5)])] w fun e w' => e = .returned (.agg #[.int .u16 (u0), .int .u16 (u1), .int .u16 (u2), .int .u16 (u3), .int .u16 (u4), .int .u16 (u5)]) ∧ Below w.heap.size w w'))
    (D2 : (∀ w, Calls Tryd.prog 48 #[(.agg #[.int .u16 (b0), .int .u16 (b1), .int .u16 (b2), .int .u16 (b3), .int .u16 (b4), .int .u16 (b5)])] w fun e w' => e = .returned (.agg #[.int .u16 (v0), .int .u16 (v1), .int .u16 (v2), .int .u16 (v3), .int .u16 (v4), .int .u16 (v5)]) ∧ Below w.heap.size w w'))
    (D3 : (∀ w, Calls Tryd.prog 49 #[(.agg #[.int .u16 (u0), .int .u16 (u1), .int .u16 (u2), .int .u16 (u3), .int .u16 (u4), .int .u16 (u5)]), (.agg #[.int .u16 (v0), .int .u16 (v1), .int .u16 (v2), .int .u16 (v3), .int .u16 (v4), .int .u16 (v5)])] w fun e w' => e = .returned (.agg #[.int .u16 (c0), .int .u16 (c1), .int .u16 (c2), .int .u16 (c3), .int .u16 (c4), .int .u16 (c5)]) ∧ Below w.heap.size w w'))
    (C4 : (∀ w, Calls Tryd.prog 75 #[(.agg #[.int .u16 (c0), .int .u16 (c1), .int .u16 (c2), .int .u16 (c3), .int .u16 (c4), .int .u16 (c5)])] w fun e w' => e = .returned (.tuple #[(.agg #[.int .u16 (l0), .int .u16 (l1)]), .bool y]) ∧ Below w.heap.size w w')) (w : World) :
    Calls Tryd.prog 47 #[(.agg #[.int .u16 (a0), .int .u16 (a1), .int .u16 (a2), .int .u16 (a3), .int .u16 (a4), .int .u16 (a5)]), (.agg #[.int .u16 (b0), .int .u16 (b1), .int .u16 (b2), .int .u16 (b3), .int .u16 (b4), .int .u16 (b5)])] w fun e w' => e = .returned (.bool false) ∧ Below w.heap.size w w' := by
  go_enter Tryd.func47, Tryd.ntmps47
  go_wp2_with fail
  refine (C1 _).mono ?_
  rintro _ r1 ⟨rfl, hbr1⟩
  obtain ⟨hcr1, hfr1⟩ := bcell hbr1
  have hzr1 := hbr1.size
  try simp only [World.size_alloc, World.size_setCell, World.size_drew] at hzr1
  have hlr1w0 : w.heap.size < r1.heap.size := by omega
  have hlr1w1 : w.heap.size + 1 < r1.heap.size := by omega
  go_wp2_with fail
  refine (C2 _).mono ?_
  rintro _ r2 ⟨rfl, hbr2⟩
  obtain ⟨hcr2, hfr2⟩ := bcell hbr2
  have hzr2 := hbr2.size
  try simp only [World.size_alloc, World.size_setCell, World.size_drew] at hzr2
  have hlr2w0 : w.heap.size < r2.heap.size := by omega
  have hlr2w1 : w.heap.size + 1 < r2.heap.size := by omega
  have hlr2r10 : r1.heap.size < r2.heap.size := by omega
  go_wp2_with fail
  have hecr3 := @Ext.cell2
  refine wp_region_floatl 9 8 _ _ _ _ _ (.cells #[.int .u16 0, .int .u16 0] 25) (by kernel_rfl) rfl rfl (by kernel_rfl) (by kernel_rfl) rfl rfl rfl rfl (fun _ _ => by simp [go_sem]) (fun _ _ d _ _ h => by cases d <;> exact h) (by kernel_rfl) (by kernel_rfl) rfl ?_
  apply Exists.intro
  refine ⟨fun W' => ?_, ?_⟩
  · simp only [List.take_succ_cons, List.take_zero]
    repeat (first | go_big_quiet_skip | (go_big_quiet_want; go_big_quiet_op; first | go_big_quiet_on | (go_big_quiet_call ((first | fail | (go_at_call 48; with_reducible exact ext_call (D1 _)) | (go_at_call 48; with_reducible exact ext_call (D2 _)) | (go_at_call 49; with_reducible exact ext_call (D3 _)) | (go_at_call 75; with_reducible exact ext_call (C4 _)))))))
    exact wpQuiet_nil rfl
  clear hecr3
  simp only [List.drop_succ_cons, List.drop_zero, Act.put, List.setIfInBounds_toArray, List.set_cons_zero, List.set_cons_succ]
  intro B3 r3 hbr3 hBr3 hDr3 hEr3
  have hGr3_0 := block_cell hEr3 0
  have hGr3_1 := block_cell hEr3 1
  have hFr3 := block_free hEr3
  simp only [List.getElem?_toArray, List.getElem?_cons_zero, List.getElem?_cons_succ] at hGr3_0 hGr3_1
  clear hEr3
  try simp only [World.size_alloc, World.size_setCell, World.size_drew] at hBr3
  obtain ⟨hcr3, hfr3⟩ := bcell hbr3
  have hzr3 := hbr3.size
  try simp only [World.size_alloc, World.size_setCell, World.size_drew] at hzr3
  have hlr3w0 : w.heap.size < r3.heap.size := by omega
  have hlr3w1 : w.heap.size + 1 < r3.heap.size := by omega
  have hlr3r10 : r1.heap.size < r3.heap.size := by omega
  have hlr3r20 : r2.heap.size < r3.heap.size := by omega
  go_wp2
  go_ret
  exact ⟨rfl, (by repeat' (first | (with_reducible exact Below.refl _ _) | (with_reducible refine bl_set ?_ _ ?_) | (with_reducible refine bl_alloc ?_ _) | (with_reducible refine bl_drew ?_) | (with_reducible refine bl_via (by with_reducible assumption) ?_) | (with_reducible assumption) | omega | (simp only []; omega) | (simp; omega)))⟩
set_option maxRecDepth 100000 in
set_option maxHeartbeats 8000000 in
theorem usable_2 (a0 a1 a2 a3 a4 a5 b0 b1 b2 b3 b4 b5 u0 u1 u2 u3 u4 u5 v0 v1 v2 v3 v4 v5 c0 c1 c2 c3 c4 c5 l0 l1 : Int) (y : Bool)
    (C1 : (∀ w, Calls Tryd.prog 74 #[(.agg #[.int .u16 (a0), .int .u16 (a1), .int .u16 (a2), .int .u16 (a3), .int .u16 (a4), .int .u16 (a5)])] w fun e w' => e = .returned (.tuple #[(.agg #[.int .u16 (u0), .int .u16 (u1), .int .u16 (u2), .int .u16 (u3), .int .u16 (u4), .int .u16 (u5)]), .bool false]) ∧ Below w.heap.size w w'))
    (C2 : (∀ w, Calls Tryd.prog 74 #[(.agg #[.int .u16 (b0), .int .u16 (b1), .int .u16 (b2), .int .u16 (b3), .int .u16 (b4), .int .u16 (b5)])] w fun e w' => e = .returned (.tuple #[(.agg #[.int .u16 (v0), .int .u16 (v1), .int .u16 (v2), .int .u16 (v3), .int .u16 (v4), .int .u16 (v5)]), .bool true]) ∧ Below w.heap.size w w'))
    (D1 : (∀ w, Calls Tryd.prog 48 #[(.agg #[.int .u16 (a0), .int .u16 (a1), .int .u16 (a2), .int .u16 (a3), .int .u16 (a4), .int .u16 (a5)])] w fun e w' => e = .returned (.agg #[.int .u16 (u0), .int .u16 (u1), .int .u16 (u2), .int .u16 (u3), .int .u16 (u4), .int .u16 (u5)]) ∧ Below w.heap.size w w'))
    (D2 : (∀ w, Calls Tryd.prog 48 #[(.agg #[.int .u16 (b0), .int .u16 (b1), .int .u16 (b2), .int .u16 (b3), .int .u16 (b4), .int .u16 (b5)])] w fun e w' => e = .returned (.agg #[.int .u16 (v0), .int .u16 (v1), .int .u16 (v2), .int .u16 (v3), .int .u16 (v4), .int .u16 (v5)]) ∧ Below w.heap.size w w'))
    (D3 : (∀ w, Calls Tryd.prog 49 #[(.agg #[.int .u16 (u0), .int .u16 (u1), .int .u16 (u2), .int .u16 (u3), .int .u16 (u4), .int .u16 (u5)]), (.agg #[.int .u16 (v0), .int .u16 (v1), .int .u16 (v2), .int .u16 (v3), .int .u16 (v4), .int .u16 (v5)])] w fun e w' => e = .returned (.agg #[.int .u16 (c0), .int .u16 (c1), .int .u16 (c2), .int .u16 (c3), .int .u16 (c4), .int .u16 (c5)]) ∧ Below w.heap.size w w'))
    (C4 : (∀ w, Calls Tryd.prog 75 #[(.agg #[.int .u16 (c0), .int .u16 (c1), .int .u16 (c2), .int .u16 (c3), .int .u16 (c4), .int .u16 (c5)])] w fun e w' => e = .returned (.tuple #[(.agg #[.int .u16 (l0), .int .u16 (l1)]), .bool y]) ∧ Below w.heap.size w w')) (w : World) :
    Calls Tryd.prog 47 #[(.agg #[.int .u16 (a0), .int .u16 (a1), .int .u16 (a2), .int .u16 (a3), .int .u16 (a4), .int .u16 (a5)]), (.agg #[.int .u16 (b0), .int .u16 (b1), .int .u16 (b2), .int .u16 (b3), .int .u16 (b4), .int .u16 (b5)])] w fun e w' => e = .returned (.bool false) ∧ Below w.heap.size w w' := by
  go_enter Tryd.func47, Tryd.ntmps47
  go_wp2_with fail
  refine (C1 _).mono ?_
  rintro _ r1 ⟨rfl, hbr1⟩
  obtain ⟨hcr1, hfr1⟩ := bcell hbr1
  have hzr1 := hbr1.size
  try simp only [World.size_alloc, World.size_setCell, World.size_drew] at hzr1
  have hlr1w0 : w.heap.size < r1.heap.size := by omega
  have hlr1w1 : w.heap.size + 1 < r1.heap.size := by omega
  go_wp2_with fail
  refine (C2 _).mono ?_
  rintro _ r2 ⟨rfl, hbr2⟩
  obtain ⟨hcr2, hfr2⟩ := bcell hbr2
  have hzr2 := hbr2.size
  try simp only [World.size_alloc, World.size_setCell, World.size_drew] at hzr2
  have hlr2w0 : w.heap.size < r2.heap.size := by omega
  have hlr2w1 : w.heap.size + 1 < r2.heap.size := by omega
  have hlr2r10 : r1.heap.size < r2.heap.size := by omega
  go_wp2_with fail
  have hecr3 := @Ext.cell2
  refine wp_region_floatl 9 8 _ _ _ _ _ (.cells #[.int .u16 0, .int .u16 0] 25) (by kernel_rfl) rfl rfl (by kernel_rfl) (by kernel_rfl) rfl rfl rfl rfl (fun _ _ => by simp [go_sem]) (fun _ _ d _ _ h => by cases d <;> exact h) (by kernel_rfl) (by kernel_rfl) rfl ?_
  apply Exists.intro
  refine ⟨fun W' => ?_, ?_⟩
  · simp only [List.take_succ_cons, List.take_zero]
    repeat (first | go_big_quiet_skip | (go_big_quiet_want; go_big_quiet_op; first | go_big_quiet_on | (go_big_quiet_call ((first | fail | (go_at_call 48; with_reducible exact ext_call (D1 _)) | (go_at_call 48; with_reducible exact ext_call (D2 _)) | (go_at_call 49; with_reducible exact ext_call (D3 _)) | (go_at_call 75; with_reducible exact ext_call (C4 _)))))))
    exact wpQuiet_nil rfl
  clear hecr3
  simp only [List.drop_succ_cons, List.drop_zero, Act.put, List.setIfInBounds_toArray, List.set_cons_zero, List.set_cons_succ]
  intro B3 r3 hbr3 hBr3 hDr3 hEr3
  have hGr3_0 := block_cell hEr3 0
  have hGr3_1 := block_cell hEr3 1
  have hFr3 := block_free hEr3
  simp only [List.getElem?_toArray, List.getElem?_cons_zero, List.getElem?_cons_succ] at hGr3_0 hGr3_1
  clear hEr3
  try simp only [World.size_alloc, World.size_setCell, World.size_drew] at hBr3
  obtain ⟨hcr3, hfr3⟩ := bcell hbr3
  have hzr3 := hbr3.size
  try simp only [World.size_alloc, World.size_setCell, World.size_drew] at hzr3
  have hlr3w0 : w.heap.size < r3.heap.size := by omega
  have hlr3w1 : w.heap.size + 1 < r3.heap.size := by omega
  have hlr3r10 : r1.heap.size < r3.heap.size := by omega
  have hlr3r20 : r2.heap.size < r3.heap.size := by omega
  go_wp2
  go_ret
  exact ⟨rfl, (by repeat' (first | (with_reducible exact Below.refl _ _) | (with_reducible refine bl_set ?_ _ ?_) | (with_reducible refine bl_alloc ?_ _) | (with_reducible refine bl_drew ?_) | (with_reducible refine bl_via (by with_reducible assumption) ?_) | (with_reducible assumption) | omega | (simp only []; omega) | (simp; omega)))⟩
set_option maxRecDepth 100000 in
set_option maxHeartbeats 8000000 in
theorem usable_3 (a0 a1 a2 a3 a4 a5 b0 b1 b2 b3 b4 b5 u0 u1 u2 u3 u4 u5 v0 v1 v2 v3 v4 v5 c0 c1 c2 c3 c4 c5 l0 l1 L : Int) (y : Bool)
    (C1 : (∀ w, Calls Tryd.prog 74 #[(.agg #[.int .u16 (a0), .int .u16 (a1), .int .u16 (a2), .int .u16 (a3), .int .u16 (a4), .int .u16 (a5)])] w fun e w' => e = .returned (.tuple #[(.agg #[.int .u16 (u0), .int .u16 (u1), .int .u16 (u2), .int .u16 (u3), .int .u16 (u4), .int .u16 (u5)]), .bool false]) ∧ Below w.heap.size w w'))
    (C2 : (∀ w, Calls Tryd.prog 74 #[(.agg #[.int .u16 (b0), .int .u16 (b1), .int .u16 (b2), .int .u16 (b3), .int .u16 (b4), .int .u16 (b5)])] w fun e w' => e = .returned (.tuple #[(.agg #[.int .u16 (v0), .int .u16 (v1), .int .u16 (v2), .int .u16 (v3), .int .u16 (v4), .int .u16 (v5)]), .bool false]) ∧ Below w.heap.size w w'))
    (D1 : (∀ w, Calls Tryd.prog 48 #[(.agg #[.int .u16 (a0), .int .u16 (a1), .int .u16 (a2), .int .u16 (a3), .int .u16 (a4), .int .u16 (a5)])] w fun e w' => e = .returned (.agg #[.int .u16 (u0), .int .u16 (u1), .int .u16 (u2), .int .u16 (u3), .int .u16 (u4), .int .u16 (u5)]) ∧ Below w.heap.size w w'))
    (D2 : (∀ w, Calls Tryd.prog 48 #[(.agg #[.int .u16 (b0), .int .u16 (b1), .int .u16 (b2), .int .u16 (b3), .int .u16 (b4), .int .u16 (b5)])] w fun e w' => e = .returned (.agg #[.int .u16 (v0), .int .u16 (v1), .int .u16 (v2), .int .u16 (v3), .int .u16 (v4), .int .u16 (v5)]) ∧ Below w.heap.size w w'))
    (D3 : (∀ w, Calls Tryd.prog 49 #[(.agg #[.int .u16 (u0), .int .u16 (u1), .int .u16 (u2), .int .u16 (u3), .int .u16 (u4), .int .u16 (u5)]), (.agg #[.int .u16 (v0), .int .u16 (v1), .int .u16 (v2), .int .u16 (v3), .int .u16 (v4), .int .u16 (v5)])] w fun e w' => e = .returned (.agg #[.int .u16 (c0), .int .u16 (c1), .int .u16 (c2), .int .u16 (c3), .int .u16 (c4), .int .u16 (c5)]) ∧ Below w.heap.size w w'))
    (C4 : (∀ w, Calls Tryd.prog 75 #[(.agg #[.int .u16 (c0), .int .u16 (c1), .int .u16 (c2), .int .u16 (c3), .int .u16 (c4), .int .u16 (c5)])] w fun e w' => e = .returned (.tuple #[(.agg #[.int .u16 (l0), .int .u16 (l1)]), .bool y]) ∧ Below w.heap.size w w'))
    (C5 : (∀ w, Calls Tryd.prog 22 #[(.agg #[.int .u16 (l0), .int .u16 (l1)])] w fun e w' => e = .returned (.int .i64 L) ∧ Below w.heap.size w w'))
    (hL : decide (4194304 ≤ L) = false) (w : World) :
    Calls Tryd.prog 47 #[(.agg #[.int .u16 (a0), .int .u16 (a1), .int .u16 (a2), .int .u16 (a3), .int .u16 (a4), .int .u16 (a5)]), (.agg #[.int .u16 (b0), .int .u16 (b1), .int .u16 (b2), .int .u16 (b3), .int .u16 (b4), .int .u16 (b5)])] w fun e w' => e = .returned (.bool false) ∧ Below w.heap.size w w' := by
  go_enter Tryd.func47, Tryd.ntmps47
  go_wp2_with fail
  refine (C1 _).mono ?_
  rintro _ r1 ⟨rfl, hbr1⟩
  obtain ⟨hcr1, hfr1⟩ := bcell hbr1
  have hzr1 := hbr1.size
  try simp only [World.size_alloc, World.size_setCell, World.size_drew] at hzr1
  have hlr1w0 : w.heap.size < r1.heap.size := by omega
  have hlr1w1 : w.heap.size + 1 < r1.heap.size := by omega
  go_wp2_with fail
  refine (C2 _).mono ?_
  rintro _ r2 ⟨rfl, hbr2⟩
  obtain ⟨hcr2, hfr2⟩ := bcell hbr2
  have hzr2 := hbr2.size
  try simp only [World.size_alloc, World.size_setCell, World.size_drew] at hzr2
  have hlr2w0 : w.heap.size < r2.heap.size := by omega
  have hlr2w1 : w.heap.size + 1 < r2.heap.size := by omega
  have hlr2r10 : r1.heap.size < r2.heap.size := by omega
  go_wp2_with fail
  have hecr3 := @Ext.cell2
  refine wp_region_floatl 9 8 _ _ _ _ _ (.cells #[.int .u16 0, .int .u16 0] 25) (by kernel_rfl) rfl rfl (by kernel_rfl) (by kernel_rfl) rfl rfl rfl rfl (fun _ _ => by simp [go_sem]) (fun _ _ d _ _ h => by cases d <;> exact h) (by kernel_rfl) (by kernel_rfl) rfl ?_
  apply Exists.intro
  refine ⟨fun W' => ?_, ?_⟩
  · simp only [List.take_succ_cons, List.take_zero]
    repeat (first | go_big_quiet_skip | (go_big_quiet_want; go_big_quiet_op; first | go_big_quiet_on | (go_big_quiet_call ((first | fail | (go_at_call 48; with_reducible exact ext_call (D1 _)) | (go_at_call 48; with_reducible exact ext_call (D2 _)) | (go_at_call 49; with_reducible exact ext_call (D3 _)) | (go_at_call 75; with_reducible exact ext_call (C4 _)))))))
    exact wpQuiet_nil rfl
  clear hecr3
  simp only [List.drop_succ_cons, List.drop_zero, Act.put, List.setIfInBounds_toArray, List.set_cons_zero, List.set_cons_succ]
  intro B3 r3 hbr3 hBr3 hDr3 hEr3
  have hGr3_0 := block_cell hEr3 0
  have hGr3_1 := block_cell hEr3 1
  have hFr3 := block_free hEr3
  simp only [List.getElem?_toArray, List.getElem?_cons_zero, List.getElem?_cons_succ] at hGr3_0 hGr3_1
  clear hEr3
  try simp only [World.size_alloc, World.size_setCell, World.size_drew] at hBr3
  obtain ⟨hcr3, hfr3⟩ := bcell hbr3
  have hzr3 := hbr3.size
  try simp only [World.size_alloc, World.size_setCell, World.size_drew] at hzr3
  have hlr3w0 : w.heap.size < r3.heap.size := by omega
  have hlr3w1 : w.heap.size + 1 < r3.heap.size := by omega
  have hlr3r10 : r1.heap.size < r3.heap.size := by omega
  have hlr3r20 : r2.heap.size < r3.heap.size := by omega
  go_wp2_with fail
  refine (C5 _).mono ?_
  rintro _ r4 ⟨rfl, hbr4⟩
  obtain ⟨hcr4, hfr4⟩ := bcell hbr4
  have hzr4 := hbr4.size
  try simp only [World.size_alloc, World.size_setCell, World.size_drew] at hzr4
  have hlr4w0 : w.heap.size < r4.heap.size := by omega
  have hlr4w1 : w.heap.size + 1 < r4.heap.size := by omega
  have hlr4B3 : B3 < r4.heap.size := by omega
  go_wp2
  go_ret
  exact ⟨rfl, (by repeat' (first | (with_reducible exact Below.refl _ _) | (with_reducible refine bl_set ?_ _ ?_) | (with_reducible refine bl_alloc ?_ _) | (with_reducible refine bl_drew ?_) | (with_reducible refine bl_via (by with_reducible assumption) ?_) | (with_reducible assumption) | omega | (simp only []; omega) | (simp; omega)))⟩
set_option maxRecDepth 100000 in
set_option maxHeartbeats 8000000 in
theorem usable_4 (a0 a1 a2 a3 a4 a5 b0 b1 b2 b3 b4 b5 u0 u1 u2 u3 u4 u5 v0 v1 v2 v3 v4 v5 c0 c1 c2 c3 c4 c5 l0 l1 L : Int) (y : Bool)
    (C1 : (∀ w, Calls Tryd.prog 74 #[(.agg #[.int .u16 (a0), .int .u16 (a1), .int .u16 (a2), .int .u16 (a3), .int .u16 (a4), .int .u16 (a5)])] w fun e w' => e = .returned (.tuple #[(.agg #[.int .u16 (u0), .int .u16 (u1), .int .u16 (u2), .int .u16 (u3), .int .u16 (u4), .int .u16 (u5)]), .bool false]) ∧ Below w.heap.size w w'))
    (C2 : (∀ w, Calls Tryd.prog 74 #[(.agg #[.int .u16 (b0), .int .u16 (b1), .int .u16 (b2), .int .u16 (b3), .int .u16 (b4), .int .u16 (b5)])] w fun e w' => e = .returned (.tuple #[(.agg #[.int .u16 (v0), .int .u16 (v1), .int .u16 (v2), .int .u16 (v3), .int .u16 (v4), .int .u16 (v5)]), .bool false]) ∧ Below w.heap.size w w'))
    (D1 : (∀ w, Calls Tryd.prog 48 #[(.agg #[.int .u16 (a0), .int .u16 (a1), .int .u16 (a2), .int .u16 (a3), .int .u16 (a4), .int .u16 (a5)])] w fun e w' => e = .returned (.agg #[.int .u16 (u0), .int .u16 (u1), .int .u16 (u2), .int .u16 (u3), .int .u16 (u4), .int .u16 (u5)]) ∧ Below w.heap.size w w'))
    (D2 : (∀ w, Calls Tryd.prog 48 #[(.agg #[.int .u16 (b0), .int .u16 (b1), .int .u16 (b2), .int .u16 (b3), .int .u16 (b4), .int .u16 (b5)])] w fun e w' => e = .returned (.agg #[.int .u16 (v0), .int .u16 (v1), .int .u16 (v2), .int .u16 (v3), .int .u16 (v4), .int .u16 (v5)]) ∧ Below w.heap.size w w'))
    (D3 : (∀ w, Calls Tryd.prog 49 #[(.agg #[.int .u16 (u0), .int .u16 (u1), .int .u16 (u2), .int .u16 (u3), .int .u16 (u4), .int .u16 (u5)]), (.agg #[.int .u16 (v0), .int .u16 (v1), .int .u16 (v2), .int .u16 (v3), .int .u16 (v4), .int .u16 (v5)])] w fun e w' => e = .returned (.agg #[.int .u16 (c0), .int .u16 (c1), .int .u16 (c2), .int .u16 (c3), .int .u16 (c4), .int .u16 (c5)]) ∧ Below w.heap.size w w'))
    (C4 : (∀ w, Calls Tryd.prog 75 #[(.agg #[.int .u16 (c0), .int .u16 (c1), .int .u16 (c2), .int .u16 (c3), .int .u16 (c4), .int .u16 (c5)])] w fun e w' => e = .returned (.tuple #[(.agg #[.int .u16 (l0), .int .u16 (l1)]), .bool y]) ∧ Below w.heap.size w w'))
    (C5 : (∀ w, Calls Tryd.prog 22 #[(.agg #[.int .u16 (l0), .int .u16 (l1)])] w fun e w' => e = .returned (.int .i64 L) ∧ Below w.heap.size w w'))
    (hL : decide (4194304 ≤ L) = true) (w : World) :
    Calls Tryd.prog 47 #[(.agg #[.int .u16 (a0), .int .u16 (a1), .int .u16 (a2), .int .u16 (a3), .int .u16 (a4), .int .u16 (a5)]), (.agg #[.int .u16 (b0), .int .u16 (b1), .int .u16 (b2), .int .u16 (b3), .int .u16 (b4), .int .u16 (b5)])] w fun e w' => e = .returned (.bool true) ∧ Below w.heap.size w w' := by
  go_enter Tryd.func47, Tryd.ntmps47
  go_wp2_with fail
  refine (C1 _).mono ?_
  rintro _ r1 ⟨rfl, hbr1⟩
  obtain ⟨hcr1, hfr1⟩ := bcell hbr1
  have hzr1 := hbr1.size
  try simp only [World.size_alloc, World.size_setCell, World.size_drew] at hzr1
  have hlr1w0 : w.heap.size < r1.heap.size := by omega
  have hlr1w1 : w.heap.size + 1 < r1.heap.size := by omega
  go_wp2_with fail
  refine (C2 _).mono ?_
  rintro _ r2 ⟨rfl, hbr2⟩
  obtain ⟨hcr2, hfr2⟩ := bcell hbr2
  have hzr2 := hbr2.size
  try simp only [World.size_alloc, World.size_setCell, World.size_drew] at hzr2
  have hlr2w0 : w.heap.size < r2.heap.size := by omega
  have hlr2w1 : w.heap.size + 1 < r2.heap.size := by omega
  have hlr2r10 : r1.heap.size < r2.heap.size := by omega
  go_wp2_with fail
  have hecr3 := @Ext.cell2
  refine wp_region_floatl 9 8 _ _ _ _ _ (.cells #[.int .u16 0, .int .u16 0] 25) (by kernel_rfl) rfl rfl (by kernel_rfl) (by kernel_rfl) rfl rfl rfl rfl (fun _ _ => by simp [go_sem]) (fun _ _ d _ _ h => by cases d <;> exact h) (by kernel_rfl) (by kernel_rfl) rfl ?_
  apply Exists.intro
  refine ⟨fun W' => ?_, ?_⟩
  · simp only [List.take_succ_cons, List.take_zero]
    repeat (first | go_big_quiet_skip | (go_big_quiet_want; go_big_quiet_op; first | go_big_quiet_on | (go_big_quiet_call ((first | fail | (go_at_call 48; with_reducible exact ext_call (D1 _)) | (go_at_call 48; with_reducible exact ext_call (D2 _)) | (go_at_call 49; with_reducible exact ext_call (D3 _)) | (go_at_call 75; with_reducible exact ext_call (C4 _)))))))
    exact wpQuiet_nil rfl
  clear hecr3
  simp only [List.drop_succ_cons, List.drop_zero, Act.put, List.setIfInBounds_toArray, List.set_cons_zero, List.set_cons_succ]
  intro B3 r3 hbr3 hBr3 hDr3 hEr3
  have hGr3_0 := block_cell hEr3 0
  have hGr3_1 := block_cell hEr3 1
  have hFr3 := block_free hEr3
  simp only [List.getElem?_toArray, List.getElem?_cons_zero, List.getElem?_cons_succ] at hGr3_0 hGr3_1
  clear hEr3
  try simp only [World.size_alloc, World.size_setCell, World.size_drew] at hBr3
  obtain ⟨hcr3, hfr3⟩ := bcell hbr3
  have hzr3 := hbr3.size
  try simp only [World.size_alloc, World.size_setCell, World.size_drew] at hzr3
  have hlr3w0 : w.heap.size < r3.heap.size := by omega
  have hlr3w1 : w.heap.size + 1 < r3.heap.size := by omega
  have hlr3r10 : r1.heap.size < r3.heap.size := by omega
  have hlr3r20 : r2.heap.size < r3.heap.size := by omega
  go_wp2_with fail
  refine (C5 _).mono ?_
  rintro _ r4 ⟨rfl, hbr4⟩
  obtain ⟨hcr4, hfr4⟩ := bcell hbr4
  have hzr4 := hbr4.size
  try simp only [World.size_alloc, World.size_setCell, World.size_drew] at hzr4
  have hlr4w0 : w.heap.size < r4.heap.size := by omega
  have hlr4w1 : w.heap.size + 1 < r4.heap.size := by omega
  have hlr4B3 : B3 < r4.heap.size := by omega
  go_wp2
  go_ret
  exact ⟨rfl, (by repeat' (first | (with_reducible exact Below.refl _ _) | (with_reducible refine bl_set ?_ _ ?_) | (with_reducible refine bl_alloc ?_ _) | (with_reducible refine bl_drew ?_) | (with_reducible refine bl_via (by with_reducible assumption) ?_) | (with_reducible assumption) | omega | (simp only []; omega) | (simp; omega)))⟩
set_option maxRecDepth 100000 in
set_option maxHeartbeats 8000000 in
theorem rtriad_bad (a0 a1 a2 a3 a4 a5 b0 b1 b2 b3 b4 b5 : Int) (C1 : (∀ w, Calls Tryd.prog 47 #[(.agg #[.int .u16 (a0), .int .u16 (a1), .int .u16 (a2), .int .u16 (a3), .int .u16 (a4), .int .u16 (a5)]), (.agg #[.int .u16 (b0), .int .u16 (b1), .int .u16 (b2), .int .u16 (b3), .int .u16 (b4), .int .u16 (b5)])] w fun e w' => e = .returned (.bool false) ∧ Below w.heap.size w w')) (w : World) : Calls Tryd.prog 20 #[(.agg #[.int .u16 (a0), .int .u16 (a1), .int .u16 (a2), .int .u16 (a3), .int .u16 (a4), .int .u16 (a5)]), (.agg #[.int .u16 (b0), .int .u16 (b1), .int .u16 (b2), .int .u16 (b3), .int .u16 (b4), .int .u16 (b5)])] w fun e w' => e = .returned (.tuple #[(.agg #[.int .u16 (0), .int .u16 (0), .int .u16 (0), .int .u16 (0), .int .u16 (0), .int .u16 (0), .int .u16 (0), .int .u16 (0), .int .u16 (0), .int .u16 (0), .int .u16 (0), .int .u16 (0), .int .u16 (0), .int .u16 (0), .int .u16 (0), .int .u16 (0), .int .u16 (0), .int .u16 (0)]), .int .i64 2]) ∧ Below w.heap.size w w' := by
  go_enter Tryd.func20, Tryd.ntmps20
  go_wp2_with fail
  refine (C1 _).mono ?_
  rintro _ r1 ⟨rfl, hbr1⟩
  obtain ⟨hcr1, hfr1⟩ := bcell hbr1
  have hzr1 := hbr1.size
  try simp only [World.size_alloc, World.size_setCell, World.size_drew] at hzr1
  have hlr1w0 : w.heap.size < r1.heap.size := by omega
  have hlr1w1 : w.heap.size + 1 < r1.heap.size := by omega
  have hlr1w2 : w.heap.size + 1 + 1 < r1.heap.size := by omega
  have t1 : r1.there (w.heap.size + 1 + 1) 0 18 := there_on (there_row (c := #[.int .u16 0, .int .u16 0, .int .u16 0, .int .u16 0, .int .u16 0, .int .u16 0, .int .u16 0, .int .u16 0, .int .u16 0, .int .u16 0, .int .u16 0, .int .u16 0, .int .u16 0, .int .u16 0, .int .u16 0, .int .u16 0, .int .u16 0, .int .u16 0]) (t := 29) (heap_new (by simp only [World.size_alloc])) (by simp)) hbr1 (by (try simp only [World.size_alloc, World.size_setCell]); omega)
  go_wp2_with (first | fail | (refine WL.h ?_; refine wl_store (op := { dst := none, op := .store 29 (.tmp 4) (.tmp 12), type := _, pos := _, after := _, guard := none }) rfl 29 (.tmp 4) (.tmp 12) rfl (w.heap.size + 1 + 1) 0 _ rfl rfl t1 hi_mat (by simp [Value.oneCell']) ?_; simp only [Act.put, List.setIfInBounds_toArray, List.set_cons_zero, List.set_cons_succ]))
  refine bodyPost_ret (v := (.tuple #[(.agg #[.int .u16 (0), .int .u16 (0), .int .u16 (0), .int .u16 (0), .int .u16 (0), .int .u16 (0), .int .u16 (0), .int .u16 (0), .int .u16 (0), .int .u16 (0), .int .u16 (0), .int .u16 (0), .int .u16 (0), .int .u16 (0), .int .u16 (0), .int .u16 (0), .int .u16 (0), .int .u16 (0)]), .int .i64 2])) (results_two Tryd.results20 rfl rfl (run_loadVar_mid _ _ 0 _ _ _ (World.rangeAt_setCells_same _ _ _ _ t1) hu_mat rfl hi_mat)) rfl ⟨rfl, bl_cells _ _ _ _ (by repeat' (first | (with_reducible exact Below.refl _ _) | (with_reducible refine bl_set ?_ _ ?_) | (with_reducible refine bl_alloc ?_ _) | (with_reducible refine bl_drew ?_) | (with_reducible refine bl_via (by with_reducible assumption) ?_) | (with_reducible assumption) | omega | (simp only []; omega) | (simp; omega))) (by omega)⟩
set_option maxRecDepth 100000 in
set_option maxHeartbeats 8000000 in
theorem rtriad_of (a0 a1 a2 a3 a4 a5 b0 b1 b2 b3 b4 b5 u0 u1 u2 u3 u4 u5 v0 v1 v2 v3 v4 v5 c0 c1 c2 c3 c4 c5 d0 d1 d2 d3 d4 d5 y0 y1 y2 y3 y4 y5 z0 z1 z2 z3 z4 z5 : Int)
    (C1 : (∀ w, Calls Tryd.prog 47 #[(.agg #[.int .u16 (a0), .int .u16 (a1), .int .u16 (a2), .int .u16 (a3), .int .u16 (a4), .int .u16 (a5)]), (.agg #[.int .u16 (b0), .int .u16 (b1), .int .u16 (b2), .int .u16 (b3), .int .u16 (b4), .int .u16 (b5)])] w fun e w' => e = .returned (.bool true) ∧ Below w.heap.size w w'))
    (D1 : (∀ w, Calls Tryd.prog 48 #[(.agg #[.int .u16 (a0), .int .u16 (a1), .int .u16 (a2), .int .u16 (a3), .int .u16 (a4), .int .u16 (a5)])] w fun e w' => e = .returned (.agg #[.int .u16 (u0), .int .u16 (u1), .int .u16 (u2), .int .u16 (u3), .int .u16 (u4), .int .u16 (u5)]) ∧ Below w.heap.size w w'))
    (D2 : (∀ w, Calls Tryd.prog 48 #[(.agg #[.int .u16 (b0), .int .u16 (b1), .int .u16 (b2), .int .u16 (b3), .int .u16 (b4), .int .u16 (b5)])] w fun e w' => e = .returned (.agg #[.int .u16 (v0), .int .u16 (v1), .int .u16 (v2), .int .u16 (v3), .int .u16 (v4), .int .u16 (v5)]) ∧ Below w.heap.size w w'))
    (D3 : (∀ w, Calls Tryd.prog 49 #[(.agg #[.int .u16 (u0), .int .u16 (u1), .int .u16 (u2), .int .u16 (u3), .int .u16 (u4), .int .u16 (u5)]), (.agg #[.int .u16 (v0), .int .u16 (v1), .int .u16 (v2), .int .u16 (v3), .int .u16 (v4), .int .u16 (v5)])] w fun e w' => e = .returned (.agg #[.int .u16 (c0), .int .u16 (c1), .int .u16 (c2), .int .u16 (c3), .int .u16 (c4), .int .u16 (c5)]) ∧ Below w.heap.size w w'))
    (D4 : (∀ w, Calls Tryd.prog 48 #[(.agg #[.int .u16 (c0), .int .u16 (c1), .int .u16 (c2), .int .u16 (c3), .int .u16 (c4), .int .u16 (c5)])] w fun e w' => e = .returned (.agg #[.int .u16 (z0), .int .u16 (z1), .int .u16 (z2), .int .u16 (z3), .int .u16 (z4), .int .u16 (z5)]) ∧ Below w.heap.size w w'))
    (D5 : (∀ w, Calls Tryd.prog 49 #[(.agg #[.int .u16 (z0), .int .u16 (z1), .int .u16 (z2), .int .u16 (z3), .int .u16 (z4), .int .u16 (z5)]), (.agg #[.int .u16 (u0), .int .u16 (u1), .int .u16 (u2), .int .u16 (u3), .int .u16 (u4), .int .u16 (u5)])] w fun e w' => e = .returned (.agg #[.int .u16 (d0), .int .u16 (d1), .int .u16 (d2), .int .u16 (d3), .int .u16 (d4), .int .u16 (d5)]) ∧ Below w.heap.size w w'))
    (D6 : (∀ w, Calls Tryd.prog 48 #[(.agg #[.int .u16 (d0), .int .u16 (d1), .int .u16 (d2), .int .u16 (d3), .int .u16 (d4), .int .u16 (d5)])] w fun e w' => e = .returned (.agg #[.int .u16 (y0), .int .u16 (y1), .int .u16 (y2), .int .u16 (y3), .int .u16 (y4), .int .u16 (y5)]) ∧ Below w.heap.size w w')) (w : World) :
    Calls Tryd.prog 20 #[(.agg #[.int .u16 (a0), .int .u16 (a1), .int .u16 (a2), .int .u16 (a3), .int .u16 (a4), .int .u16 (a5)]), (.agg #[.int .u16 (b0), .int .u16 (b1), .int .u16 (b2), .int .u16 (b3), .int .u16 (b4), .int .u16 (b5)])] w fun e w' => e = .returned (.tuple #[(.agg #[.int .u16 (u0), .int .u16 (u1), .int .u16 (u2), .int .u16 (u3), .int .u16 (u4), .int .u16 (u5), .int .u16 (y0), .int .u16 (y1), .int .u16 (y2), .int .u16 (y3), .int .u16 (y4), .int .u16 (y5), .int .u16 (z0), .int .u16 (z1), .int .u16 (z2), .int .u16 (z3), .int .u16 (z4), .int .u16 (z5)]), .int .i64 0]) ∧ Below w.heap.size w w' := by
  go_enter Tryd.func20, Tryd.ntmps20
  go_wp2_with fail
  refine (C1 _).mono ?_
  rintro _ r1 ⟨rfl, hbr1⟩
  obtain ⟨hcr1, hfr1⟩ := bcell hbr1
  have hzr1 := hbr1.size
  try simp only [World.size_alloc, World.size_setCell, World.size_drew] at hzr1
  have hlr1w0 : w.heap.size < r1.heap.size := by omega
  have hlr1w1 : w.heap.size + 1 < r1.heap.size := by omega
  have hlr1w2 : w.heap.size + 1 + 1 < r1.heap.size := by omega
  have t1 : r1.there (w.heap.size + 1 + 1) 0 18 := there_on (there_row (c := #[.int .u16 0, .int .u16 0, .int .u16 0, .int .u16 0, .int .u16 0, .int .u16 0, .int .u16 0, .int .u16 0, .int .u16 0, .int .u16 0, .int .u16 0, .int .u16 0, .int .u16 0, .int .u16 0, .int .u16 0, .int .u16 0, .int .u16 0, .int .u16 0]) (t := 29) (heap_new (by simp only [World.size_alloc])) (by simp)) hbr1 (by (try simp only [World.size_alloc, World.size_setCell]); omega)
  go_wp2_with fail
  refine (D1 _).mono ?_
  rintro _ r2 ⟨rfl, hbr2⟩
  obtain ⟨hcr2, hfr2⟩ := bcell hbr2
  have hzr2 := hbr2.size
  try simp only [World.size_alloc, World.size_setCell, World.size_drew] at hzr2
  have hlr2w0 : w.heap.size < r2.heap.size := by omega
  have hlr2w1 : w.heap.size + 1 < r2.heap.size := by omega
  have hlr2w2 : w.heap.size + 1 + 1 < r2.heap.size := by omega
  have t2 : r2.there (w.heap.size + 1 + 1) 0 18 := there_on t1 hbr2 (by (try simp only [World.size_alloc, World.size_setCell]); omega)
  go_wp2_with fail
  have hecr3 := @Ext.cell2
  refine wp_region_floats 5 _ _ _ (.cells #[.int .u16 0, .int .u16 0, .int .u16 0, .int .u16 0, .int .u16 0, .int .u16 0] 27) (by kernel_rfl) (by kernel_rfl) rfl rfl rfl rfl (fun _ _ => by simp [go_sem]) (by kernel_rfl) (by kernel_rfl) rfl ?_
  apply Exists.intro
  refine ⟨fun W' => ?_, ?_⟩
  · simp only [List.take_succ_cons, List.take_zero]
    repeat (first | go_big_quiet_skip | (go_big_quiet_want; go_big_quiet_op; first | go_big_quiet_on | (go_big_quiet_call ((first | fail | (go_at_call 48; with_reducible exact ext_call (D2 _)) | (go_at_call 48; with_reducible exact ext_call (D4 _)) | (go_at_call 49; with_reducible exact ext_call (D3 _)))))))
    exact wpQuiet_nil rfl
  clear hecr3
  simp only [List.drop_succ_cons, List.drop_zero, Act.put, List.setIfInBounds_toArray, List.set_cons_zero, List.set_cons_succ]
  intro B3 r3 hbr3 hBr3 hDr3 hEr3
  have hGr3_0 := block_cell hEr3 0
  have hGr3_1 := block_cell hEr3 1
  have hGr3_2 := block_cell hEr3 2
  have hGr3_3 := block_cell hEr3 3
  have hGr3_4 := block_cell hEr3 4
  have hGr3_5 := block_cell hEr3 5
  have hFr3 := block_free hEr3
  simp only [List.getElem?_toArray, List.getElem?_cons_zero, List.getElem?_cons_succ] at hGr3_0 hGr3_1 hGr3_2 hGr3_3 hGr3_4 hGr3_5
  clear hEr3
  try simp only [World.size_alloc, World.size_setCell, World.size_drew] at hBr3
  obtain ⟨hcr3, hfr3⟩ := bcell hbr3
  have hzr3 := hbr3.size
  try simp only [World.size_alloc, World.size_setCell, World.size_drew] at hzr3
  have hlr3w0 : w.heap.size < r3.heap.size := by omega
  have hlr3w1 : w.heap.size + 1 < r3.heap.size := by omega
  have hlr3w2 : w.heap.size + 1 + 1 < r3.heap.size := by omega
  have hlr3r20 : r2.heap.size < r3.heap.size := by omega
  have t3 : r3.there (w.heap.size + 1 + 1) 0 18 := there_on (there_on t2 (bl_alloc (Below.refl _ _) _) (by (try simp only [World.size_alloc, World.size_setCell]); omega)) hbr3 (by (try simp only [World.size_alloc, World.size_setCell]); omega)
  have nB : r2.heap.size ≠ B3 := by omega
  have nB' := Ne.symm nB
  have nC : w.heap.size + 1 + 1 ≠ B3 := by omega
  have nC' := Ne.symm nC
  go_wp2_with fail
  have hecr4 := @Ext.cell
  refine wp_region_ext_tail 7 (by kernel_rfl) (by kernel_rfl) ?_
  simp only [List.take_succ_cons, List.take_zero, List.drop_succ_cons, List.drop_zero]
  repeat (first | go_big_quiet_skip | (go_big_quiet_want; go_big_quiet_op; first | go_big_quiet_on | (go_big_quiet_call ((first | fail | (go_at_call 48; with_reducible exact ext_call (D6 _)) | (go_at_call 49; with_reducible exact ext_call (D5 _)))))))
  clear hecr4
  refine wpQuiet_nil ?_
  rintro r4 ⟨⟨_, hbr4⟩, rfl⟩
  obtain ⟨hcr4, hfr4⟩ := bcell hbr4
  have hzr4 := hbr4.size
  try simp only [World.size_alloc, World.size_setCell, World.size_drew] at hzr4
  have hlr4w0 : w.heap.size < r4.heap.size := by omega
  have hlr4w1 : w.heap.size + 1 < r4.heap.size := by omega
  have hlr4w2 : w.heap.size + 1 + 1 < r4.heap.size := by omega
  have hlr4r20 : r2.heap.size < r4.heap.size := by omega
  have hlr4B3 : B3 < r4.heap.size := by omega
  have t4 : r4.there (w.heap.size + 1 + 1) 0 18 := there_on (there_cell6 t3 nC') hbr4 (by (try simp only [World.size_setCell]); omega)
  go_wp2_with (first | fail | (refine WL.h ?_; refine wl_store (op := { dst := none, op := .store 29 (.tmp 4) (.tmp 26), type := _, pos := _, after := _, guard := none }) rfl 29 (.tmp 4) (.tmp 26) rfl (w.heap.size + 1 + 1) 0 _ rfl rfl t4 hi_mat (by simp [Value.oneCell']) ?_; simp only [Act.put, List.setIfInBounds_toArray, List.set_cons_zero, List.set_cons_succ]))
  refine bodyPost_ret (v := (.tuple #[(.agg #[.int .u16 (u0), .int .u16 (u1), .int .u16 (u2), .int .u16 (u3), .int .u16 (u4), .int .u16 (u5), .int .u16 (y0), .int .u16 (y1), .int .u16 (y2), .int .u16 (y3), .int .u16 (y4), .int .u16 (y5), .int .u16 (z0), .int .u16 (z1), .int .u16 (z2), .int .u16 (z3), .int .u16 (z4), .int .u16 (z5)]), .int .i64 0])) (results_two Tryd.results20 rfl rfl (run_loadVar_mid _ _ 0 _ _ _ (World.rangeAt_setCells_same _ _ _ _ t4) hu_mat rfl hi_mat)) rfl ⟨rfl, bl_cells _ _ _ _ (by repeat' (first | (with_reducible exact Below.refl _ _) | (with_reducible refine bl_set ?_ _ ?_) | (with_reducible refine bl_alloc ?_ _) | (with_reducible refine bl_drew ?_) | (with_reducible refine bl_via (by with_reducible assumption) ?_) | (with_reducible assumption) | omega | (simp only []; omega) | (simp; omega))) (by omega)⟩
end Go.Proofs.YtbbhppjamighdaaDoor
