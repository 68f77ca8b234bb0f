/- Contracts of Throttle of package descent and of its reference, over this translation. -/
import Derived.Test.YtpmocegfiniafaaDb
import Derived.Test.YtpmocegfiniafaaRa
import Derived.Test.YtpmocegfiniafaaKd
import Derived.Test.YtpmocegfiniafaaKg
import Derived.Test.YtpmocegfiniafaaDt
namespace Go.Proofs.Ytpmocegfiniafaa
set_option linter.unusedSimpArgs false
set_option linter.unusedVariables false
open Go.RowKit

set_option maxHeartbeats 4000000 in
theorem thc_1_e (w0 w1 c0 c1 k1 k2 s2 s3 s4 s5 : Int) (bw bs : Nat) (w : World) (hw0 : w.cell? ⟨bw, 0, none⟩ = some (.int .u16 w0)) (hw1 : w.cell? ⟨bw, 1, none⟩ = some (.int .u16 w1)) (hs2 : w.cell? ⟨bs, 2, none⟩ = some (.int .u16 s2)) (hs3 : w.cell? ⟨bs, 3, none⟩ = some (.int .u16 s3)) (hs4 : w.cell? ⟨bs, 4, none⟩ = some (.int .u16 s4)) (hs5 : w.cell? ⟨bs, 5, none⟩ = some (.int .u16 s5)) (lw : bw < w.heap.size) (ls : bs < w.heap.size) (C1 : (∀ w, Calls Try.prog 45 #[(.agg #[.int .u16 (w0), .int .u16 (w1)])] w fun e w' => e = .returned (.agg #[.int .u16 (c0), .int .u16 (c1)]) ∧ Below w.heap.size w w')) (C2 : (∀ w, Calls Try.prog 46 #[(.agg #[.int .u16 (c0), .int .u16 (c1)]), (.agg #[.int .u16 (s2), .int .u16 (s3)])] w fun e w' => e = .returned (.int .i64 k1) ∧ Below w.heap.size w w')) (C3 : (∀ w, Calls Try.prog 46 #[(.agg #[.int .u16 (c0), .int .u16 (c1)]), (.agg #[.int .u16 (s4), .int .u16 (s5)])] w fun e w' => e = .returned (.int .i64 k2) ∧ Below w.heap.size w w')) (e : (c0 == s2 && c1 == s3) = true) :
    Calls Try.prog 47 #[.int .i64 1, .int .i64 2, .pointer (some ⟨bw, 0, none⟩), .pointer (some ⟨bs, 0, none⟩)] w fun e w' => e = .returned (.agg #[.int .u16 (s2), .int .u16 (s3)]) ∧ Below w.heap.size w w' := by
  have heq := @eq_dbl
  have a0 : ∀ o : Obj, (w.alloc o).cell? ⟨bw, 0, none⟩ = some (.int .u16 w0) := fun o => (World.cell?_alloc_lt _ _ _ lw).trans hw0
  have a1 : ∀ o : Obj, (w.alloc o).cell? ⟨bw, 1, none⟩ = some (.int .u16 w1) := fun o => (World.cell?_alloc_lt _ _ _ lw).trans hw1
  have lw' : bw < w.heap.size + 1 := by omega
  have nw : w.heap.size ≠ bw := by omega
  have nw' : bw ≠ w.heap.size := by omega
  go_enter Try.func47, Try.ntmps47
  go_wp2_with fail
  refine (C1 _).mono ?_
  rintro _ r1 ⟨rfl, hbr1⟩
  obtain ⟨hcr1, hfr1⟩ := bcell hbr1
  have hzr1 := hbr1.size
  try simp only [World.size_alloc, World.size_setCell, World.size_drew] at hzr1
  have hlr1w0 : w.heap.size < r1.heap.size := by omega
  have hlr1bw : bw < r1.heap.size := by omega
  have hlr1bs : bs < r1.heap.size := by omega
  have x2 : r1.cell? ⟨bs, 2, none⟩ = some (.int .u16 s2) := (hcr1 _ _ (by (try simp only [World.size_alloc, World.size_setCell]); omega)).trans ((World.cell?_alloc_lt _ _ _ ls).trans hs2)
  have y2 : ∀ o : Obj, (r1.alloc o).cell? ⟨bs, 2, none⟩ = some (.int .u16 s2) := fun o => (World.cell?_alloc_lt _ _ _ hlr1bs).trans x2
  have x3 : r1.cell? ⟨bs, 3, none⟩ = some (.int .u16 s3) := (hcr1 _ _ (by (try simp only [World.size_alloc, World.size_setCell]); omega)).trans ((World.cell?_alloc_lt _ _ _ ls).trans hs3)
  have y3 : ∀ o : Obj, (r1.alloc o).cell? ⟨bs, 3, none⟩ = some (.int .u16 s3) := fun o => (World.cell?_alloc_lt _ _ _ hlr1bs).trans x3
  have x4 : r1.cell? ⟨bs, 4, none⟩ = some (.int .u16 s4) := (hcr1 _ _ (by (try simp only [World.size_alloc, World.size_setCell]); omega)).trans ((World.cell?_alloc_lt _ _ _ ls).trans hs4)
  have y4 : ∀ o : Obj, (r1.alloc o).cell? ⟨bs, 4, none⟩ = some (.int .u16 s4) := fun o => (World.cell?_alloc_lt _ _ _ hlr1bs).trans x4
  have x5 : r1.cell? ⟨bs, 5, none⟩ = some (.int .u16 s5) := (hcr1 _ _ (by (try simp only [World.size_alloc, World.size_setCell]); omega)).trans ((World.cell?_alloc_lt _ _ _ ls).trans hs5)
  have y5 : ∀ o : Obj, (r1.alloc o).cell? ⟨bs, 5, none⟩ = some (.int .u16 s5) := fun o => (World.cell?_alloc_lt _ _ _ hlr1bs).trans x5
  have l1 : bs < r1.heap.size + 1 := by omega
  go_wp2_with fail
  have hecr2 := @Ext.cell
  refine wp_region_ext (by kernel_rfl) (by kernel_rfl) ?_
  repeat (first | go_big_quiet_skip | (go_big_quiet_want; go_big_quiet_op; first | go_big_quiet_on | (go_big_quiet_call ((first | fail | fail)))))
  clear hecr2
  refine wpQuiet_nil ?_
  rintro r2 ⟨⟨_, hbr2⟩, rfl⟩
  obtain ⟨hcr2, hfr2⟩ := bcell hbr2
  have hzr2 := hbr2.size
  try simp only [World.size_alloc, World.size_setCell, World.size_drew] at hzr2
  have hlr2w0 : w.heap.size < r2.heap.size := by omega
  have hlr2r10 : r1.heap.size < r2.heap.size := by omega
  have hlr2bw : bw < r2.heap.size := by omega
  have hlr2bs : bs < r2.heap.size := by omega
  have z2 : r2.cell? ⟨bs, 2, none⟩ = some (.int .u16 s2) := (hcr2 _ _ (by (try simp only [World.size_alloc, World.size_setCell]); omega)).trans (y2 _)
  have z3 : r2.cell? ⟨bs, 3, none⟩ = some (.int .u16 s3) := (hcr2 _ _ (by (try simp only [World.size_alloc, World.size_setCell]); omega)).trans (y3 _)
  have z4 : r2.cell? ⟨bs, 4, none⟩ = some (.int .u16 s4) := (hcr2 _ _ (by (try simp only [World.size_alloc, World.size_setCell]); omega)).trans (y4 _)
  have z5 : r2.cell? ⟨bs, 5, none⟩ = some (.int .u16 s5) := (hcr2 _ _ (by (try simp only [World.size_alloc, World.size_setCell]); omega)).trans (y5 _)
  have v0 : r1.cell? ⟨w.heap.size, 0, none⟩ = some (.int .u16 0) := (hcr1 _ _ (by (try simp only [World.size_alloc, World.size_setCell]); omega)).trans (by go_simp)
  have t0 : r2.cell? ⟨w.heap.size, 0, none⟩ = some (.int .u16 0) := (hcr2 _ _ (by (try simp only [World.size_alloc, World.size_setCell]); omega)).trans ((World.cell?_alloc_lt _ _ _ hlr1w0).trans v0)
  have v1 : r1.cell? ⟨w.heap.size, 1, none⟩ = some (.int .u16 0) := (hcr1 _ _ (by (try simp only [World.size_alloc, World.size_setCell]); omega)).trans (by go_simp)
  have t1 : r2.cell? ⟨w.heap.size, 1, none⟩ = some (.int .u16 0) := (hcr2 _ _ (by (try simp only [World.size_alloc, World.size_setCell]); omega)).trans ((World.cell?_alloc_lt _ _ _ hlr1w0).trans v1)
  go_wp2
  refine bodyPost_ret (v := (.agg #[.int .u16 (s2), .int .u16 (s3)])) (by simp [results, Try.results47, go_sem, *]) rfl ⟨rfl, ?_⟩; exact (by repeat' (first | (with_reducible exact Below.refl _ _) | (with_reducible refine bl_set ?_ _ ?_) | (with_reducible refine bl_alloc ?_ _) | (with_reducible refine bl_drew ?_) | (with_reducible refine bl_via (by with_reducible assumption) ?_) | (with_reducible assumption) | omega | (simp only []; omega) | (simp; omega)))
set_option maxHeartbeats 4000000 in
theorem thc_1_l (w0 w1 c0 c1 k1 k2 s2 s3 s4 s5 : Int) (bw bs : Nat) (w : World) (hw0 : w.cell? ⟨bw, 0, none⟩ = some (.int .u16 w0)) (hw1 : w.cell? ⟨bw, 1, none⟩ = some (.int .u16 w1)) (hs2 : w.cell? ⟨bs, 2, none⟩ = some (.int .u16 s2)) (hs3 : w.cell? ⟨bs, 3, none⟩ = some (.int .u16 s3)) (hs4 : w.cell? ⟨bs, 4, none⟩ = some (.int .u16 s4)) (hs5 : w.cell? ⟨bs, 5, none⟩ = some (.int .u16 s5)) (lw : bw < w.heap.size) (ls : bs < w.heap.size) (C1 : (∀ w, Calls Try.prog 45 #[(.agg #[.int .u16 (w0), .int .u16 (w1)])] w fun e w' => e = .returned (.agg #[.int .u16 (c0), .int .u16 (c1)]) ∧ Below w.heap.size w w')) (C2 : (∀ w, Calls Try.prog 46 #[(.agg #[.int .u16 (c0), .int .u16 (c1)]), (.agg #[.int .u16 (s2), .int .u16 (s3)])] w fun e w' => e = .returned (.int .i64 k1) ∧ Below w.heap.size w w')) (C3 : (∀ w, Calls Try.prog 46 #[(.agg #[.int .u16 (c0), .int .u16 (c1)]), (.agg #[.int .u16 (s4), .int .u16 (s5)])] w fun e w' => e = .returned (.int .i64 k2) ∧ Below w.heap.size w w')) (e : (c0 == s2 && c1 == s3) = false) (d1 : decide (k1 < 0) = true) :
    Calls Try.prog 47 #[.int .i64 1, .int .i64 2, .pointer (some ⟨bw, 0, none⟩), .pointer (some ⟨bs, 0, none⟩)] w fun e w' => e = .returned (.agg #[.int .u16 (s2), .int .u16 (s3)]) ∧ Below w.heap.size w w' := by
  have heq := @eq_dbl
  have a0 : ∀ o : Obj, (w.alloc o).cell? ⟨bw, 0, none⟩ = some (.int .u16 w0) := fun o => (World.cell?_alloc_lt _ _ _ lw).trans hw0
  have a1 : ∀ o : Obj, (w.alloc o).cell? ⟨bw, 1, none⟩ = some (.int .u16 w1) := fun o => (World.cell?_alloc_lt _ _ _ lw).trans hw1
  have lw' : bw < w.heap.size + 1 := by omega
  have nw : w.heap.size ≠ bw := by omega
  have nw' : bw ≠ w.heap.size := by omega
  go_enter Try.func47, Try.ntmps47
  go_wp2_with fail
  refine (C1 _).mono ?_
  rintro _ r1 ⟨rfl, hbr1⟩
  obtain ⟨hcr1, hfr1⟩ := bcell hbr1
  have hzr1 := hbr1.size
  try simp only [World.size_alloc, World.size_setCell, World.size_drew] at hzr1
  have hlr1w0 : w.heap.size < r1.heap.size := by omega
  have hlr1bw : bw < r1.heap.size := by omega
  have hlr1bs : bs < r1.heap.size := by omega
  have x2 : r1.cell? ⟨bs, 2, none⟩ = some (.int .u16 s2) := (hcr1 _ _ (by (try simp only [World.size_alloc, World.size_setCell]); omega)).trans ((World.cell?_alloc_lt _ _ _ ls).trans hs2)
  have y2 : ∀ o : Obj, (r1.alloc o).cell? ⟨bs, 2, none⟩ = some (.int .u16 s2) := fun o => (World.cell?_alloc_lt _ _ _ hlr1bs).trans x2
  have x3 : r1.cell? ⟨bs, 3, none⟩ = some (.int .u16 s3) := (hcr1 _ _ (by (try simp only [World.size_alloc, World.size_setCell]); omega)).trans ((World.cell?_alloc_lt _ _ _ ls).trans hs3)
  have y3 : ∀ o : Obj, (r1.alloc o).cell? ⟨bs, 3, none⟩ = some (.int .u16 s3) := fun o => (World.cell?_alloc_lt _ _ _ hlr1bs).trans x3
  have x4 : r1.cell? ⟨bs, 4, none⟩ = some (.int .u16 s4) := (hcr1 _ _ (by (try simp only [World.size_alloc, World.size_setCell]); omega)).trans ((World.cell?_alloc_lt _ _ _ ls).trans hs4)
  have y4 : ∀ o : Obj, (r1.alloc o).cell? ⟨bs, 4, none⟩ = some (.int .u16 s4) := fun o => (World.cell?_alloc_lt _ _ _ hlr1bs).trans x4
  have x5 : r1.cell? ⟨bs, 5, none⟩ = some (.int .u16 s5) := (hcr1 _ _ (by (try simp only [World.size_alloc, World.size_setCell]); omega)).trans ((World.cell?_alloc_lt _ _ _ ls).trans hs5)
  have y5 : ∀ o : Obj, (r1.alloc o).cell? ⟨bs, 5, none⟩ = some (.int .u16 s5) := fun o => (World.cell?_alloc_lt _ _ _ hlr1bs).trans x5
  have l1 : bs < r1.heap.size + 1 := by omega
  go_wp2_with fail
  have hecr2 := @Ext.cell
  refine wp_region_ext (by kernel_rfl) (by kernel_rfl) ?_
  repeat (first | go_big_quiet_skip | (go_big_quiet_want; go_big_quiet_op; first | go_big_quiet_on | (go_big_quiet_call ((first | fail | (go_at_call 46; with_reducible exact ext_call (C2 _)))))))
  clear hecr2
  refine wpQuiet_nil ?_
  rintro r2 ⟨⟨_, hbr2⟩, rfl⟩
  obtain ⟨hcr2, hfr2⟩ := bcell hbr2
  have hzr2 := hbr2.size
  try simp only [World.size_alloc, World.size_setCell, World.size_drew] at hzr2
  have hlr2w0 : w.heap.size < r2.heap.size := by omega
  have hlr2r10 : r1.heap.size < r2.heap.size := by omega
  have hlr2bw : bw < r2.heap.size := by omega
  have hlr2bs : bs < r2.heap.size := by omega
  have z2 : r2.cell? ⟨bs, 2, none⟩ = some (.int .u16 s2) := (hcr2 _ _ (by (try simp only [World.size_alloc, World.size_setCell]); omega)).trans (y2 _)
  have z3 : r2.cell? ⟨bs, 3, none⟩ = some (.int .u16 s3) := (hcr2 _ _ (by (try simp only [World.size_alloc, World.size_setCell]); omega)).trans (y3 _)
  have z4 : r2.cell? ⟨bs, 4, none⟩ = some (.int .u16 s4) := (hcr2 _ _ (by (try simp only [World.size_alloc, World.size_setCell]); omega)).trans (y4 _)
  have z5 : r2.cell? ⟨bs, 5, none⟩ = some (.int .u16 s5) := (hcr2 _ _ (by (try simp only [World.size_alloc, World.size_setCell]); omega)).trans (y5 _)
  have v0 : r1.cell? ⟨w.heap.size, 0, none⟩ = some (.int .u16 0) := (hcr1 _ _ (by (try simp only [World.size_alloc, World.size_setCell]); omega)).trans (by go_simp)
  have t0 : r2.cell? ⟨w.heap.size, 0, none⟩ = some (.int .u16 0) := (hcr2 _ _ (by (try simp only [World.size_alloc, World.size_setCell]); omega)).trans ((World.cell?_alloc_lt _ _ _ hlr1w0).trans v0)
  have v1 : r1.cell? ⟨w.heap.size, 1, none⟩ = some (.int .u16 0) := (hcr1 _ _ (by (try simp only [World.size_alloc, World.size_setCell]); omega)).trans (by go_simp)
  have t1 : r2.cell? ⟨w.heap.size, 1, none⟩ = some (.int .u16 0) := (hcr2 _ _ (by (try simp only [World.size_alloc, World.size_setCell]); omega)).trans ((World.cell?_alloc_lt _ _ _ hlr1w0).trans v1)
  go_wp2
  refine bodyPost_ret (v := (.agg #[.int .u16 (s2), .int .u16 (s3)])) (by simp [results, Try.results47, go_sem, *]) rfl ⟨rfl, ?_⟩; exact (by repeat' (first | (with_reducible exact Below.refl _ _) | (with_reducible refine bl_set ?_ _ ?_) | (with_reducible refine bl_alloc ?_ _) | (with_reducible refine bl_drew ?_) | (with_reducible refine bl_via (by with_reducible assumption) ?_) | (with_reducible assumption) | omega | (simp only []; omega) | (simp; omega)))
set_option maxHeartbeats 4000000 in
theorem thc_1_h (w0 w1 c0 c1 k1 k2 s2 s3 s4 s5 : Int) (bw bs : Nat) (w : World) (hw0 : w.cell? ⟨bw, 0, none⟩ = some (.int .u16 w0)) (hw1 : w.cell? ⟨bw, 1, none⟩ = some (.int .u16 w1)) (hs2 : w.cell? ⟨bs, 2, none⟩ = some (.int .u16 s2)) (hs3 : w.cell? ⟨bs, 3, none⟩ = some (.int .u16 s3)) (hs4 : w.cell? ⟨bs, 4, none⟩ = some (.int .u16 s4)) (hs5 : w.cell? ⟨bs, 5, none⟩ = some (.int .u16 s5)) (lw : bw < w.heap.size) (ls : bs < w.heap.size) (C1 : (∀ w, Calls Try.prog 45 #[(.agg #[.int .u16 (w0), .int .u16 (w1)])] w fun e w' => e = .returned (.agg #[.int .u16 (c0), .int .u16 (c1)]) ∧ Below w.heap.size w w')) (C2 : (∀ w, Calls Try.prog 46 #[(.agg #[.int .u16 (c0), .int .u16 (c1)]), (.agg #[.int .u16 (s2), .int .u16 (s3)])] w fun e w' => e = .returned (.int .i64 k1) ∧ Below w.heap.size w w')) (C3 : (∀ w, Calls Try.prog 46 #[(.agg #[.int .u16 (c0), .int .u16 (c1)]), (.agg #[.int .u16 (s4), .int .u16 (s5)])] w fun e w' => e = .returned (.int .i64 k2) ∧ Below w.heap.size w w')) (e : (c0 == s2 && c1 == s3) = false) (d1 : decide (k1 < 0) = false) (d2 : decide (0 < k2) = true) :
    Calls Try.prog 47 #[.int .i64 1, .int .i64 2, .pointer (some ⟨bw, 0, none⟩), .pointer (some ⟨bs, 0, none⟩)] w fun e w' => e = .returned (.agg #[.int .u16 (s4), .int .u16 (s5)]) ∧ Below w.heap.size w w' := by
  have heq := @eq_dbl
  have a0 : ∀ o : Obj, (w.alloc o).cell? ⟨bw, 0, none⟩ = some (.int .u16 w0) := fun o => (World.cell?_alloc_lt _ _ _ lw).trans hw0
  have a1 : ∀ o : Obj, (w.alloc o).cell? ⟨bw, 1, none⟩ = some (.int .u16 w1) := fun o => (World.cell?_alloc_lt _ _ _ lw).trans hw1
  have lw' : bw < w.heap.size + 1 := by omega
  have nw : w.heap.size ≠ bw := by omega
  have nw' : bw ≠ w.heap.size := by omega
  go_enter Try.func47, Try.ntmps47
  go_wp2_with fail
  refine (C1 _).mono ?_
  rintro _ r1 ⟨rfl, hbr1⟩
  obtain ⟨hcr1, hfr1⟩ := bcell hbr1
  have hzr1 := hbr1.size
  try simp only [World.size_alloc, World.size_setCell, World.size_drew] at hzr1
  have hlr1w0 : w.heap.size < r1.heap.size := by omega
  have hlr1bw : bw < r1.heap.size := by omega
  have hlr1bs : bs < r1.heap.size := by omega
  have x2 : r1.cell? ⟨bs, 2, none⟩ = some (.int .u16 s2) := (hcr1 _ _ (by (try simp only [World.size_alloc, World.size_setCell]); omega)).trans ((World.cell?_alloc_lt _ _ _ ls).trans hs2)
  have y2 : ∀ o : Obj, (r1.alloc o).cell? ⟨bs, 2, none⟩ = some (.int .u16 s2) := fun o => (World.cell?_alloc_lt _ _ _ hlr1bs).trans x2
  have x3 : r1.cell? ⟨bs, 3, none⟩ = some (.int .u16 s3) := (hcr1 _ _ (by (try simp only [World.size_alloc, World.size_setCell]); omega)).trans ((World.cell?_alloc_lt _ _ _ ls).trans hs3)
  have y3 : ∀ o : Obj, (r1.alloc o).cell? ⟨bs, 3, none⟩ = some (.int .u16 s3) := fun o => (World.cell?_alloc_lt _ _ _ hlr1bs).trans x3
  have x4 : r1.cell? ⟨bs, 4, none⟩ = some (.int .u16 s4) := (hcr1 _ _ (by (try simp only [World.size_alloc, World.size_setCell]); omega)).trans ((World.cell?_alloc_lt _ _ _ ls).trans hs4)
  have y4 : ∀ o : Obj, (r1.alloc o).cell? ⟨bs, 4, none⟩ = some (.int .u16 s4) := fun o => (World.cell?_alloc_lt _ _ _ hlr1bs).trans x4
  have x5 : r1.cell? ⟨bs, 5, none⟩ = some (.int .u16 s5) := (hcr1 _ _ (by (try simp only [World.size_alloc, World.size_setCell]); omega)).trans ((World.cell?_alloc_lt _ _ _ ls).trans hs5)
  have y5 : ∀ o : Obj, (r1.alloc o).cell? ⟨bs, 5, none⟩ = some (.int .u16 s5) := fun o => (World.cell?_alloc_lt _ _ _ hlr1bs).trans x5
  have l1 : bs < r1.heap.size + 1 := by omega
  go_wp2_with fail
  have hecr2 := @Ext.cell
  refine wp_region_ext (by kernel_rfl) (by kernel_rfl) ?_
  repeat (first | go_big_quiet_skip | (go_big_quiet_want; go_big_quiet_op; first | go_big_quiet_on | (go_big_quiet_call ((first | fail | (go_at_call 46; with_reducible exact ext_call (C2 _)))))))
  clear hecr2
  refine wpQuiet_nil ?_
  rintro r2 ⟨⟨_, hbr2⟩, rfl⟩
  obtain ⟨hcr2, hfr2⟩ := bcell hbr2
  have hzr2 := hbr2.size
  try simp only [World.size_alloc, World.size_setCell, World.size_drew] at hzr2
  have hlr2w0 : w.heap.size < r2.heap.size := by omega
  have hlr2r10 : r1.heap.size < r2.heap.size := by omega
  have hlr2bw : bw < r2.heap.size := by omega
  have hlr2bs : bs < r2.heap.size := by omega
  have z2 : r2.cell? ⟨bs, 2, none⟩ = some (.int .u16 s2) := (hcr2 _ _ (by (try simp only [World.size_alloc, World.size_setCell]); omega)).trans (y2 _)
  have z3 : r2.cell? ⟨bs, 3, none⟩ = some (.int .u16 s3) := (hcr2 _ _ (by (try simp only [World.size_alloc, World.size_setCell]); omega)).trans (y3 _)
  have z4 : r2.cell? ⟨bs, 4, none⟩ = some (.int .u16 s4) := (hcr2 _ _ (by (try simp only [World.size_alloc, World.size_setCell]); omega)).trans (y4 _)
  have z5 : r2.cell? ⟨bs, 5, none⟩ = some (.int .u16 s5) := (hcr2 _ _ (by (try simp only [World.size_alloc, World.size_setCell]); omega)).trans (y5 _)
  have v0 : r1.cell? ⟨w.heap.size, 0, none⟩ = some (.int .u16 0) := (hcr1 _ _ (by (try simp only [World.size_alloc, World.size_setCell]); omega)).trans (by go_simp)
  have t0 : r2.cell? ⟨w.heap.size, 0, none⟩ = some (.int .u16 0) := (hcr2 _ _ (by (try simp only [World.size_alloc, World.size_setCell]); omega)).trans ((World.cell?_alloc_lt _ _ _ hlr1w0).trans v0)
  have v1 : r1.cell? ⟨w.heap.size, 1, none⟩ = some (.int .u16 0) := (hcr1 _ _ (by (try simp only [World.size_alloc, World.size_setCell]); omega)).trans (by go_simp)
  have t1 : r2.cell? ⟨w.heap.size, 1, none⟩ = some (.int .u16 0) := (hcr2 _ _ (by (try simp only [World.size_alloc, World.size_setCell]); omega)).trans ((World.cell?_alloc_lt _ _ _ hlr1w0).trans v1)
  go_wp2_with fail
  have hecr3 := @Ext.cell
  refine wp_region_ext (by kernel_rfl) (by kernel_rfl) ?_
  repeat (first | go_big_quiet_skip | (go_big_quiet_want; go_big_quiet_op; first | go_big_quiet_on | (go_big_quiet_call ((first | fail | (go_at_call 46; with_reducible exact ext_call (C3 _)))))))
  clear hecr3
  refine wpQuiet_nil ?_
  rintro r3 ⟨⟨_, hbr3⟩, rfl⟩
  obtain ⟨hcr3, hfr3⟩ := bcell hbr3
  have hzr3 := hbr3.size
  try simp only [World.size_alloc, World.size_setCell, World.size_drew] at hzr3
  have hlr3w0 : w.heap.size < r3.heap.size := by omega
  have hlr3r10 : r1.heap.size < r3.heap.size := by omega
  have hlr3bw : bw < r3.heap.size := by omega
  have hlr3bs : bs < r3.heap.size := by omega
  have u2 : r3.cell? ⟨bs, 2, none⟩ = some (.int .u16 s2) := (hcr3 _ _ (by (try simp only [World.size_alloc, World.size_setCell]); omega)).trans z2
  have u3 : r3.cell? ⟨bs, 3, none⟩ = some (.int .u16 s3) := (hcr3 _ _ (by (try simp only [World.size_alloc, World.size_setCell]); omega)).trans z3
  have u4 : r3.cell? ⟨bs, 4, none⟩ = some (.int .u16 s4) := (hcr3 _ _ (by (try simp only [World.size_alloc, World.size_setCell]); omega)).trans z4
  have u5 : r3.cell? ⟨bs, 5, none⟩ = some (.int .u16 s5) := (hcr3 _ _ (by (try simp only [World.size_alloc, World.size_setCell]); omega)).trans z5
  have p0 : r3.cell? ⟨w.heap.size, 0, none⟩ = some (.int .u16 0) := (hcr3 _ _ (by (try simp only [World.size_alloc, World.size_setCell]); omega)).trans t0
  have p1 : r3.cell? ⟨w.heap.size, 1, none⟩ = some (.int .u16 0) := (hcr3 _ _ (by (try simp only [World.size_alloc, World.size_setCell]); omega)).trans t1
  go_wp2
  refine bodyPost_ret (v := (.agg #[.int .u16 (s4), .int .u16 (s5)])) (by simp [results, Try.results47, go_sem, *]) rfl ⟨rfl, ?_⟩; exact (by repeat' (first | (with_reducible exact Below.refl _ _) | (with_reducible refine bl_set ?_ _ ?_) | (with_reducible refine bl_alloc ?_ _) | (with_reducible refine bl_drew ?_) | (with_reducible refine bl_via (by with_reducible assumption) ?_) | (with_reducible assumption) | omega | (simp only []; omega) | (simp; omega)))
set_option maxHeartbeats 4000000 in
theorem thc_1_m (w0 w1 c0 c1 k1 k2 s2 s3 s4 s5 : Int) (bw bs : Nat) (w : World) (hw0 : w.cell? ⟨bw, 0, none⟩ = some (.int .u16 w0)) (hw1 : w.cell? ⟨bw, 1, none⟩ = some (.int .u16 w1)) (hs2 : w.cell? ⟨bs, 2, none⟩ = some (.int .u16 s2)) (hs3 : w.cell? ⟨bs, 3, none⟩ = some (.int .u16 s3)) (hs4 : w.cell? ⟨bs, 4, none⟩ = some (.int .u16 s4)) (hs5 : w.cell? ⟨bs, 5, none⟩ = some (.int .u16 s5)) (lw : bw < w.heap.size) (ls : bs < w.heap.size) (C1 : (∀ w, Calls Try.prog 45 #[(.agg #[.int .u16 (w0), .int .u16 (w1)])] w fun e w' => e = .returned (.agg #[.int .u16 (c0), .int .u16 (c1)]) ∧ Below w.heap.size w w')) (C2 : (∀ w, Calls Try.prog 46 #[(.agg #[.int .u16 (c0), .int .u16 (c1)]), (.agg #[.int .u16 (s2), .int .u16 (s3)])] w fun e w' => e = .returned (.int .i64 k1) ∧ Below w.heap.size w w')) (C3 : (∀ w, Calls Try.prog 46 #[(.agg #[.int .u16 (c0), .int .u16 (c1)]), (.agg #[.int .u16 (s4), .int .u16 (s5)])] w fun e w' => e = .returned (.int .i64 k2) ∧ Below w.heap.size w w')) (e : (c0 == s2 && c1 == s3) = false) (d1 : decide (k1 < 0) = false) (d2 : decide (0 < k2) = false) :
    Calls Try.prog 47 #[.int .i64 1, .int .i64 2, .pointer (some ⟨bw, 0, none⟩), .pointer (some ⟨bs, 0, none⟩)] w fun e w' => e = .returned (.agg #[.int .u16 (c0), .int .u16 (c1)]) ∧ Below w.heap.size w w' := by
  have heq := @eq_dbl
  have a0 : ∀ o : Obj, (w.alloc o).cell? ⟨bw, 0, none⟩ = some (.int .u16 w0) := fun o => (World.cell?_alloc_lt _ _ _ lw).trans hw0
  have a1 : ∀ o : Obj, (w.alloc o).cell? ⟨bw, 1, none⟩ = some (.int .u16 w1) := fun o => (World.cell?_alloc_lt _ _ _ lw).trans hw1
  have lw' : bw < w.heap.size + 1 := by omega
  have nw : w.heap.size ≠ bw := by omega
  have nw' : bw ≠ w.heap.size := by omega
  go_enter Try.func47, Try.ntmps47
  go_wp2_with fail
  refine (C1 _).mono ?_
  rintro _ r1 ⟨rfl, hbr1⟩
  obtain ⟨hcr1, hfr1⟩ := bcell hbr1
  have hzr1 := hbr1.size
  try simp only [World.size_alloc, World.size_setCell, World.size_drew] at hzr1
  have hlr1w0 : w.heap.size < r1.heap.size := by omega
  have hlr1bw : bw < r1.heap.size := by omega
  have hlr1bs : bs < r1.heap.size := by omega
  have x2 : r1.cell? ⟨bs, 2, none⟩ = some (.int .u16 s2) := (hcr1 _ _ (by (try simp only [World.size_alloc, World.size_setCell]); omega)).trans ((World.cell?_alloc_lt _ _ _ ls).trans hs2)
  have y2 : ∀ o : Obj, (r1.alloc o).cell? ⟨bs, 2, none⟩ = some (.int .u16 s2) := fun o => (World.cell?_alloc_lt _ _ _ hlr1bs).trans x2
  have x3 : r1.cell? ⟨bs, 3, none⟩ = some (.int .u16 s3) := (hcr1 _ _ (by (try simp only [World.size_alloc, World.size_setCell]); omega)).trans ((World.cell?_alloc_lt _ _ _ ls).trans hs3)
  have y3 : ∀ o : Obj, (r1.alloc o).cell? ⟨bs, 3, none⟩ = some (.int .u16 s3) := fun o => (World.cell?_alloc_lt _ _ _ hlr1bs).trans x3
  have x4 : r1.cell? ⟨bs, 4, none⟩ = some (.int .u16 s4) := (hcr1 _ _ (by (try simp only [World.size_alloc, World.size_setCell]); omega)).trans ((World.cell?_alloc_lt _ _ _ ls).trans hs4)
  have y4 : ∀ o : Obj, (r1.alloc o).cell? ⟨bs, 4, none⟩ = some (.int .u16 s4) := fun o => (World.cell?_alloc_lt _ _ _ hlr1bs).trans x4
  have x5 : r1.cell? ⟨bs, 5, none⟩ = some (.int .u16 s5) := (hcr1 _ _ (by (try simp only [World.size_alloc, World.size_setCell]); omega)).trans ((World.cell?_alloc_lt _ _ _ ls).trans hs5)
  have y5 : ∀ o : Obj, (r1.alloc o).cell? ⟨bs, 5, none⟩ = some (.int .u16 s5) := fun o => (World.cell?_alloc_lt _ _ _ hlr1bs).trans x5
  have l1 : bs < r1.heap.size + 1 := by omega
  go_wp2_with fail
  have hecr2 := @Ext.cell
  refine wp_region_ext (by kernel_rfl) (by kernel_rfl) ?_
  repeat (first | go_big_quiet_skip | (go_big_quiet_want; go_big_quiet_op; first | go_big_quiet_on | (go_big_quiet_call ((first | fail | (go_at_call 46; with_reducible exact ext_call (C2 _)))))))
  clear hecr2
  refine wpQuiet_nil ?_
  rintro r2 ⟨⟨_, hbr2⟩, rfl⟩
  obtain ⟨hcr2, hfr2⟩ := bcell hbr2
  have hzr2 := hbr2.size
  try simp only [World.size_alloc, World.size_setCell, World.size_drew] at hzr2
  have hlr2w0 : w.heap.size < r2.heap.size := by omega
  have hlr2r10 : r1.heap.size < r2.heap.size := by omega
  have hlr2bw : bw < r2.heap.size := by omega
  have hlr2bs : bs < r2.heap.size := by omega
  have z2 : r2.cell? ⟨bs, 2, none⟩ = some (.int .u16 s2) := (hcr2 _ _ (by (try simp only [World.size_alloc, World.size_setCell]); omega)).trans (y2 _)
  have z3 : r2.cell? ⟨bs, 3, none⟩ = some (.int .u16 s3) := (hcr2 _ _ (by (try simp only [World.size_alloc, World.size_setCell]); omega)).trans (y3 _)
  have z4 : r2.cell? ⟨bs, 4, none⟩ = some (.int .u16 s4) := (hcr2 _ _ (by (try simp only [World.size_alloc, World.size_setCell]); omega)).trans (y4 _)
  have z5 : r2.cell? ⟨bs, 5, none⟩ = some (.int .u16 s5) := (hcr2 _ _ (by (try simp only [World.size_alloc, World.size_setCell]); omega)).trans (y5 _)
  have v0 : r1.cell? ⟨w.heap.size, 0, none⟩ = some (.int .u16 0) := (hcr1 _ _ (by (try simp only [World.size_alloc, World.size_setCell]); omega)).trans (by go_simp)
  have t0 : r2.cell? ⟨w.heap.size, 0, none⟩ = some (.int .u16 0) := (hcr2 _ _ (by (try simp only [World.size_alloc, World.size_setCell]); omega)).trans ((World.cell?_alloc_lt _ _ _ hlr1w0).trans v0)
  have v1 : r1.cell? ⟨w.heap.size, 1, none⟩ = some (.int .u16 0) := (hcr1 _ _ (by (try simp only [World.size_alloc, World.size_setCell]); omega)).trans (by go_simp)
  have t1 : r2.cell? ⟨w.heap.size, 1, none⟩ = some (.int .u16 0) := (hcr2 _ _ (by (try simp only [World.size_alloc, World.size_setCell]); omega)).trans ((World.cell?_alloc_lt _ _ _ hlr1w0).trans v1)
  go_wp2_with fail
  have hecr3 := @Ext.cell
  refine wp_region_ext (by kernel_rfl) (by kernel_rfl) ?_
  repeat (first | go_big_quiet_skip | (go_big_quiet_want; go_big_quiet_op; first | go_big_quiet_on | (go_big_quiet_call ((first | fail | (go_at_call 46; with_reducible exact ext_call (C3 _)))))))
  clear hecr3
  refine wpQuiet_nil ?_
  rintro r3 ⟨⟨_, hbr3⟩, rfl⟩
  obtain ⟨hcr3, hfr3⟩ := bcell hbr3
  have hzr3 := hbr3.size
  try simp only [World.size_alloc, World.size_setCell, World.size_drew] at hzr3
  have hlr3w0 : w.heap.size < r3.heap.size := by omega
  have hlr3r10 : r1.heap.size < r3.heap.size := by omega
  have hlr3bw : bw < r3.heap.size := by omega
  have hlr3bs : bs < r3.heap.size := by omega
  have u2 : r3.cell? ⟨bs, 2, none⟩ = some (.int .u16 s2) := (hcr3 _ _ (by (try simp only [World.size_alloc, World.size_setCell]); omega)).trans z2
  have u3 : r3.cell? ⟨bs, 3, none⟩ = some (.int .u16 s3) := (hcr3 _ _ (by (try simp only [World.size_alloc, World.size_setCell]); omega)).trans z3
  have u4 : r3.cell? ⟨bs, 4, none⟩ = some (.int .u16 s4) := (hcr3 _ _ (by (try simp only [World.size_alloc, World.size_setCell]); omega)).trans z4
  have u5 : r3.cell? ⟨bs, 5, none⟩ = some (.int .u16 s5) := (hcr3 _ _ (by (try simp only [World.size_alloc, World.size_setCell]); omega)).trans z5
  have p0 : r3.cell? ⟨w.heap.size, 0, none⟩ = some (.int .u16 0) := (hcr3 _ _ (by (try simp only [World.size_alloc, World.size_setCell]); omega)).trans t0
  have p1 : r3.cell? ⟨w.heap.size, 1, none⟩ = some (.int .u16 0) := (hcr3 _ _ (by (try simp only [World.size_alloc, World.size_setCell]); omega)).trans t1
  go_wp2
  refine bodyPost_ret (v := (.agg #[.int .u16 (c0), .int .u16 (c1)])) (by simp [results, Try.results47, go_sem, *]) rfl ⟨rfl, ?_⟩; exact (by repeat' (first | (with_reducible exact Below.refl _ _) | (with_reducible refine bl_set ?_ _ ?_) | (with_reducible refine bl_alloc ?_ _) | (with_reducible refine bl_drew ?_) | (with_reducible refine bl_via (by with_reducible assumption) ?_) | (with_reducible assumption) | omega | (simp only []; omega) | (simp; omega)))
set_option maxHeartbeats 4000000 in
theorem thc_3_e (w0 w1 c0 c1 k1 k2 s6 s7 s8 s9 : Int) (bw bs : Nat) (w : World) (hw0 : w.cell? ⟨bw, 0, none⟩ = some (.int .u16 w0)) (hw1 : w.cell? ⟨bw, 1, none⟩ = some (.int .u16 w1)) (hs6 : w.cell? ⟨bs, 6, none⟩ = some (.int .u16 s6)) (hs7 : w.cell? ⟨bs, 7, none⟩ = some (.int .u16 s7)) (hs8 : w.cell? ⟨bs, 8, none⟩ = some (.int .u16 s8)) (hs9 : w.cell? ⟨bs, 9, none⟩ = some (.int .u16 s9)) (lw : bw < w.heap.size) (ls : bs < w.heap.size) (C1 : (∀ w, Calls Try.prog 45 #[(.agg #[.int .u16 (w0), .int .u16 (w1)])] w fun e w' => e = .returned (.agg #[.int .u16 (c0), .int .u16 (c1)]) ∧ Below w.heap.size w w')) (C2 : (∀ w, Calls Try.prog 46 #[(.agg #[.int .u16 (c0), .int .u16 (c1)]), (.agg #[.int .u16 (s6), .int .u16 (s7)])] w fun e w' => e = .returned (.int .i64 k1) ∧ Below w.heap.size w w')) (C3 : (∀ w, Calls Try.prog 46 #[(.agg #[.int .u16 (c0), .int .u16 (c1)]), (.agg #[.int .u16 (s8), .int .u16 (s9)])] w fun e w' => e = .returned (.int .i64 k2) ∧ Below w.heap.size w w')) (e : (c0 == s6 && c1 == s7) = true) :
    Calls Try.prog 47 #[.int .i64 3, .int .i64 4, .pointer (some ⟨bw, 0, none⟩), .pointer (some ⟨bs, 0, none⟩)] w fun e w' => e = .returned (.agg #[.int .u16 (s6), .int .u16 (s7)]) ∧ Below w.heap.size w w' := by
  have heq := @eq_dbl
  have a0 : ∀ o : Obj, (w.alloc o).cell? ⟨bw, 0, none⟩ = some (.int .u16 w0) := fun o => (World.cell?_alloc_lt _ _ _ lw).trans hw0
  have a1 : ∀ o : Obj, (w.alloc o).cell? ⟨bw, 1, none⟩ = some (.int .u16 w1) := fun o => (World.cell?_alloc_lt _ _ _ lw).trans hw1
  have lw' : bw < w.heap.size + 1 := by omega
  have nw : w.heap.size ≠ bw := by omega
  have nw' : bw ≠ w.heap.size := by omega
  go_enter Try.func47, Try.ntmps47
  go_wp2_with fail
  refine (C1 _).mono ?_
  rintro _ r1 ⟨rfl, hbr1⟩
  obtain ⟨hcr1, hfr1⟩ := bcell hbr1
  have hzr1 := hbr1.size
  try simp only [World.size_alloc, World.size_setCell, World.size_drew] at hzr1
  have hlr1w0 : w.heap.size < r1.heap.size := by omega
  have hlr1bw : bw < r1.heap.size := by omega
  have hlr1bs : bs < r1.heap.size := by omega
  have x6 : r1.cell? ⟨bs, 6, none⟩ = some (.int .u16 s6) := (hcr1 _ _ (by (try simp only [World.size_alloc, World.size_setCell]); omega)).trans ((World.cell?_alloc_lt _ _ _ ls).trans hs6)
  have y6 : ∀ o : Obj, (r1.alloc o).cell? ⟨bs, 6, none⟩ = some (.int .u16 s6) := fun o => (World.cell?_alloc_lt _ _ _ hlr1bs).trans x6
  have x7 : r1.cell? ⟨bs, 7, none⟩ = some (.int .u16 s7) := (hcr1 _ _ (by (try simp only [World.size_alloc, World.size_setCell]); omega)).trans ((World.cell?_alloc_lt _ _ _ ls).trans hs7)
  have y7 : ∀ o : Obj, (r1.alloc o).cell? ⟨bs, 7, none⟩ = some (.int .u16 s7) := fun o => (World.cell?_alloc_lt _ _ _ hlr1bs).trans x7
  have x8 : r1.cell? ⟨bs, 8, none⟩ = some (.int .u16 s8) := (hcr1 _ _ (by (try simp only [World.size_alloc, World.size_setCell]); omega)).trans ((World.cell?_alloc_lt _ _ _ ls).trans hs8)
  have y8 : ∀ o : Obj, (r1.alloc o).cell? ⟨bs, 8, none⟩ = some (.int .u16 s8) := fun o => (World.cell?_alloc_lt _ _ _ hlr1bs).trans x8
  have x9 : r1.cell? ⟨bs, 9, none⟩ = some (.int .u16 s9) := (hcr1 _ _ (by (try simp only [World.size_alloc, World.size_setCell]); omega)).trans ((World.cell?_alloc_lt _ _ _ ls).trans hs9)
  have y9 : ∀ o : Obj, (r1.alloc o).cell? ⟨bs, 9, none⟩ = some (.int .u16 s9) := fun o => (World.cell?_alloc_lt _ _ _ hlr1bs).trans x9
  have l1 : bs < r1.heap.size + 1 := by omega
  go_wp2_with fail
  have hecr2 := @Ext.cell
  refine wp_region_ext (by kernel_rfl) (by kernel_rfl) ?_
  repeat (first | go_big_quiet_skip | (go_big_quiet_want; go_big_quiet_op; first | go_big_quiet_on | (go_big_quiet_call ((first | fail | fail)))))
  clear hecr2
  refine wpQuiet_nil ?_
  rintro r2 ⟨⟨_, hbr2⟩, rfl⟩
  obtain ⟨hcr2, hfr2⟩ := bcell hbr2
  have hzr2 := hbr2.size
  try simp only [World.size_alloc, World.size_setCell, World.size_drew] at hzr2
  have hlr2w0 : w.heap.size < r2.heap.size := by omega
  have hlr2r10 : r1.heap.size < r2.heap.size := by omega
  have hlr2bw : bw < r2.heap.size := by omega
  have hlr2bs : bs < r2.heap.size := by omega
  have z6 : r2.cell? ⟨bs, 6, none⟩ = some (.int .u16 s6) := (hcr2 _ _ (by (try simp only [World.size_alloc, World.size_setCell]); omega)).trans (y6 _)
  have z7 : r2.cell? ⟨bs, 7, none⟩ = some (.int .u16 s7) := (hcr2 _ _ (by (try simp only [World.size_alloc, World.size_setCell]); omega)).trans (y7 _)
  have z8 : r2.cell? ⟨bs, 8, none⟩ = some (.int .u16 s8) := (hcr2 _ _ (by (try simp only [World.size_alloc, World.size_setCell]); omega)).trans (y8 _)
  have z9 : r2.cell? ⟨bs, 9, none⟩ = some (.int .u16 s9) := (hcr2 _ _ (by (try simp only [World.size_alloc, World.size_setCell]); omega)).trans (y9 _)
  have v0 : r1.cell? ⟨w.heap.size, 0, none⟩ = some (.int .u16 0) := (hcr1 _ _ (by (try simp only [World.size_alloc, World.size_setCell]); omega)).trans (by go_simp)
  have t0 : r2.cell? ⟨w.heap.size, 0, none⟩ = some (.int .u16 0) := (hcr2 _ _ (by (try simp only [World.size_alloc, World.size_setCell]); omega)).trans ((World.cell?_alloc_lt _ _ _ hlr1w0).trans v0)
  have v1 : r1.cell? ⟨w.heap.size, 1, none⟩ = some (.int .u16 0) := (hcr1 _ _ (by (try simp only [World.size_alloc, World.size_setCell]); omega)).trans (by go_simp)
  have t1 : r2.cell? ⟨w.heap.size, 1, none⟩ = some (.int .u16 0) := (hcr2 _ _ (by (try simp only [World.size_alloc, World.size_setCell]); omega)).trans ((World.cell?_alloc_lt _ _ _ hlr1w0).trans v1)
  go_wp2
  refine bodyPost_ret (v := (.agg #[.int .u16 (s6), .int .u16 (s7)])) (by simp [results, Try.results47, go_sem, *]) rfl ⟨rfl, ?_⟩; exact (by repeat' (first | (with_reducible exact Below.refl _ _) | (with_reducible refine bl_set ?_ _ ?_) | (with_reducible refine bl_alloc ?_ _) | (with_reducible refine bl_drew ?_) | (with_reducible refine bl_via (by with_reducible assumption) ?_) | (with_reducible assumption) | omega | (simp only []; omega) | (simp; omega)))
set_option maxHeartbeats 4000000 in
theorem thc_3_l (w0 w1 c0 c1 k1 k2 s6 s7 s8 s9 : Int) (bw bs : Nat) (w : World) (hw0 : w.cell? ⟨bw, 0, none⟩ = some (.int .u16 w0)) (hw1 : w.cell? ⟨bw, 1, none⟩ = some (.int .u16 w1)) (hs6 : w.cell? ⟨bs, 6, none⟩ = some (.int .u16 s6)) (hs7 : w.cell? ⟨bs, 7, none⟩ = some (.int .u16 s7)) (hs8 : w.cell? ⟨bs, 8, none⟩ = some (.int .u16 s8)) (hs9 : w.cell? ⟨bs, 9, none⟩ = some (.int .u16 s9)) (lw : bw < w.heap.size) (ls : bs < w.heap.size) (C1 : (∀ w, Calls Try.prog 45 #[(.agg #[.int .u16 (w0), .int .u16 (w1)])] w fun e w' => e = .returned (.agg #[.int .u16 (c0), .int .u16 (c1)]) ∧ Below w.heap.size w w')) (C2 : (∀ w, Calls Try.prog 46 #[(.agg #[.int .u16 (c0), .int .u16 (c1)]), (.agg #[.int .u16 (s6), .int .u16 (s7)])] w fun e w' => e = .returned (.int .i64 k1) ∧ Below w.heap.size w w')) (C3 : (∀ w, Calls Try.prog 46 #[(.agg #[.int .u16 (c0), .int .u16 (c1)]), (.agg #[.int .u16 (s8), .int .u16 (s9)])] w fun e w' => e = .returned (.int .i64 k2) ∧ Below w.heap.size w w')) (e : (c0 == s6 && c1 == s7) = false) (d1 : decide (k1 < 0) = true) :
    Calls Try.prog 47 #[.int .i64 3, .int .i64 4, .pointer (some ⟨bw, 0, none⟩), .pointer (some ⟨bs, 0, none⟩)] w fun e w' => e = .returned (.agg #[.int .u16 (s6), .int .u16 (s7)]) ∧ Below w.heap.size w w' := by
  have heq := @eq_dbl
  have a0 : ∀ o : Obj, (w.alloc o).cell? ⟨bw, 0, none⟩ = some (.int .u16 w0) := fun o => (World.cell?_alloc_lt _ _ _ lw).trans hw0
  have a1 : ∀ o : Obj, (w.alloc o).cell? ⟨bw, 1, none⟩ = some (.int .u16 w1) := fun o => (World.cell?_alloc_lt _ _ _ lw).trans hw1
  have lw' : bw < w.heap.size + 1 := by omega
  have nw : w.heap.size ≠ bw := by omega
  have nw' : bw ≠ w.heap.size := by omega
  go_enter Try.func47, Try.ntmps47
  go_wp2_with fail
  refine (C1 _).mono ?_
  rintro _ r1 ⟨rfl, hbr1⟩
  obtain ⟨hcr1, hfr1⟩ := bcell hbr1
  have hzr1 := hbr1.size
  try simp only [World.size_alloc, World.size_setCell, World.size_drew] at hzr1
  have hlr1w0 : w.heap.size < r1.heap.size := by omega
  have hlr1bw : bw < r1.heap.size := by omega
  have hlr1bs : bs < r1.heap.size := by omega
  have x6 : r1.cell? ⟨bs, 6, none⟩ = some (.int .u16 s6) := (hcr1 _ _ (by (try simp only [World.size_alloc, World.size_setCell]); omega)).trans ((World.cell?_alloc_lt _ _ _ ls).trans hs6)
  have y6 : ∀ o : Obj, (r1.alloc o).cell? ⟨bs, 6, none⟩ = some (.int .u16 s6) := fun o => (World.cell?_alloc_lt _ _ _ hlr1bs).trans x6
  have x7 : r1.cell? ⟨bs, 7, none⟩ = some (.int .u16 s7) := (hcr1 _ _ (by (try simp only [World.size_alloc, World.size_setCell]); omega)).trans ((World.cell?_alloc_lt _ _ _ ls).trans hs7)
  have y7 : ∀ o : Obj, (r1.alloc o).cell? ⟨bs, 7, none⟩ = some (.int .u16 s7) := fun o => (World.cell?_alloc_lt _ _ _ hlr1bs).trans x7
  have x8 : r1.cell? ⟨bs, 8, none⟩ = some (.int .u16 s8) := (hcr1 _ _ (by (try simp only [World.size_alloc, World.size_setCell]); omega)).trans ((World.cell?_alloc_lt _ _ _ ls).trans hs8)
  have y8 : ∀ o : Obj, (r1.alloc o).cell? ⟨bs, 8, none⟩ = some (.int .u16 s8) := fun o => (World.cell?_alloc_lt _ _ _ hlr1bs).trans x8
  have x9 : r1.cell? ⟨bs, 9, none⟩ = some (.int .u16 s9) := (hcr1 _ _ (by (try simp only [World.size_alloc, World.size_setCell]); omega)).trans ((World.cell?_alloc_lt _ _ _ ls).trans hs9)
  have y9 : ∀ o : Obj, (r1.alloc o).cell? ⟨bs, 9, none⟩ = some (.int .u16 s9) := fun o => (World.cell?_alloc_lt _ _ _ hlr1bs).trans x9
  have l1 : bs < r1.heap.size + 1 := by omega
  go_wp2_with fail
  have hecr2 := @Ext.cell
  refine wp_region_ext (by kernel_rfl) (by kernel_rfl) ?_
  repeat (first | go_big_quiet_skip | (go_big_quiet_want; go_big_quiet_op; first | go_big_quiet_on | (go_big_quiet_call ((first | fail | (go_at_call 46; with_reducible exact ext_call (C2 _)))))))
  clear hecr2
  refine wpQuiet_nil ?_
  rintro r2 ⟨⟨_, hbr2⟩, rfl⟩
  obtain ⟨hcr2, hfr2⟩ := bcell hbr2
  have hzr2 := hbr2.size
  try simp only [World.size_alloc, World.size_setCell, World.size_drew] at hzr2
  have hlr2w0 : w.heap.size < r2.heap.size := by omega
  have hlr2r10 : r1.heap.size < r2.heap.size := by omega
  have hlr2bw : bw < r2.heap.size := by omega
  have hlr2bs : bs < r2.heap.size := by omega
  have z6 : r2.cell? ⟨bs, 6, none⟩ = some (.int .u16 s6) := (hcr2 _ _ (by (try simp only [World.size_alloc, World.size_setCell]); omega)).trans (y6 _)
  have z7 : r2.cell? ⟨bs, 7, none⟩ = some (.int .u16 s7) := (hcr2 _ _ (by (try simp only [World.size_alloc, World.size_setCell]); omega)).trans (y7 _)
  have z8 : r2.cell? ⟨bs, 8, none⟩ = some (.int .u16 s8) := (hcr2 _ _ (by (try simp only [World.size_alloc, World.size_setCell]); omega)).trans (y8 _)
  have z9 : r2.cell? ⟨bs, 9, none⟩ = some (.int .u16 s9) := (hcr2 _ _ (by (try simp only [World.size_alloc, World.size_setCell]); omega)).trans (y9 _)
  have v0 : r1.cell? ⟨w.heap.size, 0, none⟩ = some (.int .u16 0) := (hcr1 _ _ (by (try simp only [World.size_alloc, World.size_setCell]); omega)).trans (by go_simp)
  have t0 : r2.cell? ⟨w.heap.size, 0, none⟩ = some (.int .u16 0) := (hcr2 _ _ (by (try simp only [World.size_alloc, World.size_setCell]); omega)).trans ((World.cell?_alloc_lt _ _ _ hlr1w0).trans v0)
  have v1 : r1.cell? ⟨w.heap.size, 1, none⟩ = some (.int .u16 0) := (hcr1 _ _ (by (try simp only [World.size_alloc, World.size_setCell]); omega)).trans (by go_simp)
  have t1 : r2.cell? ⟨w.heap.size, 1, none⟩ = some (.int .u16 0) := (hcr2 _ _ (by (try simp only [World.size_alloc, World.size_setCell]); omega)).trans ((World.cell?_alloc_lt _ _ _ hlr1w0).trans v1)
  go_wp2
  refine bodyPost_ret (v := (.agg #[.int .u16 (s6), .int .u16 (s7)])) (by simp [results, Try.results47, go_sem, *]) rfl ⟨rfl, ?_⟩; exact (by repeat' (first | (with_reducible exact Below.refl _ _) | (with_reducible refine bl_set ?_ _ ?_) | (with_reducible refine bl_alloc ?_ _) | (with_reducible refine bl_drew ?_) | (with_reducible refine bl_via (by with_reducible assumption) ?_) | (with_reducible assumption) | omega | (simp only []; omega) | (simp; omega)))
set_option maxHeartbeats 4000000 in
theorem thc_3_h (w0 w1 c0 c1 k1 k2 s6 s7 s8 s9 : Int) (bw bs : Nat) (w : World) (hw0 : w.cell? ⟨bw, 0, none⟩ = some (.int .u16 w0)) (hw1 : w.cell? ⟨bw, 1, none⟩ = some (.int .u16 w1)) (hs6 : w.cell? ⟨bs, 6, none⟩ = some (.int .u16 s6)) (hs7 : w.cell? ⟨bs, 7, none⟩ = some (.int .u16 s7)) (hs8 : w.cell? ⟨bs, 8, none⟩ = some (.int .u16 s8)) (hs9 : w.cell? ⟨bs, 9, none⟩ = some (.int .u16 s9)) (lw : bw < w.heap.size) (ls : bs < w.heap.size) (C1 : (∀ w, Calls Try.prog 45 #[(.agg #[.int .u16 (w0), .int .u16 (w1)])] w fun e w' => e = .returned (.agg #[.int .u16 (c0), .int .u16 (c1)]) ∧ Below w.heap.size w w')) (C2 : (∀ w, Calls Try.prog 46 #[(.agg #[.int .u16 (c0), .int .u16 (c1)]), (.agg #[.int .u16 (s6), .int .u16 (s7)])] w fun e w' => e = .returned (.int .i64 k1) ∧ Below w.heap.size w w')) (C3 : (∀ w, Calls Try.prog 46 #[(.agg #[.int .u16 (c0), .int .u16 (c1)]), (.agg #[.int .u16 (s8), .int .u16 (s9)])] w fun e w' => e = .returned (.int .i64 k2) ∧ Below w.heap.size w w')) (e : (c0 == s6 && c1 == s7) = false) (d1 : decide (k1 < 0) = false) (d2 : decide (0 < k2) = true) :
    Calls Try.prog 47 #[.int .i64 3, .int .i64 4, .pointer (some ⟨bw, 0, none⟩), .pointer (some ⟨bs, 0, none⟩)] w fun e w' => e = .returned (.agg #[.int .u16 (s8), .int .u16 (s9)]) ∧ Below w.heap.size w w' := by
  have heq := @eq_dbl
  have a0 : ∀ o : Obj, (w.alloc o).cell? ⟨bw, 0, none⟩ = some (.int .u16 w0) := fun o => (World.cell?_alloc_lt _ _ _ lw).trans hw0
  have a1 : ∀ o : Obj, (w.alloc o).cell? ⟨bw, 1, none⟩ = some (.int .u16 w1) := fun o => (World.cell?_alloc_lt _ _ _ lw).trans hw1
  have lw' : bw < w.heap.size + 1 := by omega
  have nw : w.heap.size ≠ bw := by omega
  have nw' : bw ≠ w.heap.size := by omega
  go_enter Try.func47, Try.ntmps47
  go_wp2_with fail
  refine (C1 _).mono ?_
  rintro _ r1 ⟨rfl, hbr1⟩
  obtain ⟨hcr1, hfr1⟩ := bcell hbr1
  have hzr1 := hbr1.size
  try simp only [World.size_alloc, World.size_setCell, World.size_drew] at hzr1
  have hlr1w0 : w.heap.size < r1.heap.size := by omega
  have hlr1bw : bw < r1.heap.size := by omega
  have hlr1bs : bs < r1.heap.size := by omega
  have x6 : r1.cell? ⟨bs, 6, none⟩ = some (.int .u16 s6) := (hcr1 _ _ (by (try simp only [World.size_alloc, World.size_setCell]); omega)).trans ((World.cell?_alloc_lt _ _ _ ls).trans hs6)
  have y6 : ∀ o : Obj, (r1.alloc o).cell? ⟨bs, 6, none⟩ = some (.int .u16 s6) := fun o => (World.cell?_alloc_lt _ _ _ hlr1bs).trans x6
  have x7 : r1.cell? ⟨bs, 7, none⟩ = some (.int .u16 s7) := (hcr1 _ _ (by (try simp only [World.size_alloc, World.size_setCell]); omega)).trans ((World.cell?_alloc_lt _ _ _ ls).trans hs7)
  have y7 : ∀ o : Obj, (r1.alloc o).cell? ⟨bs, 7, none⟩ = some (.int .u16 s7) := fun o => (World.cell?_alloc_lt _ _ _ hlr1bs).trans x7
  have x8 : r1.cell? ⟨bs, 8, none⟩ = some (.int .u16 s8) := (hcr1 _ _ (by (try simp only [World.size_alloc, World.size_setCell]); omega)).trans ((World.cell?_alloc_lt _ _ _ ls).trans hs8)
  have y8 : ∀ o : Obj, (r1.alloc o).cell? ⟨bs, 8, none⟩ = some (.int .u16 s8) := fun o => (World.cell?_alloc_lt _ _ _ hlr1bs).trans x8
  have x9 : r1.cell? ⟨bs, 9, none⟩ = some (.int .u16 s9) := (hcr1 _ _ (by (try simp only [World.size_alloc, World.size_setCell]); omega)).trans ((World.cell?_alloc_lt _ _ _ ls).trans hs9)
  have y9 : ∀ o : Obj, (r1.alloc o).cell? ⟨bs, 9, none⟩ = some (.int .u16 s9) := fun o => (World.cell?_alloc_lt _ _ _ hlr1bs).trans x9
  have l1 : bs < r1.heap.size + 1 := by omega
  go_wp2_with fail
  have hecr2 := @Ext.cell
  refine wp_region_ext (by kernel_rfl) (by kernel_rfl) ?_
  repeat (first | go_big_quiet_skip | (go_big_quiet_want; go_big_quiet_op; first | go_big_quiet_on | (go_big_quiet_call ((first | fail | (go_at_call 46; with_reducible exact ext_call (C2 _)))))))
  clear hecr2
  refine wpQuiet_nil ?_
  rintro r2 ⟨⟨_, hbr2⟩, rfl⟩
  obtain ⟨hcr2, hfr2⟩ := bcell hbr2
  have hzr2 := hbr2.size
  try simp only [World.size_alloc, World.size_setCell, World.size_drew] at hzr2
  have hlr2w0 : w.heap.size < r2.heap.size := by omega
  have hlr2r10 : r1.heap.size < r2.heap.size := by omega
  have hlr2bw : bw < r2.heap.size := by omega
  have hlr2bs : bs < r2.heap.size := by omega
  have z6 : r2.cell? ⟨bs, 6, none⟩ = some (.int .u16 s6) := (hcr2 _ _ (by (try simp only [World.size_alloc, World.size_setCell]); omega)).trans (y6 _)
  have z7 : r2.cell? ⟨bs, 7, none⟩ = some (.int .u16 s7) := (hcr2 _ _ (by (try simp only [World.size_alloc, World.size_setCell]); omega)).trans (y7 _)
  have z8 : r2.cell? ⟨bs, 8, none⟩ = some (.int .u16 s8) := (hcr2 _ _ (by (try simp only [World.size_alloc, World.size_setCell]); omega)).trans (y8 _)
  have z9 : r2.cell? ⟨bs, 9, none⟩ = some (.int .u16 s9) := (hcr2 _ _ (by (try simp only [World.size_alloc, World.size_setCell]); omega)).trans (y9 _)
  have v0 : r1.cell? ⟨w.heap.size, 0, none⟩ = some (.int .u16 0) := (hcr1 _ _ (by (try simp only [World.size_alloc, World.size_setCell]); omega)).trans (by go_simp)
  have t0 : r2.cell? ⟨w.heap.size, 0, none⟩ = some (.int .u16 0) := (hcr2 _ _ (by (try simp only [World.size_alloc, World.size_setCell]); omega)).trans ((World.cell?_alloc_lt _ _ _ hlr1w0).trans v0)
  have v1 : r1.cell? ⟨w.heap.size, 1, none⟩ = some (.int .u16 0) := (hcr1 _ _ (by (try simp only [World.size_alloc, World.size_setCell]); omega)).trans (by go_simp)
  have t1 : r2.cell? ⟨w.heap.size, 1, none⟩ = some (.int .u16 0) := (hcr2 _ _ (by (try simp only [World.size_alloc, World.size_setCell]); omega)).trans ((World.cell?_alloc_lt _ _ _ hlr1w0).trans v1)
  go_wp2_with fail
  have hecr3 := @Ext.cell
  refine wp_region_ext (by kernel_rfl) (by kernel_rfl) ?_
  repeat (first | go_big_quiet_skip | (go_big_quiet_want; go_big_quiet_op; first | go_big_quiet_on | (go_big_quiet_call ((first | fail | (go_at_call 46; with_reducible exact ext_call (C3 _)))))))
  clear hecr3
  refine wpQuiet_nil ?_
  rintro r3 ⟨⟨_, hbr3⟩, rfl⟩
  obtain ⟨hcr3, hfr3⟩ := bcell hbr3
  have hzr3 := hbr3.size
  try simp only [World.size_alloc, World.size_setCell, World.size_drew] at hzr3
  have hlr3w0 : w.heap.size < r3.heap.size := by omega
  have hlr3r10 : r1.heap.size < r3.heap.size := by omega
  have hlr3bw : bw < r3.heap.size := by omega
  have hlr3bs : bs < r3.heap.size := by omega
  have u6 : r3.cell? ⟨bs, 6, none⟩ = some (.int .u16 s6) := (hcr3 _ _ (by (try simp only [World.size_alloc, World.size_setCell]); omega)).trans z6
  have u7 : r3.cell? ⟨bs, 7, none⟩ = some (.int .u16 s7) := (hcr3 _ _ (by (try simp only [World.size_alloc, World.size_setCell]); omega)).trans z7
  have u8 : r3.cell? ⟨bs, 8, none⟩ = some (.int .u16 s8) := (hcr3 _ _ (by (try simp only [World.size_alloc, World.size_setCell]); omega)).trans z8
  have u9 : r3.cell? ⟨bs, 9, none⟩ = some (.int .u16 s9) := (hcr3 _ _ (by (try simp only [World.size_alloc, World.size_setCell]); omega)).trans z9
  have p0 : r3.cell? ⟨w.heap.size, 0, none⟩ = some (.int .u16 0) := (hcr3 _ _ (by (try simp only [World.size_alloc, World.size_setCell]); omega)).trans t0
  have p1 : r3.cell? ⟨w.heap.size, 1, none⟩ = some (.int .u16 0) := (hcr3 _ _ (by (try simp only [World.size_alloc, World.size_setCell]); omega)).trans t1
  go_wp2
  refine bodyPost_ret (v := (.agg #[.int .u16 (s8), .int .u16 (s9)])) (by simp [results, Try.results47, go_sem, *]) rfl ⟨rfl, ?_⟩; exact (by repeat' (first | (with_reducible exact Below.refl _ _) | (with_reducible refine bl_set ?_ _ ?_) | (with_reducible refine bl_alloc ?_ _) | (with_reducible refine bl_drew ?_) | (with_reducible refine bl_via (by with_reducible assumption) ?_) | (with_reducible assumption) | omega | (simp only []; omega) | (simp; omega)))
set_option maxHeartbeats 4000000 in
theorem thc_3_m (w0 w1 c0 c1 k1 k2 s6 s7 s8 s9 : Int) (bw bs : Nat) (w : World) (hw0 : w.cell? ⟨bw, 0, none⟩ = some (.int .u16 w0)) (hw1 : w.cell? ⟨bw, 1, none⟩ = some (.int .u16 w1)) (hs6 : w.cell? ⟨bs, 6, none⟩ = some (.int .u16 s6)) (hs7 : w.cell? ⟨bs, 7, none⟩ = some (.int .u16 s7)) (hs8 : w.cell? ⟨bs, 8, none⟩ = some (.int .u16 s8)) (hs9 : w.cell? ⟨bs, 9, none⟩ = some (.int .u16 s9)) (lw : bw < w.heap.size) (ls : bs < w.heap.size) (C1 : (∀ w, Calls Try.prog 45 #[(.agg #[.int .u16 (w0), .int .u16 (w1)])] w fun e w' => e = .returned (.agg #[.int .u16 (c0), .int .u16 (c1)]) ∧ Below w.heap.size w w')) (C2 : (∀ w, Calls Try.prog 46 #[(.agg #[.int .u16 (c0), .int .u16 (c1)]), (.agg #[.int .u16 (s6), .int .u16 (s7)])] w fun e w' => e = .returned (.int .i64 k1) ∧ Below w.heap.size w w')) (C3 : (∀ w, Calls Try.prog 46 #[(.agg #[.int .u16 (c0), .int .u16 (c1)]), (.agg #[.int .u16 (s8), .int .u16 (s9)])] w fun e w' => e = .returned (.int .i64 k2) ∧ Below w.heap.size w w')) (e : (c0 == s6 && c1 == s7) = false) (d1 : decide (k1 < 0) = false) (d2 : decide (0 < k2) = false) :
    Calls Try.prog 47 #[.int .i64 3, .int .i64 4, .pointer (some ⟨bw, 0, none⟩), .pointer (some ⟨bs, 0, none⟩)] w fun e w' => e = .returned (.agg #[.int .u16 (c0), .int .u16 (c1)]) ∧ Below w.heap.size w w' := by
  have heq := @eq_dbl
  have a0 : ∀ o : Obj, (w.alloc o).cell? ⟨bw, 0, none⟩ = some (.int .u16 w0) := fun o => (World.cell?_alloc_lt _ _ _ lw).trans hw0
  have a1 : ∀ o : Obj, (w.alloc o).cell? ⟨bw, 1, none⟩ = some (.int .u16 w1) := fun o => (World.cell?_alloc_lt _ _ _ lw).trans hw1
  have lw' : bw < w.heap.size + 1 := by omega
  have nw : w.heap.size ≠ bw := by omega
  have nw' : bw ≠ w.heap.size := by omega
  go_enter Try.func47, Try.ntmps47
  go_wp2_with fail
  refine (C1 _).mono ?_
  rintro _ r1 ⟨rfl, hbr1⟩
  obtain ⟨hcr1, hfr1⟩ := bcell hbr1
  have hzr1 := hbr1.size
  try simp only [World.size_alloc, World.size_setCell, World.size_drew] at hzr1
  have hlr1w0 : w.heap.size < r1.heap.size := by omega
  have hlr1bw : bw < r1.heap.size := by omega
  have hlr1bs : bs < r1.heap.size := by omega
  have x6 : r1.cell? ⟨bs, 6, none⟩ = some (.int .u16 s6) := (hcr1 _ _ (by (try simp only [World.size_alloc, World.size_setCell]); omega)).trans ((World.cell?_alloc_lt _ _ _ ls).trans hs6)
  have y6 : ∀ o : Obj, (r1.alloc o).cell? ⟨bs, 6, none⟩ = some (.int .u16 s6) := fun o => (World.cell?_alloc_lt _ _ _ hlr1bs).trans x6
  have x7 : r1.cell? ⟨bs, 7, none⟩ = some (.int .u16 s7) := (hcr1 _ _ (by (try simp only [World.size_alloc, World.size_setCell]); omega)).trans ((World.cell?_alloc_lt _ _ _ ls).trans hs7)
  have y7 : ∀ o : Obj, (r1.alloc o).cell? ⟨bs, 7, none⟩ = some (.int .u16 s7) := fun o => (World.cell?_alloc_lt _ _ _ hlr1bs).trans x7
  have x8 : r1.cell? ⟨bs, 8, none⟩ = some (.int .u16 s8) := (hcr1 _ _ (by (try simp only [World.size_alloc, World.size_setCell]); omega)).trans ((World.cell?_alloc_lt _ _ _ ls).trans hs8)
  have y8 : ∀ o : Obj, (r1.alloc o).cell? ⟨bs, 8, none⟩ = some (.int .u16 s8) := fun o => (World.cell?_alloc_lt _ _ _ hlr1bs).trans x8
  have x9 : r1.cell? ⟨bs, 9, none⟩ = some (.int .u16 s9) := (hcr1 _ _ (by (try simp only [World.size_alloc, World.size_setCell]); omega)).trans ((World.cell?_alloc_lt _ _ _ ls).trans hs9)
  have y9 : ∀ o : Obj, (r1.alloc o).cell? ⟨bs, 9, none⟩ = some (.int .u16 s9) := fun o => (World.cell?_alloc_lt _ _ _ hlr1bs).trans x9
  have l1 : bs < r1.heap.size + 1 := by omega
  go_wp2_with fail
  have hecr2 := @Ext.cell
  refine wp_region_ext (by kernel_rfl) (by kernel_rfl) ?_
  repeat (first | go_big_quiet_skip | (go_big_quiet_want; go_big_quiet_op; first | go_big_quiet_on | (go_big_quiet_call ((first | fail | (go_at_call 46; with_reducible exact ext_call (C2 _)))))))
  clear hecr2
  refine wpQuiet_nil ?_
  rintro r2 ⟨⟨_, hbr2⟩, rfl⟩
  obtain ⟨hcr2, hfr2⟩ := bcell hbr2
  have hzr2 := hbr2.size
  try simp only [World.size_alloc, World.size_setCell, World.size_drew] at hzr2
  have hlr2w0 : w.heap.size < r2.heap.size := by omega
  have hlr2r10 : r1.heap.size < r2.heap.size := by omega
  have hlr2bw : bw < r2.heap.size := by omega
  have hlr2bs : bs < r2.heap.size := by omega
  have z6 : r2.cell? ⟨bs, 6, none⟩ = some (.int .u16 s6) := (hcr2 _ _ (by (try simp only [World.size_alloc, World.size_setCell]); omega)).trans (y6 _)
  have z7 : r2.cell? ⟨bs, 7, none⟩ = some (.int .u16 s7) := (hcr2 _ _ (by (try simp only [World.size_alloc, World.size_setCell]); omega)).trans (y7 _)
  have z8 : r2.cell? ⟨bs, 8, none⟩ = some (.int .u16 s8) := (hcr2 _ _ (by (try simp only [World.size_alloc, World.size_setCell]); omega)).trans (y8 _)
  have z9 : r2.cell? ⟨bs, 9, none⟩ = some (.int .u16 s9) := (hcr2 _ _ (by (try simp only [World.size_alloc, World.size_setCell]); omega)).trans (y9 _)
  have v0 : r1.cell? ⟨w.heap.size, 0, none⟩ = some (.int .u16 0) := (hcr1 _ _ (by (try simp only [World.size_alloc, World.size_setCell]); omega)).trans (by go_simp)
  have t0 : r2.cell? ⟨w.heap.size, 0, none⟩ = some (.int .u16 0) := (hcr2 _ _ (by (try simp only [World.size_alloc, World.size_setCell]); omega)).trans ((World.cell?_alloc_lt _ _ _ hlr1w0).trans v0)
  have v1 : r1.cell? ⟨w.heap.size, 1, none⟩ = some (.int .u16 0) := (hcr1 _ _ (by (try simp only [World.size_alloc, World.size_setCell]); omega)).trans (by go_simp)
  have t1 : r2.cell? ⟨w.heap.size, 1, none⟩ = some (.int .u16 0) := (hcr2 _ _ (by (try simp only [World.size_alloc, World.size_setCell]); omega)).trans ((World.cell?_alloc_lt _ _ _ hlr1w0).trans v1)
  go_wp2_with fail
  have hecr3 := @Ext.cell
  refine wp_region_ext (by kernel_rfl) (by kernel_rfl) ?_
  repeat (first | go_big_quiet_skip | (go_big_quiet_want; go_big_quiet_op; first | go_big_quiet_on | (go_big_quiet_call ((first | fail | (go_at_call 46; with_reducible exact ext_call (C3 _)))))))
  clear hecr3
  refine wpQuiet_nil ?_
  rintro r3 ⟨⟨_, hbr3⟩, rfl⟩
  obtain ⟨hcr3, hfr3⟩ := bcell hbr3
  have hzr3 := hbr3.size
  try simp only [World.size_alloc, World.size_setCell, World.size_drew] at hzr3
  have hlr3w0 : w.heap.size < r3.heap.size := by omega
  have hlr3r10 : r1.heap.size < r3.heap.size := by omega
  have hlr3bw : bw < r3.heap.size := by omega
  have hlr3bs : bs < r3.heap.size := by omega
  have u6 : r3.cell? ⟨bs, 6, none⟩ = some (.int .u16 s6) := (hcr3 _ _ (by (try simp only [World.size_alloc, World.size_setCell]); omega)).trans z6
  have u7 : r3.cell? ⟨bs, 7, none⟩ = some (.int .u16 s7) := (hcr3 _ _ (by (try simp only [World.size_alloc, World.size_setCell]); omega)).trans z7
  have u8 : r3.cell? ⟨bs, 8, none⟩ = some (.int .u16 s8) := (hcr3 _ _ (by (try simp only [World.size_alloc, World.size_setCell]); omega)).trans z8
  have u9 : r3.cell? ⟨bs, 9, none⟩ = some (.int .u16 s9) := (hcr3 _ _ (by (try simp only [World.size_alloc, World.size_setCell]); omega)).trans z9
  have p0 : r3.cell? ⟨w.heap.size, 0, none⟩ = some (.int .u16 0) := (hcr3 _ _ (by (try simp only [World.size_alloc, World.size_setCell]); omega)).trans t0
  have p1 : r3.cell? ⟨w.heap.size, 1, none⟩ = some (.int .u16 0) := (hcr3 _ _ (by (try simp only [World.size_alloc, World.size_setCell]); omega)).trans t1
  go_wp2
  refine bodyPost_ret (v := (.agg #[.int .u16 (c0), .int .u16 (c1)])) (by simp [results, Try.results47, go_sem, *]) rfl ⟨rfl, ?_⟩; exact (by repeat' (first | (with_reducible exact Below.refl _ _) | (with_reducible refine bl_set ?_ _ ?_) | (with_reducible refine bl_alloc ?_ _) | (with_reducible refine bl_drew ?_) | (with_reducible refine bl_via (by with_reducible assumption) ?_) | (with_reducible assumption) | omega | (simp only []; omega) | (simp; omega)))

/-- The value nearest to v from a to b. -/
def nearv (v a b : Int) : Int := if v ≤ a then a else if b < v then b else v
theorem thc_1 (v0 v1 A B : Int) (hv00 : 0 ≤ v0) (hv01 : v0 < 65536) (hv10 : 0 ≤ v1) (hv11 : v1 < 65536) (A0 : -268435455 ≤ A) (A1 : A ≤ 268435455) (B0 : -268435455 ≤ B) (B1 : B ≤ 268435455) (bw bs : Nat) (w : World) (hw0 : w.cell? ⟨bw, 0, none⟩ = some (.int .u16 v0)) (hw1 : w.cell? ⟨bw, 1, none⟩ = some (.int .u16 v1))
    (p0 : w.cell? ⟨bs, 2, none⟩ = some (.int .u16 (hi A))) (p1 : w.cell? ⟨bs, 3, none⟩ = some (.int .u16 (lo A))) (q0 : w.cell? ⟨bs, 4, none⟩ = some (.int .u16 (hi B))) (q1 : w.cell? ⟨bs, 5, none⟩ = some (.int .u16 (lo B))) (lw : bw < w.heap.size) (ls : bs < w.heap.size) :
    Calls Try.prog 47 #[.int .i64 1, .int .i64 2, .pointer (some ⟨bw, 0, none⟩), .pointer (some ⟨bs, 0, none⟩)] w fun e w' => e = .returned (.agg #[.int .u16 (hi (nearv (val v0 v1) A B)), .int .u16 (lo (nearv (val v0 v1) A B))]) ∧ Below w.heap.size w w' := by
  have l0 := val_lo v0 v1
  have l1 := val_hi v0 v1
  have C1 := fun w => canon_any v0 v1 hv00 hv01 hv10 hv11 w
  have c2 := fun w => cmp_any (hi (val v0 v1)) (lo (val v0 v1)) (hi A) (lo A) (by have := hi_lo _ l0 l1; omega) (by have := hi_lo _ l0 l1; omega) (by have := hi_lo _ l0 l1; omega) (by have := hi_lo _ l0 l1; omega) (by have := hi_lo _ A0 A1; omega) (by have := hi_lo _ A0 A1; omega) (by have := hi_lo _ A0 A1; omega) (by have := hi_lo _ A0 A1; omega) w
  have c3 := fun w => cmp_any (hi (val v0 v1)) (lo (val v0 v1)) (hi B) (lo B) (by have := hi_lo _ l0 l1; omega) (by have := hi_lo _ l0 l1; omega) (by have := hi_lo _ l0 l1; omega) (by have := hi_lo _ l0 l1; omega) (by have := hi_lo _ B0 B1; omega) (by have := hi_lo _ B0 B1; omega) (by have := hi_lo _ B0 B1; omega) (by have := hi_lo _ B0 B1; omega) w
  rw [val_of _ l0 l1, val_of _ A0 A1] at c2
  rw [val_of _ l0 l1, val_of _ B0 B1] at c3
  by_cases e : val v0 v1 = A
  · rw [show nearv (val v0 v1) A B = A by unfold nearv; rw [if_pos (by omega)]]
    exact thc_1_e _ _ _ _ _ _ _ _ _ _ bw bs w hw0 hw1 p0 p1 q0 q1 lw ls C1 c2 c3 (by rw [e]; simp)
  · have ne := dbl_neb (val v0 v1) A l0 l1 A0 A1 e
    by_cases g : val v0 v1 < A
    · rw [show nearv (val v0 v1) A B = A by unfold nearv; rw [if_pos (by omega)]]
      exact thc_1_l _ _ _ _ _ _ _ _ _ _ bw bs w hw0 hw1 p0 p1 q0 q1 lw ls C1 c2 c3 ne (decide_eq_true (by unfold cmpv; (repeat' split) <;> omega))
    · have d1 : decide (cmpv (val v0 v1) A < 0) = false := decide_eq_false (by unfold cmpv; (repeat' split) <;> omega)
      by_cases h : B < val v0 v1
      · rw [show nearv (val v0 v1) A B = B by unfold nearv; rw [if_neg (by omega), if_pos h]]
        exact thc_1_h _ _ _ _ _ _ _ _ _ _ bw bs w hw0 hw1 p0 p1 q0 q1 lw ls C1 c2 c3 ne d1 (decide_eq_true (by unfold cmpv; (repeat' split) <;> omega))
      · rw [show nearv (val v0 v1) A B = val v0 v1 by unfold nearv; rw [if_neg (by omega), if_neg h]]
        exact thc_1_m _ _ _ _ _ _ _ _ _ _ bw bs w hw0 hw1 p0 p1 q0 q1 lw ls C1 c2 c3 ne d1 (decide_eq_false (by unfold cmpv; (repeat' split) <;> omega))
theorem thc_3 (v0 v1 A B : Int) (hv00 : 0 ≤ v0) (hv01 : v0 < 65536) (hv10 : 0 ≤ v1) (hv11 : v1 < 65536) (A0 : -268435455 ≤ A) (A1 : A ≤ 268435455) (B0 : -268435455 ≤ B) (B1 : B ≤ 268435455) (bw bs : Nat) (w : World) (hw0 : w.cell? ⟨bw, 0, none⟩ = some (.int .u16 v0)) (hw1 : w.cell? ⟨bw, 1, none⟩ = some (.int .u16 v1))
    (p0 : w.cell? ⟨bs, 6, none⟩ = some (.int .u16 (hi A))) (p1 : w.cell? ⟨bs, 7, none⟩ = some (.int .u16 (lo A))) (q0 : w.cell? ⟨bs, 8, none⟩ = some (.int .u16 (hi B))) (q1 : w.cell? ⟨bs, 9, none⟩ = some (.int .u16 (lo B))) (lw : bw < w.heap.size) (ls : bs < w.heap.size) :
    Calls Try.prog 47 #[.int .i64 3, .int .i64 4, .pointer (some ⟨bw, 0, none⟩), .pointer (some ⟨bs, 0, none⟩)] w fun e w' => e = .returned (.agg #[.int .u16 (hi (nearv (val v0 v1) A B)), .int .u16 (lo (nearv (val v0 v1) A B))]) ∧ Below w.heap.size w w' := by
  have l0 := val_lo v0 v1
  have l1 := val_hi v0 v1
  have C1 := fun w => canon_any v0 v1 hv00 hv01 hv10 hv11 w
  have c2 := fun w => cmp_any (hi (val v0 v1)) (lo (val v0 v1)) (hi A) (lo A) (by have := hi_lo _ l0 l1; omega) (by have := hi_lo _ l0 l1; omega) (by have := hi_lo _ l0 l1; omega) (by have := hi_lo _ l0 l1; omega) (by have := hi_lo _ A0 A1; omega) (by have := hi_lo _ A0 A1; omega) (by have := hi_lo _ A0 A1; omega) (by have := hi_lo _ A0 A1; omega) w
  have c3 := fun w => cmp_any (hi (val v0 v1)) (lo (val v0 v1)) (hi B) (lo B) (by have := hi_lo _ l0 l1; omega) (by have := hi_lo _ l0 l1; omega) (by have := hi_lo _ l0 l1; omega) (by have := hi_lo _ l0 l1; omega) (by have := hi_lo _ B0 B1; omega) (by have := hi_lo _ B0 B1; omega) (by have := hi_lo _ B0 B1; omega) (by have := hi_lo _ B0 B1; omega) w
  rw [val_of _ l0 l1, val_of _ A0 A1] at c2
  rw [val_of _ l0 l1, val_of _ B0 B1] at c3
  by_cases e : val v0 v1 = A
  · rw [show nearv (val v0 v1) A B = A by unfold nearv; rw [if_pos (by omega)]]
    exact thc_3_e _ _ _ _ _ _ _ _ _ _ bw bs w hw0 hw1 p0 p1 q0 q1 lw ls C1 c2 c3 (by rw [e]; simp)
  · have ne := dbl_neb (val v0 v1) A l0 l1 A0 A1 e
    by_cases g : val v0 v1 < A
    · rw [show nearv (val v0 v1) A B = A by unfold nearv; rw [if_pos (by omega)]]
      exact thc_3_l _ _ _ _ _ _ _ _ _ _ bw bs w hw0 hw1 p0 p1 q0 q1 lw ls C1 c2 c3 ne (decide_eq_true (by unfold cmpv; (repeat' split) <;> omega))
    · have d1 : decide (cmpv (val v0 v1) A < 0) = false := decide_eq_false (by unfold cmpv; (repeat' split) <;> omega)
      by_cases h : B < val v0 v1
      · rw [show nearv (val v0 v1) A B = B by unfold nearv; rw [if_neg (by omega), if_pos h]]
        exact thc_3_h _ _ _ _ _ _ _ _ _ _ bw bs w hw0 hw1 p0 p1 q0 q1 lw ls C1 c2 c3 ne d1 (decide_eq_true (by unfold cmpv; (repeat' split) <;> omega))
      · rw [show nearv (val v0 v1) A B = val v0 v1 by unfold nearv; rw [if_neg (by omega), if_neg h]]
        exact thc_3_m _ _ _ _ _ _ _ _ _ _ bw bs w hw0 hw1 p0 p1 q0 q1 lw ls C1 c2 c3 ne d1 (decide_eq_false (by unfold cmpv; (repeat' split) <;> omega))
end Go.Proofs.Ytpmocegfiniafaa
