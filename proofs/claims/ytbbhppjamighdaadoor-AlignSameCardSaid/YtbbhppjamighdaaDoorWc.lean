/- Contracts of the reference of layer 17 (Sum, Shift, Scale) and of layer 16 (Mul). -/
import Derived.Test.YtbbhppjamighdaaDoorWa
import Derived.Test.YtbbhppjamighdaaDoorFa
import Derived.Test.YtbbhppjamighdaaDoorRb
namespace Go.Proofs.YtbbhppjamighdaaDoor
set_option linter.unusedSimpArgs false
set_option linter.unusedVariables false
open Go.RowKit

set_option maxHeartbeats 4000000 in
theorem rshift17_any (a b c d e f n : Int) (ha0 : 0 ≤ a) (ha1 : a < 65536) (hb0 : 0 ≤ b) (hb1 : b < 65536) (hc0 : 0 ≤ c) (hc1 : c < 65536) (hd0 : 0 ≤ d) (hd1 : d < 65536) (he0 : 0 ≤ e) (he1 : e < 65536) (hf0 : 0 ≤ f) (hf1 : f < 65536) (h2 : n ≤ 9223372036854775807) (w : World) :
    Calls Tryd.prog 57 #[(.agg #[.int .u16 (a), .int .u16 (b), .int .u16 (c), .int .u16 (d), .int .u16 (e), .int .u16 (f)]), .int .i64 n] w fun r w' => r = .returned (.tuple #[(.agg #[.int .u16 (hi (shv (val a b) n)), .int .u16 (lo (shv (val a b) n)), .int .u16 (hi (shv (val c d) n)), .int .u16 (lo (shv (val c d) n)), .int .u16 (hi (shv (val e f) n)), .int .u16 (lo (shv (val e f) n))]), .bool ((sho (val a b) n) || (sho (val c d) n) || (sho (val e f) n))]) ∧ Below w.heap.size w w' := by
  cases q0 : sho (val a b) n <;> cases q1 : sho (val c d) n
  all_goals
    go_enter Tryd.func57, Tryd.ntmps57
    go_wp2_with fail
    refine (rshift_any a b n ha0 ha1 hb0 hb1 h2 _).mono ?_
    rintro _ r1 ⟨rfl, hbr1⟩
    obtain ⟨hcr1, hfr1⟩ := bcell hbr1
    have hzr1 := hbr1.size
    try simp only [World.size_alloc, World.size_setCell, World.size_drew] at hzr1
    have hlr1w0 : w.heap.size < r1.heap.size := by omega
    have hlr1w1 : w.heap.size + 1 < r1.heap.size := by omega
    have gzr1_0 : r1.cell? ⟨w.heap.size + 1, 0, none⟩ = some (.int .u16 0) := (hcr1 _ _ (by (try simp only [World.size_alloc, World.size_setCell]); omega)).trans (by with_reducible first | assumption | exact (World.cell?_alloc_lt _ _ _ (by omega)).trans (by assumption) | exact World.cell?_setCell_same _ _ _ (by assumption) | exact (World.cell?_setCell_other _ _ _ _ (by simp)).trans (by assumption) | exact (rcell_far _ _ _ _ (by dsimp only; omega)).trans ((rcell_far _ _ _ _ (by dsimp only; omega)).trans (by assumption)) | simp (disch := omega) [go_sem, *, List.getElem?_cons_zero, List.getElem?_cons_succ])
    have gzr1_1 : r1.cell? ⟨w.heap.size + 1, 1, none⟩ = some (.int .u16 0) := (hcr1 _ _ (by (try simp only [World.size_alloc, World.size_setCell]); omega)).trans (by with_reducible first | assumption | exact (World.cell?_alloc_lt _ _ _ (by omega)).trans (by assumption) | exact World.cell?_setCell_same _ _ _ (by assumption) | exact (World.cell?_setCell_other _ _ _ _ (by simp)).trans (by assumption) | exact (rcell_far _ _ _ _ (by dsimp only; omega)).trans ((rcell_far _ _ _ _ (by dsimp only; omega)).trans (by assumption)) | simp (disch := omega) [go_sem, *, List.getElem?_cons_zero, List.getElem?_cons_succ])
    have gzr1_2 : r1.cell? ⟨w.heap.size + 1, 2, none⟩ = some (.int .u16 0) := (hcr1 _ _ (by (try simp only [World.size_alloc, World.size_setCell]); omega)).trans (by with_reducible first | assumption | exact (World.cell?_alloc_lt _ _ _ (by omega)).trans (by assumption) | exact World.cell?_setCell_same _ _ _ (by assumption) | exact (World.cell?_setCell_other _ _ _ _ (by simp)).trans (by assumption) | exact (rcell_far _ _ _ _ (by dsimp only; omega)).trans ((rcell_far _ _ _ _ (by dsimp only; omega)).trans (by assumption)) | simp (disch := omega) [go_sem, *, List.getElem?_cons_zero, List.getElem?_cons_succ])
    have gzr1_3 : r1.cell? ⟨w.heap.size + 1, 3, none⟩ = some (.int .u16 0) := (hcr1 _ _ (by (try simp only [World.size_alloc, World.size_setCell]); omega)).trans (by with_reducible first | assumption | exact (World.cell?_alloc_lt _ _ _ (by omega)).trans (by assumption) | exact World.cell?_setCell_same _ _ _ (by assumption) | exact (World.cell?_setCell_other _ _ _ _ (by simp)).trans (by assumption) | exact (rcell_far _ _ _ _ (by dsimp only; omega)).trans ((rcell_far _ _ _ _ (by dsimp only; omega)).trans (by assumption)) | simp (disch := omega) [go_sem, *, List.getElem?_cons_zero, List.getElem?_cons_succ])
    have gzr1_4 : r1.cell? ⟨w.heap.size + 1, 4, none⟩ = some (.int .u16 0) := (hcr1 _ _ (by (try simp only [World.size_alloc, World.size_setCell]); omega)).trans (by with_reducible first | assumption | exact (World.cell?_alloc_lt _ _ _ (by omega)).trans (by assumption) | exact World.cell?_setCell_same _ _ _ (by assumption) | exact (World.cell?_setCell_other _ _ _ _ (by simp)).trans (by assumption) | exact (rcell_far _ _ _ _ (by dsimp only; omega)).trans ((rcell_far _ _ _ _ (by dsimp only; omega)).trans (by assumption)) | simp (disch := omega) [go_sem, *, List.getElem?_cons_zero, List.getElem?_cons_succ])
    have gzr1_5 : r1.cell? ⟨w.heap.size + 1, 5, none⟩ = some (.int .u16 0) := (hcr1 _ _ (by (try simp only [World.size_alloc, World.size_setCell]); omega)).trans (by with_reducible first | assumption | exact (World.cell?_alloc_lt _ _ _ (by omega)).trans (by assumption) | exact World.cell?_setCell_same _ _ _ (by assumption) | exact (World.cell?_setCell_other _ _ _ _ (by simp)).trans (by assumption) | exact (rcell_far _ _ _ _ (by dsimp only; omega)).trans ((rcell_far _ _ _ _ (by dsimp only; omega)).trans (by assumption)) | simp (disch := omega) [go_sem, *, List.getElem?_cons_zero, List.getElem?_cons_succ])
    go_wp2_with fail
    refine (rshift_any c d n hc0 hc1 hd0 hd1 h2 _).mono ?_
    rintro _ r2 ⟨rfl, hbr2⟩
    obtain ⟨hcr2, hfr2⟩ := bcell hbr2
    have hzr2 := hbr2.size
    try simp only [World.size_alloc, World.size_setCell, World.size_drew] at hzr2
    have hlr2w0 : w.heap.size < r2.heap.size := by omega
    have hlr2w1 : w.heap.size + 1 < r2.heap.size := by omega
    have hlr2r10 : r1.heap.size < r2.heap.size := by omega
    have gzr2_0 : r2.cell? ⟨w.heap.size + 1, 0, none⟩ = some (.int .u16 0) := (hcr2 _ _ (by (try simp only [World.size_alloc, World.size_setCell]); omega)).trans (by with_reducible first | assumption | exact (World.cell?_alloc_lt _ _ _ (by omega)).trans (by assumption) | exact World.cell?_setCell_same _ _ _ (by assumption) | exact (World.cell?_setCell_other _ _ _ _ (by simp)).trans (by assumption) | exact (rcell_far _ _ _ _ (by dsimp only; omega)).trans ((rcell_far _ _ _ _ (by dsimp only; omega)).trans (by assumption)) | simp (disch := omega) [go_sem, *, List.getElem?_cons_zero, List.getElem?_cons_succ])
    have gzr2_1 : r2.cell? ⟨w.heap.size + 1, 1, none⟩ = some (.int .u16 0) := (hcr2 _ _ (by (try simp only [World.size_alloc, World.size_setCell]); omega)).trans (by with_reducible first | assumption | exact (World.cell?_alloc_lt _ _ _ (by omega)).trans (by assumption) | exact World.cell?_setCell_same _ _ _ (by assumption) | exact (World.cell?_setCell_other _ _ _ _ (by simp)).trans (by assumption) | exact (rcell_far _ _ _ _ (by dsimp only; omega)).trans ((rcell_far _ _ _ _ (by dsimp only; omega)).trans (by assumption)) | simp (disch := omega) [go_sem, *, List.getElem?_cons_zero, List.getElem?_cons_succ])
    have gzr2_2 : r2.cell? ⟨w.heap.size + 1, 2, none⟩ = some (.int .u16 0) := (hcr2 _ _ (by (try simp only [World.size_alloc, World.size_setCell]); omega)).trans (by with_reducible first | assumption | exact (World.cell?_alloc_lt _ _ _ (by omega)).trans (by assumption) | exact World.cell?_setCell_same _ _ _ (by assumption) | exact (World.cell?_setCell_other _ _ _ _ (by simp)).trans (by assumption) | exact (rcell_far _ _ _ _ (by dsimp only; omega)).trans ((rcell_far _ _ _ _ (by dsimp only; omega)).trans (by assumption)) | simp (disch := omega) [go_sem, *, List.getElem?_cons_zero, List.getElem?_cons_succ])
    have gzr2_3 : r2.cell? ⟨w.heap.size + 1, 3, none⟩ = some (.int .u16 0) := (hcr2 _ _ (by (try simp only [World.size_alloc, World.size_setCell]); omega)).trans (by with_reducible first | assumption | exact (World.cell?_alloc_lt _ _ _ (by omega)).trans (by assumption) | exact World.cell?_setCell_same _ _ _ (by assumption) | exact (World.cell?_setCell_other _ _ _ _ (by simp)).trans (by assumption) | exact (rcell_far _ _ _ _ (by dsimp only; omega)).trans ((rcell_far _ _ _ _ (by dsimp only; omega)).trans (by assumption)) | simp (disch := omega) [go_sem, *, List.getElem?_cons_zero, List.getElem?_cons_succ])
    have gzr2_4 : r2.cell? ⟨w.heap.size + 1, 4, none⟩ = some (.int .u16 0) := (hcr2 _ _ (by (try simp only [World.size_alloc, World.size_setCell]); omega)).trans (by with_reducible first | assumption | exact (World.cell?_alloc_lt _ _ _ (by omega)).trans (by assumption) | exact World.cell?_setCell_same _ _ _ (by assumption) | exact (World.cell?_setCell_other _ _ _ _ (by simp)).trans (by assumption) | exact (rcell_far _ _ _ _ (by dsimp only; omega)).trans ((rcell_far _ _ _ _ (by dsimp only; omega)).trans (by assumption)) | simp (disch := omega) [go_sem, *, List.getElem?_cons_zero, List.getElem?_cons_succ])
    have gzr2_5 : r2.cell? ⟨w.heap.size + 1, 5, none⟩ = some (.int .u16 0) := (hcr2 _ _ (by (try simp only [World.size_alloc, World.size_setCell]); omega)).trans (by with_reducible first | assumption | exact (World.cell?_alloc_lt _ _ _ (by omega)).trans (by assumption) | exact World.cell?_setCell_same _ _ _ (by assumption) | exact (World.cell?_setCell_other _ _ _ _ (by simp)).trans (by assumption) | exact (rcell_far _ _ _ _ (by dsimp only; omega)).trans ((rcell_far _ _ _ _ (by dsimp only; omega)).trans (by assumption)) | simp (disch := omega) [go_sem, *, List.getElem?_cons_zero, List.getElem?_cons_succ])
    go_wp2_with fail
    refine (rshift_any e f n he0 he1 hf0 hf1 h2 _).mono ?_
    rintro _ r3 ⟨rfl, hbr3⟩
    obtain ⟨hcr3, hfr3⟩ := bcell hbr3
    have hzr3 := hbr3.size
    try simp only [World.size_alloc, World.size_setCell, World.size_drew] at hzr3
    have hlr3w0 : w.heap.size < r3.heap.size := by omega
    have hlr3w1 : w.heap.size + 1 < r3.heap.size := by omega
    have hlr3r10 : r1.heap.size < r3.heap.size := by omega
    have hlr3r20 : r2.heap.size < r3.heap.size := by omega
    have gzr3_0 : r3.cell? ⟨w.heap.size + 1, 0, none⟩ = some (.int .u16 0) := (hcr3 _ _ (by (try simp only [World.size_alloc, World.size_setCell]); omega)).trans (by with_reducible first | assumption | exact (World.cell?_alloc_lt _ _ _ (by omega)).trans (by assumption) | exact World.cell?_setCell_same _ _ _ (by assumption) | exact (World.cell?_setCell_other _ _ _ _ (by simp)).trans (by assumption) | exact (rcell_far _ _ _ _ (by dsimp only; omega)).trans ((rcell_far _ _ _ _ (by dsimp only; omega)).trans (by assumption)) | simp (disch := omega) [go_sem, *, List.getElem?_cons_zero, List.getElem?_cons_succ])
    have gzr3_1 : r3.cell? ⟨w.heap.size + 1, 1, none⟩ = some (.int .u16 0) := (hcr3 _ _ (by (try simp only [World.size_alloc, World.size_setCell]); omega)).trans (by with_reducible first | assumption | exact (World.cell?_alloc_lt _ _ _ (by omega)).trans (by assumption) | exact World.cell?_setCell_same _ _ _ (by assumption) | exact (World.cell?_setCell_other _ _ _ _ (by simp)).trans (by assumption) | exact (rcell_far _ _ _ _ (by dsimp only; omega)).trans ((rcell_far _ _ _ _ (by dsimp only; omega)).trans (by assumption)) | simp (disch := omega) [go_sem, *, List.getElem?_cons_zero, List.getElem?_cons_succ])
    have gzr3_2 : r3.cell? ⟨w.heap.size + 1, 2, none⟩ = some (.int .u16 0) := (hcr3 _ _ (by (try simp only [World.size_alloc, World.size_setCell]); omega)).trans (by with_reducible first | assumption | exact (World.cell?_alloc_lt _ _ _ (by omega)).trans (by assumption) | exact World.cell?_setCell_same _ _ _ (by assumption) | exact (World.cell?_setCell_other _ _ _ _ (by simp)).trans (by assumption) | exact (rcell_far _ _ _ _ (by dsimp only; omega)).trans ((rcell_far _ _ _ _ (by dsimp only; omega)).trans (by assumption)) | simp (disch := omega) [go_sem, *, List.getElem?_cons_zero, List.getElem?_cons_succ])
    have gzr3_3 : r3.cell? ⟨w.heap.size + 1, 3, none⟩ = some (.int .u16 0) := (hcr3 _ _ (by (try simp only [World.size_alloc, World.size_setCell]); omega)).trans (by with_reducible first | assumption | exact (World.cell?_alloc_lt _ _ _ (by omega)).trans (by assumption) | exact World.cell?_setCell_same _ _ _ (by assumption) | exact (World.cell?_setCell_other _ _ _ _ (by simp)).trans (by assumption) | exact (rcell_far _ _ _ _ (by dsimp only; omega)).trans ((rcell_far _ _ _ _ (by dsimp only; omega)).trans (by assumption)) | simp (disch := omega) [go_sem, *, List.getElem?_cons_zero, List.getElem?_cons_succ])
    have gzr3_4 : r3.cell? ⟨w.heap.size + 1, 4, none⟩ = some (.int .u16 0) := (hcr3 _ _ (by (try simp only [World.size_alloc, World.size_setCell]); omega)).trans (by with_reducible first | assumption | exact (World.cell?_alloc_lt _ _ _ (by omega)).trans (by assumption) | exact World.cell?_setCell_same _ _ _ (by assumption) | exact (World.cell?_setCell_other _ _ _ _ (by simp)).trans (by assumption) | exact (rcell_far _ _ _ _ (by dsimp only; omega)).trans ((rcell_far _ _ _ _ (by dsimp only; omega)).trans (by assumption)) | simp (disch := omega) [go_sem, *, List.getElem?_cons_zero, List.getElem?_cons_succ])
    have gzr3_5 : r3.cell? ⟨w.heap.size + 1, 5, none⟩ = some (.int .u16 0) := (hcr3 _ _ (by (try simp only [World.size_alloc, World.size_setCell]); omega)).trans (by with_reducible first | assumption | exact (World.cell?_alloc_lt _ _ _ (by omega)).trans (by assumption) | exact World.cell?_setCell_same _ _ _ (by assumption) | exact (World.cell?_setCell_other _ _ _ _ (by simp)).trans (by assumption) | exact (rcell_far _ _ _ _ (by dsimp only; omega)).trans ((rcell_far _ _ _ _ (by dsimp only; omega)).trans (by assumption)) | simp (disch := omega) [go_sem, *, List.getElem?_cons_zero, List.getElem?_cons_succ])
    go_wp2
    refine bodyPost_ret (v := (.tuple #[(.agg #[.int .u16 (hi (shv (val a b) n)), .int .u16 (lo (shv (val a b) n)), .int .u16 (hi (shv (val c d) n)), .int .u16 (lo (shv (val c d) n)), .int .u16 (hi (shv (val e f) n)), .int .u16 (lo (shv (val e f) n))]), .bool ((sho (val a b) n) || (sho (val c d) n) || (sho (val e f) n))])) (by simp [results, Tryd.results57, go_sem, *]) rfl ⟨by rw [q0, q1], ?_⟩; exact (by repeat' (first | (with_reducible exact Below.refl _ _) | (with_reducible refine bl_set ?_ _ ?_) | (with_reducible refine bl_alloc ?_ _) | (with_reducible refine bl_drew ?_) | (with_reducible refine bl_via (by with_reducible assumption) ?_) | (with_reducible assumption) | omega | (simp only []; omega) | (simp; omega)))

set_option maxHeartbeats 1000000 in
theorem rmul_any (x y z u : Int) (hx0 : 0 ≤ x) (hx1 : x < 65536) (hy0 : 0 ≤ y) (hy1 : y < 65536) (hz0 : 0 ≤ z) (hz1 : z < 65536) (hu0 : 0 ≤ u) (hu1 : u < 65536) (w : World) :
    Calls Tryd.prog 35 #[(.agg #[.int .u16 (x), .int .u16 (y)]), (.agg #[.int .u16 (z), .int .u16 (u)])] w fun e w' => e = .returned (.agg #[.int .u16 (hi (mulv (val x y) (val z u))), .int .u16 (lo (mulv (val x y) (val z u)))]) ∧ Below w.heap.size w w' := by
  have k0 := val_lo x y
  have k1 := val_hi x y
  have k2 := val_lo z u
  have k3 := val_hi z u
  obtain ⟨p0, p1⟩ := mul_bd (val x y) (val z u) k0 k1 k2 k3
  obtain ⟨m0, m1⟩ := mulv_size (val x y) (val z u) k0 k1 k2 k3
  have em : rnd (val x y * val z u) 268435456 = mulv (val x y) (val z u) := rfl
  have EM := keep em
  clear em
  go_enter Tryd.func35, Tryd.ntmps35
  go_wp2_with fail
  have hecr1 := @Ext.cell
  refine wp_region_ext_tail 7 (by kernel_rfl) (by kernel_rfl) ?_
  simp only [List.take_succ_cons, List.take_zero, List.drop_succ_cons, List.drop_zero]
  repeat (first | go_big_quiet_skip | (go_big_quiet_want; go_big_quiet_op; first | go_big_quiet_on | (go_big_quiet_call ((first | fail | (go_at_call 22; exact ext_call (rvalue_any _ _ (by assumption) (by assumption) (by assumption) (by assumption) _)) | (go_at_call 39; exact ext_call (rround_any _ 268435456 (by omega) (by omega) (by omega) (by omega) _)) | (go_at_call 29; exact ext_call (rdouble_any _ (by rw [EM.out]; exact m0) (by rw [EM.out]; exact m1) _)))))))
  clear hecr1
  refine wpQuiet_nil ?_
  rintro r1 ⟨⟨_, hbr1⟩, rfl⟩
  obtain ⟨hcr1, hfr1⟩ := bcell hbr1
  have hzr1 := hbr1.size
  try simp only [World.size_alloc, World.size_setCell, World.size_drew] at hzr1
  have hlr1w0 : w.heap.size < r1.heap.size := by omega
  have hlr1w1 : w.heap.size + 1 < r1.heap.size := by omega
  have hlr1w2 : w.heap.size + 1 + 1 < r1.heap.size := by omega
  go_wp2
  refine bodyPost_ret (v := (.agg #[.int .u16 (hi (rnd (val x y * val z u) 268435456)), .int .u16 (lo (rnd (val x y * val z u) 268435456))])) (by simp [results, Tryd.results35, go_sem, *]) rfl ⟨by rw [EM.out], ?_⟩; exact (by repeat' (first | (with_reducible exact Below.refl _ _) | (with_reducible refine bl_set ?_ _ ?_) | (with_reducible refine bl_alloc ?_ _) | (with_reducible refine bl_drew ?_) | (with_reducible refine bl_via (by with_reducible assumption) ?_) | (with_reducible assumption) | omega | (simp only []; omega) | (simp; omega)))

end Go.Proofs.YtbbhppjamighdaaDoor
