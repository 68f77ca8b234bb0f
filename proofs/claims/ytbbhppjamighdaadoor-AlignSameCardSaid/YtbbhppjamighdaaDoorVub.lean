/- Contract of vector.Unit over this translation, for one pattern of zero components (110, 100). -/
import Derived.Test.YtbbhppjamighdaaDoorVu
namespace Go.Proofs.YtbbhppjamighdaaDoor
set_option linter.unusedSimpArgs false
set_option linter.unusedVariables false
open Go.RowKit

set_option maxRecDepth 100000 in
set_option maxHeartbeats 4000000 in
theorem unit_110 (a b c d e f : Int) (ha0 : 0 ≤ a) (ha1 : a < 65536) (hb0 : 0 ≤ b) (hb1 : b < 65536) (hc0 : 0 ≤ c) (hc1 : c < 65536) (hd0 : 0 ≤ d) (hd1 : d < 65536) (he0 : 0 ≤ e) (he1 : e < 65536) (hf0 : 0 ≤ f) (hf1 : f < 65536) (h0 : ¬ val a b = 0) (h1 : ¬ val c d = 0) (h2 : val e f = 0) (w : World) :
    Calls Tryd.prog 40 #[(.agg #[.int .u16 (a), .int .u16 (b), .int .u16 (c), .int .u16 (d), .int .u16 (e), .int .u16 (f)])] w fun r w' => r = .returned (.tuple #[(.agg #[.int .u16 (hi (sat (rnd (val a b * pw (min 28 (min (nrc (val a b)) (nrc (val c d)))) * 134217728) (isq (val a b * pw (min 28 (min (nrc (val a b)) (nrc (val c d)))) * (val a b * pw (min 28 (min (nrc (val a b)) (nrc (val c d))))) + val c d * pw (min 28 (min (nrc (val a b)) (nrc (val c d)))) * (val c d * pw (min 28 (min (nrc (val a b)) (nrc (val c d))))) + val e f * pw (min 28 (min (nrc (val a b)) (nrc (val c d)))) * (val e f * pw (min 28 (min (nrc (val a b)) (nrc (val c d)))))))) 268435455)), .int .u16 (lo (sat (rnd (val a b * pw (min 28 (min (nrc (val a b)) (nrc (val c d)))) * 134217728) (isq (val a b * pw (min 28 (min (nrc (val a b)) (nrc (val c d)))) * (val a b * pw (min 28 (min (nrc (val a b)) (nrc (val c d))))) + val c d * pw (min 28 (min (nrc (val a b)) (nrc (val c d)))) * (val c d * pw (min 28 (min (nrc (val a b)) (nrc (val c d))))) + val e f * pw (min 28 (min (nrc (val a b)) (nrc (val c d)))) * (val e f * pw (min 28 (min (nrc (val a b)) (nrc (val c d)))))))) 268435455)), .int .u16 (hi (sat (rnd (val c d * pw (min 28 (min (nrc (val a b)) (nrc (val c d)))) * 134217728) (isq (val a b * pw (min 28 (min (nrc (val a b)) (nrc (val c d)))) * (val a b * pw (min 28 (min (nrc (val a b)) (nrc (val c d))))) + val c d * pw (min 28 (min (nrc (val a b)) (nrc (val c d)))) * (val c d * pw (min 28 (min (nrc (val a b)) (nrc (val c d))))) + val e f * pw (min 28 (min (nrc (val a b)) (nrc (val c d)))) * (val e f * pw (min 28 (min (nrc (val a b)) (nrc (val c d)))))))) 268435455)), .int .u16 (lo (sat (rnd (val c d * pw (min 28 (min (nrc (val a b)) (nrc (val c d)))) * 134217728) (isq (val a b * pw (min 28 (min (nrc (val a b)) (nrc (val c d)))) * (val a b * pw (min 28 (min (nrc (val a b)) (nrc (val c d))))) + val c d * pw (min 28 (min (nrc (val a b)) (nrc (val c d)))) * (val c d * pw (min 28 (min (nrc (val a b)) (nrc (val c d))))) + val e f * pw (min 28 (min (nrc (val a b)) (nrc (val c d)))) * (val e f * pw (min 28 (min (nrc (val a b)) (nrc (val c d)))))))) 268435455)), .int .u16 (hi (sat (rnd (val e f * pw (min 28 (min (nrc (val a b)) (nrc (val c d)))) * 134217728) (isq (val a b * pw (min 28 (min (nrc (val a b)) (nrc (val c d)))) * (val a b * pw (min 28 (min (nrc (val a b)) (nrc (val c d))))) + val c d * pw (min 28 (min (nrc (val a b)) (nrc (val c d)))) * (val c d * pw (min 28 (min (nrc (val a b)) (nrc (val c d))))) + val e f * pw (min 28 (min (nrc (val a b)) (nrc (val c d)))) * (val e f * pw (min 28 (min (nrc (val a b)) (nrc (val c d)))))))) 268435455)), .int .u16 (lo (sat (rnd (val e f * pw (min 28 (min (nrc (val a b)) (nrc (val c d)))) * 134217728) (isq (val a b * pw (min 28 (min (nrc (val a b)) (nrc (val c d)))) * (val a b * pw (min 28 (min (nrc (val a b)) (nrc (val c d))))) + val c d * pw (min 28 (min (nrc (val a b)) (nrc (val c d)))) * (val c d * pw (min 28 (min (nrc (val a b)) (nrc (val c d))))) + val e f * pw (min 28 (min (nrc (val a b)) (nrc (val c d)))) * (val e f * pw (min 28 (min (nrc (val a b)) (nrc (val c d)))))))) 268435455))]), .bool false]) ∧ Below w.heap.size w w' := by
  have l0 := nrc_in (val a b) h0 (val_lo _ _) (val_hi _ _)
  have l1 := nrc_in (val c d) h1 (val_lo _ _) (val_hi _ _)
  obtain ⟨⟨u0, u1⟩, ⟨x0, x1⟩, ⟨y0, y1⟩, ⟨z0, z1⟩, ⟨x2, x3⟩, ⟨y2, y3⟩, ⟨z2, z3⟩, n0, i0, i1⟩ := unit_facts (val a b) (val c d) (val e f) (min 28 (min (nrc (val a b)) (nrc (val c d)))) (val_lo _ _) (val_hi _ _) (val_lo _ _) (val_hi _ _) (val_lo _ _) (val_hi _ _) (by omega) (by omega) (by omega) (by omega)
  have hp := pw_pos (min 28 (min (nrc (val a b)) (nrc (val c d))))
  have hp2 := pw_le28 (min 28 (min (nrc (val a b)) (nrc (val c d)))) (by omega)
  have hw : wrap64 (2 ^ (min 28 (min (nrc (val a b)) (nrc (val c d)))).toNat) = pw (min 28 (min (nrc (val a b)) (nrc (val c d)))) := wrap64_in _ (by show _ ≤ pw _; omega) (by show pw _ ≤ _; omega)
  have heq := @eq_i3
  have k0 : (val a b == 0) = false := by simpa using h0
  have k1 : (val c d == 0) = false := by simpa using h1
  have k2 : (val e f == 0) = true := by simpa using h2
  clear h0 h1 h2 l0 l1
  go_enter Tryd.func40, Tryd.ntmps40
  go_wp2_with fail
  refine (values_any a b c d e f ha0 ha1 hb0 hb1 hc0 hc1 hd0 hd1 he0 he1 hf0 hf1 _).mono ?_
  rintro _ r1 ⟨rfl, hbr1⟩
  obtain ⟨hcr1, hfr1⟩ := bcell hbr1
  have hzr1 := hbr1.size
  try simp only [World.size_alloc, World.size_setCell, World.size_drew] at hzr1
  have hlr1w0 : w.heap.size < r1.heap.size := by omega
  have hlr1w1 : w.heap.size + 1 < r1.heap.size := by omega
  go_wp2_with fail
  refine wp_loop_rounds 4 ?_
  rw [rounds_succ]
  go_wp2_with fail
  go_wp2_with fail
  refine (normal_all a b ha0 ha1 hb0 hb1 _).mono ?_
  rintro _ r2 ⟨rfl, hbr2⟩
  obtain ⟨hcr2, hfr2⟩ := bcell hbr2
  have hzr2 := hbr2.size
  try simp only [World.size_alloc, World.size_setCell, World.size_drew] at hzr2
  have hlr2w0 : w.heap.size < r2.heap.size := by omega
  have hlr2w1 : w.heap.size + 1 < r2.heap.size := by omega
  have hlr2r10 : r1.heap.size < r2.heap.size := by omega
  have gr2_0 : r2.cell? ⟨r1.heap.size, 0, none⟩ = some (.int .i64 (val a b)) := (hcr2 _ _ (by (try simp only [World.size_alloc, World.size_setCell]); omega)).trans (by with_reducible first | assumption | exact (World.cell?_alloc_lt _ _ _ (by omega)).trans (by assumption) | exact World.cell?_setCell_same _ _ _ (by assumption) | exact (World.cell?_setCell_other _ _ _ _ (by simp)).trans (by assumption) | exact (cell_far _ _ _ _ (by dsimp only; omega)).trans ((cell_far _ _ _ _ (by dsimp only; omega)).trans (by assumption)) | simp (disch := omega) [go_sem, *, List.getElem?_cons_zero, List.getElem?_cons_succ])
  have gr2_1 : r2.cell? ⟨r1.heap.size, 1, none⟩ = some (.int .i64 (val c d)) := (hcr2 _ _ (by (try simp only [World.size_alloc, World.size_setCell]); omega)).trans (by with_reducible first | assumption | exact (World.cell?_alloc_lt _ _ _ (by omega)).trans (by assumption) | exact World.cell?_setCell_same _ _ _ (by assumption) | exact (World.cell?_setCell_other _ _ _ _ (by simp)).trans (by assumption) | exact (cell_far _ _ _ _ (by dsimp only; omega)).trans ((cell_far _ _ _ _ (by dsimp only; omega)).trans (by assumption)) | simp (disch := omega) [go_sem, *, List.getElem?_cons_zero, List.getElem?_cons_succ])
  have gr2_2 : r2.cell? ⟨r1.heap.size, 2, none⟩ = some (.int .i64 (val e f)) := (hcr2 _ _ (by (try simp only [World.size_alloc, World.size_setCell]); omega)).trans (by with_reducible first | assumption | exact (World.cell?_alloc_lt _ _ _ (by omega)).trans (by assumption) | exact World.cell?_setCell_same _ _ _ (by assumption) | exact (World.cell?_setCell_other _ _ _ _ (by simp)).trans (by assumption) | exact (cell_far _ _ _ _ (by dsimp only; omega)).trans ((cell_far _ _ _ _ (by dsimp only; omega)).trans (by assumption)) | simp (disch := omega) [go_sem, *, List.getElem?_cons_zero, List.getElem?_cons_succ])
  go_wp2_with fail
  rw [rounds_succ]
  go_wp2_with fail
  go_wp2_with fail
  refine (normal_all c d hc0 hc1 hd0 hd1 _).mono ?_
  rintro _ r3 ⟨rfl, hbr3⟩
  obtain ⟨hcr3, hfr3⟩ := bcell hbr3
  have hzr3 := hbr3.size
  try simp only [World.size_alloc, World.size_setCell, World.size_drew] at hzr3
  have hlr3w0 : w.heap.size < r3.heap.size := by omega
  have hlr3w1 : w.heap.size + 1 < r3.heap.size := by omega
  have hlr3r10 : r1.heap.size < r3.heap.size := by omega
  have hlr3r20 : r2.heap.size < r3.heap.size := by omega
  have gr3_0 : r3.cell? ⟨r1.heap.size, 0, none⟩ = some (.int .i64 (val a b)) := (hcr3 _ _ (by (try simp only [World.size_alloc, World.size_setCell]); omega)).trans (by with_reducible first | assumption | exact (World.cell?_alloc_lt _ _ _ (by omega)).trans (by assumption) | exact World.cell?_setCell_same _ _ _ (by assumption) | exact (World.cell?_setCell_other _ _ _ _ (by simp)).trans (by assumption) | exact (cell_far _ _ _ _ (by dsimp only; omega)).trans ((cell_far _ _ _ _ (by dsimp only; omega)).trans (by assumption)) | simp (disch := omega) [go_sem, *, List.getElem?_cons_zero, List.getElem?_cons_succ])
  have gr3_1 : r3.cell? ⟨r1.heap.size, 1, none⟩ = some (.int .i64 (val c d)) := (hcr3 _ _ (by (try simp only [World.size_alloc, World.size_setCell]); omega)).trans (by with_reducible first | assumption | exact (World.cell?_alloc_lt _ _ _ (by omega)).trans (by assumption) | exact World.cell?_setCell_same _ _ _ (by assumption) | exact (World.cell?_setCell_other _ _ _ _ (by simp)).trans (by assumption) | exact (cell_far _ _ _ _ (by dsimp only; omega)).trans ((cell_far _ _ _ _ (by dsimp only; omega)).trans (by assumption)) | simp (disch := omega) [go_sem, *, List.getElem?_cons_zero, List.getElem?_cons_succ])
  have gr3_2 : r3.cell? ⟨r1.heap.size, 2, none⟩ = some (.int .i64 (val e f)) := (hcr3 _ _ (by (try simp only [World.size_alloc, World.size_setCell]); omega)).trans (by with_reducible first | assumption | exact (World.cell?_alloc_lt _ _ _ (by omega)).trans (by assumption) | exact World.cell?_setCell_same _ _ _ (by assumption) | exact (World.cell?_setCell_other _ _ _ _ (by simp)).trans (by assumption) | exact (cell_far _ _ _ _ (by dsimp only; omega)).trans ((cell_far _ _ _ _ (by dsimp only; omega)).trans (by assumption)) | simp (disch := omega) [go_sem, *, List.getElem?_cons_zero, List.getElem?_cons_succ])
  go_wp2_with fail
  rw [rounds_succ]
  go_wp2_with fail
  go_wp2_with fail
  refine (normal_all e f he0 he1 hf0 hf1 _).mono ?_
  rintro _ r4 ⟨rfl, hbr4⟩
  obtain ⟨hcr4, hfr4⟩ := bcell hbr4
  have hzr4 := hbr4.size
  try simp only [World.size_alloc, World.size_setCell, World.size_drew] at hzr4
  have hlr4w0 : w.heap.size < r4.heap.size := by omega
  have hlr4w1 : w.heap.size + 1 < r4.heap.size := by omega
  have hlr4r10 : r1.heap.size < r4.heap.size := by omega
  have hlr4r20 : r2.heap.size < r4.heap.size := by omega
  have hlr4r30 : r3.heap.size < r4.heap.size := by omega
  have gr4_0 : r4.cell? ⟨r1.heap.size, 0, none⟩ = some (.int .i64 (val a b)) := (hcr4 _ _ (by (try simp only [World.size_alloc, World.size_setCell]); omega)).trans (by with_reducible first | assumption | exact (World.cell?_alloc_lt _ _ _ (by omega)).trans (by assumption) | exact World.cell?_setCell_same _ _ _ (by assumption) | exact (World.cell?_setCell_other _ _ _ _ (by simp)).trans (by assumption) | exact (cell_far _ _ _ _ (by dsimp only; omega)).trans ((cell_far _ _ _ _ (by dsimp only; omega)).trans (by assumption)) | simp (disch := omega) [go_sem, *, List.getElem?_cons_zero, List.getElem?_cons_succ])
  have gr4_1 : r4.cell? ⟨r1.heap.size, 1, none⟩ = some (.int .i64 (val c d)) := (hcr4 _ _ (by (try simp only [World.size_alloc, World.size_setCell]); omega)).trans (by with_reducible first | assumption | exact (World.cell?_alloc_lt _ _ _ (by omega)).trans (by assumption) | exact World.cell?_setCell_same _ _ _ (by assumption) | exact (World.cell?_setCell_other _ _ _ _ (by simp)).trans (by assumption) | exact (cell_far _ _ _ _ (by dsimp only; omega)).trans ((cell_far _ _ _ _ (by dsimp only; omega)).trans (by assumption)) | simp (disch := omega) [go_sem, *, List.getElem?_cons_zero, List.getElem?_cons_succ])
  have gr4_2 : r4.cell? ⟨r1.heap.size, 2, none⟩ = some (.int .i64 (val e f)) := (hcr4 _ _ (by (try simp only [World.size_alloc, World.size_setCell]); omega)).trans (by with_reducible first | assumption | exact (World.cell?_alloc_lt _ _ _ (by omega)).trans (by assumption) | exact World.cell?_setCell_same _ _ _ (by assumption) | exact (World.cell?_setCell_other _ _ _ _ (by simp)).trans (by assumption) | exact (cell_far _ _ _ _ (by dsimp only; omega)).trans ((cell_far _ _ _ _ (by dsimp only; omega)).trans (by assumption)) | simp (disch := omega) [go_sem, *, List.getElem?_cons_zero, List.getElem?_cons_succ])
  go_wp2_with fail
  rw [rounds_succ]
  go_wp2_with fail
  refine wp_loop_rounds 4 ?_
  rw [rounds_succ]
  go_wp2_with fail
  have hecr10 := @Ext.cell
  refine wp_region_ext_tail 7 (by kernel_rfl) (by kernel_rfl) ?_
  simp only [List.take_succ_cons, List.take_zero, List.drop_succ_cons, List.drop_zero]
  repeat (first | go_big_quiet_skip | (go_big_quiet_want; go_big_quiet_op; first | go_big_quiet_on | (go_big_quiet_call ((first | fail | fail)))))
  clear hecr10
  refine wpQuiet_nil ?_
  rintro r10 ⟨⟨_, hbr10⟩, rfl⟩
  obtain ⟨hcr10, hfr10⟩ := bcell hbr10
  have hzr10 := hbr10.size
  try simp only [World.size_alloc, World.size_setCell, World.size_drew] at hzr10
  have hlr10w0 : w.heap.size < r10.heap.size := by omega
  have hlr10w1 : w.heap.size + 1 < r10.heap.size := by omega
  have hlr10r10 : r1.heap.size < r10.heap.size := by omega
  have gr10_0 : r10.cell? ⟨r1.heap.size, 0, none⟩ = some (.int .i64 (val a b)) := (hcr10 _ _ (by (try simp only [World.size_alloc, World.size_setCell]); omega)).trans (by with_reducible first | assumption | exact (World.cell?_alloc_lt _ _ _ (by omega)).trans (by assumption) | exact World.cell?_setCell_same _ _ _ (by assumption) | exact (World.cell?_setCell_other _ _ _ _ (by simp)).trans (by assumption) | exact (cell_far _ _ _ _ (by dsimp only; omega)).trans ((cell_far _ _ _ _ (by dsimp only; omega)).trans (by assumption)) | simp (disch := omega) [go_sem, *, List.getElem?_cons_zero, List.getElem?_cons_succ])
  have gr10_1 : r10.cell? ⟨r1.heap.size, 1, none⟩ = some (.int .i64 (val c d)) := (hcr10 _ _ (by (try simp only [World.size_alloc, World.size_setCell]); omega)).trans (by with_reducible first | assumption | exact (World.cell?_alloc_lt _ _ _ (by omega)).trans (by assumption) | exact World.cell?_setCell_same _ _ _ (by assumption) | exact (World.cell?_setCell_other _ _ _ _ (by simp)).trans (by assumption) | exact (cell_far _ _ _ _ (by dsimp only; omega)).trans ((cell_far _ _ _ _ (by dsimp only; omega)).trans (by assumption)) | simp (disch := omega) [go_sem, *, List.getElem?_cons_zero, List.getElem?_cons_succ])
  have gr10_2 : r10.cell? ⟨r1.heap.size, 2, none⟩ = some (.int .i64 (val e f)) := (hcr10 _ _ (by (try simp only [World.size_alloc, World.size_setCell]); omega)).trans (by with_reducible first | assumption | exact (World.cell?_alloc_lt _ _ _ (by omega)).trans (by assumption) | exact World.cell?_setCell_same _ _ _ (by assumption) | exact (World.cell?_setCell_other _ _ _ _ (by simp)).trans (by assumption) | exact (cell_far _ _ _ _ (by dsimp only; omega)).trans ((cell_far _ _ _ _ (by dsimp only; omega)).trans (by assumption)) | simp (disch := omega) [go_sem, *, List.getElem?_cons_zero, List.getElem?_cons_succ])
  go_wp2_with fail
  have hecr20 := @Ext.cell
  refine wp_region_ext (by kernel_rfl) (by kernel_rfl) ?_
  repeat (first | go_big_quiet_skip | (go_big_quiet_want; go_big_quiet_op; first | go_big_quiet_on | (go_big_quiet_call ((first | fail | fail)))))
  clear hecr20
  refine wpQuiet_nil ?_
  rintro r20 ⟨⟨_, hbr20⟩, rfl⟩
  obtain ⟨hcr20, hfr20⟩ := bcell hbr20
  have hzr20 := hbr20.size
  try simp only [World.size_alloc, World.size_setCell, World.size_drew] at hzr20
  have hlr20w0 : w.heap.size < r20.heap.size := by omega
  have hlr20w1 : w.heap.size + 1 < r20.heap.size := by omega
  have hlr20r10 : r1.heap.size < r20.heap.size := by omega
  have gr20_0 : r20.cell? ⟨r1.heap.size, 0, none⟩ = some (.int .i64 (val a b * pw (min 28 (min (nrc (val a b)) (nrc (val c d)))))) := (hcr20 _ _ (by (try simp only [World.size_alloc, World.size_setCell]); omega)).trans (by with_reducible first | assumption | exact (World.cell?_alloc_lt _ _ _ (by omega)).trans (by assumption) | exact World.cell?_setCell_same _ _ _ (by assumption) | exact (World.cell?_setCell_other _ _ _ _ (by simp)).trans (by assumption) | exact (cell_far _ _ _ _ (by dsimp only; omega)).trans ((cell_far _ _ _ _ (by dsimp only; omega)).trans (by assumption)) | simp (disch := omega) [go_sem, *, List.getElem?_cons_zero, List.getElem?_cons_succ])
  have gr20_1 : r20.cell? ⟨r1.heap.size, 1, none⟩ = some (.int .i64 (val c d)) := (hcr20 _ _ (by (try simp only [World.size_alloc, World.size_setCell]); omega)).trans (by with_reducible first | assumption | exact (World.cell?_alloc_lt _ _ _ (by omega)).trans (by assumption) | exact World.cell?_setCell_same _ _ _ (by assumption) | exact (World.cell?_setCell_other _ _ _ _ (by simp)).trans (by assumption) | exact (cell_far _ _ _ _ (by dsimp only; omega)).trans ((cell_far _ _ _ _ (by dsimp only; omega)).trans (by assumption)) | simp (disch := omega) [go_sem, *, List.getElem?_cons_zero, List.getElem?_cons_succ])
  have gr20_2 : r20.cell? ⟨r1.heap.size, 2, none⟩ = some (.int .i64 (val e f)) := (hcr20 _ _ (by (try simp only [World.size_alloc, World.size_setCell]); omega)).trans (by with_reducible first | assumption | exact (World.cell?_alloc_lt _ _ _ (by omega)).trans (by assumption) | exact World.cell?_setCell_same _ _ _ (by assumption) | exact (World.cell?_setCell_other _ _ _ _ (by simp)).trans (by assumption) | exact (cell_far _ _ _ _ (by dsimp only; omega)).trans ((cell_far _ _ _ _ (by dsimp only; omega)).trans (by assumption)) | simp (disch := omega) [go_sem, *, List.getElem?_cons_zero, List.getElem?_cons_succ])
  go_wp2_with fail
  rw [rounds_succ]
  go_wp2_with fail
  have hecr11 := @Ext.cell
  refine wp_region_ext_tail 7 (by kernel_rfl) (by kernel_rfl) ?_
  simp only [List.take_succ_cons, List.take_zero, List.drop_succ_cons, List.drop_zero]
  repeat (first | go_big_quiet_skip | (go_big_quiet_want; go_big_quiet_op; first | go_big_quiet_on | (go_big_quiet_call ((first | fail | fail)))))
  clear hecr11
  refine wpQuiet_nil ?_
  rintro r11 ⟨⟨_, hbr11⟩, rfl⟩
  obtain ⟨hcr11, hfr11⟩ := bcell hbr11
  have hzr11 := hbr11.size
  try simp only [World.size_alloc, World.size_setCell, World.size_drew] at hzr11
  have hlr11w0 : w.heap.size < r11.heap.size := by omega
  have hlr11w1 : w.heap.size + 1 < r11.heap.size := by omega
  have hlr11r10 : r1.heap.size < r11.heap.size := by omega
  have gr11_0 : r11.cell? ⟨r1.heap.size, 0, none⟩ = some (.int .i64 (val a b * pw (min 28 (min (nrc (val a b)) (nrc (val c d)))))) := (hcr11 _ _ (by (try simp only [World.size_alloc, World.size_setCell]); omega)).trans (by with_reducible first | assumption | exact (World.cell?_alloc_lt _ _ _ (by omega)).trans (by assumption) | exact World.cell?_setCell_same _ _ _ (by assumption) | exact (World.cell?_setCell_other _ _ _ _ (by simp)).trans (by assumption) | exact (cell_far _ _ _ _ (by dsimp only; omega)).trans ((cell_far _ _ _ _ (by dsimp only; omega)).trans (by assumption)) | simp (disch := omega) [go_sem, *, List.getElem?_cons_zero, List.getElem?_cons_succ])
  have gr11_1 : r11.cell? ⟨r1.heap.size, 1, none⟩ = some (.int .i64 (val c d)) := (hcr11 _ _ (by (try simp only [World.size_alloc, World.size_setCell]); omega)).trans (by with_reducible first | assumption | exact (World.cell?_alloc_lt _ _ _ (by omega)).trans (by assumption) | exact World.cell?_setCell_same _ _ _ (by assumption) | exact (World.cell?_setCell_other _ _ _ _ (by simp)).trans (by assumption) | exact (cell_far _ _ _ _ (by dsimp only; omega)).trans ((cell_far _ _ _ _ (by dsimp only; omega)).trans (by assumption)) | simp (disch := omega) [go_sem, *, List.getElem?_cons_zero, List.getElem?_cons_succ])
  have gr11_2 : r11.cell? ⟨r1.heap.size, 2, none⟩ = some (.int .i64 (val e f)) := (hcr11 _ _ (by (try simp only [World.size_alloc, World.size_setCell]); omega)).trans (by with_reducible first | assumption | exact (World.cell?_alloc_lt _ _ _ (by omega)).trans (by assumption) | exact World.cell?_setCell_same _ _ _ (by assumption) | exact (World.cell?_setCell_other _ _ _ _ (by simp)).trans (by assumption) | exact (cell_far _ _ _ _ (by dsimp only; omega)).trans ((cell_far _ _ _ _ (by dsimp only; omega)).trans (by assumption)) | simp (disch := omega) [go_sem, *, List.getElem?_cons_zero, List.getElem?_cons_succ])
  go_wp2_with fail
  have hecr21 := @Ext.cell
  refine wp_region_ext (by kernel_rfl) (by kernel_rfl) ?_
  repeat (first | go_big_quiet_skip | (go_big_quiet_want; go_big_quiet_op; first | go_big_quiet_on | (go_big_quiet_call ((first | fail | fail)))))
  clear hecr21
  refine wpQuiet_nil ?_
  rintro r21 ⟨⟨_, hbr21⟩, rfl⟩
  obtain ⟨hcr21, hfr21⟩ := bcell hbr21
  have hzr21 := hbr21.size
  try simp only [World.size_alloc, World.size_setCell, World.size_drew] at hzr21
  have hlr21w0 : w.heap.size < r21.heap.size := by omega
  have hlr21w1 : w.heap.size + 1 < r21.heap.size := by omega
  have hlr21r10 : r1.heap.size < r21.heap.size := by omega
  have gr21_0 : r21.cell? ⟨r1.heap.size, 0, none⟩ = some (.int .i64 (val a b * pw (min 28 (min (nrc (val a b)) (nrc (val c d)))))) := (hcr21 _ _ (by (try simp only [World.size_alloc, World.size_setCell]); omega)).trans (by with_reducible first | assumption | exact (World.cell?_alloc_lt _ _ _ (by omega)).trans (by assumption) | exact World.cell?_setCell_same _ _ _ (by assumption) | exact (World.cell?_setCell_other _ _ _ _ (by simp)).trans (by assumption) | exact (cell_far _ _ _ _ (by dsimp only; omega)).trans ((cell_far _ _ _ _ (by dsimp only; omega)).trans (by assumption)) | simp (disch := omega) [go_sem, *, List.getElem?_cons_zero, List.getElem?_cons_succ])
  have gr21_1 : r21.cell? ⟨r1.heap.size, 1, none⟩ = some (.int .i64 (val c d * pw (min 28 (min (nrc (val a b)) (nrc (val c d)))))) := (hcr21 _ _ (by (try simp only [World.size_alloc, World.size_setCell]); omega)).trans (by with_reducible first | assumption | exact (World.cell?_alloc_lt _ _ _ (by omega)).trans (by assumption) | exact World.cell?_setCell_same _ _ _ (by assumption) | exact (World.cell?_setCell_other _ _ _ _ (by simp)).trans (by assumption) | exact (cell_far _ _ _ _ (by dsimp only; omega)).trans ((cell_far _ _ _ _ (by dsimp only; omega)).trans (by assumption)) | simp (disch := omega) [go_sem, *, List.getElem?_cons_zero, List.getElem?_cons_succ])
  have gr21_2 : r21.cell? ⟨r1.heap.size, 2, none⟩ = some (.int .i64 (val e f)) := (hcr21 _ _ (by (try simp only [World.size_alloc, World.size_setCell]); omega)).trans (by with_reducible first | assumption | exact (World.cell?_alloc_lt _ _ _ (by omega)).trans (by assumption) | exact World.cell?_setCell_same _ _ _ (by assumption) | exact (World.cell?_setCell_other _ _ _ _ (by simp)).trans (by assumption) | exact (cell_far _ _ _ _ (by dsimp only; omega)).trans ((cell_far _ _ _ _ (by dsimp only; omega)).trans (by assumption)) | simp (disch := omega) [go_sem, *, List.getElem?_cons_zero, List.getElem?_cons_succ])
  go_wp2_with fail
  rw [rounds_succ]
  go_wp2_with fail
  have hecr12 := @Ext.cell
  refine wp_region_ext_tail 7 (by kernel_rfl) (by kernel_rfl) ?_
  simp only [List.take_succ_cons, List.take_zero, List.drop_succ_cons, List.drop_zero]
  repeat (first | go_big_quiet_skip | (go_big_quiet_want; go_big_quiet_op; first | go_big_quiet_on | (go_big_quiet_call ((first | fail | fail)))))
  clear hecr12
  refine wpQuiet_nil ?_
  rintro r12 ⟨⟨_, hbr12⟩, rfl⟩
  obtain ⟨hcr12, hfr12⟩ := bcell hbr12
  have hzr12 := hbr12.size
  try simp only [World.size_alloc, World.size_setCell, World.size_drew] at hzr12
  have hlr12w0 : w.heap.size < r12.heap.size := by omega
  have hlr12w1 : w.heap.size + 1 < r12.heap.size := by omega
  have hlr12r10 : r1.heap.size < r12.heap.size := by omega
  have gr12_0 : r12.cell? ⟨r1.heap.size, 0, none⟩ = some (.int .i64 (val a b * pw (min 28 (min (nrc (val a b)) (nrc (val c d)))))) := (hcr12 _ _ (by (try simp only [World.size_alloc, World.size_setCell]); omega)).trans (by with_reducible first | assumption | exact (World.cell?_alloc_lt _ _ _ (by omega)).trans (by assumption) | exact World.cell?_setCell_same _ _ _ (by assumption) | exact (World.cell?_setCell_other _ _ _ _ (by simp)).trans (by assumption) | exact (cell_far _ _ _ _ (by dsimp only; omega)).trans ((cell_far _ _ _ _ (by dsimp only; omega)).trans (by assumption)) | simp (disch := omega) [go_sem, *, List.getElem?_cons_zero, List.getElem?_cons_succ])
  have gr12_1 : r12.cell? ⟨r1.heap.size, 1, none⟩ = some (.int .i64 (val c d * pw (min 28 (min (nrc (val a b)) (nrc (val c d)))))) := (hcr12 _ _ (by (try simp only [World.size_alloc, World.size_setCell]); omega)).trans (by with_reducible first | assumption | exact (World.cell?_alloc_lt _ _ _ (by omega)).trans (by assumption) | exact World.cell?_setCell_same _ _ _ (by assumption) | exact (World.cell?_setCell_other _ _ _ _ (by simp)).trans (by assumption) | exact (cell_far _ _ _ _ (by dsimp only; omega)).trans ((cell_far _ _ _ _ (by dsimp only; omega)).trans (by assumption)) | simp (disch := omega) [go_sem, *, List.getElem?_cons_zero, List.getElem?_cons_succ])
  have gr12_2 : r12.cell? ⟨r1.heap.size, 2, none⟩ = some (.int .i64 (val e f)) := (hcr12 _ _ (by (try simp only [World.size_alloc, World.size_setCell]); omega)).trans (by with_reducible first | assumption | exact (World.cell?_alloc_lt _ _ _ (by omega)).trans (by assumption) | exact World.cell?_setCell_same _ _ _ (by assumption) | exact (World.cell?_setCell_other _ _ _ _ (by simp)).trans (by assumption) | exact (cell_far _ _ _ _ (by dsimp only; omega)).trans ((cell_far _ _ _ _ (by dsimp only; omega)).trans (by assumption)) | simp (disch := omega) [go_sem, *, List.getElem?_cons_zero, List.getElem?_cons_succ])
  go_wp2_with fail
  have hecr22 := @Ext.cell
  refine wp_region_ext (by kernel_rfl) (by kernel_rfl) ?_
  repeat (first | go_big_quiet_skip | (go_big_quiet_want; go_big_quiet_op; first | go_big_quiet_on | (go_big_quiet_call ((first | fail | fail)))))
  clear hecr22
  refine wpQuiet_nil ?_
  rintro r22 ⟨⟨_, hbr22⟩, rfl⟩
  obtain ⟨hcr22, hfr22⟩ := bcell hbr22
  have hzr22 := hbr22.size
  try simp only [World.size_alloc, World.size_setCell, World.size_drew] at hzr22
  have hlr22w0 : w.heap.size < r22.heap.size := by omega
  have hlr22w1 : w.heap.size + 1 < r22.heap.size := by omega
  have hlr22r10 : r1.heap.size < r22.heap.size := by omega
  have gr22_0 : r22.cell? ⟨r1.heap.size, 0, none⟩ = some (.int .i64 (val a b * pw (min 28 (min (nrc (val a b)) (nrc (val c d)))))) := (hcr22 _ _ (by (try simp only [World.size_alloc, World.size_setCell]); omega)).trans (by with_reducible first | assumption | exact (World.cell?_alloc_lt _ _ _ (by omega)).trans (by assumption) | exact World.cell?_setCell_same _ _ _ (by assumption) | exact (World.cell?_setCell_other _ _ _ _ (by simp)).trans (by assumption) | exact (cell_far _ _ _ _ (by dsimp only; omega)).trans ((cell_far _ _ _ _ (by dsimp only; omega)).trans (by assumption)) | simp (disch := omega) [go_sem, *, List.getElem?_cons_zero, List.getElem?_cons_succ])
  have gr22_1 : r22.cell? ⟨r1.heap.size, 1, none⟩ = some (.int .i64 (val c d * pw (min 28 (min (nrc (val a b)) (nrc (val c d)))))) := (hcr22 _ _ (by (try simp only [World.size_alloc, World.size_setCell]); omega)).trans (by with_reducible first | assumption | exact (World.cell?_alloc_lt _ _ _ (by omega)).trans (by assumption) | exact World.cell?_setCell_same _ _ _ (by assumption) | exact (World.cell?_setCell_other _ _ _ _ (by simp)).trans (by assumption) | exact (cell_far _ _ _ _ (by dsimp only; omega)).trans ((cell_far _ _ _ _ (by dsimp only; omega)).trans (by assumption)) | simp (disch := omega) [go_sem, *, List.getElem?_cons_zero, List.getElem?_cons_succ])
  have gr22_2 : r22.cell? ⟨r1.heap.size, 2, none⟩ = some (.int .i64 (val e f * pw (min 28 (min (nrc (val a b)) (nrc (val c d)))))) := (hcr22 _ _ (by (try simp only [World.size_alloc, World.size_setCell]); omega)).trans (by with_reducible first | assumption | exact (World.cell?_alloc_lt _ _ _ (by omega)).trans (by assumption) | exact World.cell?_setCell_same _ _ _ (by assumption) | exact (World.cell?_setCell_other _ _ _ _ (by simp)).trans (by assumption) | exact (cell_far _ _ _ _ (by dsimp only; omega)).trans ((cell_far _ _ _ _ (by dsimp only; omega)).trans (by assumption)) | simp (disch := omega) [go_sem, *, List.getElem?_cons_zero, List.getElem?_cons_succ])
  go_wp2_with fail
  rw [rounds_succ]
  go_wp2_with fail
  go_wp2_with fail
  refine (root_any (val a b * pw (min 28 (min (nrc (val a b)) (nrc (val c d)))) * (val a b * pw (min 28 (min (nrc (val a b)) (nrc (val c d))))) + val c d * pw (min 28 (min (nrc (val a b)) (nrc (val c d)))) * (val c d * pw (min 28 (min (nrc (val a b)) (nrc (val c d))))) + val e f * pw (min 28 (min (nrc (val a b)) (nrc (val c d)))) * (val e f * pw (min 28 (min (nrc (val a b)) (nrc (val c d)))))) (by omega) (by omega) _).mono ?_
  rintro _ _ ⟨rfl, rfl⟩
  go_wp2_with fail
  refine wp_loop_rounds 4 ?_
  rw [rounds_succ]
  go_wp2_with fail
  refine (vquot_any (val a b * pw (min 28 (min (nrc (val a b)) (nrc (val c d)))) * 134217728) (isq (val a b * pw (min 28 (min (nrc (val a b)) (nrc (val c d)))) * (val a b * pw (min 28 (min (nrc (val a b)) (nrc (val c d))))) + val c d * pw (min 28 (min (nrc (val a b)) (nrc (val c d)))) * (val c d * pw (min 28 (min (nrc (val a b)) (nrc (val c d))))) + val e f * pw (min 28 (min (nrc (val a b)) (nrc (val c d)))) * (val e f * pw (min 28 (min (nrc (val a b)) (nrc (val c d))))))) (by omega) (by omega) (by omega) (by omega) _).mono ?_
  rintro _ r30 ⟨rfl, hbr30⟩
  obtain ⟨hcr30, hfr30⟩ := bcell hbr30
  have hzr30 := hbr30.size
  try simp only [World.size_alloc, World.size_setCell, World.size_drew] at hzr30
  have hlr30w0 : w.heap.size < r30.heap.size := by omega
  have hlr30w1 : w.heap.size + 1 < r30.heap.size := by omega
  have hlr30r10 : r1.heap.size < r30.heap.size := by omega
  have hlr30r220 : r22.heap.size < r30.heap.size := by omega
  have gr30_0 : r30.cell? ⟨r1.heap.size, 0, none⟩ = some (.int .i64 (val a b * pw (min 28 (min (nrc (val a b)) (nrc (val c d)))))) := (hcr30 _ _ (by (try simp only [World.size_alloc, World.size_setCell]); omega)).trans (by with_reducible first | assumption | exact (World.cell?_alloc_lt _ _ _ (by omega)).trans (by assumption) | exact World.cell?_setCell_same _ _ _ (by assumption) | exact (World.cell?_setCell_other _ _ _ _ (by simp)).trans (by assumption) | exact (cell_far _ _ _ _ (by dsimp only; omega)).trans ((cell_far _ _ _ _ (by dsimp only; omega)).trans (by assumption)) | simp (disch := omega) [go_sem, *, List.getElem?_cons_zero, List.getElem?_cons_succ])
  have gr30_1 : r30.cell? ⟨r1.heap.size, 1, none⟩ = some (.int .i64 (val c d * pw (min 28 (min (nrc (val a b)) (nrc (val c d)))))) := (hcr30 _ _ (by (try simp only [World.size_alloc, World.size_setCell]); omega)).trans (by with_reducible first | assumption | exact (World.cell?_alloc_lt _ _ _ (by omega)).trans (by assumption) | exact World.cell?_setCell_same _ _ _ (by assumption) | exact (World.cell?_setCell_other _ _ _ _ (by simp)).trans (by assumption) | exact (cell_far _ _ _ _ (by dsimp only; omega)).trans ((cell_far _ _ _ _ (by dsimp only; omega)).trans (by assumption)) | simp (disch := omega) [go_sem, *, List.getElem?_cons_zero, List.getElem?_cons_succ])
  have gr30_2 : r30.cell? ⟨r1.heap.size, 2, none⟩ = some (.int .i64 (val e f * pw (min 28 (min (nrc (val a b)) (nrc (val c d)))))) := (hcr30 _ _ (by (try simp only [World.size_alloc, World.size_setCell]); omega)).trans (by with_reducible first | assumption | exact (World.cell?_alloc_lt _ _ _ (by omega)).trans (by assumption) | exact World.cell?_setCell_same _ _ _ (by assumption) | exact (World.cell?_setCell_other _ _ _ _ (by simp)).trans (by assumption) | exact (cell_far _ _ _ _ (by dsimp only; omega)).trans ((cell_far _ _ _ _ (by dsimp only; omega)).trans (by assumption)) | simp (disch := omega) [go_sem, *, List.getElem?_cons_zero, List.getElem?_cons_succ])
  go_wp2_with fail
  refine (clamp_any (rnd (val a b * pw (min 28 (min (nrc (val a b)) (nrc (val c d)))) * 134217728) (isq (val a b * pw (min 28 (min (nrc (val a b)) (nrc (val c d)))) * (val a b * pw (min 28 (min (nrc (val a b)) (nrc (val c d))))) + val c d * pw (min 28 (min (nrc (val a b)) (nrc (val c d)))) * (val c d * pw (min 28 (min (nrc (val a b)) (nrc (val c d))))) + val e f * pw (min 28 (min (nrc (val a b)) (nrc (val c d)))) * (val e f * pw (min 28 (min (nrc (val a b)) (nrc (val c d)))))))) _).mono ?_
  rintro _ r40 ⟨rfl, hbr40⟩
  obtain ⟨hcr40, hfr40⟩ := bcell hbr40
  have hzr40 := hbr40.size
  try simp only [World.size_alloc, World.size_setCell, World.size_drew] at hzr40
  have hlr40w0 : w.heap.size < r40.heap.size := by omega
  have hlr40w1 : w.heap.size + 1 < r40.heap.size := by omega
  have hlr40r10 : r1.heap.size < r40.heap.size := by omega
  have hlr40r220 : r22.heap.size < r40.heap.size := by omega
  have gr40_0 : r40.cell? ⟨r1.heap.size, 0, none⟩ = some (.int .i64 (val a b * pw (min 28 (min (nrc (val a b)) (nrc (val c d)))))) := (hcr40 _ _ (by (try simp only [World.size_alloc, World.size_setCell]); omega)).trans (by with_reducible first | assumption | exact (World.cell?_alloc_lt _ _ _ (by omega)).trans (by assumption) | exact World.cell?_setCell_same _ _ _ (by assumption) | exact (World.cell?_setCell_other _ _ _ _ (by simp)).trans (by assumption) | exact (cell_far _ _ _ _ (by dsimp only; omega)).trans ((cell_far _ _ _ _ (by dsimp only; omega)).trans (by assumption)) | simp (disch := omega) [go_sem, *, List.getElem?_cons_zero, List.getElem?_cons_succ])
  have gr40_1 : r40.cell? ⟨r1.heap.size, 1, none⟩ = some (.int .i64 (val c d * pw (min 28 (min (nrc (val a b)) (nrc (val c d)))))) := (hcr40 _ _ (by (try simp only [World.size_alloc, World.size_setCell]); omega)).trans (by with_reducible first | assumption | exact (World.cell?_alloc_lt _ _ _ (by omega)).trans (by assumption) | exact World.cell?_setCell_same _ _ _ (by assumption) | exact (World.cell?_setCell_other _ _ _ _ (by simp)).trans (by assumption) | exact (cell_far _ _ _ _ (by dsimp only; omega)).trans ((cell_far _ _ _ _ (by dsimp only; omega)).trans (by assumption)) | simp (disch := omega) [go_sem, *, List.getElem?_cons_zero, List.getElem?_cons_succ])
  have gr40_2 : r40.cell? ⟨r1.heap.size, 2, none⟩ = some (.int .i64 (val e f * pw (min 28 (min (nrc (val a b)) (nrc (val c d)))))) := (hcr40 _ _ (by (try simp only [World.size_alloc, World.size_setCell]); omega)).trans (by with_reducible first | assumption | exact (World.cell?_alloc_lt _ _ _ (by omega)).trans (by assumption) | exact World.cell?_setCell_same _ _ _ (by assumption) | exact (World.cell?_setCell_other _ _ _ _ (by simp)).trans (by assumption) | exact (cell_far _ _ _ _ (by dsimp only; omega)).trans ((cell_far _ _ _ _ (by dsimp only; omega)).trans (by assumption)) | simp (disch := omega) [go_sem, *, List.getElem?_cons_zero, List.getElem?_cons_succ])
  go_wp2_with fail
  rw [rounds_succ]
  go_wp2_with fail
  refine (vquot_any (val c d * pw (min 28 (min (nrc (val a b)) (nrc (val c d)))) * 134217728) (isq (val a b * pw (min 28 (min (nrc (val a b)) (nrc (val c d)))) * (val a b * pw (min 28 (min (nrc (val a b)) (nrc (val c d))))) + val c d * pw (min 28 (min (nrc (val a b)) (nrc (val c d)))) * (val c d * pw (min 28 (min (nrc (val a b)) (nrc (val c d))))) + val e f * pw (min 28 (min (nrc (val a b)) (nrc (val c d)))) * (val e f * pw (min 28 (min (nrc (val a b)) (nrc (val c d))))))) (by omega) (by omega) (by omega) (by omega) _).mono ?_
  rintro _ r31 ⟨rfl, hbr31⟩
  obtain ⟨hcr31, hfr31⟩ := bcell hbr31
  have hzr31 := hbr31.size
  try simp only [World.size_alloc, World.size_setCell, World.size_drew] at hzr31
  have hlr31w0 : w.heap.size < r31.heap.size := by omega
  have hlr31w1 : w.heap.size + 1 < r31.heap.size := by omega
  have hlr31r10 : r1.heap.size < r31.heap.size := by omega
  have hlr31r220 : r22.heap.size < r31.heap.size := by omega
  have gr31_0 : r31.cell? ⟨r1.heap.size, 0, none⟩ = some (.int .i64 (val a b * pw (min 28 (min (nrc (val a b)) (nrc (val c d)))))) := (hcr31 _ _ (by (try simp only [World.size_alloc, World.size_setCell]); omega)).trans (by with_reducible first | assumption | exact (World.cell?_alloc_lt _ _ _ (by omega)).trans (by assumption) | exact World.cell?_setCell_same _ _ _ (by assumption) | exact (World.cell?_setCell_other _ _ _ _ (by simp)).trans (by assumption) | exact (cell_far _ _ _ _ (by dsimp only; omega)).trans ((cell_far _ _ _ _ (by dsimp only; omega)).trans (by assumption)) | simp (disch := omega) [go_sem, *, List.getElem?_cons_zero, List.getElem?_cons_succ])
  have gr31_1 : r31.cell? ⟨r1.heap.size, 1, none⟩ = some (.int .i64 (val c d * pw (min 28 (min (nrc (val a b)) (nrc (val c d)))))) := (hcr31 _ _ (by (try simp only [World.size_alloc, World.size_setCell]); omega)).trans (by with_reducible first | assumption | exact (World.cell?_alloc_lt _ _ _ (by omega)).trans (by assumption) | exact World.cell?_setCell_same _ _ _ (by assumption) | exact (World.cell?_setCell_other _ _ _ _ (by simp)).trans (by assumption) | exact (cell_far _ _ _ _ (by dsimp only; omega)).trans ((cell_far _ _ _ _ (by dsimp only; omega)).trans (by assumption)) | simp (disch := omega) [go_sem, *, List.getElem?_cons_zero, List.getElem?_cons_succ])
  have gr31_2 : r31.cell? ⟨r1.heap.size, 2, none⟩ = some (.int .i64 (val e f * pw (min 28 (min (nrc (val a b)) (nrc (val c d)))))) := (hcr31 _ _ (by (try simp only [World.size_alloc, World.size_setCell]); omega)).trans (by with_reducible first | assumption | exact (World.cell?_alloc_lt _ _ _ (by omega)).trans (by assumption) | exact World.cell?_setCell_same _ _ _ (by assumption) | exact (World.cell?_setCell_other _ _ _ _ (by simp)).trans (by assumption) | exact (cell_far _ _ _ _ (by dsimp only; omega)).trans ((cell_far _ _ _ _ (by dsimp only; omega)).trans (by assumption)) | simp (disch := omega) [go_sem, *, List.getElem?_cons_zero, List.getElem?_cons_succ])
  go_wp2_with fail
  refine (clamp_any (rnd (val c d * pw (min 28 (min (nrc (val a b)) (nrc (val c d)))) * 134217728) (isq (val a b * pw (min 28 (min (nrc (val a b)) (nrc (val c d)))) * (val a b * pw (min 28 (min (nrc (val a b)) (nrc (val c d))))) + val c d * pw (min 28 (min (nrc (val a b)) (nrc (val c d)))) * (val c d * pw (min 28 (min (nrc (val a b)) (nrc (val c d))))) + val e f * pw (min 28 (min (nrc (val a b)) (nrc (val c d)))) * (val e f * pw (min 28 (min (nrc (val a b)) (nrc (val c d)))))))) _).mono ?_
  rintro _ r41 ⟨rfl, hbr41⟩
  obtain ⟨hcr41, hfr41⟩ := bcell hbr41
  have hzr41 := hbr41.size
  try simp only [World.size_alloc, World.size_setCell, World.size_drew] at hzr41
  have hlr41w0 : w.heap.size < r41.heap.size := by omega
  have hlr41w1 : w.heap.size + 1 < r41.heap.size := by omega
  have hlr41r10 : r1.heap.size < r41.heap.size := by omega
  have hlr41r220 : r22.heap.size < r41.heap.size := by omega
  have gr41_0 : r41.cell? ⟨r1.heap.size, 0, none⟩ = some (.int .i64 (val a b * pw (min 28 (min (nrc (val a b)) (nrc (val c d)))))) := (hcr41 _ _ (by (try simp only [World.size_alloc, World.size_setCell]); omega)).trans (by with_reducible first | assumption | exact (World.cell?_alloc_lt _ _ _ (by omega)).trans (by assumption) | exact World.cell?_setCell_same _ _ _ (by assumption) | exact (World.cell?_setCell_other _ _ _ _ (by simp)).trans (by assumption) | exact (cell_far _ _ _ _ (by dsimp only; omega)).trans ((cell_far _ _ _ _ (by dsimp only; omega)).trans (by assumption)) | simp (disch := omega) [go_sem, *, List.getElem?_cons_zero, List.getElem?_cons_succ])
  have gr41_1 : r41.cell? ⟨r1.heap.size, 1, none⟩ = some (.int .i64 (val c d * pw (min 28 (min (nrc (val a b)) (nrc (val c d)))))) := (hcr41 _ _ (by (try simp only [World.size_alloc, World.size_setCell]); omega)).trans (by with_reducible first | assumption | exact (World.cell?_alloc_lt _ _ _ (by omega)).trans (by assumption) | exact World.cell?_setCell_same _ _ _ (by assumption) | exact (World.cell?_setCell_other _ _ _ _ (by simp)).trans (by assumption) | exact (cell_far _ _ _ _ (by dsimp only; omega)).trans ((cell_far _ _ _ _ (by dsimp only; omega)).trans (by assumption)) | simp (disch := omega) [go_sem, *, List.getElem?_cons_zero, List.getElem?_cons_succ])
  have gr41_2 : r41.cell? ⟨r1.heap.size, 2, none⟩ = some (.int .i64 (val e f * pw (min 28 (min (nrc (val a b)) (nrc (val c d)))))) := (hcr41 _ _ (by (try simp only [World.size_alloc, World.size_setCell]); omega)).trans (by with_reducible first | assumption | exact (World.cell?_alloc_lt _ _ _ (by omega)).trans (by assumption) | exact World.cell?_setCell_same _ _ _ (by assumption) | exact (World.cell?_setCell_other _ _ _ _ (by simp)).trans (by assumption) | exact (cell_far _ _ _ _ (by dsimp only; omega)).trans ((cell_far _ _ _ _ (by dsimp only; omega)).trans (by assumption)) | simp (disch := omega) [go_sem, *, List.getElem?_cons_zero, List.getElem?_cons_succ])
  go_wp2_with fail
  rw [rounds_succ]
  go_wp2_with fail
  refine (vquot_any (val e f * pw (min 28 (min (nrc (val a b)) (nrc (val c d)))) * 134217728) (isq (val a b * pw (min 28 (min (nrc (val a b)) (nrc (val c d)))) * (val a b * pw (min 28 (min (nrc (val a b)) (nrc (val c d))))) + val c d * pw (min 28 (min (nrc (val a b)) (nrc (val c d)))) * (val c d * pw (min 28 (min (nrc (val a b)) (nrc (val c d))))) + val e f * pw (min 28 (min (nrc (val a b)) (nrc (val c d)))) * (val e f * pw (min 28 (min (nrc (val a b)) (nrc (val c d))))))) (by omega) (by omega) (by omega) (by omega) _).mono ?_
  rintro _ r32 ⟨rfl, hbr32⟩
  obtain ⟨hcr32, hfr32⟩ := bcell hbr32
  have hzr32 := hbr32.size
  try simp only [World.size_alloc, World.size_setCell, World.size_drew] at hzr32
  have hlr32w0 : w.heap.size < r32.heap.size := by omega
  have hlr32w1 : w.heap.size + 1 < r32.heap.size := by omega
  have hlr32r10 : r1.heap.size < r32.heap.size := by omega
  have hlr32r220 : r22.heap.size < r32.heap.size := by omega
  have gr32_0 : r32.cell? ⟨r1.heap.size, 0, none⟩ = some (.int .i64 (val a b * pw (min 28 (min (nrc (val a b)) (nrc (val c d)))))) := (hcr32 _ _ (by (try simp only [World.size_alloc, World.size_setCell]); omega)).trans (by with_reducible first | assumption | exact (World.cell?_alloc_lt _ _ _ (by omega)).trans (by assumption) | exact World.cell?_setCell_same _ _ _ (by assumption) | exact (World.cell?_setCell_other _ _ _ _ (by simp)).trans (by assumption) | exact (cell_far _ _ _ _ (by dsimp only; omega)).trans ((cell_far _ _ _ _ (by dsimp only; omega)).trans (by assumption)) | simp (disch := omega) [go_sem, *, List.getElem?_cons_zero, List.getElem?_cons_succ])
  have gr32_1 : r32.cell? ⟨r1.heap.size, 1, none⟩ = some (.int .i64 (val c d * pw (min 28 (min (nrc (val a b)) (nrc (val c d)))))) := (hcr32 _ _ (by (try simp only [World.size_alloc, World.size_setCell]); omega)).trans (by with_reducible first | assumption | exact (World.cell?_alloc_lt _ _ _ (by omega)).trans (by assumption) | exact World.cell?_setCell_same _ _ _ (by assumption) | exact (World.cell?_setCell_other _ _ _ _ (by simp)).trans (by assumption) | exact (cell_far _ _ _ _ (by dsimp only; omega)).trans ((cell_far _ _ _ _ (by dsimp only; omega)).trans (by assumption)) | simp (disch := omega) [go_sem, *, List.getElem?_cons_zero, List.getElem?_cons_succ])
  have gr32_2 : r32.cell? ⟨r1.heap.size, 2, none⟩ = some (.int .i64 (val e f * pw (min 28 (min (nrc (val a b)) (nrc (val c d)))))) := (hcr32 _ _ (by (try simp only [World.size_alloc, World.size_setCell]); omega)).trans (by with_reducible first | assumption | exact (World.cell?_alloc_lt _ _ _ (by omega)).trans (by assumption) | exact World.cell?_setCell_same _ _ _ (by assumption) | exact (World.cell?_setCell_other _ _ _ _ (by simp)).trans (by assumption) | exact (cell_far _ _ _ _ (by dsimp only; omega)).trans ((cell_far _ _ _ _ (by dsimp only; omega)).trans (by assumption)) | simp (disch := omega) [go_sem, *, List.getElem?_cons_zero, List.getElem?_cons_succ])
  go_wp2_with fail
  refine (clamp_any (rnd (val e f * pw (min 28 (min (nrc (val a b)) (nrc (val c d)))) * 134217728) (isq (val a b * pw (min 28 (min (nrc (val a b)) (nrc (val c d)))) * (val a b * pw (min 28 (min (nrc (val a b)) (nrc (val c d))))) + val c d * pw (min 28 (min (nrc (val a b)) (nrc (val c d)))) * (val c d * pw (min 28 (min (nrc (val a b)) (nrc (val c d))))) + val e f * pw (min 28 (min (nrc (val a b)) (nrc (val c d)))) * (val e f * pw (min 28 (min (nrc (val a b)) (nrc (val c d)))))))) _).mono ?_
  rintro _ r42 ⟨rfl, hbr42⟩
  obtain ⟨hcr42, hfr42⟩ := bcell hbr42
  have hzr42 := hbr42.size
  try simp only [World.size_alloc, World.size_setCell, World.size_drew] at hzr42
  have hlr42w0 : w.heap.size < r42.heap.size := by omega
  have hlr42w1 : w.heap.size + 1 < r42.heap.size := by omega
  have hlr42r10 : r1.heap.size < r42.heap.size := by omega
  have hlr42r220 : r22.heap.size < r42.heap.size := by omega
  have gr42_0 : r42.cell? ⟨r1.heap.size, 0, none⟩ = some (.int .i64 (val a b * pw (min 28 (min (nrc (val a b)) (nrc (val c d)))))) := (hcr42 _ _ (by (try simp only [World.size_alloc, World.size_setCell]); omega)).trans (by with_reducible first | assumption | exact (World.cell?_alloc_lt _ _ _ (by omega)).trans (by assumption) | exact World.cell?_setCell_same _ _ _ (by assumption) | exact (World.cell?_setCell_other _ _ _ _ (by simp)).trans (by assumption) | exact (cell_far _ _ _ _ (by dsimp only; omega)).trans ((cell_far _ _ _ _ (by dsimp only; omega)).trans (by assumption)) | simp (disch := omega) [go_sem, *, List.getElem?_cons_zero, List.getElem?_cons_succ])
  have gr42_1 : r42.cell? ⟨r1.heap.size, 1, none⟩ = some (.int .i64 (val c d * pw (min 28 (min (nrc (val a b)) (nrc (val c d)))))) := (hcr42 _ _ (by (try simp only [World.size_alloc, World.size_setCell]); omega)).trans (by with_reducible first | assumption | exact (World.cell?_alloc_lt _ _ _ (by omega)).trans (by assumption) | exact World.cell?_setCell_same _ _ _ (by assumption) | exact (World.cell?_setCell_other _ _ _ _ (by simp)).trans (by assumption) | exact (cell_far _ _ _ _ (by dsimp only; omega)).trans ((cell_far _ _ _ _ (by dsimp only; omega)).trans (by assumption)) | simp (disch := omega) [go_sem, *, List.getElem?_cons_zero, List.getElem?_cons_succ])
  have gr42_2 : r42.cell? ⟨r1.heap.size, 2, none⟩ = some (.int .i64 (val e f * pw (min 28 (min (nrc (val a b)) (nrc (val c d)))))) := (hcr42 _ _ (by (try simp only [World.size_alloc, World.size_setCell]); omega)).trans (by with_reducible first | assumption | exact (World.cell?_alloc_lt _ _ _ (by omega)).trans (by assumption) | exact World.cell?_setCell_same _ _ _ (by assumption) | exact (World.cell?_setCell_other _ _ _ _ (by simp)).trans (by assumption) | exact (cell_far _ _ _ _ (by dsimp only; omega)).trans ((cell_far _ _ _ _ (by dsimp only; omega)).trans (by assumption)) | simp (disch := omega) [go_sem, *, List.getElem?_cons_zero, List.getElem?_cons_succ])
  go_wp2_with fail
  rw [rounds_succ]
  go_wp2
  refine bodyPost_ret (v := (.tuple #[(.agg #[.int .u16 (hi (sat (rnd (val a b * pw (min 28 (min (nrc (val a b)) (nrc (val c d)))) * 134217728) (isq (val a b * pw (min 28 (min (nrc (val a b)) (nrc (val c d)))) * (val a b * pw (min 28 (min (nrc (val a b)) (nrc (val c d))))) + val c d * pw (min 28 (min (nrc (val a b)) (nrc (val c d)))) * (val c d * pw (min 28 (min (nrc (val a b)) (nrc (val c d))))) + val e f * pw (min 28 (min (nrc (val a b)) (nrc (val c d)))) * (val e f * pw (min 28 (min (nrc (val a b)) (nrc (val c d)))))))) 268435455)), .int .u16 (lo (sat (rnd (val a b * pw (min 28 (min (nrc (val a b)) (nrc (val c d)))) * 134217728) (isq (val a b * pw (min 28 (min (nrc (val a b)) (nrc (val c d)))) * (val a b * pw (min 28 (min (nrc (val a b)) (nrc (val c d))))) + val c d * pw (min 28 (min (nrc (val a b)) (nrc (val c d)))) * (val c d * pw (min 28 (min (nrc (val a b)) (nrc (val c d))))) + val e f * pw (min 28 (min (nrc (val a b)) (nrc (val c d)))) * (val e f * pw (min 28 (min (nrc (val a b)) (nrc (val c d)))))))) 268435455)), .int .u16 (hi (sat (rnd (val c d * pw (min 28 (min (nrc (val a b)) (nrc (val c d)))) * 134217728) (isq (val a b * pw (min 28 (min (nrc (val a b)) (nrc (val c d)))) * (val a b * pw (min 28 (min (nrc (val a b)) (nrc (val c d))))) + val c d * pw (min 28 (min (nrc (val a b)) (nrc (val c d)))) * (val c d * pw (min 28 (min (nrc (val a b)) (nrc (val c d))))) + val e f * pw (min 28 (min (nrc (val a b)) (nrc (val c d)))) * (val e f * pw (min 28 (min (nrc (val a b)) (nrc (val c d)))))))) 268435455)), .int .u16 (lo (sat (rnd (val c d * pw (min 28 (min (nrc (val a b)) (nrc (val c d)))) * 134217728) (isq (val a b * pw (min 28 (min (nrc (val a b)) (nrc (val c d)))) * (val a b * pw (min 28 (min (nrc (val a b)) (nrc (val c d))))) + val c d * pw (min 28 (min (nrc (val a b)) (nrc (val c d)))) * (val c d * pw (min 28 (min (nrc (val a b)) (nrc (val c d))))) + val e f * pw (min 28 (min (nrc (val a b)) (nrc (val c d)))) * (val e f * pw (min 28 (min (nrc (val a b)) (nrc (val c d)))))))) 268435455)), .int .u16 (hi (sat (rnd (val e f * pw (min 28 (min (nrc (val a b)) (nrc (val c d)))) * 134217728) (isq (val a b * pw (min 28 (min (nrc (val a b)) (nrc (val c d)))) * (val a b * pw (min 28 (min (nrc (val a b)) (nrc (val c d))))) + val c d * pw (min 28 (min (nrc (val a b)) (nrc (val c d)))) * (val c d * pw (min 28 (min (nrc (val a b)) (nrc (val c d))))) + val e f * pw (min 28 (min (nrc (val a b)) (nrc (val c d)))) * (val e f * pw (min 28 (min (nrc (val a b)) (nrc (val c d)))))))) 268435455)), .int .u16 (lo (sat (rnd (val e f * pw (min 28 (min (nrc (val a b)) (nrc (val c d)))) * 134217728) (isq (val a b * pw (min 28 (min (nrc (val a b)) (nrc (val c d)))) * (val a b * pw (min 28 (min (nrc (val a b)) (nrc (val c d))))) + val c d * pw (min 28 (min (nrc (val a b)) (nrc (val c d)))) * (val c d * pw (min 28 (min (nrc (val a b)) (nrc (val c d))))) + val e f * pw (min 28 (min (nrc (val a b)) (nrc (val c d)))) * (val e f * pw (min 28 (min (nrc (val a b)) (nrc (val c d)))))))) 268435455))]), .bool false])) (by simp [results, Tryd.results40, go_sem, *]) rfl ⟨rfl, ?_⟩; exact (by repeat' (first | (with_reducible exact Below.refl _ _) | (with_reducible refine bl_set ?_ _ ?_) | (with_reducible refine bl_alloc ?_ _) | (with_reducible refine bl_drew ?_) | (with_reducible refine bl_via (by with_reducible assumption) ?_) | (with_reducible assumption) | omega | (simp only []; omega) | (simp; omega)))

set_option maxRecDepth 100000 in
set_option maxHeartbeats 4000000 in
theorem unit_100 (a b c d e f : Int) (ha0 : 0 ≤ a) (ha1 : a < 65536) (hb0 : 0 ≤ b) (hb1 : b < 65536) (hc0 : 0 ≤ c) (hc1 : c < 65536) (hd0 : 0 ≤ d) (hd1 : d < 65536) (he0 : 0 ≤ e) (he1 : e < 65536) (hf0 : 0 ≤ f) (hf1 : f < 65536) (h0 : ¬ val a b = 0) (h1 : val c d = 0) (h2 : val e f = 0) (w : World) :
    Calls Tryd.prog 40 #[(.agg #[.int .u16 (a), .int .u16 (b), .int .u16 (c), .int .u16 (d), .int .u16 (e), .int .u16 (f)])] w fun r w' => r = .returned (.tuple #[(.agg #[.int .u16 (hi (sat (rnd (val a b * pw (min 28 (nrc (val a b))) * 134217728) (isq (val a b * pw (min 28 (nrc (val a b))) * (val a b * pw (min 28 (nrc (val a b)))) + val c d * pw (min 28 (nrc (val a b))) * (val c d * pw (min 28 (nrc (val a b)))) + val e f * pw (min 28 (nrc (val a b))) * (val e f * pw (min 28 (nrc (val a b))))))) 268435455)), .int .u16 (lo (sat (rnd (val a b * pw (min 28 (nrc (val a b))) * 134217728) (isq (val a b * pw (min 28 (nrc (val a b))) * (val a b * pw (min 28 (nrc (val a b)))) + val c d * pw (min 28 (nrc (val a b))) * (val c d * pw (min 28 (nrc (val a b)))) + val e f * pw (min 28 (nrc (val a b))) * (val e f * pw (min 28 (nrc (val a b))))))) 268435455)), .int .u16 (hi (sat (rnd (val c d * pw (min 28 (nrc (val a b))) * 134217728) (isq (val a b * pw (min 28 (nrc (val a b))) * (val a b * pw (min 28 (nrc (val a b)))) + val c d * pw (min 28 (nrc (val a b))) * (val c d * pw (min 28 (nrc (val a b)))) + val e f * pw (min 28 (nrc (val a b))) * (val e f * pw (min 28 (nrc (val a b))))))) 268435455)), .int .u16 (lo (sat (rnd (val c d * pw (min 28 (nrc (val a b))) * 134217728) (isq (val a b * pw (min 28 (nrc (val a b))) * (val a b * pw (min 28 (nrc (val a b)))) + val c d * pw (min 28 (nrc (val a b))) * (val c d * pw (min 28 (nrc (val a b)))) + val e f * pw (min 28 (nrc (val a b))) * (val e f * pw (min 28 (nrc (val a b))))))) 268435455)), .int .u16 (hi (sat (rnd (val e f * pw (min 28 (nrc (val a b))) * 134217728) (isq (val a b * pw (min 28 (nrc (val a b))) * (val a b * pw (min 28 (nrc (val a b)))) + val c d * pw (min 28 (nrc (val a b))) * (val c d * pw (min 28 (nrc (val a b)))) + val e f * pw (min 28 (nrc (val a b))) * (val e f * pw (min 28 (nrc (val a b))))))) 268435455)), .int .u16 (lo (sat (rnd (val e f * pw (min 28 (nrc (val a b))) * 134217728) (isq (val a b * pw (min 28 (nrc (val a b))) * (val a b * pw (min 28 (nrc (val a b)))) + val c d * pw (min 28 (nrc (val a b))) * (val c d * pw (min 28 (nrc (val a b)))) + val e f * pw (min 28 (nrc (val a b))) * (val e f * pw (min 28 (nrc (val a b))))))) 268435455))]), .bool false]) ∧ Below w.heap.size w w' := by
  have l0 := nrc_in (val a b) h0 (val_lo _ _) (val_hi _ _)
  obtain ⟨⟨u0, u1⟩, ⟨x0, x1⟩, ⟨y0, y1⟩, ⟨z0, z1⟩, ⟨x2, x3⟩, ⟨y2, y3⟩, ⟨z2, z3⟩, n0, i0, i1⟩ := unit_facts (val a b) (val c d) (val e f) (min 28 (nrc (val a b))) (val_lo _ _) (val_hi _ _) (val_lo _ _) (val_hi _ _) (val_lo _ _) (val_hi _ _) (by omega) (by omega) (by omega) (by omega)
  have hp := pw_pos (min 28 (nrc (val a b)))
  have hp2 := pw_le28 (min 28 (nrc (val a b))) (by omega)
  have hw : wrap64 (2 ^ (min 28 (nrc (val a b))).toNat) = pw (min 28 (nrc (val a b))) := wrap64_in _ (by show _ ≤ pw _; omega) (by show pw _ ≤ _; omega)
  have heq := @eq_i3
  have k0 : (val a b == 0) = false := by simpa using h0
  have k1 : (val c d == 0) = true := by simpa using h1
  have k2 : (val e f == 0) = true := by simpa using h2
  clear h0 h1 h2 l0
  go_enter Tryd.func40, Tryd.ntmps40
  go_wp2_with fail
  refine (values_any a b c d e f ha0 ha1 hb0 hb1 hc0 hc1 hd0 hd1 he0 he1 hf0 hf1 _).mono ?_
  rintro _ r1 ⟨rfl, hbr1⟩
  obtain ⟨hcr1, hfr1⟩ := bcell hbr1
  have hzr1 := hbr1.size
  try simp only [World.size_alloc, World.size_setCell, World.size_drew] at hzr1
  have hlr1w0 : w.heap.size < r1.heap.size := by omega
  have hlr1w1 : w.heap.size + 1 < r1.heap.size := by omega
  go_wp2_with fail
  refine wp_loop_rounds 4 ?_
  rw [rounds_succ]
  go_wp2_with fail
  go_wp2_with fail
  refine (normal_all a b ha0 ha1 hb0 hb1 _).mono ?_
  rintro _ r2 ⟨rfl, hbr2⟩
  obtain ⟨hcr2, hfr2⟩ := bcell hbr2
  have hzr2 := hbr2.size
  try simp only [World.size_alloc, World.size_setCell, World.size_drew] at hzr2
  have hlr2w0 : w.heap.size < r2.heap.size := by omega
  have hlr2w1 : w.heap.size + 1 < r2.heap.size := by omega
  have hlr2r10 : r1.heap.size < r2.heap.size := by omega
  have gr2_0 : r2.cell? ⟨r1.heap.size, 0, none⟩ = some (.int .i64 (val a b)) := (hcr2 _ _ (by (try simp only [World.size_alloc, World.size_setCell]); omega)).trans (by with_reducible first | assumption | exact (World.cell?_alloc_lt _ _ _ (by omega)).trans (by assumption) | exact World.cell?_setCell_same _ _ _ (by assumption) | exact (World.cell?_setCell_other _ _ _ _ (by simp)).trans (by assumption) | exact (cell_far _ _ _ _ (by dsimp only; omega)).trans ((cell_far _ _ _ _ (by dsimp only; omega)).trans (by assumption)) | simp (disch := omega) [go_sem, *, List.getElem?_cons_zero, List.getElem?_cons_succ])
  have gr2_1 : r2.cell? ⟨r1.heap.size, 1, none⟩ = some (.int .i64 (val c d)) := (hcr2 _ _ (by (try simp only [World.size_alloc, World.size_setCell]); omega)).trans (by with_reducible first | assumption | exact (World.cell?_alloc_lt _ _ _ (by omega)).trans (by assumption) | exact World.cell?_setCell_same _ _ _ (by assumption) | exact (World.cell?_setCell_other _ _ _ _ (by simp)).trans (by assumption) | exact (cell_far _ _ _ _ (by dsimp only; omega)).trans ((cell_far _ _ _ _ (by dsimp only; omega)).trans (by assumption)) | simp (disch := omega) [go_sem, *, List.getElem?_cons_zero, List.getElem?_cons_succ])
  have gr2_2 : r2.cell? ⟨r1.heap.size, 2, none⟩ = some (.int .i64 (val e f)) := (hcr2 _ _ (by (try simp only [World.size_alloc, World.size_setCell]); omega)).trans (by with_reducible first | assumption | exact (World.cell?_alloc_lt _ _ _ (by omega)).trans (by assumption) | exact World.cell?_setCell_same _ _ _ (by assumption) | exact (World.cell?_setCell_other _ _ _ _ (by simp)).trans (by assumption) | exact (cell_far _ _ _ _ (by dsimp only; omega)).trans ((cell_far _ _ _ _ (by dsimp only; omega)).trans (by assumption)) | simp (disch := omega) [go_sem, *, List.getElem?_cons_zero, List.getElem?_cons_succ])
  go_wp2_with fail
  rw [rounds_succ]
  go_wp2_with fail
  go_wp2_with fail
  refine (normal_all c d hc0 hc1 hd0 hd1 _).mono ?_
  rintro _ r3 ⟨rfl, hbr3⟩
  obtain ⟨hcr3, hfr3⟩ := bcell hbr3
  have hzr3 := hbr3.size
  try simp only [World.size_alloc, World.size_setCell, World.size_drew] at hzr3
  have hlr3w0 : w.heap.size < r3.heap.size := by omega
  have hlr3w1 : w.heap.size + 1 < r3.heap.size := by omega
  have hlr3r10 : r1.heap.size < r3.heap.size := by omega
  have hlr3r20 : r2.heap.size < r3.heap.size := by omega
  have gr3_0 : r3.cell? ⟨r1.heap.size, 0, none⟩ = some (.int .i64 (val a b)) := (hcr3 _ _ (by (try simp only [World.size_alloc, World.size_setCell]); omega)).trans (by with_reducible first | assumption | exact (World.cell?_alloc_lt _ _ _ (by omega)).trans (by assumption) | exact World.cell?_setCell_same _ _ _ (by assumption) | exact (World.cell?_setCell_other _ _ _ _ (by simp)).trans (by assumption) | exact (cell_far _ _ _ _ (by dsimp only; omega)).trans ((cell_far _ _ _ _ (by dsimp only; omega)).trans (by assumption)) | simp (disch := omega) [go_sem, *, List.getElem?_cons_zero, List.getElem?_cons_succ])
  have gr3_1 : r3.cell? ⟨r1.heap.size, 1, none⟩ = some (.int .i64 (val c d)) := (hcr3 _ _ (by (try simp only [World.size_alloc, World.size_setCell]); omega)).trans (by with_reducible first | assumption | exact (World.cell?_alloc_lt _ _ _ (by omega)).trans (by assumption) | exact World.cell?_setCell_same _ _ _ (by assumption) | exact (World.cell?_setCell_other _ _ _ _ (by simp)).trans (by assumption) | exact (cell_far _ _ _ _ (by dsimp only; omega)).trans ((cell_far _ _ _ _ (by dsimp only; omega)).trans (by assumption)) | simp (disch := omega) [go_sem, *, List.getElem?_cons_zero, List.getElem?_cons_succ])
  have gr3_2 : r3.cell? ⟨r1.heap.size, 2, none⟩ = some (.int .i64 (val e f)) := (hcr3 _ _ (by (try simp only [World.size_alloc, World.size_setCell]); omega)).trans (by with_reducible first | assumption | exact (World.cell?_alloc_lt _ _ _ (by omega)).trans (by assumption) | exact World.cell?_setCell_same _ _ _ (by assumption) | exact (World.cell?_setCell_other _ _ _ _ (by simp)).trans (by assumption) | exact (cell_far _ _ _ _ (by dsimp only; omega)).trans ((cell_far _ _ _ _ (by dsimp only; omega)).trans (by assumption)) | simp (disch := omega) [go_sem, *, List.getElem?_cons_zero, List.getElem?_cons_succ])
  go_wp2_with fail
  rw [rounds_succ]
  go_wp2_with fail
  go_wp2_with fail
  refine (normal_all e f he0 he1 hf0 hf1 _).mono ?_
  rintro _ r4 ⟨rfl, hbr4⟩
  obtain ⟨hcr4, hfr4⟩ := bcell hbr4
  have hzr4 := hbr4.size
  try simp only [World.size_alloc, World.size_setCell, World.size_drew] at hzr4
  have hlr4w0 : w.heap.size < r4.heap.size := by omega
  have hlr4w1 : w.heap.size + 1 < r4.heap.size := by omega
  have hlr4r10 : r1.heap.size < r4.heap.size := by omega
  have hlr4r20 : r2.heap.size < r4.heap.size := by omega
  have hlr4r30 : r3.heap.size < r4.heap.size := by omega
  have gr4_0 : r4.cell? ⟨r1.heap.size, 0, none⟩ = some (.int .i64 (val a b)) := (hcr4 _ _ (by (try simp only [World.size_alloc, World.size_setCell]); omega)).trans (by with_reducible first | assumption | exact (World.cell?_alloc_lt _ _ _ (by omega)).trans (by assumption) | exact World.cell?_setCell_same _ _ _ (by assumption) | exact (World.cell?_setCell_other _ _ _ _ (by simp)).trans (by assumption) | exact (cell_far _ _ _ _ (by dsimp only; omega)).trans ((cell_far _ _ _ _ (by dsimp only; omega)).trans (by assumption)) | simp (disch := omega) [go_sem, *, List.getElem?_cons_zero, List.getElem?_cons_succ])
  have gr4_1 : r4.cell? ⟨r1.heap.size, 1, none⟩ = some (.int .i64 (val c d)) := (hcr4 _ _ (by (try simp only [World.size_alloc, World.size_setCell]); omega)).trans (by with_reducible first | assumption | exact (World.cell?_alloc_lt _ _ _ (by omega)).trans (by assumption) | exact World.cell?_setCell_same _ _ _ (by assumption) | exact (World.cell?_setCell_other _ _ _ _ (by simp)).trans (by assumption) | exact (cell_far _ _ _ _ (by dsimp only; omega)).trans ((cell_far _ _ _ _ (by dsimp only; omega)).trans (by assumption)) | simp (disch := omega) [go_sem, *, List.getElem?_cons_zero, List.getElem?_cons_succ])
  have gr4_2 : r4.cell? ⟨r1.heap.size, 2, none⟩ = some (.int .i64 (val e f)) := (hcr4 _ _ (by (try simp only [World.size_alloc, World.size_setCell]); omega)).trans (by with_reducible first | assumption | exact (World.cell?_alloc_lt _ _ _ (by omega)).trans (by assumption) | exact World.cell?_setCell_same _ _ _ (by assumption) | exact (World.cell?_setCell_other _ _ _ _ (by simp)).trans (by assumption) | exact (cell_far _ _ _ _ (by dsimp only; omega)).trans ((cell_far _ _ _ _ (by dsimp only; omega)).trans (by assumption)) | simp (disch := omega) [go_sem, *, List.getElem?_cons_zero, List.getElem?_cons_succ])
  go_wp2_with fail
  rw [rounds_succ]
  go_wp2_with fail
  refine wp_loop_rounds 4 ?_
  rw [rounds_succ]
  go_wp2_with fail
  have hecr10 := @Ext.cell
  refine wp_region_ext_tail 7 (by kernel_rfl) (by kernel_rfl) ?_
  simp only [List.take_succ_cons, List.take_zero, List.drop_succ_cons, List.drop_zero]
  repeat (first | go_big_quiet_skip | (go_big_quiet_want; go_big_quiet_op; first | go_big_quiet_on | (go_big_quiet_call ((first | fail | fail)))))
  clear hecr10
  refine wpQuiet_nil ?_
  rintro r10 ⟨⟨_, hbr10⟩, rfl⟩
  obtain ⟨hcr10, hfr10⟩ := bcell hbr10
  have hzr10 := hbr10.size
  try simp only [World.size_alloc, World.size_setCell, World.size_drew] at hzr10
  have hlr10w0 : w.heap.size < r10.heap.size := by omega
  have hlr10w1 : w.heap.size + 1 < r10.heap.size := by omega
  have hlr10r10 : r1.heap.size < r10.heap.size := by omega
  have gr10_0 : r10.cell? ⟨r1.heap.size, 0, none⟩ = some (.int .i64 (val a b)) := (hcr10 _ _ (by (try simp only [World.size_alloc, World.size_setCell]); omega)).trans (by with_reducible first | assumption | exact (World.cell?_alloc_lt _ _ _ (by omega)).trans (by assumption) | exact World.cell?_setCell_same _ _ _ (by assumption) | exact (World.cell?_setCell_other _ _ _ _ (by simp)).trans (by assumption) | exact (cell_far _ _ _ _ (by dsimp only; omega)).trans ((cell_far _ _ _ _ (by dsimp only; omega)).trans (by assumption)) | simp (disch := omega) [go_sem, *, List.getElem?_cons_zero, List.getElem?_cons_succ])
  have gr10_1 : r10.cell? ⟨r1.heap.size, 1, none⟩ = some (.int .i64 (val c d)) := (hcr10 _ _ (by (try simp only [World.size_alloc, World.size_setCell]); omega)).trans (by with_reducible first | assumption | exact (World.cell?_alloc_lt _ _ _ (by omega)).trans (by assumption) | exact World.cell?_setCell_same _ _ _ (by assumption) | exact (World.cell?_setCell_other _ _ _ _ (by simp)).trans (by assumption) | exact (cell_far _ _ _ _ (by dsimp only; omega)).trans ((cell_far _ _ _ _ (by dsimp only; omega)).trans (by assumption)) | simp (disch := omega) [go_sem, *, List.getElem?_cons_zero, List.getElem?_cons_succ])
  have gr10_2 : r10.cell? ⟨r1.heap.size, 2, none⟩ = some (.int .i64 (val e f)) := (hcr10 _ _ (by (try simp only [World.size_alloc, World.size_setCell]); omega)).trans (by with_reducible first | assumption | exact (World.cell?_alloc_lt _ _ _ (by omega)).trans (by assumption) | exact World.cell?_setCell_same _ _ _ (by assumption) | exact (World.cell?_setCell_other _ _ _ _ (by simp)).trans (by assumption) | exact (cell_far _ _ _ _ (by dsimp only; omega)).trans ((cell_far _ _ _ _ (by dsimp only; omega)).trans (by assumption)) | simp (disch := omega) [go_sem, *, List.getElem?_cons_zero, List.getElem?_cons_succ])
  go_wp2_with fail
  have hecr20 := @Ext.cell
  refine wp_region_ext (by kernel_rfl) (by kernel_rfl) ?_
  repeat (first | go_big_quiet_skip | (go_big_quiet_want; go_big_quiet_op; first | go_big_quiet_on | (go_big_quiet_call ((first | fail | fail)))))
  clear hecr20
  refine wpQuiet_nil ?_
  rintro r20 ⟨⟨_, hbr20⟩, rfl⟩
  obtain ⟨hcr20, hfr20⟩ := bcell hbr20
  have hzr20 := hbr20.size
  try simp only [World.size_alloc, World.size_setCell, World.size_drew] at hzr20
  have hlr20w0 : w.heap.size < r20.heap.size := by omega
  have hlr20w1 : w.heap.size + 1 < r20.heap.size := by omega
  have hlr20r10 : r1.heap.size < r20.heap.size := by omega
  have gr20_0 : r20.cell? ⟨r1.heap.size, 0, none⟩ = some (.int .i64 (val a b * pw (min 28 (nrc (val a b))))) := (hcr20 _ _ (by (try simp only [World.size_alloc, World.size_setCell]); omega)).trans (by with_reducible first | assumption | exact (World.cell?_alloc_lt _ _ _ (by omega)).trans (by assumption) | exact World.cell?_setCell_same _ _ _ (by assumption) | exact (World.cell?_setCell_other _ _ _ _ (by simp)).trans (by assumption) | exact (cell_far _ _ _ _ (by dsimp only; omega)).trans ((cell_far _ _ _ _ (by dsimp only; omega)).trans (by assumption)) | simp (disch := omega) [go_sem, *, List.getElem?_cons_zero, List.getElem?_cons_succ])
  have gr20_1 : r20.cell? ⟨r1.heap.size, 1, none⟩ = some (.int .i64 (val c d)) := (hcr20 _ _ (by (try simp only [World.size_alloc, World.size_setCell]); omega)).trans (by with_reducible first | assumption | exact (World.cell?_alloc_lt _ _ _ (by omega)).trans (by assumption) | exact World.cell?_setCell_same _ _ _ (by assumption) | exact (World.cell?_setCell_other _ _ _ _ (by simp)).trans (by assumption) | exact (cell_far _ _ _ _ (by dsimp only; omega)).trans ((cell_far _ _ _ _ (by dsimp only; omega)).trans (by assumption)) | simp (disch := omega) [go_sem, *, List.getElem?_cons_zero, List.getElem?_cons_succ])
  have gr20_2 : r20.cell? ⟨r1.heap.size, 2, none⟩ = some (.int .i64 (val e f)) := (hcr20 _ _ (by (try simp only [World.size_alloc, World.size_setCell]); omega)).trans (by with_reducible first | assumption | exact (World.cell?_alloc_lt _ _ _ (by omega)).trans (by assumption) | exact World.cell?_setCell_same _ _ _ (by assumption) | exact (World.cell?_setCell_other _ _ _ _ (by simp)).trans (by assumption) | exact (cell_far _ _ _ _ (by dsimp only; omega)).trans ((cell_far _ _ _ _ (by dsimp only; omega)).trans (by assumption)) | simp (disch := omega) [go_sem, *, List.getElem?_cons_zero, List.getElem?_cons_succ])
  go_wp2_with fail
  rw [rounds_succ]
  go_wp2_with fail
  have hecr11 := @Ext.cell
  refine wp_region_ext_tail 7 (by kernel_rfl) (by kernel_rfl) ?_
  simp only [List.take_succ_cons, List.take_zero, List.drop_succ_cons, List.drop_zero]
  repeat (first | go_big_quiet_skip | (go_big_quiet_want; go_big_quiet_op; first | go_big_quiet_on | (go_big_quiet_call ((first | fail | fail)))))
  clear hecr11
  refine wpQuiet_nil ?_
  rintro r11 ⟨⟨_, hbr11⟩, rfl⟩
  obtain ⟨hcr11, hfr11⟩ := bcell hbr11
  have hzr11 := hbr11.size
  try simp only [World.size_alloc, World.size_setCell, World.size_drew] at hzr11
  have hlr11w0 : w.heap.size < r11.heap.size := by omega
  have hlr11w1 : w.heap.size + 1 < r11.heap.size := by omega
  have hlr11r10 : r1.heap.size < r11.heap.size := by omega
  have gr11_0 : r11.cell? ⟨r1.heap.size, 0, none⟩ = some (.int .i64 (val a b * pw (min 28 (nrc (val a b))))) := (hcr11 _ _ (by (try simp only [World.size_alloc, World.size_setCell]); omega)).trans (by with_reducible first | assumption | exact (World.cell?_alloc_lt _ _ _ (by omega)).trans (by assumption) | exact World.cell?_setCell_same _ _ _ (by assumption) | exact (World.cell?_setCell_other _ _ _ _ (by simp)).trans (by assumption) | exact (cell_far _ _ _ _ (by dsimp only; omega)).trans ((cell_far _ _ _ _ (by dsimp only; omega)).trans (by assumption)) | simp (disch := omega) [go_sem, *, List.getElem?_cons_zero, List.getElem?_cons_succ])
  have gr11_1 : r11.cell? ⟨r1.heap.size, 1, none⟩ = some (.int .i64 (val c d)) := (hcr11 _ _ (by (try simp only [World.size_alloc, World.size_setCell]); omega)).trans (by with_reducible first | assumption | exact (World.cell?_alloc_lt _ _ _ (by omega)).trans (by assumption) | exact World.cell?_setCell_same _ _ _ (by assumption) | exact (World.cell?_setCell_other _ _ _ _ (by simp)).trans (by assumption) | exact (cell_far _ _ _ _ (by dsimp only; omega)).trans ((cell_far _ _ _ _ (by dsimp only; omega)).trans (by assumption)) | simp (disch := omega) [go_sem, *, List.getElem?_cons_zero, List.getElem?_cons_succ])
  have gr11_2 : r11.cell? ⟨r1.heap.size, 2, none⟩ = some (.int .i64 (val e f)) := (hcr11 _ _ (by (try simp only [World.size_alloc, World.size_setCell]); omega)).trans (by with_reducible first | assumption | exact (World.cell?_alloc_lt _ _ _ (by omega)).trans (by assumption) | exact World.cell?_setCell_same _ _ _ (by assumption) | exact (World.cell?_setCell_other _ _ _ _ (by simp)).trans (by assumption) | exact (cell_far _ _ _ _ (by dsimp only; omega)).trans ((cell_far _ _ _ _ (by dsimp only; omega)).trans (by assumption)) | simp (disch := omega) [go_sem, *, List.getElem?_cons_zero, List.getElem?_cons_succ])
  go_wp2_with fail
  have hecr21 := @Ext.cell
  refine wp_region_ext (by kernel_rfl) (by kernel_rfl) ?_
  repeat (first | go_big_quiet_skip | (go_big_quiet_want; go_big_quiet_op; first | go_big_quiet_on | (go_big_quiet_call ((first | fail | fail)))))
  clear hecr21
  refine wpQuiet_nil ?_
  rintro r21 ⟨⟨_, hbr21⟩, rfl⟩
  obtain ⟨hcr21, hfr21⟩ := bcell hbr21
  have hzr21 := hbr21.size
  try simp only [World.size_alloc, World.size_setCell, World.size_drew] at hzr21
  have hlr21w0 : w.heap.size < r21.heap.size := by omega
  have hlr21w1 : w.heap.size + 1 < r21.heap.size := by omega
  have hlr21r10 : r1.heap.size < r21.heap.size := by omega
  have gr21_0 : r21.cell? ⟨r1.heap.size, 0, none⟩ = some (.int .i64 (val a b * pw (min 28 (nrc (val a b))))) := (hcr21 _ _ (by (try simp only [World.size_alloc, World.size_setCell]); omega)).trans (by with_reducible first | assumption | exact (World.cell?_alloc_lt _ _ _ (by omega)).trans (by assumption) | exact World.cell?_setCell_same _ _ _ (by assumption) | exact (World.cell?_setCell_other _ _ _ _ (by simp)).trans (by assumption) | exact (cell_far _ _ _ _ (by dsimp only; omega)).trans ((cell_far _ _ _ _ (by dsimp only; omega)).trans (by assumption)) | simp (disch := omega) [go_sem, *, List.getElem?_cons_zero, List.getElem?_cons_succ])
  have gr21_1 : r21.cell? ⟨r1.heap.size, 1, none⟩ = some (.int .i64 (val c d * pw (min 28 (nrc (val a b))))) := (hcr21 _ _ (by (try simp only [World.size_alloc, World.size_setCell]); omega)).trans (by with_reducible first | assumption | exact (World.cell?_alloc_lt _ _ _ (by omega)).trans (by assumption) | exact World.cell?_setCell_same _ _ _ (by assumption) | exact (World.cell?_setCell_other _ _ _ _ (by simp)).trans (by assumption) | exact (cell_far _ _ _ _ (by dsimp only; omega)).trans ((cell_far _ _ _ _ (by dsimp only; omega)).trans (by assumption)) | simp (disch := omega) [go_sem, *, List.getElem?_cons_zero, List.getElem?_cons_succ])
  have gr21_2 : r21.cell? ⟨r1.heap.size, 2, none⟩ = some (.int .i64 (val e f)) := (hcr21 _ _ (by (try simp only [World.size_alloc, World.size_setCell]); omega)).trans (by with_reducible first | assumption | exact (World.cell?_alloc_lt _ _ _ (by omega)).trans (by assumption) | exact World.cell?_setCell_same _ _ _ (by assumption) | exact (World.cell?_setCell_other _ _ _ _ (by simp)).trans (by assumption) | exact (cell_far _ _ _ _ (by dsimp only; omega)).trans ((cell_far _ _ _ _ (by dsimp only; omega)).trans (by assumption)) | simp (disch := omega) [go_sem, *, List.getElem?_cons_zero, List.getElem?_cons_succ])
  go_wp2_with fail
  rw [rounds_succ]
  go_wp2_with fail
  have hecr12 := @Ext.cell
  refine wp_region_ext_tail 7 (by kernel_rfl) (by kernel_rfl) ?_
  simp only [List.take_succ_cons, List.take_zero, List.drop_succ_cons, List.drop_zero]
  repeat (first | go_big_quiet_skip | (go_big_quiet_want; go_big_quiet_op; first | go_big_quiet_on | (go_big_quiet_call ((first | fail | fail)))))
  clear hecr12
  refine wpQuiet_nil ?_
  rintro r12 ⟨⟨_, hbr12⟩, rfl⟩
  obtain ⟨hcr12, hfr12⟩ := bcell hbr12
  have hzr12 := hbr12.size
  try simp only [World.size_alloc, World.size_setCell, World.size_drew] at hzr12
  have hlr12w0 : w.heap.size < r12.heap.size := by omega
  have hlr12w1 : w.heap.size + 1 < r12.heap.size := by omega
  have hlr12r10 : r1.heap.size < r12.heap.size := by omega
  have gr12_0 : r12.cell? ⟨r1.heap.size, 0, none⟩ = some (.int .i64 (val a b * pw (min 28 (nrc (val a b))))) := (hcr12 _ _ (by (try simp only [World.size_alloc, World.size_setCell]); omega)).trans (by with_reducible first | assumption | exact (World.cell?_alloc_lt _ _ _ (by omega)).trans (by assumption) | exact World.cell?_setCell_same _ _ _ (by assumption) | exact (World.cell?_setCell_other _ _ _ _ (by simp)).trans (by assumption) | exact (cell_far _ _ _ _ (by dsimp only; omega)).trans ((cell_far _ _ _ _ (by dsimp only; omega)).trans (by assumption)) | simp (disch := omega) [go_sem, *, List.getElem?_cons_zero, List.getElem?_cons_succ])
  have gr12_1 : r12.cell? ⟨r1.heap.size, 1, none⟩ = some (.int .i64 (val c d * pw (min 28 (nrc (val a b))))) := (hcr12 _ _ (by (try simp only [World.size_alloc, World.size_setCell]); omega)).trans (by with_reducible first | assumption | exact (World.cell?_alloc_lt _ _ _ (by omega)).trans (by assumption) | exact World.cell?_setCell_same _ _ _ (by assumption) | exact (World.cell?_setCell_other _ _ _ _ (by simp)).trans (by assumption) | exact (cell_far _ _ _ _ (by dsimp only; omega)).trans ((cell_far _ _ _ _ (by dsimp only; omega)).trans (by assumption)) | simp (disch := omega) [go_sem, *, List.getElem?_cons_zero, List.getElem?_cons_succ])
  have gr12_2 : r12.cell? ⟨r1.heap.size, 2, none⟩ = some (.int .i64 (val e f)) := (hcr12 _ _ (by (try simp only [World.size_alloc, World.size_setCell]); omega)).trans (by with_reducible first | assumption | exact (World.cell?_alloc_lt _ _ _ (by omega)).trans (by assumption) | exact World.cell?_setCell_same _ _ _ (by assumption) | exact (World.cell?_setCell_other _ _ _ _ (by simp)).trans (by assumption) | exact (cell_far _ _ _ _ (by dsimp only; omega)).trans ((cell_far _ _ _ _ (by dsimp only; omega)).trans (by assumption)) | simp (disch := omega) [go_sem, *, List.getElem?_cons_zero, List.getElem?_cons_succ])
  go_wp2_with fail
  have hecr22 := @Ext.cell
  refine wp_region_ext (by kernel_rfl) (by kernel_rfl) ?_
  repeat (first | go_big_quiet_skip | (go_big_quiet_want; go_big_quiet_op; first | go_big_quiet_on | (go_big_quiet_call ((first | fail | fail)))))
  clear hecr22
  refine wpQuiet_nil ?_
  rintro r22 ⟨⟨_, hbr22⟩, rfl⟩
  obtain ⟨hcr22, hfr22⟩ := bcell hbr22
  have hzr22 := hbr22.size
  try simp only [World.size_alloc, World.size_setCell, World.size_drew] at hzr22
  have hlr22w0 : w.heap.size < r22.heap.size := by omega
  have hlr22w1 : w.heap.size + 1 < r22.heap.size := by omega
  have hlr22r10 : r1.heap.size < r22.heap.size := by omega
  have gr22_0 : r22.cell? ⟨r1.heap.size, 0, none⟩ = some (.int .i64 (val a b * pw (min 28 (nrc (val a b))))) := (hcr22 _ _ (by (try simp only [World.size_alloc, World.size_setCell]); omega)).trans (by with_reducible first | assumption | exact (World.cell?_alloc_lt _ _ _ (by omega)).trans (by assumption) | exact World.cell?_setCell_same _ _ _ (by assumption) | exact (World.cell?_setCell_other _ _ _ _ (by simp)).trans (by assumption) | exact (cell_far _ _ _ _ (by dsimp only; omega)).trans ((cell_far _ _ _ _ (by dsimp only; omega)).trans (by assumption)) | simp (disch := omega) [go_sem, *, List.getElem?_cons_zero, List.getElem?_cons_succ])
  have gr22_1 : r22.cell? ⟨r1.heap.size, 1, none⟩ = some (.int .i64 (val c d * pw (min 28 (nrc (val a b))))) := (hcr22 _ _ (by (try simp only [World.size_alloc, World.size_setCell]); omega)).trans (by with_reducible first | assumption | exact (World.cell?_alloc_lt _ _ _ (by omega)).trans (by assumption) | exact World.cell?_setCell_same _ _ _ (by assumption) | exact (World.cell?_setCell_other _ _ _ _ (by simp)).trans (by assumption) | exact (cell_far _ _ _ _ (by dsimp only; omega)).trans ((cell_far _ _ _ _ (by dsimp only; omega)).trans (by assumption)) | simp (disch := omega) [go_sem, *, List.getElem?_cons_zero, List.getElem?_cons_succ])
  have gr22_2 : r22.cell? ⟨r1.heap.size, 2, none⟩ = some (.int .i64 (val e f * pw (min 28 (nrc (val a b))))) := (hcr22 _ _ (by (try simp only [World.size_alloc, World.size_setCell]); omega)).trans (by with_reducible first | assumption | exact (World.cell?_alloc_lt _ _ _ (by omega)).trans (by assumption) | exact World.cell?_setCell_same _ _ _ (by assumption) | exact (World.cell?_setCell_other _ _ _ _ (by simp)).trans (by assumption) | exact (cell_far _ _ _ _ (by dsimp only; omega)).trans ((cell_far _ _ _ _ (by dsimp only; omega)).trans (by assumption)) | simp (disch := omega) [go_sem, *, List.getElem?_cons_zero, List.getElem?_cons_succ])
  go_wp2_with fail
  rw [rounds_succ]
  go_wp2_with fail
  go_wp2_with fail
  refine (root_any (val a b * pw (min 28 (nrc (val a b))) * (val a b * pw (min 28 (nrc (val a b)))) + val c d * pw (min 28 (nrc (val a b))) * (val c d * pw (min 28 (nrc (val a b)))) + val e f * pw (min 28 (nrc (val a b))) * (val e f * pw (min 28 (nrc (val a b))))) (by omega) (by omega) _).mono ?_
  rintro _ _ ⟨rfl, rfl⟩
  go_wp2_with fail
  refine wp_loop_rounds 4 ?_
  rw [rounds_succ]
  go_wp2_with fail
  refine (vquot_any (val a b * pw (min 28 (nrc (val a b))) * 134217728) (isq (val a b * pw (min 28 (nrc (val a b))) * (val a b * pw (min 28 (nrc (val a b)))) + val c d * pw (min 28 (nrc (val a b))) * (val c d * pw (min 28 (nrc (val a b)))) + val e f * pw (min 28 (nrc (val a b))) * (val e f * pw (min 28 (nrc (val a b)))))) (by omega) (by omega) (by omega) (by omega) _).mono ?_
  rintro _ r30 ⟨rfl, hbr30⟩
  obtain ⟨hcr30, hfr30⟩ := bcell hbr30
  have hzr30 := hbr30.size
  try simp only [World.size_alloc, World.size_setCell, World.size_drew] at hzr30
  have hlr30w0 : w.heap.size < r30.heap.size := by omega
  have hlr30w1 : w.heap.size + 1 < r30.heap.size := by omega
  have hlr30r10 : r1.heap.size < r30.heap.size := by omega
  have hlr30r220 : r22.heap.size < r30.heap.size := by omega
  have gr30_0 : r30.cell? ⟨r1.heap.size, 0, none⟩ = some (.int .i64 (val a b * pw (min 28 (nrc (val a b))))) := (hcr30 _ _ (by (try simp only [World.size_alloc, World.size_setCell]); omega)).trans (by with_reducible first | assumption | exact (World.cell?_alloc_lt _ _ _ (by omega)).trans (by assumption) | exact World.cell?_setCell_same _ _ _ (by assumption) | exact (World.cell?_setCell_other _ _ _ _ (by simp)).trans (by assumption) | exact (cell_far _ _ _ _ (by dsimp only; omega)).trans ((cell_far _ _ _ _ (by dsimp only; omega)).trans (by assumption)) | simp (disch := omega) [go_sem, *, List.getElem?_cons_zero, List.getElem?_cons_succ])
  have gr30_1 : r30.cell? ⟨r1.heap.size, 1, none⟩ = some (.int .i64 (val c d * pw (min 28 (nrc (val a b))))) := (hcr30 _ _ (by (try simp only [World.size_alloc, World.size_setCell]); omega)).trans (by with_reducible first | assumption | exact (World.cell?_alloc_lt _ _ _ (by omega)).trans (by assumption) | exact World.cell?_setCell_same _ _ _ (by assumption) | exact (World.cell?_setCell_other _ _ _ _ (by simp)).trans (by assumption) | exact (cell_far _ _ _ _ (by dsimp only; omega)).trans ((cell_far _ _ _ _ (by dsimp only; omega)).trans (by assumption)) | simp (disch := omega) [go_sem, *, List.getElem?_cons_zero, List.getElem?_cons_succ])
  have gr30_2 : r30.cell? ⟨r1.heap.size, 2, none⟩ = some (.int .i64 (val e f * pw (min 28 (nrc (val a b))))) := (hcr30 _ _ (by (try simp only [World.size_alloc, World.size_setCell]); omega)).trans (by with_reducible first | assumption | exact (World.cell?_alloc_lt _ _ _ (by omega)).trans (by assumption) | exact World.cell?_setCell_same _ _ _ (by assumption) | exact (World.cell?_setCell_other _ _ _ _ (by simp)).trans (by assumption) | exact (cell_far _ _ _ _ (by dsimp only; omega)).trans ((cell_far _ _ _ _ (by dsimp only; omega)).trans (by assumption)) | simp (disch := omega) [go_sem, *, List.getElem?_cons_zero, List.getElem?_cons_succ])
  go_wp2_with fail
  refine (clamp_any (rnd (val a b * pw (min 28 (nrc (val a b))) * 134217728) (isq (val a b * pw (min 28 (nrc (val a b))) * (val a b * pw (min 28 (nrc (val a b)))) + val c d * pw (min 28 (nrc (val a b))) * (val c d * pw (min 28 (nrc (val a b)))) + val e f * pw (min 28 (nrc (val a b))) * (val e f * pw (min 28 (nrc (val a b))))))) _).mono ?_
  rintro _ r40 ⟨rfl, hbr40⟩
  obtain ⟨hcr40, hfr40⟩ := bcell hbr40
  have hzr40 := hbr40.size
  try simp only [World.size_alloc, World.size_setCell, World.size_drew] at hzr40
  have hlr40w0 : w.heap.size < r40.heap.size := by omega
  have hlr40w1 : w.heap.size + 1 < r40.heap.size := by omega
  have hlr40r10 : r1.heap.size < r40.heap.size := by omega
  have hlr40r220 : r22.heap.size < r40.heap.size := by omega
  have gr40_0 : r40.cell? ⟨r1.heap.size, 0, none⟩ = some (.int .i64 (val a b * pw (min 28 (nrc (val a b))))) := (hcr40 _ _ (by (try simp only [World.size_alloc, World.size_setCell]); omega)).trans (by with_reducible first | assumption | exact (World.cell?_alloc_lt _ _ _ (by omega)).trans (by assumption) | exact World.cell?_setCell_same _ _ _ (by assumption) | exact (World.cell?_setCell_other _ _ _ _ (by simp)).trans (by assumption) | exact (cell_far _ _ _ _ (by dsimp only; omega)).trans ((cell_far _ _ _ _ (by dsimp only; omega)).trans (by assumption)) | simp (disch := omega) [go_sem, *, List.getElem?_cons_zero, List.getElem?_cons_succ])
  have gr40_1 : r40.cell? ⟨r1.heap.size, 1, none⟩ = some (.int .i64 (val c d * pw (min 28 (nrc (val a b))))) := (hcr40 _ _ (by (try simp only [World.size_alloc, World.size_setCell]); omega)).trans (by with_reducible first | assumption | exact (World.cell?_alloc_lt _ _ _ (by omega)).trans (by assumption) | exact World.cell?_setCell_same _ _ _ (by assumption) | exact (World.cell?_setCell_other _ _ _ _ (by simp)).trans (by assumption) | exact (cell_far _ _ _ _ (by dsimp only; omega)).trans ((cell_far _ _ _ _ (by dsimp only; omega)).trans (by assumption)) | simp (disch := omega) [go_sem, *, List.getElem?_cons_zero, List.getElem?_cons_succ])
  have gr40_2 : r40.cell? ⟨r1.heap.size, 2, none⟩ = some (.int .i64 (val e f * pw (min 28 (nrc (val a b))))) := (hcr40 _ _ (by (try simp only [World.size_alloc, World.size_setCell]); omega)).trans (by with_reducible first | assumption | exact (World.cell?_alloc_lt _ _ _ (by omega)).trans (by assumption) | exact World.cell?_setCell_same _ _ _ (by assumption) | exact (World.cell?_setCell_other _ _ _ _ (by simp)).trans (by assumption) | exact (cell_far _ _ _ _ (by dsimp only; omega)).trans ((cell_far _ _ _ _ (by dsimp only; omega)).trans (by assumption)) | simp (disch := omega) [go_sem, *, List.getElem?_cons_zero, List.getElem?_cons_succ])
  go_wp2_with fail
  rw [rounds_succ]
  go_wp2_with fail
  refine (vquot_any (val c d * pw (min 28 (nrc (val a b))) * 134217728) (isq (val a b * pw (min 28 (nrc (val a b))) * (val a b * pw (min 28 (nrc (val a b)))) + val c d * pw (min 28 (nrc (val a b))) * (val c d * pw (min 28 (nrc (val a b)))) + val e f * pw (min 28 (nrc (val a b))) * (val e f * pw (min 28 (nrc (val a b)))))) (by omega) (by omega) (by omega) (by omega) _).mono ?_
  rintro _ r31 ⟨rfl, hbr31⟩
  obtain ⟨hcr31, hfr31⟩ := bcell hbr31
  have hzr31 := hbr31.size
  try simp only [World.size_alloc, World.size_setCell, World.size_drew] at hzr31
  have hlr31w0 : w.heap.size < r31.heap.size := by omega
  have hlr31w1 : w.heap.size + 1 < r31.heap.size := by omega
  have hlr31r10 : r1.heap.size < r31.heap.size := by omega
  have hlr31r220 : r22.heap.size < r31.heap.size := by omega
  have gr31_0 : r31.cell? ⟨r1.heap.size, 0, none⟩ = some (.int .i64 (val a b * pw (min 28 (nrc (val a b))))) := (hcr31 _ _ (by (try simp only [World.size_alloc, World.size_setCell]); omega)).trans (by with_reducible first | assumption | exact (World.cell?_alloc_lt _ _ _ (by omega)).trans (by assumption) | exact World.cell?_setCell_same _ _ _ (by assumption) | exact (World.cell?_setCell_other _ _ _ _ (by simp)).trans (by assumption) | exact (cell_far _ _ _ _ (by dsimp only; omega)).trans ((cell_far _ _ _ _ (by dsimp only; omega)).trans (by assumption)) | simp (disch := omega) [go_sem, *, List.getElem?_cons_zero, List.getElem?_cons_succ])
  have gr31_1 : r31.cell? ⟨r1.heap.size, 1, none⟩ = some (.int .i64 (val c d * pw (min 28 (nrc (val a b))))) := (hcr31 _ _ (by (try simp only [World.size_alloc, World.size_setCell]); omega)).trans (by with_reducible first | assumption | exact (World.cell?_alloc_lt _ _ _ (by omega)).trans (by assumption) | exact World.cell?_setCell_same _ _ _ (by assumption) | exact (World.cell?_setCell_other _ _ _ _ (by simp)).trans (by assumption) | exact (cell_far _ _ _ _ (by dsimp only; omega)).trans ((cell_far _ _ _ _ (by dsimp only; omega)).trans (by assumption)) | simp (disch := omega) [go_sem, *, List.getElem?_cons_zero, List.getElem?_cons_succ])
  have gr31_2 : r31.cell? ⟨r1.heap.size, 2, none⟩ = some (.int .i64 (val e f * pw (min 28 (nrc (val a b))))) := (hcr31 _ _ (by (try simp only [World.size_alloc, World.size_setCell]); omega)).trans (by with_reducible first | assumption | exact (World.cell?_alloc_lt _ _ _ (by omega)).trans (by assumption) | exact World.cell?_setCell_same _ _ _ (by assumption) | exact (World.cell?_setCell_other _ _ _ _ (by simp)).trans (by assumption) | exact (cell_far _ _ _ _ (by dsimp only; omega)).trans ((cell_far _ _ _ _ (by dsimp only; omega)).trans (by assumption)) | simp (disch := omega) [go_sem, *, List.getElem?_cons_zero, List.getElem?_cons_succ])
  go_wp2_with fail
  refine (clamp_any (rnd (val c d * pw (min 28 (nrc (val a b))) * 134217728) (isq (val a b * pw (min 28 (nrc (val a b))) * (val a b * pw (min 28 (nrc (val a b)))) + val c d * pw (min 28 (nrc (val a b))) * (val c d * pw (min 28 (nrc (val a b)))) + val e f * pw (min 28 (nrc (val a b))) * (val e f * pw (min 28 (nrc (val a b))))))) _).mono ?_
  rintro _ r41 ⟨rfl, hbr41⟩
  obtain ⟨hcr41, hfr41⟩ := bcell hbr41
  have hzr41 := hbr41.size
  try simp only [World.size_alloc, World.size_setCell, World.size_drew] at hzr41
  have hlr41w0 : w.heap.size < r41.heap.size := by omega
  have hlr41w1 : w.heap.size + 1 < r41.heap.size := by omega
  have hlr41r10 : r1.heap.size < r41.heap.size := by omega
  have hlr41r220 : r22.heap.size < r41.heap.size := by omega
  have gr41_0 : r41.cell? ⟨r1.heap.size, 0, none⟩ = some (.int .i64 (val a b * pw (min 28 (nrc (val a b))))) := (hcr41 _ _ (by (try simp only [World.size_alloc, World.size_setCell]); omega)).trans (by with_reducible first | assumption | exact (World.cell?_alloc_lt _ _ _ (by omega)).trans (by assumption) | exact World.cell?_setCell_same _ _ _ (by assumption) | exact (World.cell?_setCell_other _ _ _ _ (by simp)).trans (by assumption) | exact (cell_far _ _ _ _ (by dsimp only; omega)).trans ((cell_far _ _ _ _ (by dsimp only; omega)).trans (by assumption)) | simp (disch := omega) [go_sem, *, List.getElem?_cons_zero, List.getElem?_cons_succ])
  have gr41_1 : r41.cell? ⟨r1.heap.size, 1, none⟩ = some (.int .i64 (val c d * pw (min 28 (nrc (val a b))))) := (hcr41 _ _ (by (try simp only [World.size_alloc, World.size_setCell]); omega)).trans (by with_reducible first | assumption | exact (World.cell?_alloc_lt _ _ _ (by omega)).trans (by assumption) | exact World.cell?_setCell_same _ _ _ (by assumption) | exact (World.cell?_setCell_other _ _ _ _ (by simp)).trans (by assumption) | exact (cell_far _ _ _ _ (by dsimp only; omega)).trans ((cell_far _ _ _ _ (by dsimp only; omega)).trans (by assumption)) | simp (disch := omega) [go_sem, *, List.getElem?_cons_zero, List.getElem?_cons_succ])
  have gr41_2 : r41.cell? ⟨r1.heap.size, 2, none⟩ = some (.int .i64 (val e f * pw (min 28 (nrc (val a b))))) := (hcr41 _ _ (by (try simp only [World.size_alloc, World.size_setCell]); omega)).trans (by with_reducible first | assumption | exact (World.cell?_alloc_lt _ _ _ (by omega)).trans (by assumption) | exact World.cell?_setCell_same _ _ _ (by assumption) | exact (World.cell?_setCell_other _ _ _ _ (by simp)).trans (by assumption) | exact (cell_far _ _ _ _ (by dsimp only; omega)).trans ((cell_far _ _ _ _ (by dsimp only; omega)).trans (by assumption)) | simp (disch := omega) [go_sem, *, List.getElem?_cons_zero, List.getElem?_cons_succ])
  go_wp2_with fail
  rw [rounds_succ]
  go_wp2_with fail
  refine (vquot_any (val e f * pw (min 28 (nrc (val a b))) * 134217728) (isq (val a b * pw (min 28 (nrc (val a b))) * (val a b * pw (min 28 (nrc (val a b)))) + val c d * pw (min 28 (nrc (val a b))) * (val c d * pw (min 28 (nrc (val a b)))) + val e f * pw (min 28 (nrc (val a b))) * (val e f * pw (min 28 (nrc (val a b)))))) (by omega) (by omega) (by omega) (by omega) _).mono ?_
  rintro _ r32 ⟨rfl, hbr32⟩
  obtain ⟨hcr32, hfr32⟩ := bcell hbr32
  have hzr32 := hbr32.size
  try simp only [World.size_alloc, World.size_setCell, World.size_drew] at hzr32
  have hlr32w0 : w.heap.size < r32.heap.size := by omega
  have hlr32w1 : w.heap.size + 1 < r32.heap.size := by omega
  have hlr32r10 : r1.heap.size < r32.heap.size := by omega
  have hlr32r220 : r22.heap.size < r32.heap.size := by omega
  have gr32_0 : r32.cell? ⟨r1.heap.size, 0, none⟩ = some (.int .i64 (val a b * pw (min 28 (nrc (val a b))))) := (hcr32 _ _ (by (try simp only [World.size_alloc, World.size_setCell]); omega)).trans (by with_reducible first | assumption | exact (World.cell?_alloc_lt _ _ _ (by omega)).trans (by assumption) | exact World.cell?_setCell_same _ _ _ (by assumption) | exact (World.cell?_setCell_other _ _ _ _ (by simp)).trans (by assumption) | exact (cell_far _ _ _ _ (by dsimp only; omega)).trans ((cell_far _ _ _ _ (by dsimp only; omega)).trans (by assumption)) | simp (disch := omega) [go_sem, *, List.getElem?_cons_zero, List.getElem?_cons_succ])
  have gr32_1 : r32.cell? ⟨r1.heap.size, 1, none⟩ = some (.int .i64 (val c d * pw (min 28 (nrc (val a b))))) := (hcr32 _ _ (by (try simp only [World.size_alloc, World.size_setCell]); omega)).trans (by with_reducible first | assumption | exact (World.cell?_alloc_lt _ _ _ (by omega)).trans (by assumption) | exact World.cell?_setCell_same _ _ _ (by assumption) | exact (World.cell?_setCell_other _ _ _ _ (by simp)).trans (by assumption) | exact (cell_far _ _ _ _ (by dsimp only; omega)).trans ((cell_far _ _ _ _ (by dsimp only; omega)).trans (by assumption)) | simp (disch := omega) [go_sem, *, List.getElem?_cons_zero, List.getElem?_cons_succ])
  have gr32_2 : r32.cell? ⟨r1.heap.size, 2, none⟩ = some (.int .i64 (val e f * pw (min 28 (nrc (val a b))))) := (hcr32 _ _ (by (try simp only [World.size_alloc, World.size_setCell]); omega)).trans (by with_reducible first | assumption | exact (World.cell?_alloc_lt _ _ _ (by omega)).trans (by assumption) | exact World.cell?_setCell_same _ _ _ (by assumption) | exact (World.cell?_setCell_other _ _ _ _ (by simp)).trans (by assumption) | exact (cell_far _ _ _ _ (by dsimp only; omega)).trans ((cell_far _ _ _ _ (by dsimp only; omega)).trans (by assumption)) | simp (disch := omega) [go_sem, *, List.getElem?_cons_zero, List.getElem?_cons_succ])
  go_wp2_with fail
  refine (clamp_any (rnd (val e f * pw (min 28 (nrc (val a b))) * 134217728) (isq (val a b * pw (min 28 (nrc (val a b))) * (val a b * pw (min 28 (nrc (val a b)))) + val c d * pw (min 28 (nrc (val a b))) * (val c d * pw (min 28 (nrc (val a b)))) + val e f * pw (min 28 (nrc (val a b))) * (val e f * pw (min 28 (nrc (val a b))))))) _).mono ?_
  rintro _ r42 ⟨rfl, hbr42⟩
  obtain ⟨hcr42, hfr42⟩ := bcell hbr42
  have hzr42 := hbr42.size
  try simp only [World.size_alloc, World.size_setCell, World.size_drew] at hzr42
  have hlr42w0 : w.heap.size < r42.heap.size := by omega
  have hlr42w1 : w.heap.size + 1 < r42.heap.size := by omega
  have hlr42r10 : r1.heap.size < r42.heap.size := by omega
  have hlr42r220 : r22.heap.size < r42.heap.size := by omega
  have gr42_0 : r42.cell? ⟨r1.heap.size, 0, none⟩ = some (.int .i64 (val a b * pw (min 28 (nrc (val a b))))) := (hcr42 _ _ (by (try simp only [World.size_alloc, World.size_setCell]); omega)).trans (by with_reducible first | assumption | exact (World.cell?_alloc_lt _ _ _ (by omega)).trans (by assumption) | exact World.cell?_setCell_same _ _ _ (by assumption) | exact (World.cell?_setCell_other _ _ _ _ (by simp)).trans (by assumption) | exact (cell_far _ _ _ _ (by dsimp only; omega)).trans ((cell_far _ _ _ _ (by dsimp only; omega)).trans (by assumption)) | simp (disch := omega) [go_sem, *, List.getElem?_cons_zero, List.getElem?_cons_succ])
  have gr42_1 : r42.cell? ⟨r1.heap.size, 1, none⟩ = some (.int .i64 (val c d * pw (min 28 (nrc (val a b))))) := (hcr42 _ _ (by (try simp only [World.size_alloc, World.size_setCell]); omega)).trans (by with_reducible first | assumption | exact (World.cell?_alloc_lt _ _ _ (by omega)).trans (by assumption) | exact World.cell?_setCell_same _ _ _ (by assumption) | exact (World.cell?_setCell_other _ _ _ _ (by simp)).trans (by assumption) | exact (cell_far _ _ _ _ (by dsimp only; omega)).trans ((cell_far _ _ _ _ (by dsimp only; omega)).trans (by assumption)) | simp (disch := omega) [go_sem, *, List.getElem?_cons_zero, List.getElem?_cons_succ])
  have gr42_2 : r42.cell? ⟨r1.heap.size, 2, none⟩ = some (.int .i64 (val e f * pw (min 28 (nrc (val a b))))) := (hcr42 _ _ (by (try simp only [World.size_alloc, World.size_setCell]); omega)).trans (by with_reducible first | assumption | exact (World.cell?_alloc_lt _ _ _ (by omega)).trans (by assumption) | exact World.cell?_setCell_same _ _ _ (by assumption) | exact (World.cell?_setCell_other _ _ _ _ (by simp)).trans (by assumption) | exact (cell_far _ _ _ _ (by dsimp only; omega)).trans ((cell_far _ _ _ _ (by dsimp only; omega)).trans (by assumption)) | simp (disch := omega) [go_sem, *, List.getElem?_cons_zero, List.getElem?_cons_succ])
  go_wp2_with fail
  rw [rounds_succ]
  go_wp2
  refine bodyPost_ret (v := (.tuple #[(.agg #[.int .u16 (hi (sat (rnd (val a b * pw (min 28 (nrc (val a b))) * 134217728) (isq (val a b * pw (min 28 (nrc (val a b))) * (val a b * pw (min 28 (nrc (val a b)))) + val c d * pw (min 28 (nrc (val a b))) * (val c d * pw (min 28 (nrc (val a b)))) + val e f * pw (min 28 (nrc (val a b))) * (val e f * pw (min 28 (nrc (val a b))))))) 268435455)), .int .u16 (lo (sat (rnd (val a b * pw (min 28 (nrc (val a b))) * 134217728) (isq (val a b * pw (min 28 (nrc (val a b))) * (val a b * pw (min 28 (nrc (val a b)))) + val c d * pw (min 28 (nrc (val a b))) * (val c d * pw (min 28 (nrc (val a b)))) + val e f * pw (min 28 (nrc (val a b))) * (val e f * pw (min 28 (nrc (val a b))))))) 268435455)), .int .u16 (hi (sat (rnd (val c d * pw (min 28 (nrc (val a b))) * 134217728) (isq (val a b * pw (min 28 (nrc (val a b))) * (val a b * pw (min 28 (nrc (val a b)))) + val c d * pw (min 28 (nrc (val a b))) * (val c d * pw (min 28 (nrc (val a b)))) + val e f * pw (min 28 (nrc (val a b))) * (val e f * pw (min 28 (nrc (val a b))))))) 268435455)), .int .u16 (lo (sat (rnd (val c d * pw (min 28 (nrc (val a b))) * 134217728) (isq (val a b * pw (min 28 (nrc (val a b))) * (val a b * pw (min 28 (nrc (val a b)))) + val c d * pw (min 28 (nrc (val a b))) * (val c d * pw (min 28 (nrc (val a b)))) + val e f * pw (min 28 (nrc (val a b))) * (val e f * pw (min 28 (nrc (val a b))))))) 268435455)), .int .u16 (hi (sat (rnd (val e f * pw (min 28 (nrc (val a b))) * 134217728) (isq (val a b * pw (min 28 (nrc (val a b))) * (val a b * pw (min 28 (nrc (val a b)))) + val c d * pw (min 28 (nrc (val a b))) * (val c d * pw (min 28 (nrc (val a b)))) + val e f * pw (min 28 (nrc (val a b))) * (val e f * pw (min 28 (nrc (val a b))))))) 268435455)), .int .u16 (lo (sat (rnd (val e f * pw (min 28 (nrc (val a b))) * 134217728) (isq (val a b * pw (min 28 (nrc (val a b))) * (val a b * pw (min 28 (nrc (val a b)))) + val c d * pw (min 28 (nrc (val a b))) * (val c d * pw (min 28 (nrc (val a b)))) + val e f * pw (min 28 (nrc (val a b))) * (val e f * pw (min 28 (nrc (val a b))))))) 268435455))]), .bool false])) (by simp [results, Tryd.results40, go_sem, *]) rfl ⟨rfl, ?_⟩; exact (by repeat' (first | (with_reducible exact Below.refl _ _) | (with_reducible refine bl_set ?_ _ ?_) | (with_reducible refine bl_alloc ?_ _) | (with_reducible refine bl_drew ?_) | (with_reducible refine bl_via (by with_reducible assumption) ?_) | (with_reducible assumption) | omega | (simp only []; omega) | (simp; omega)))
end Go.Proofs.YtbbhppjamighdaaDoor
